import Derived.Test.YtiajdbllccmokaaGreatDoorXbb
import Derived.Test.YtiajdbllccmokaaGreatDoorXba
import Derived.Test.YtiajdbllccmokaaGreatDoorXm
namespace Go.Proofs.YtiajdbllccmokaaGreatDoor
open Go.ChangeShapes Go.WideShapes Go.ChangeAt Go.RowKit Go.Deep Go.Proofs.Tryz
set_option linter.unusedVariables false
set_option linter.unusedSimpArgs false
set_option maxRecDepth 100000
set_option maxHeartbeats 16000000
theorem akK {w:World} {B:Nat} {ops:Array Oper} {rest:List Oper} {o:Oper} {a:Act} {Q:Exit->Act->World->Prop} (fx:o.guard=none) (s x:Operand)
  (ho:aO o s x 27) (v:Value) (n:Nat) (xs:List Int) (hs:a.eval s=v)
  (bc:w.ownsRow B 3 1 v n (aG xs)) (hB:B<=w.heap.size) (y:Int) (e:TypeId) (b:Nat) (hx:a.eval x=.slice (some ⟨b,0,none⟩) 1 1) (qc:b=w.heap.size) (hn:n<=1800000000000)
  (h:∀A' c' w',w'.ownsRow B 3 1 (.slice A' (n+1) c') (n+1) (aG (xs++[y]))->w.grownBy w' v.ownBlock->wpList prog ops Q rest (a.put o.dst (.slice A' (n+1) c')) w'):
  wpList prog ops Q (o::rest) a (w.alloc (cO #[iI y] e)):=by
 subst qc;have mH:=im hB;refine my (w0:=CH w B) fx s x ho v n xs hs dR ((nc hB).alloc _) _ 1 1 [y] hx (eh w _ e 1 _ iV iV) aa ?_;intro v' w' h1 h2 h3 h4;rw [mH] at h1;obtain ⟨A',c',rfl,_⟩:=au h1
 exact h A' c' w' h1 (yP (((xZ w).alloc _).gr _) h3)
theorem JO (k:Nat) (xs:List Int):aG (xs.take k)=(aG xs).take (k*1):=by
 induction xs generalizing k with
 |nil=>simp [aG]
 |cons y xs ih=>
  cases k with
  |zero=>simp [aG]
  |succ k=>
   have:=ih k;simp only [aG,yT] at this |-;simp only [uF,fK,this,xF,nY,lN]
def XS (w:World) (g bf:Nat) (e:Ending) (w':World):Prop:=
 ∃(A:OA) (len cap:Nat) (xs:List Int),e=.returned (.slice A len cap)/\len<=bf/\w'.ownsRow w.heap.size 3 1 (.slice A len cap) len (aG xs)/\dY w' g/\w.grownBy w' (some g)
theorem Pe (g:Nat) (w:World) (h:dY w g):
  Calls prog 30 #[.pointer (some ⟨g,0,none⟩)] w (XS w g 5):=by
 have df:=h.lt;go_enter func30,ntmps30;go_wp2_with fail;refine (aU g 4 _ h aa).mono ?_;rintro e w2 ⟨x,rfl,⟨cH,aS,_⟩,CJ,vv⟩;obtain ⟨n,rfl⟩:=lD cH;have bH:n<4:=dS
 clear aS cH;go_wp2_with fail;obtain ⟨n1,e1,mS,vG⟩:∃n1:Nat,(1:Int)+(n:Int)=(n1:Int)/\1<=n1/\n1<=4:=⟨n+1,aa,aa,aa⟩;rw [e1];clear e1;refine (qm g n1 ⟨aa,aa⟩ _ CJ).mono ?_;rintro e w3 ⟨b,c,rfl,hb,hI3,Fw,FQ⟩;have Bl:=bY vv FQ;have Tj:w.heap.size<=b:=oM (xS vv)
 clear FQ CJ;go_wp2_with fail;refine (aU g 8 _ Fw aa).mono ?_;rintro e w4 ⟨x,rfl,⟨cH,aS,_⟩,sj,xn⟩;have bH:=aS aa;clear aS;have hI4:=hI3.grown xn (fun k hk=>aw);have Bm:=bY Bl xn;clear Bl xn Fw hI3 vv
 by_cases e0:x=0
 ·subst e0;go_wp2_with fail;refine (aU g n1 _ sj aa).mono ?_;rintro e w5 ⟨x,rfl,⟨cH,aS,_⟩,jV,gx⟩;obtain ⟨j,rfl⟩:=lD cH;have hj:j<n1:=dS
  clear aS cH;go_wp2_with fail;refine (dW g _ 5 _ [0,1,4, -1,9223372036854775807] _ (jV.alloc _) (fN w5 _ _ _ 5 1 _ rfl rfl rfl) (by intro b o e;injection e with e;injection e with e1;have:=jV.lt;omega) aa).mono ?_;rintro e w6 ⟨z,rfl,hz,xp,ln⟩;have hzI:ob z:=by unfold ob;simp at hz;omega
  clear hz;have hI6:=((hI4.grown gx (fun k hk=>aw)).grown (((xZ w5).alloc (cO #[iI 0,iI 1,iI 4,iI (-1),iI 9223372036854775807] 3)).gr none) ag).grown ln (fun k hk=>aw);have Lf:=bY (gZ (bY Bm gx) _) ln;have hI7:=hI6.ba j z hzI;have hC7:=xp.ba (p:=(aA b j)) aj (iI z);have hg7:=fE Lf (p:=(aA b j)) Tj (iI z);have fj:=hI6.frozen j;obtain ⟨u,hu⟩:=hI6.cell hj;obtain ⟨xs,_,ho⟩:=hI7.own Tj;have HO:=hY ho;clear ho gx ln sj jV hzI hI7;have HC:=hY hC7;have HG:=hY hg7;clear hC7 hg7;go_wp2;go_ret
  exact ⟨_,_,_,xs,rfl,aa,HO.u,HC.u,HG.u⟩
 by_cases e1:x=1
 ·subst e1;go_wp2_with fail;refine (aU g n1 _ sj aa).mono ?_;rintro e w5 ⟨x,rfl,⟨cH,aS,_⟩,jV,gx⟩;obtain ⟨j,rfl⟩:=lD cH;have hj:j<n1:=dS
  clear aS cH;obtain ⟨xs,_,ho⟩:=(hI4.grown gx (fun k hk=>aw)).own Tj;have hlc:=Xv ho;have hjc:j<=c:=aa
  have ep:=EC ho (nZ hj);rw [<-JO] at ep;have HO:=hY ep;have HG:=hY (bY Bm gx);clear ho ep gx sj;go_wp2;go_ret
  exact ⟨_,_,_,xs.take j,rfl,aa,HO.u,jV,HG.u⟩
 by_cases e2:x=2
 ·subst e2;obtain ⟨xs,_,ho⟩:=hI4.own Tj;have pq:=xS Bm;have HO:=hY ho;clear ho;go_wp2_with (at_builtin;refine akK (B:=w.heap.size) rfl _ _ rfl _ n1 xs rfl HO.u pq (n1:Int) _ _ rfl rfl aa ?_;intro A6 c6 w6 px Lf)
  go_ret;have hgb:∀k,(Value.slice (some ⟨b,0,none⟩) n1 c).ownBlock=some k->k=b:=fun k hk=>by injection hk with hk;exact hk.symm
  exact ⟨_,_,_,_,rfl,aa,px,sj.grown Lf (fun k hk=>oM (hgb k hk)),CI Bm Lf (fun k hk=>oM (hgb k hk))⟩
 ·obtain ⟨xs,_,ho⟩:=hI4.own Tj;go_wp2;go_ret
  exact ⟨_,_,_,xs,rfl,aa,ho,sj,Bm⟩
theorem qL:(42:Nat)≠54:=ae
theorem Mu:(95:Nat)≠54:=ae
theorem pR {w:World} {s T:Nat} {cs:Array Value} {B e size n:Nat} {v:Value} {xs:List Value} (h:ay w s T cs) (ho:w.ownsRow B e size v n xs) (hne:T≠e):∀k,v.ownBlock=some k->s≠k:=by
 intro k hk e1;subst e1;rcases ho.2 with ⟨rfl,_⟩|⟨b',iJ,Uv,rfl,_,xG,_⟩
 ·cases hk
 ·injection hk with hk;subst hk;unfold ay at h;rw [h] at xG;injection xG with xG;injection xG with _ xG
  exact hne xG
section
variable {w0 w w':World} {g q:Nat} {N N':Int} {A A':OA} {l c l' c':Nat} {es Uc:List Ed} {L L':OA} {len cap iJ:Nat} {gs:List Gt}
theorem DG.fresh (h:DG w0 w g q N A l c es) (hg:w.grownBy w' (some g)) (hC:dY w' g) (hs:g<q) (hl:g<w0.heap.size) (hq:w0.heap.size<q) (ho:w'.ownsRow w.heap.size 95 2 (.slice A' l' c') l' (bD Uc)) (qz:∀e∈Uc,e.ok):
  DG w0 ((w'.setCell (aA q 0) (iI N')).setCell (aA q 1) (.slice A' l' c')) g q N' A' l' c' Uc:=by
 have bh:=h.2.1.lt;have Ss:=h.1.lt;obtain ⟨h1,h2,h3,h4,h5,h6,h7⟩:=h.grown hg hC hs hl;refine ⟨(h1.bX (p:=(aA q 0)) aj _).bX (p:=(aA q 1)) aj _,h2.nP _ _,aC (bk (bk ho (p:=(aA q 0)) bh _) (p:=(aA q 1)) bh _) Ss,?_,h5.nP hs _ _,xW h6 (nZ hq) _ _,qz⟩;intro k hk;have:=(ho.lt k hk).1;omega
theorem DG.apI {B n:Nat} {v:Value} {xs:List Value} (h:DG w0 w g q N A l c es) (ho:w.ownsRow B 54 4 v n xs) (hB:w0.heap.size<B) (hl:g<w0.heap.size) (hg:w.grownBy w' v.ownBlock):DG w0 w' g q N A l c es:=by
 obtain ⟨h1,h2,h3,h4,h5,h6,h7⟩:=h;have rr:∀k,v.ownBlock=some k->B<=k:=fun k hk=>(ho.lt k hk).1
 exact ⟨h1.grown hg (pR h1 ho qL),h2.grown hg (pR h2 ho qL),jA h3 ho Mu hg,h4,h5.grown hg (fun k hk=>oM (rr k hk)),CI h6 hg (fun k hk=>oM (rr k hk)),h7⟩
def LG (w0 w:World) (g q:Nat) (N:Int) (A:OA) (l c:Nat) (es:List Ed) (L:OA) (len cap:Nat) (gs:List Gt):Prop:=
 DG w0 w g q N A l c es/\w.ownsRow (w0.heap.size+1) 54 4 (.slice L len cap) len (ak gs)
theorem LG.cur (h:LG w0 w g q N A l c es L len cap gs):dY w g:=h.1.2.2.2.2.1
theorem LG.grown (h:LG w0 w g q N A l c es L len cap gs) (hg:w.grownBy w' (some g)) (hC:dY w' g) (hs:g<q) (hl:g<w0.heap.size):LG w0 w' g q N A l c es L len cap gs:=
 ⟨h.1.grown hg hC hs hl,cT h.2 hg (fun k hk=>aw)⟩
theorem LG.fresh (h:LG w0 w g q N A l c es L len cap gs) (hg:w.grownBy w' (some g)) (hC:dY w' g) (hs:g<q) (hl:g<w0.heap.size) (hq:w0.heap.size<q) (ho:w'.ownsRow w.heap.size 95 2 (.slice A' l' c') l' (bD Uc)) (qz:∀e∈Uc,e.ok):
  LG w0 ((w'.setCell (aA q 0) (iI N')).setCell (aA q 1) (.slice A' l' c')) g q N' A' l' c' Uc L len cap gs:=by
 refine ⟨h.1.fresh hg hC hs hl hq ho qz,?_⟩;have h2:=cT h.2 hg (fun k hk=>aw);have hb:=h.1.2.1.grown hg (fun k hk=>aw);have ha:=pR hb h2 qL
 have k1:=h2.kept (row:=some q) (cB (jN w' (some q)) 0 (iI N')) (by
  cases hv:(Value.slice L len cap).ownBlock with
  |none=>exact .inl rfl
  |some k=>exact .inr (fun e=>ha k hv (by injection e with e;exact e.symm)))
 exact k1.kept (row:=some q) (cB (jN _ (some q)) 1 _) (by
  cases hv:(Value.slice L len cap).ownBlock with
  |none=>exact .inl rfl
  |some k=>exact .inr (fun e=>ha k hv (by injection e with e;exact e.symm)))
theorem LG.app {y:Gt} (h:LG w0 w g q N A l c es L len cap gs) (hl:g<w0.heap.size) (ho:w'.ownsRow (w0.heap.size+1) 54 4 (.slice L' (len+1) iJ) (len+1) (ak (gs++[y]))) (hg:w.grownBy w' (Value.slice L len cap).ownBlock):LG w0 w' g q N A l c es L' (len+1) iJ (gs++[y]):=
 ⟨h.1.apI h.2 (uH _) hl hg,ho⟩
theorem LG.drew (h:LG w0 w g q N A l c es L len cap gs):LG w0 w.drew g q N A l c es L len cap gs:=⟨h.1.drew,aq h.2 (xZ w).drew⟩
theorem LG.fin (h:LG w0 w g q N A l c es L len cap gs) (hl:g<w0.heap.size):
  (((w.setCell (aA w0.heap.size 0) (iI N)).setCell (aA w0.heap.size 1) (.slice A l c)).cell? (aA w0.z 0)=some (iI N)/\((w.setCell (aA w0.heap.size 0) (iI N)).setCell (aA w0.heap.size 1) (.slice A l c)).cell? (aA w0.z 1)=some (.slice A l c))/\
  ((w.setCell (aA w0.heap.size 0) (iI N)).setCell (aA w0.heap.size 1) (.slice A l c)).ownsRow w0.heap.size 54 4 (.slice L len cap) len (ak gs)/\
  ((w.setCell (aA w0.heap.size 0) (iI N)).setCell (aA w0.heap.size 1) (.slice A l c)).ownsRow w0.heap.size 95 2 (.slice A l c) l (bD es)/\dY ((w.setCell (aA w0.heap.size 0) (iI N)).setCell (aA w0.heap.size 1) (.slice A l c)) g/\w0.grownBy ((w.setCell (aA w0.heap.size 0) (iI N)).setCell (aA w0.heap.size 1) (.slice A l c)) (some g)/\∀e∈es,e.ok:=by
 have hb:=h.1.1.nP (iI N) (.slice A l c);obtain ⟨d1,d2,d3,d4⟩:=h.1.done hl
 exact ⟨⟨hb.cell 0,hb.cell 1⟩,aC (bk (bk h.2 (p:=(aA w0.heap.size 0)) ag _) (p:=(aA w0.heap.size 1)) ag _) aa,d1,d2,d3,d4⟩
theorem LG.awD (h:LG w0 w g q N A l c es L len cap gs) (hl:g<w0.heap.size):
  (((w.setCell (aA w0.heap.size 0) (iI N)).setCell (aA w0.heap.size 1) (.slice A l c)).drew.cell? (aA w0.z 0)=some (iI N)/\((w.setCell (aA w0.heap.size 0) (iI N)).setCell (aA w0.heap.size 1) (.slice A l c)).drew.cell? (aA w0.z 1)=some (.slice A l c))/\
  ((w.setCell (aA w0.heap.size 0) (iI N)).setCell (aA w0.heap.size 1) (.slice A l c)).drew.ownsRow w0.heap.size 54 4 (.slice L len cap) len (ak gs)/\
  ((w.setCell (aA w0.heap.size 0) (iI N)).setCell (aA w0.heap.size 1) (.slice A l c)).drew.ownsRow w0.heap.size 95 2 (.slice A l c) l (bD es)/\dY ((w.setCell (aA w0.heap.size 0) (iI N)).setCell (aA w0.heap.size 1) (.slice A l c)).drew g/\w0.grownBy ((w.setCell (aA w0.heap.size 0) (iI N)).setCell (aA w0.heap.size 1) (.slice A l c)).drew (some g)/\∀e∈es,e.ok:=by
 obtain ⟨⟨q0,q1⟩,e1,e2,e3,e4,e5⟩:=h.fin hl
 exact ⟨⟨q0,q1⟩,aq e1 (xZ _).drew,aq e2 (xZ _).drew,e3.ext (xZ _).drew,vQ e4 (xZ _).drew,e5⟩
end
theorem ahQ (a b:Value) (w:World):(Instr.field 50 (.agg #[a,b]) 1).run prog w=.ok b w:=af
def XT (w:World) (g bf mh:Nat) (e:Ending) (w':World):Prop:=
 ∃(L:OA) (len cap:Nat) (gs:List Gt) (N:Int) (A:OA) (l c:Nat) (es:List Ed),e=.returned (.tuple #[.slice L len cap,.agg #[iI N,.slice A l c]])/\(-1<=N/\N<=5)/\(len<=bf/\mH gs<=mh)/\l<=8/\w'.ownsRow w.heap.size 54 4 (.slice L len cap) len (ak gs)/\w'.ownsRow w.heap.size 95 2 (.slice A l c) l (bD es)/\dY w' g/\w.grownBy w' (some g)/\∀e∈es,e.ok
theorem XT.mk {w w':World} {g bf mh:Nat} (L:OA) (len cap:Nat) (gs:List Gt) (N:Int) (A:OA) (l c:Nat) (es:List Ed) (h1: -1<=N/\N<=5) (h2:len<=bf/\mH gs<=mh) (h3:l<=8) (h4:w'.ownsRow w.heap.size 54 4 (.slice L len cap) len (ak gs)/\w'.ownsRow w.heap.size 95 2 (.slice A l c) l (bD es)/\dY w' g/\w.grownBy w' (some g)/\∀e∈es,e.ok):XT w g bf mh (.returned (.tuple #[.slice L len cap,.agg #[iI N,.slice A l c]])) w':=
 ⟨L,len,cap,gs,N,A,l,c,es,rfl,h1,h2,h3,h4⟩
theorem adp:(42:Nat)≠3:=ae
theorem fS:(42:Nat)≠95:=ae
theorem afQ:(73:Nat)≠54:=ae
theorem EL:(73:Nat)≠95:=ae
theorem ahR:(73:Nat)≠3:=ae
theorem pT {w:World} {r T i:Nat} {cs:Array Value} {B e size n:Nat} {v:Value} {xs:List Value} (ho:w.ownsRow B e size v n xs) (h:ay w r T cs) (hne:T≠e) (u:Value):(w.setCell (aA r i) u).ownsRow B e size v n xs:=by
 refine ho.kept (row:=some r) (cB (jN w (some r)) i u) ?_
 cases hv:v.ownBlock with
 |none=>exact .inl rfl
 |some k=>exact .inr (fun e1=>pR h ho hne k hv oL)
theorem eI {w:World} {r T:Nat} {z0 z1:Value} {B e size n:Nat} {v:Value} {xs:List Value} (ho:w.ownsRow B e size v n xs) (h:ay w r T #[z0,z1]) (hne:T≠e) (a b:Value):((w.setCell (aA r 0) a).setCell (aA r 1) b).ownsRow B e size v n xs:=
 pT (pT ho h hne a) (h.ba 0 a) hne b
theorem BN {w w':World} {g:Nat} {B e size n:Nat} {v:Value} {xs:List Value} (ho:w.ownsRow B e size v n xs) (hC:dY w g) (hne:(73:Nat)≠e) (hg:w.grownBy w' (some g)):w'.ownsRow B e size v n xs:=by
 obtain ⟨A,m,c,i,hh,bs,hB,_⟩:=hC;refine ho.kept hg ?_
 cases hv:v.ownBlock with
 |none=>exact .inl rfl
 |some k=>exact .inr (fun e1=>pR hB ho hne k hv oL)
def TG (w W:World) (r q:Nat) (N:Int) (A:OA) (l c:Nat) (es:List Ed):Prop:=
 Ext w W/\ay W r 42 jC/\ay W q 42 #[iI N,.slice A l c]/\W.ownsRow w.heap.size 95 2 (.slice A l c) l (bD es)/\w.heap.size<=r/\q≠r
section
variable {w W W':World} {r q g:Nat} {N:Int} {A:OA} {l c:Nat} {es:List Ed}
theorem TG.ext (h:TG w W r q N A l c es) (hx:Ext W W'):TG w W' r q N A l c es:=by
 obtain ⟨h1,h2,h3,h4,h5,h6⟩:=h
 exact ⟨h1.trans hx,h2.ext hx,h3.ext hx,aq h4 hx,h5,h6⟩
theorem TG.grown (h:TG w W r q N A l c es) (hC:dY W g) (hg:W.grownBy W' (some g)) (hw:w.heap.size<=g) (hr:r≠g) (hq:q≠g):TG w W' r q N A l c es:=by
 obtain ⟨h1,h2,h3,h4,h5,h6⟩:=h
 exact ⟨h1.grown hg (fun k hk=>aw),h2.grown hg (fun k hk=>aw),h3.grown hg (fun k hk=>aw),BN h4 hC EL hg,h5,h6⟩
theorem TG.gr (h:TG w W r q N A l c es):eR W W.heap.size (.agg #[iI N,.slice A l c]) ⟨N,es⟩/\es.length=l:=by
 have hr:=Rd.own h.2.2.2.1;have hl:=Rd.len (f:=Ed.cells) (fun _=>eB) aa hr;subst hl
 exact ⟨⟨A,c,rfl,hr⟩,rfl⟩
theorem TG.fin (h:TG w W r q N A l c es):
  (((W.setCell (aA r 0) (iI N)).setCell (aA r 1) (.slice A l c)).drew.cell? (aA r 0)=some (iI N)/\((W.setCell (aA r 0) (iI N)).setCell (aA r 1) (.slice A l c)).drew.cell? (aA r 1)=some (.slice A l c))/\
  ((W.setCell (aA r 0) (iI N)).setCell (aA r 1) (.slice A l c)).drew.ownsRow w.heap.size 95 2 (.slice A l c) l (bD es)/\Ext w ((W.setCell (aA r 0) (iI N)).setCell (aA r 1) (.slice A l c)).drew:=by
 obtain ⟨h1,h2,h3,h4,h5,h6⟩:=h;have hb:=h2.nP (iI N) (.slice A l c)
 exact ⟨⟨hb.cell 0,hb.cell 1⟩,aq (eI h4 h2 fS _ _) (xZ _).drew,((h1.setCell h5 _).setCell h5 _).drew⟩
theorem EM {P:Prop} (h:P:=by
 obtain ⟨h1,h2,h3,h4,h5,h6⟩:=h;have:=(h3.bX (p:=(aA r 0)) h6 (iI N)).bX (p:=(aA r 1)) h6 (.slice A l c)
 exact ⟨this.cell 0,this.cell 1⟩):P:=h
theorem TG.keep (h:TG w W r q N A l c es):((W.setCell (aA r 0) (iI N)).setCell (aA r 1) (.slice A l c)).drew.cell? (aA q 0)=some (iI N)/\((W.setCell (aA r 0) (iI N)).setCell (aA r 1) (.slice A l c)).drew.cell? (aA q 1)=some (.slice A l c):=by
 exact EM
theorem TG.rows (h:TG w W r q N A l c es) {B e size n:Nat} {v:Value} {xs:List Value} (ho:W.ownsRow B e size v n xs) (hne:(42:Nat)≠e):((W.setCell (aA r 0) (iI N)).setCell (aA r 1) (.slice A l c)).drew.ownsRow B e size v n xs:=
 aq (eI ho h.2.1 hne _ _) (xZ _).drew
theorem TG.awE (h:TG w W r q N A l c es):
  (((W.setCell (aA r 0) (iI N)).setCell (aA r 1) (.slice A l c)).cell? (aA r 0)=some (iI N)/\((W.setCell (aA r 0) (iI N)).setCell (aA r 1) (.slice A l c)).cell? (aA r 1)=some (.slice A l c))/\
  ((W.setCell (aA r 0) (iI N)).setCell (aA r 1) (.slice A l c)).ownsRow w.heap.size 95 2 (.slice A l c) l (bD es)/\Ext w ((W.setCell (aA r 0) (iI N)).setCell (aA r 1) (.slice A l c)):=by
 obtain ⟨h1,h2,h3,h4,h5,h6⟩:=h;have hb:=h2.nP (iI N) (.slice A l c)
 exact ⟨⟨hb.cell 0,hb.cell 1⟩,eI h4 h2 fS _ _,(h1.setCell h5 _).setCell h5 _⟩
theorem TG.as9 (h:TG w W r q N A l c es):((W.setCell (aA r 0) (iI N)).setCell (aA r 1) (.slice A l c)).cell? (aA q 0)=some (iI N)/\((W.setCell (aA r 0) (iI N)).setCell (aA r 1) (.slice A l c)).cell? (aA q 1)=some (.slice A l c):=by
 exact EM
theorem TG.ata (h:TG w W r q N A l c es) {B e size n:Nat} {v:Value} {xs:List Value} (ho:W.ownsRow B e size v n xs) (hne:(42:Nat)≠e):((W.setCell (aA r 0) (iI N)).setCell (aA r 1) (.slice A l c)).ownsRow B e size v n xs:=
 eI ho h.2.1 hne _ _
end
def XU (w:World) (bf mh:Nat) (e:Ending) (w':World):Prop:=
 ∃(L:OA) (len cap:Nat) (gs:List Gt) (N:Int) (A:OA) (l c:Nat) (es:List Ed),e=.returned (.tuple #[.slice L len cap,.agg #[iI N,.slice A l c]])/\(-1<=N/\N<=5)/\(len<=bf/\mH gs<=mh)/\l<=8/\w'.ownsRow w.heap.size 54 4 (.slice L len cap) len (ak gs)/\w'.ownsRow w.heap.size 95 2 (.slice A l c) l (bD es)/\(∀e∈es,e.ok)/\Ext w w'
theorem XU.mk {w w':World} {bf mh:Nat} (L:OA) (len cap:Nat) (gs:List Gt) (N:Int) (A:OA) (l c:Nat) (es:List Ed) (h1: -1<=N/\N<=5) (h2:len<=bf/\mH gs<=mh) (h3:l<=8) (h4:w'.ownsRow w.heap.size 54 4 (.slice L len cap) len (ak gs)) (h5:w'.ownsRow w.heap.size 95 2 (.slice A l c) l (bD es)) (h6:∀e∈es,e.ok) (h7:Ext w w'):XU w bf mh (.returned (.tuple #[.slice L len cap,.agg #[iI N,.slice A l c]])) w':=
 ⟨L,len,cap,gs,N,A,l,c,es,rfl,h1,h2,h3,h4,h5,h6,h7⟩
def XV (w:World) (bf mh:Nat) (e:Ending) (w':World):Prop:=
 ∃(L:OA) (len cap:Nat) (gs:List Gt) (N:Int) (A:OA) (l c:Nat) (es:List Ed) (P:OA) (np cp:Nat) (p:List Int),e=.returned (.tuple #[.slice L len cap,.agg #[iI N,.slice A l c],.slice P np cp])/\(-1<=N/\N<=5)/\(len<=bf/\mH gs<=mh)/\l<=8/\np<=5/\w'.ownsRow w.heap.size 54 4 (.slice L len cap) len (ak gs)/\w'.ownsRow w.heap.size 95 2 (.slice A l c) l (bD es)/\w'.ownsRow w.heap.size 3 1 (.slice P np cp) np (aG p)/\(∀e∈es,e.ok)/\Ext w w'
theorem XV.mk {w w':World} {bf mh:Nat} (L:OA) (len cap:Nat) (gs:List Gt) (N:Int) (A:OA) (l c:Nat) (es:List Ed) (P:OA) (np cp:Nat) (p:List Int) (h1: -1<=N/\N<=5) (h2:len<=bf/\mH gs<=mh) (h3:l<=8) (h33:np<=5) (h4:w'.ownsRow w.heap.size 54 4 (.slice L len cap) len (ak gs)) (h5:w'.ownsRow w.heap.size 95 2 (.slice A l c) l (bD es)) (h55:w'.ownsRow w.heap.size 3 1 (.slice P np cp) np (aG p)) (h6:∀e∈es,e.ok) (h7:Ext w w'):XV w bf mh (.returned (.tuple #[.slice L len cap,.agg #[iI N,.slice A l c],.slice P np cp])) w':=
 ⟨L,len,cap,gs,N,A,l,c,es,P,np,cp,p,rfl,h1,h2,h3,h33,h4,h5,h55,h6,h7⟩
theorem zB:(26:Nat)≠56:=ae
theorem qM:(42:Nat)≠56:=ae
theorem Mv:(73:Nat)≠56:=ae
theorem tK:(26:Nat)≠95:=ae
def OG (w W:World) (g s:Nat) (N I B:Int) (A:OA) (len cap:Nat) (xs:List Oq):Prop:=
 ay W w.heap.size 26 #[iI 0,iI 0,iI 0,nS]/\ay W (w.heap.size+1) 42 jC/\ay W s 26 #[iI N,iI I,iI B,.slice A len cap]/\W.ownsRow w.heap.size 56 8 (.slice A len cap) len (aI xs)/\dY W g/\w.grownBy W (some g)
section
variable {w W W':World} {g s q:Nat} {N I B:Int} {A:OA} {len cap:Nat} {xs:List Oq} {n:Int} {E:OA} {l c:Nat} {es:List Ed}
theorem OG.cur (h:OG w W g s N I B A len cap xs):dY W g:=h.2.2.2.2.1
theorem OG.lt (h:OG w W g s N I B A len cap xs):s<W.heap.size/\w.heap.size+1<W.heap.size:=⟨h.2.2.1.lt,h.2.1.lt⟩
theorem OG.drew (h:OG w W g s N I B A len cap xs):OG w W.drew g s N I B A len cap xs:=by
 obtain ⟨h1,h2,h3,h4,h5,h6⟩:=h
 exact ⟨h1,h2,h3,aq h4 (xZ W).drew,h5.ext (xZ W).drew,vQ h6 (xZ W).drew⟩
theorem OG.alloc (h:OG w W g s N I B A len cap xs) (o:Obj):OG w (W.alloc o) g s N I B A len cap xs:=by
 obtain ⟨h1,h2,h3,h4,h5,h6⟩:=h
 exact ⟨h1.alloc o,h2.alloc o,h3.alloc o,aq h4 ((xZ W).alloc o),h5.alloc o,gZ h6 o⟩
theorem OG.grown (h:OG w W g s N I B A len cap xs) (hg:W.grownBy W' (some g)) (hC:dY W' g) (hs:g<s) (hl:g<w.heap.size):OG w W' g s N I B A len cap xs:=by
 obtain ⟨h1,h2,h3,h4,h5,h6⟩:=h
 exact ⟨h1.grown hg (fun k hk=>aw),h2.grown hg (fun k hk=>aw),h3.grown hg (fun k hk=>aw),BN h4 h5 Mv hg,hC,bY h6 hg⟩
theorem OG.header {z0 z1:Value} (h:OG w W g s N I B A len cap xs) (hq:ay W q 42 #[z0,z1]) (a b:Value) (h1q:w.heap.size+1<q) (WV:s≠q) (hl:g<w.heap.size):OG w ((W.setCell (aA q 0) a).setCell (aA q 1) b) g s N I B A len cap xs:=by
 obtain ⟨h1,h2,h3,h4,h5,h6⟩:=h
 exact ⟨(h1.bX (p:=(aA q 0)) aj _).bX (p:=(aA q 1)) aj _,(h2.bX (p:=(aA q 0)) aj _).bX (p:=(aA q 1)) aj _,(h3.bX (p:=(aA q 0)) WV _).bX (p:=(aA q 1)) WV _,eI h4 hq qM _ _,h5.nP aa _ _,xW h6 aa _ _⟩
def OQ (w W:World) (g s q:Nat) (N I B:Int) (A:OA) (len cap:Nat) (xs:List Oq) (n:Int) (E:OA) (l c:Nat) (es:List Ed):Prop:=
 OG w W g s N I B A len cap xs/\ay W q 42 #[iI n,.slice E l c]/\W.ownsRow w.heap.size 95 2 (.slice E l c) l (bD es)/\(∀e∈es,e.ok)/\w.heap.size+1<q/\w.heap.size+1<s
def Mw (w W:World) (N I B:Int) (A:OA) (len cap:Nat) (n:Int) (E:OA) (l c:Nat):World:=
 ((((((W.setCell (aA w.heap.size 0) (iI N)).setCell (aA w.heap.size 1) (iI I)).setCell (aA w.heap.size 2) (iI B)).setCell (aA w.heap.size 3) (.slice A len cap)).setCell (aA (w.heap.size+1) 0) (iI n)).setCell (aA (w.heap.size+1) 1) (.slice E l c))
theorem mK {w:World} {r T:Nat} {z0 z1 z2 z3:Value} {B e size n:Nat} {v:Value} {xs:List Value} (ho:w.ownsRow B e size v n xs) (h:ay w r T #[z0,z1,z2,z3]) (hne:T≠e) (a b c d:Value):((((w.setCell (aA r 0) a).setCell (aA r 1) b).setCell (aA r 2) c).setCell (aA r 3) d).ownsRow B e size v n xs:=
 pT (pT (pT (pT ho h hne a) (h.ba 0 a) hne b) ((h.ba 0 a).ba 1 b) hne c) (((h.ba 0 a).ba 1 b).ba 2 c) hne d
theorem tL {w:World} {r q T:Nat} {cs:Array Value} (h:ay w q T cs) (hne:q≠r) (a b c d:Value):ay ((((w.setCell (aA r 0) a).setCell (aA r 1) b).setCell (aA r 2) c).setCell (aA r 3) d) q T cs:=
 (((h.bX (p:=(aA r 0)) hne a).bX (p:=(aA r 1)) hne b).bX (p:=(aA r 2)) hne c).bX (p:=(aA r 3)) hne d
theorem OQ.fin (h:OQ w W g s q N I B A len cap xs n E l c es) (hl:g<w.heap.size):
  ay (Mw w W N I B A len cap n E l c) w.heap.size 26 #[iI N,iI I,iI B,.slice A len cap]/\ay (Mw w W N I B A len cap n E l c) (w.heap.size+1) 42 #[iI n,.slice E l c]/\(Mw w W N I B A len cap n E l c).ownsRow w.heap.size 56 8 (.slice A len cap) len (aI xs)/\(Mw w W N I B A len cap n E l c).ownsRow w.heap.size 95 2 (.slice E l c) l (bD es)/\dY (Mw w W N I B A len cap n E l c) g/\w.grownBy (Mw w W N I B A len cap n E l c) (some g):=by
 obtain ⟨⟨h1,h2,h3,h4,h5,h6⟩,k1,k2,k3,k4,k5⟩:=h;unfold Mw;have b1:=h1.vR (iI N) (iI I) (iI B) (.slice A len cap);have b2:=tL h2 (aa:w.heap.size+1≠w.heap.size) (iI N) (iI I) (iI B) (.slice A len cap);refine ⟨(b1.bX (p:=(aA (w.heap.size+1) 0)) ag _).bX (p:=(aA (w.heap.size+1) 1)) ag _,b2.nP _ _,eI (mK h4 h1 zB _ _ _ _) b2 qM _ _,eI (mK k2 h1 tK _ _ _ _) b2 fS _ _,(h5.vR hl _ _ _ _).nP aa _ _,xW (od h6 (lI _) _ _ _ _) aa _ _⟩
end
def JP (w:World) (g bf:Nat) (e:Ending) (w':World):Prop:=
 ∃(N I B:Int) (A:OA) (len cap:Nat) (xs:List Oq) (n:Nat) (E:OA) (l c:Nat) (es:List Ed),e=.returned (.tuple #[.agg #[iI N,iI I,iI B,.slice A len cap],.agg #[iI n,.slice E l c]])/\(1<=n/\n<=4)/\len<=bf/\l<=7/\w'.ownsRow w.heap.size 56 8 (.slice A len cap) len (aI xs)/\w'.ownsRow w.heap.size 95 2 (.slice E l c) l (bD es)/\dY w' g/\w.grownBy w' (some g)/\∀e∈es,e.ok
theorem JP.mk {w w':World} {g bf:Nat} (N I B:Int) (A:OA) (len cap:Nat) (xs:List Oq) (n:Nat) (E:OA) (l c:Nat) (es:List Ed) (h1:1<=n/\n<=4) (h2:len<=bf) (h3:l<=7) (h4:w'.ownsRow w.heap.size 56 8 (.slice A len cap) len (aI xs)) (h5:w'.ownsRow w.heap.size 95 2 (.slice E l c) l (bD es)) (h6:dY w' g) (h7:w.grownBy w' (some g)) (h8:∀e∈es,e.ok):JP w g bf (.returned (.tuple #[.agg #[iI N,iI I,iI B,.slice A len cap],.agg #[iI n,.slice E l c]])) w':=
 ⟨N,I,B,A,len,cap,xs,n,E,l,c,es,rfl,h1,h2,h3,h4,h5,h6,h7,h8⟩
theorem Pf (g bf:Nat) (hm:bf<=200) (w:World) (h:dY w g):
  Calls prog 40 #[.pointer (some ⟨g,0,none⟩),iI bf] w (JP w g bf):=by
 have df:=h.lt;go_enter func40,ntmps40;go_wp2_with fail;refine (vw g bf hm _ ((h.alloc _).alloc _)).mono ?_;rintro e w2 ⟨N,I,B,A,len,cap,xs,rfl,hN,hlen,ep,CJ,vv⟩;obtain ⟨Zy,hN3,-⟩:=hN;obtain ⟨n0,rfl⟩:=lD (aa:0<=N);have hR:=((ay.new w 26 #[iI 0,iI 0,iI 0,nS]).alloc (cO jC 42)).grown vv (fun k hk=>aw);have hQ:=(ay.newAt (w:=w.alloc (cO #[iI 0,iI 0,iI 0,nS] 26)) (t:=42) (cs:=jC) (b:=w.heap.size+1) ag).grown vv (fun k hk=>aw);have jL:w.grownBy w2 (some g):=bY ((((xZ w).alloc _).alloc _).gr _) vv;have akL:=aC ep (show w.heap.size<=((w.alloc (cO #[iI 0,iI 0,iI 0,nS] 26)).alloc (cO jC 42)).heap.size from aj);have oF:=hQ.lt;have hO:OG w (w2.alloc (cO #[iI n0,iI I,iI B,.slice A len cap] 26)) g w2.heap.size n0 I B A len cap xs:=
  ⟨hR.alloc _,hQ.alloc _,ay.new _ _ _,aq akL ((xZ w2).alloc _),CJ.alloc _,gZ jL _⟩
 clear hR hQ jL akL ep CJ vv;go_upto_region 2 with fail;generalize (w2.alloc (cO #[iI n0,iI I,iI B,.slice A len cap] 26))=w3 at*
 generalize w2.heap.size=s at*
 have HO:=hY hO;have hs3:=hO.lt.1;have hw3:=hO.lt.2;have fi:g<s:=aa
 clear hO;refine dm (S:=fun W=>W.cell? (aA s 0)=some (iI n0)) af (HO.u.2.2.1.cell 0) (fun ay4=>?_);refine tq 0 ?_;refine tq 1 ?_;refine tq 2 ?_;refine tq 3 ?_;refine tq 4 ?_;refine tq 5 ?_
 (refine nW (i:=6) (v:=iI (5 - (n0:Int))) rfl af af af (fun _ _ _ h=>h) (Or.inl ⟨ah,?_⟩) aQ ?_;· (intro w hSw;(try dsimp only at hSw);go_simp;first|done|exact lH _ aa))
 (try refine pt ?_)
 have HOd:=hY HO.u.drew;refine o2 7 10 (fun K hK=>?xA) fun K hK=>?xB
 case' xA=>
  go_simp;refine (aU g (5 - (n0:Int)) _ HOd.u.cur aa).mono ?_;rintro e w4 ⟨x,rfl,⟨cH,aS,_⟩,sj,xn⟩;have bH:=aS aa;clear aS;have nB:=hY (HOd.u.grown xn sj fi df);refine hK.out _ _ (nB.u.2.2.1.cell 0) (fun ay4=>?_);clear hK K ay4;have ay4:=nB.u.2.2.1.cell 0
  (try simp only [qV,qT] at ay4)
  (try refine pt ?_)
  obtain ⟨n,hn,apJ,apK⟩:∃n:Nat,(n0:Int)+x=(n:Int)/\1<=n/\n<=4:=by
   obtain ⟨x',rfl⟩:=lD cH
   exact ⟨n0+x',aa,aa,aa⟩
  have HN:=hY hn;clear hn
  (refine nW (i:=8) (v:=iI (n:Int)) rfl af af af (fun _ _ _ h=>h) (Or.inl ⟨ah,?_⟩) aQ ?_;· (intro w hSw;(try dsimp only at hSw);go_simp;first|done|(rw [HN.u];exact lH _ aa)))
  (try refine pt ?_)
  refine o2 9 10 (fun K hK=>?xA1) fun K hK=>?xA2
 case' xA1=>
  go_simp;refine (mD g n ⟨aa,aa⟩ _ nB.u.cur).mono ?_;rintro e w5 ⟨_,E,l,c,es,rfl,rfl,Ah,jM,jV,gx,Mx⟩;have iK:=hY (nB.u.grown gx jV fi df);have TV:=hY (aC jM (show w.heap.size<=_ from xS nB.u.2.2.2.2.2));have HK5:=hY Mx;clear jM Mx;refine hK.out _ _ (iK.u.2.2.1.cell 0) (fun ay4=>?_);clear hK K ay4;have ay4:=iK.u.2.2.1.cell 0
  (try simp only [qV,qT] at ay4)
  (try refine pt ?_)
  refine o1 10 fun K hK=>?_
  go_simp;have km:=hY (iK.u.alloc (cO jC 42));refine hK.out _ _ (km.u.2.2.1.cell 0) (fun ay4=>?_);clear hK K ay4;have ay4:=km.u.2.2.1.cell 0
  (try simp only [qV,qT] at ay4)
  (try refine pt ?_)
  refine o1 11 fun K hK=>?_
  go_simp;have fF:=hY (iK.u.alloc (cO #[iI n,.slice E l c] 42));refine hK.out _ _ (fF.u.2.2.1.cell 0) (fun ay4=>?_);clear hK K ay4;have ay4:=fF.u.2.2.1.cell 0
  (try simp only [qV,qT] at ay4)
  (try refine pt ?_)
  refine dn ?_;have HQ:=hY (show OQ w _ g s w5.heap.size n0 I B A len cap xs n E l c es from ⟨fF.u,ay.new _ _ _,aq TV.u ((xZ w5).alloc _),HK5.u,iK.u.lt.2,aa⟩);clear nB iK km fF TV gx xn sj jV ay4;generalize w5.alloc _=W at HQ |-;generalize w5.heap.size=q at HQ |-
 case' xA2=>
  have hw4:=nB.u.lt;go_simp;have XW:=hY (nB.u.alloc (cO jC 42));have hZ4:=ay.new w4 42 jC;refine hK.out _ _ (XW.u.2.2.1.cell 0) (fun ay4=>?_);clear hK K ay4;have ay4:=XW.u.2.2.1.cell 0
  (try simp only [qV,qT] at ay4)
  (try refine pt ?_)
  refine o1 9 fun K hK=>?_
  go_simp;refine (mD g n ⟨aa,aa⟩ _ XW.u.cur).mono ?_;rintro e w5 ⟨_,E,l,c,es,rfl,rfl,Ah,jM,jV,gx,Mx⟩;have iK:=hY (XW.u.grown gx jV fi df);have TV:=hY (aC jM (show w.heap.size<=_ from xS XW.u.2.2.2.2.2));have HK5:=hY Mx;clear jM Mx;have XX:=hY (hZ4.grown gx (fun k hk=>aw));clear hZ4;refine hK.out _ _ (iK.u.2.2.1.cell 0) (fun ay4=>?_);clear hK K ay4;have ay4:=iK.u.2.2.1.cell 0
  (try simp only [qV,qT] at ay4)
  (try refine pt ?_)
  have NX:=XX.u;have xf:=NX.ck 0;have vu:∀u,(w5.setCell (aA w4.heap.size 0) u).cell? (aA w4.z 1)=some (nS):=fun u=>(NX.ba 0 u).cell 1
  have xl:=NX.frozen 0;have Ho:∀u,(w5.setCell (aA w4.heap.size 0) u).frozen? (aA w4.z 1)=false:=fun u=>(NX.ba 0 u).frozen 1
  clear NX;refine o1 11 fun K hK=>?_
  go_simp;have fF:=hY (iK.u.header XX.u (iI n) (.slice E l c) aa aa df);refine hK.out _ _ (fF.u.2.2.1.cell 0) (fun ay4=>?_);clear hK K ay4;have ay4:=fF.u.2.2.1.cell 0
  (try simp only [qV,qT] at ay4)
  (try refine pt ?_)
  refine dn ?_;have HQ:=hY (show OQ w _ g s w4.heap.size n0 I B A len cap xs n E l c es from ⟨fF.u,XX.u.nP _ _,eI TV.u XX.u fS _ _,HK5.u,aa,aa⟩);clear xf vu xl Ho iK fF TV XX gx xn sj jV ay4;generalize (w5.setCell _ _).setCell _ _=W at HQ |-;generalize hqq:w4.heap.size=q at HQ |-;clear hqq
 case' xB=>
  go_simp;have Ph:=hY ((HO.u.alloc (cO jC 42)).drew);have hZ3:=(ay.new w3 42 jC).drew;refine hK.out _ _ (Ph.u.2.2.1.cell 0) (fun ay4=>?_);clear hK K ay4;have ay4:=Ph.u.2.2.1.cell 0
  (try simp only [qV,qT] at ay4)
  (try refine pt ?_)
  refine o1 7 fun K hK=>?_
  go_simp;refine (aU g (5 - (n0:Int)) _ Ph.u.cur aa).mono ?_;rintro e w4 ⟨x,rfl,⟨cH,aS,_⟩,sj,xn⟩;have bH:=aS aa;clear aS;have nB:=hY (Ph.u.grown xn sj fi df);have hZ4:=hZ3.grown xn (fun k hk=>aw);clear hZ3;refine hK.out _ _ (nB.u.2.2.1.cell 0) (fun ay4=>?_);clear hK K ay4;have ay4:=nB.u.2.2.1.cell 0
  (try simp only [qV,qT] at ay4)
  (try refine pt ?_)
  obtain ⟨n,hn,apJ,apK⟩:∃n:Nat,(n0:Int)+x=(n:Int)/\1<=n/\n<=4:=by
   obtain ⟨x',rfl⟩:=lD cH
   exact ⟨n0+x',aa,aa,aa⟩
  have HN:=hY hn;clear hn
  (refine nW (i:=8) (v:=iI (n:Int)) rfl af af af (fun _ _ _ h=>h) (Or.inl ⟨ah,?_⟩) aQ ?_;· (intro w hSw;(try dsimp only at hSw);go_simp;first|done|(rw [HN.u];exact lH _ aa)))
  (try refine pt ?_)
  refine o1 9 fun K hK=>?_
  go_simp;refine (mD g n ⟨aa,aa⟩ _ nB.u.cur).mono ?_;rintro e w5 ⟨_,E,l,c,es,rfl,rfl,Ah,jM,jV,gx,Mx⟩;have iK:=hY (nB.u.grown gx jV fi df);have TV:=hY (aC jM (show w.heap.size<=_ from xS nB.u.2.2.2.2.2));have HK5:=hY Mx;clear jM Mx;have XX:=hY (hZ4.grown gx (fun k hk=>aw));clear hZ4;refine hK.out _ _ (iK.u.2.2.1.cell 0) (fun ay4=>?_);clear hK K ay4;have ay4:=iK.u.2.2.1.cell 0
  (try simp only [qV,qT] at ay4)
  (try refine pt ?_)
  have NX:=XX.u;have xf:=NX.ck 0;have vu:∀u,(w5.setCell (aA w3.heap.size 0) u).cell? (aA w3.z 1)=some (nS):=fun u=>(NX.ba 0 u).cell 1
  have xl:=NX.frozen 0;have Ho:∀u,(w5.setCell (aA w3.heap.size 0) u).frozen? (aA w3.z 1)=false:=fun u=>(NX.ba 0 u).frozen 1
  clear NX;refine o1 11 fun K hK=>?_
  go_simp;have fF:=hY (iK.u.header XX.u (iI n) (.slice E l c) aa aa df);refine hK.out _ _ (fF.u.2.2.1.cell 0) (fun ay4=>?_);clear hK K ay4;have ay4:=fF.u.2.2.1.cell 0
  (try simp only [qV,qT] at ay4)
  (try refine pt ?_)
  refine dn ?_;have HQ:=hY (show OQ w _ g s w3.heap.size n0 I B A len cap xs n E l c es from ⟨fF.u,XX.u.nP _ _,eI TV.u XX.u fS _ _,HK5.u,aa,aa⟩);clear xf vu xl Ho iK fF TV XX gx xn sj jV ay4;generalize (w5.setCell _ _).setCell _ _=W at HQ |-;generalize hqq:w3.heap.size=q at HQ |-;clear hqq
 all_goals
  have hB4:=HQ.u.1.1;have vS:=HQ.u.1.2.1;have hBs:=HQ.u.1.2.2.1;have hBq:=HQ.u.2.1;have Ss:=HQ.u.1.lt.2;obtain ⟨⟨a0,a1,a2,a3⟩,y0,y1,y2,y3⟩:=dD hB4;obtain ⟨⟨b0,b1⟩,z0,z1⟩:=fu vS;obtain ⟨⟨c0,c1,c2,c3⟩,x0,x1,x2,x3⟩:=dD hBs;obtain ⟨⟨d0,d1⟩,v0,v1⟩:=fu hBq;clear hB4 vS hBs hBq;have hS:∀W',ay W' s 26 #[iI n0,iI I,iI B,.slice A len cap]->ay W' q 42 #[iI n,.slice E l c]->(W'.cell? (aA s 0)=some (iI n0)/\W'.cell? (aA s 1)=some (iI I)/\W'.cell? (aA s 2)=some (iI B)/\W'.cell? (aA s 3)=some (.slice A len cap))/\W'.cell? (aA q 0)=some (iI n)/\W'.cell? (aA q 1)=some (.slice E l c):=fun W' h1 h2=>⟨⟨h1.cell 0,h1.cell 1,h1.cell 2,h1.cell 3⟩,h2.cell 0,h2.cell 1⟩
  have HS:=hY hS;clear hS;go_wp2;refine dm (S:=fun W'=>(W'.cell? (aA s 0)=some (iI n0)/\W'.cell? (aA s 1)=some (iI I)/\W'.cell? (aA s 2)=some (iI B)/\W'.cell? (aA s 3)=some (.slice A len cap))/\W'.cell? (aA q 0)=some (iI n)/\W'.cell? (aA q 1)=some (.slice E l c)) af (HS.u _ HQ.u.1.2.2.1.drew HQ.u.2.1.drew) (fun ay4=>?_);refine tq 0 ?_;refine tq 1 ?_;refine o1 2 fun K hK=>?_
  go_simp;have OV:=tL HQ.u.1.2.2.1 (show s≠w.heap.size by have:=HQ.u.2.2.2.2.2;omega) (iI n0) (iI I) (iI B) (.slice A len cap);have xo:=tL HQ.u.2.1 (show q≠w.heap.size by have:=HQ.u.2.2.2.2.1;omega) (iI n0) (iI I) (iI B) (.slice A len cap);refine ov hK (HS.u _ OV.drew xo.drew) fun ay4=>?_
  have hb4:=tL HQ.u.1.2.1 (show w.heap.size+1≠w.heap.size by omega) (iI n0) (iI I) (iI B) (.slice A len cap);have Ol:=(OV.bX (p:=(aA (w.heap.size+1) 0)) (show s≠w.heap.size+1 by have:=HQ.u.2.2.2.2.2;omega) (iI n)).bX (p:=(aA (w.heap.size+1) 1)) (show s≠w.heap.size+1 by have:=HQ.u.2.2.2.2.2;omega) (.slice E l c);have hq5:=(xo.bX (p:=(aA (w.heap.size+1) 0)) (show q≠w.heap.size+1 by have:=HQ.u.2.2.2.2.1;omega) (iI n)).bX (p:=(aA (w.heap.size+1) 1)) (show q≠w.heap.size+1 by have:=HQ.u.2.2.2.2.1;omega) (.slice E l c);clear a0 a1 a2 a3 y0 y1 y2 y3 b0 b1 z0 z1;obtain ⟨⟨b0,b1⟩,z0,z1⟩:=fu hb4;have HS5:=hY (HS.u _ Ol.drew hq5.drew);clear OV xo hb4 Ol hq5;have HF:=hY (HQ.u.fin df);have HKQ:=HQ.u.2.2.2.1;have HKE:=hY HKQ;clear HKQ HQ;refine o1 3 fun K hK=>?_
  go_simp;refine ov hK HS5.u fun ay4=>?_
  refine dn ?_;clear ay4 b0 b1 z0 z1 HS5 HS c0 c1 c2 c3 x0 x1 x2 x3 d0 d1 v0 v1;obtain ⟨f1,f2,f3,f4,f5,f6⟩:=HF.u;have g0:=(f1.drew).cell 0;have g1:=(f1.drew).cell 1;have g2:=(f1.drew).cell 2;have g3:=(f1.drew).cell 3;have g4:=(f2.drew).cell 0;have g5:=(f2.drew).cell 1;have f3':=aq f3 (xZ _).drew;have f4':=aq f4 (xZ _).drew;have f5':=f5.ext (xZ _).drew;have f6':=vQ f6 (xZ _).drew;clear f1 f2 f3 f4 f5 f6 HF;unfold Mw at g0 g1 g2 g3 g4 g5 f3' f4' f5' f6';generalize World.drew _=W2 at g0 g1 g2 g3 g4 g5 f3' f4' f5' f6' |-;simp only [qV,qT,List.getElem?_cons_succ] at g0 g1 g2 g3 g4 g5;go_wp2
  exact bR (v:=.tuple #[.agg #[iI n0,iI I,iI B,.slice _ _ _],.agg #[iI n,.slice _ _ _]]) (by simp [results,results40,go_sem,g0,g1,g2,g3,g4,g5]) rfl (JP.mk _ _ _ _ _ _ _ _ _ _ _ _ ⟨aa,aa⟩ hlen Ah f3' f4' f5' f6' HKE.u)
end Go.Proofs.YtiajdbllccmokaaGreatDoor
