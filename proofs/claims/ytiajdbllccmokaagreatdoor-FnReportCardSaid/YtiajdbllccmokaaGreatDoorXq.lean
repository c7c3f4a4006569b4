import Derived.Test.YtiajdbllccmokaaGreatDoorXl
import Derived.Test.YtiajdbllccmokaaGreatDoorXk
import Derived.Test.YtiajdbllccmokaaGreatDoorXj
namespace Go.Proofs.YtiajdbllccmokaaGreatDoor
open Go.ChangeShapes Go.WideShapes Go.ChangeAt Go.RowKit Go.Deep Go.Proofs.Tryz
set_option linter.unusedVariables false
set_option linter.unusedSimpArgs false
set_option maxRecDepth 100000
set_option maxHeartbeats 16000000
theorem fR:(prog.info? 147).map (·.size)=some 2:=af
theorem ajs {fn:Func} {p:Tmp} (hf:fn.results=#[.cell p 147]) {W:World} {q:Nat} {cs:Array Value} (hB:ay W q 147 cs) (tmps:Array Value)
  (hp:tmps.getD p undef=.pointer (some ⟨q,0,none⟩)) (hs:cs.size=2):(results fn tmps).run prog W=.ok (.agg cs) W:=
 nU hf tmps _ q 147 _ (0,0) _ hp hB underlying147 rfl (by rw [hs];exact fR)
def dN (w:World) (g:Nat) (a b:Value):World:=(w.setCell (aA g 0) a).setCell (aA g 1) b
theorem ay.dN {w:World} {g t:Nat} {z0 z1:Value} (h:ay w g t #[z0,z1]) (a b:Value):ay (dN w g a b) g t #[a,b]:=(h.ba 0 a).ba 1 b
theorem dH {w0 w:World} (h:Ext w0 w) {g:Nat} (hg:w0.heap.size<=g) (a b:Value):Ext w0 (dN w g a b):=(h.setCell (p:=(aA g 0)) hg a).setCell (p:=(aA g 1)) hg b
theorem Qu {w:World} {B e size n c:Nat} {A:OA} {xs:List Value} (h:w.ownsRow B e size (.slice A n c) n xs):n<=c:=by
 rcases h.2 with ⟨h0,rfl⟩|⟨g,cap,cur,hv,_,_,KG,_⟩
 ·omega
 ·injection hv with _ _ h3;omega
structure DT (W1 w:World) (g:Nat) (N:Int) (A:OA) (len cap:Nat) (xs:List Pa):Prop where
 b:ay w g 147 #[iI N,.slice A len cap]
 o:w.ownsRow (g+1) 187 4 (.slice A len cap) len (aV xs)
 x:Ext W1 w
 s:W1.heap.size<=g
theorem DT.ext {W1 w w':World} {g:Nat} {N:Int} {A:OA} {len cap:Nat} {xs:List Pa} (h:DT W1 w g N A len cap xs) (hx:Ext w w'):DT W1 w' g N A len cap xs:=⟨h.b.ext hx,aq h.o hx,h.x.trans hx,h.s⟩
theorem DT.len_ {W1 w:World} {g:Nat} {N:Int} {A:OA} {len cap:Nat} {xs:List Pa} (h:DT W1 w g N A len cap xs):xs.length=len:=(Rd.own h.o).len Pa.aE aa
theorem DT.cap_ {W1 w:World} {g:Nat} {N:Int} {A:OA} {len cap:Nat} {xs:List Pa} (h:DT W1 w g N A len cap xs):len<=cap:=Qu h.o
theorem ub {w:World} {B:Nat} (h:B<=w.heap.size):({w with heap:=w.heap.extract 0 B}:World).heap.size=B:=aj
theorem LI {w:World} {B:Nat} (h:B<=w.heap.size):Ext ({w with heap:=w.heap.extract 0 B}:World) w:=by
 refine ⟨rfl,rfl,rfl,by rw [ub h];exact h,fun k hk=>?_⟩;rw [ub h] at hk;simp [Ng];omega
theorem DT.left {W1 w w':World} {g:Nat} {N:Int} {A A':OA} {len cap c':Nat} {xs:List Pa} {y:Pa} (D:DT W1 w g N A len cap xs) (hB:g+1<=w.heap.size)
  (h1:w'.ownsRow (g+1) 187 4 (.slice A' (len+1) c') (len+1) (aV (xs++[y]))) (LJ:w.grownBy w' (Value.slice A len cap).ownBlock):
  ay w' g 147 #[iI N,.slice A len cap]/\DT W1 (w'.setCell (aA g 1) (.slice A' (len+1) c')) g N A' (len+1) c' (xs++[y])/\∀(k t:Nat) (cs:Array Value),k<g->ay w k t cs->ay (w'.setCell (aA g 1) (.slice A' (len+1) c')) k t cs:=by
 have hne:∀k,(Value.slice A len cap).ownBlock=some k->g≠k:=fun k hk=>oM ((D.o.lt k hk).1)
 have rb:ay w' g 147 #[iI N,.slice A len cap]:=D.b.grown LJ hne;have rF:Ext W1 w':=D.x.grown LJ (fun k hk=>oN ((D.o.lt k hk).1) D.s);refine ⟨rb,⟨rb.ba 1 _,bk h1 (p:=(aA g 1)) (uH g) _,rF.setCell (p:=(aA g 1)) D.s _,D.s⟩,fun k t cs hk hb=>?_⟩
 exact (hb.grown LJ (fun j hj=>oM ((D.o.lt j hj).1))).bX (p:=(aA g 1)) (show k≠g by omega) _
theorem Dy {P:Prop} (h:P:=by
 intro v' w' h1 h2 h3 h4;rw [mH] at h1;obtain ⟨A',c',rfl,_⟩:=au h1
 exact h A' c' w' (D.left hB h1 h3)):P:=h
theorem DT.app {W1 w:World} {g:Nat} {N:Int} {A:OA} {len cap:Nat} {xs:List Pa} (D:DT W1 w g N A len cap xs) {ops:Array Oper} {rest:List Oper} {o:Oper} {a:Act} {Q:Exit->Act->World->Prop} (fx:o.guard=none) (s x:Operand)
  (ho:aO o s x 145) (hs:a.eval s=.slice A len cap)
  (y:Pa) (b:Nat) (hx:a.eval x=.slice (some ⟨b,0,none⟩) 1 1) (hr:Rd w w.heap.size 4 (some ⟨b,0,none⟩) 1 (aV [y])) (hn:len<=1800000000000)
  (h:∀A' c' w',(ay w' g 147 #[iI N,.slice A len cap]/\DT W1 (w'.setCell (aA g 1) (.slice A' (len+1) c')) g N A' (len+1) c' (xs++[y])/\∀(k t:Nat) (cs:Array Value),k<g->ay w k t cs->ay (w'.setCell (aA g 1) (.slice A' (len+1) c')) k t cs)->wpList prog ops Q rest (a.put o.dst (.slice A' (len+1) c')) w'):
  wpList prog ops Q (o::rest) a w:=by
 have hB:g+1<=w.heap.size:=D.b.lt;have mH:=ub hB;refine zg (w0:={w with heap:=w.heap.extract 0 (g+1)}) fx s x ho _ len xs hs (by rw [mH];exact D.o) (LI hB) _ 1 1 [y] hx hr aa ?_
 exact Dy
theorem DT.step {W1 w:World} {g:Nat} {N:Int} {A:OA} {len cap:Nat} {xs:List Pa} (D:DT W1 w g N A len cap xs) {ops:Array Oper} {o:Oper} {a:Act} {K:Act->World->Prop} {Q:Exit->Act->World->Prop} {E:Prop} (fx:o.guard=none) (s x:Operand)
  (ho:aO o s x 145) (hs:a.eval s=.slice A len cap)
  (y:Pa) (b:Nat) (hx:a.eval x=.slice (some ⟨b,0,none⟩) 1 1) (hr:Rd w w.heap.size 4 (some ⟨b,0,none⟩) 1 (aV [y])) (hn:len<=1800000000000)
  (h:∀A' c' w',(ay w' g 147 #[iI N,.slice A len cap]/\DT W1 (w'.setCell (aA g 1) (.slice A' (len+1) c')) g N A' (len+1) c' (xs++[y])/\∀(k t:Nat) (cs:Array Value),k<g->ay w k t cs->ay (w'.setCell (aA g 1) (.slice A' (len+1) c')) k t cs)->K (a.put o.dst (.slice A' (len+1) c')) w'):
  if Region.wanted o (yielded ops a.tmps)=true then Oper.wp prog o a w K Q else E:=by
 have hB:g+1<=w.heap.size:=D.b.lt;have mH:=ub hB;refine Cu (w0:={w with heap:=w.heap.extract 0 (g+1)}) fx s x ho _ len xs hs (by rw [mH];exact D.o) (LI hB) _ 1 1 [y] hx hr aa ?_
 exact Dy
def jX (n:Int) (rs:List Pa) (v:Value) (w:World):Prop:=∃(A:OA) (c:Nat),v=.agg #[iI n,.slice A rs.length c]/\Rd w w.heap.size 4 A rs.length (aV rs)/\rs.length<=c
theorem DT.u {W1 w:World} {g:Nat} {N:Int} {A:OA} {len cap:Nat} {xs:List Pa} (h:DT W1 w g N A len cap xs):jX N xs (.agg #[iI N,.slice A len cap]) w:=by
 have hl:=h.len_;have hr:=Rd.own h.o;have hc:=h.cap_;subst hl
 exact ⟨A,cap,rfl,hr,hc⟩
theorem jX.ext {n:Int} {rs:List Pa} {v:Value} {w w':World} (h:jX n rs v w) (hx:Ext w w'):jX n rs v w':=by
 obtain ⟨A,c,hv,hr,hc⟩:=h
 exact ⟨A,c,hv,hr.ext hx,hc⟩
theorem jX.put {n:Int} {rs:List Pa} {N:Int} {A:OA} {len cap:Nat} {xs:List Pa} {W1 w:World} {g r:Nat} (h:DT W1 w g N A len cap xs) (hr:r<g) (a b:Value):jX N xs (.agg #[iI N,.slice A len cap]) (dN w r a b):=by
 have hl:=h.len_;have ho:=bk (bk h.o (p:=(aA r 0)) (by show r<g+1;omega) a) (p:=(aA r 1)) (by show r<g+1;omega) b;have RL:=Rd.own ho;have hc:=h.cap_;subst hl
 exact ⟨A,cap,rfl,RL,hc⟩
def nz (n:Int) (t:Option (List Pa)) (e:Ending) (w:World):Prop:=
 match t with
 |none=>e=.returned (.tuple #[.agg jC,.bool false])
 |some rs=>∃v,e=.returned (.tuple #[v,.bool true])/\jX n rs v w
def Qv (n:Int) (k:Nat):Pa:=if (k:Int)<n then ⟨n,pw k,0,0⟩ else ⟨n,0,pw ((k:Int) - n),0⟩
def idL (n:Int) (k:Nat):List Pa:=(List.range k).map (Qv n)
theorem Wf (n:Int) (k:Nat):idL n (k+1)=idL n k++[Qv n k]:=by unfold idL;rw [BW,mf];rfl
theorem aa0 {n:Int} (h1:1<=n) (h4:n<=4):idL n (2*n.toNat)=RE n.toNat:=by
 rcases (show n=1\/n=2\/n=3\/n=4 by omega) with rfl|rfl|rfl|rfl<;>rfl
theorem aa1 {n:Int} {rs:List Pa} {g:Gt} (h:mB n rs=false):fa n rs g=none:=by unfold fa;rw [h];rfl
theorem Wh {n:Int} {rs:List Pa} {g:Gt} {k:Nat} {p:Pa} (hp:rs[k]?=some p) (h:rD p g=false):fa n rs g=none:=by
 unfold fa;have:rs.all (fun p=>rD p g)=false:=by
  rw [BR]
  exact ⟨p,lG hp,aW⟩
 rw [this,fX];rfl
theorem Sg {n:Int} {rs:List Pa} {g:Gt} {k:Nat} (hv:mB n rs=true) (hk:rs.length=k) (h:(rs.take k).all (fun p=>rD p g)=true):fa n rs g=some ((rs.take k).map fun p=>cj p g):=by
 subst hk;rw [jt] at h |-;unfold fa;rw [hv,h];rfl
theorem Wi {n:Int} {rs:List Pa} (h:mB n rs=true):(1<=n/\n<=4)/\(rs.length:Int)=2*n:=by
 unfold mB at h;simp only [lF,lu,dc] at h
 exact ⟨⟨h.1.1.1,h.1.1.2⟩,h.1.2⟩
theorem Sh {α β:Type} (f:α->β) {xs:List α} {k:Nat} {x:α} (h:xs[k]?=some x):(xs.take (k+1)).map f=(xs.take k).map f++[f x]:=by
 rw [Ns,h,mf];rfl
def AG (w W:World) (A:OA) (l c:Nat) (n:Int) (g:Gt) (q:Nat):Prop:=
 ay W w.heap.size 147 #[iI n,.slice A l c]/\ay W (w.heap.size+1) 54 (gA g)/\ay W (w.heap.size+2) 147 jC/\w.heap.size+3<=q
theorem AG.left {w W W':World} {A:OA} {l c q:Nat} {n:Int} {g:Gt} (h:AG w W A l c n g q) (hb:∀(k t:Nat) (cs:Array Value),k<q->ay W k t cs->ay W' k t cs):AG w W' A l c n g q:=
 ⟨hb _ _ _ (oM h.2.2.2) h.1,hb _ _ _ (oM h.2.2.2) h.2.1,hb _ _ _ (oM h.2.2.2) h.2.2.1,h.2.2.2⟩
theorem AG.ext {w W W':World} {A:OA} {l c q:Nat} {n:Int} {g:Gt} (h:AG w W A l c n g q) (hx:Ext W W'):AG w W' A l c n g q:=h.left (fun _ _ _ _ hb=>hb.ext hx)
theorem tr {n:Int} {t:Option (List Pa)} {e:Ending} {w:World} (h:t=none) (he:e=.returned (.tuple #[.agg jC,.bool false])):nz n t e w:=by subst h;exact he
theorem AD {n:Int} {t:Option (List Pa)} {rs:List Pa} {e:Ending} {w:World} {v:Value} (h:t=some rs) (he:e=.returned (.tuple #[v,.bool true])) (ho:jX n rs v w):nz n t e w:=by subst h;exact ⟨v,he,ho⟩
theorem aa2 {n:Int} {k:Nat} (h1:1<=n) (h4:n<=4) (hk:(k:Int)<2*n):∃(q:Int) (z:Bool),(k:Int).tmod n=q/\(0<=q/\q<=3)/\decide (n<=(k:Int))=z/\sgl n q z=Qv n k:=by
 rcases (show n=1\/n=2\/n=3\/n=4 by omega) with rfl|rfl|rfl|rfl<;>
 rcases (show k=0\/k=1\/k=2\/k=3\/k=4\/k=5\/k=6\/k=7 by omega) with rfl|rfl|rfl|rfl|rfl|rfl|rfl|rfl<;>first|(exfalso;omega)|exact ⟨_,_,rfl,ae,rfl,rfl⟩
theorem fw (n:Int) (w:World) (h1:1<=n) (h4:n<=4):Calls prog 127 #[iI n] w fun e w'=>(∃v,e=.returned v/\jX n (RE n.toNat) v w')/\Ext w w':=by
 have hw2:IntKind.i64.wrap (2*n)=2*n:=lH _ aa;have HN:Hid (1<=n/\n<=4):=⟨h1,h4⟩;have ND:(n==0)=false:=eC
 have hnz:¬n=0:=aa
 go_enter func127,ntmps127;go_wp2_with fail;refine (aF _ _ _ _ h1 h4).mono ?_;rintro e w1 ⟨rfl,rfl⟩;go_wp2;have HR:Hid (ay ((w.alloc (cO jC 147)).alloc (cO #[iI n,nS] 147)) w.heap.size 147 jC):=(ay.new w _ _).alloc _;have HD:Hid (DT w ((w.alloc (cO jC 147)).alloc (cO #[iI n,nS] 147)) (w.heap.size+1) n none 0 0 []):=⟨ay.newAt ag,⟨rfl,Or.inl ⟨rfl,rfl⟩⟩,xx,aa⟩;generalize ((w.alloc (cO jC 147)).alloc (cO #[iI n,nS] 147))=w2 at*
 go_loopw [4] (fun iv wr=>∃(k:Nat) (A:OA) (cap:Nat),iv=iI k/\(k:Int)<=2*n/\Hid (DT w wr (w.heap.size+1) n A k cap (idL n k))/\Hid (ay wr w.heap.size 147 jC)) (fun i _=>8 - (intOf i).toNat)
 case atStart=>exact ⟨0,none,0,rfl,aa,HD,HR⟩
 case round=>
  obtain ⟨k,A,cap,rfl,hk,xj,LK⟩:=hrel;clear HD HR
  by_cases bh:(k:Int)<2*n
  ·obtain ⟨q,z,hq,aeP,hz,hy⟩:=aa2 h1 h4 bh;have jK:decide ((k:Int)>=n)=z:=hz;have hqw:IntKind.i64.wrap q=q:=lH _ aa;obtain ⟨y,PW⟩:=ex (Qv n k);rw [PW] at hy;have HYY:=hY PW;have HS:Hid (∀w',Calls prog 140 #[iI n,iI q,.bool z] w' fun e w''=>e=.returned (.agg (jF y))/\Ext w' w''):=fun w'=>by rw [<-hy];exact bW n q z w' aeP.1 aeP.2
   clear PW hy aeP;have hk8:k<8:=aa
   have HK8:Hid (k<8/\(k:Int)<2*n):=⟨hk8,bh⟩;go_upto_region 7 with fail;clear bh hk hk8 hw2;have HDd:=hY (xj.u.ext (xZ _).drew);have HRd:=hY (LK.u.ext (xZ _).drew);have ay4:True:=trivial;refine dm (S:=fun _=>True) af trivial (fun ay4=>?_);refine tq 0 ?_;refine tq 2 ?_;refine tq 3 ?_;refine tq 4 ?_;refine tq 5 ?_;refine tq 6 ?_;refine tq 7 ?_;refine tq 8 ?_;refine o2 1 9 (fun K hK=>?wL) fun K hK=>?wC
   case' wL=>
    have c1:=HDd.u.b.cell 1;have Si:_=some (Value.slice A (k) cap):=c1;clear c1;go_simp;refine hK.out _ _ trivial (fun ay4=>?_);clear hK K ay4;have ay4:True:=trivial
    (try refine pt ?_)
    clear Si;refine o1 9 fun K hK=>?_
    go_simp;refine (HS.u _).mono ?_;rintro e v5 ⟨rfl,bK⟩;have Av:=hY (HDd.u.ext bK);have mI:=hY (HRd.u.ext bK);clear bK;refine hK.out _ _ trivial (fun ay4=>?_);clear hK K ay4;have ay4:True:=trivial
    (try refine pt ?_)
    refine o1 10 fun K hK=>?_
    go_simp;have IG:=hY (Av.u.ext ((xZ _).alloc (cO (jF y) 187)));have iL:=hY (mI.u.alloc (cO (jF y) 187));refine hK.out _ _ trivial (fun ay4=>?_);clear hK K ay4;have ay4:True:=trivial
    (try refine pt ?_)
   case' wC=>
    go_simp;refine (HS.u _).mono ?_;rintro e v5 ⟨rfl,bK⟩;have Av:=hY (HDd.u.ext bK);have mI:=hY (HRd.u.ext bK);clear bK;refine hK.out _ _ trivial (fun ay4=>?_);clear hK K ay4;have ay4:True:=trivial
    (try refine pt ?_)
    refine o2 1 10 (fun K hK=>?wL2) fun K hK=>?wC2
   case' wL2=>
    have c1:=Av.u.b.cell 1;have Si:_=some (Value.slice A (k) cap):=c1;clear c1;go_simp;refine hK.out _ _ trivial (fun ay4=>?_);clear hK K ay4;have ay4:True:=trivial
    (try refine pt ?_)
    clear Si;refine o1 10 fun K hK=>?_
    go_simp;have IG:=hY (Av.u.ext ((xZ _).alloc (cO (jF y) 187)));have iL:=hY (mI.u.alloc (cO (jF y) 187));refine hK.out _ _ trivial (fun ay4=>?_);clear hK K ay4;have ay4:True:=trivial
    (try refine pt ?_)
   case' wC2=>
    go_simp;have IG:=hY (Av.u.ext ((xZ _).alloc (cO (jF y) 187)));have iL:=hY (mI.u.alloc (cO (jF y) 187));refine hK.out _ _ trivial (fun ay4=>?_);clear hK K ay4;have ay4:True:=trivial
    (try refine pt ?_)
    refine o1 1 fun K hK=>?_
    have c1:=IG.u.b.cell 1;have Si:_=some (Value.slice A (k) cap):=c1;clear c1;go_simp;refine hK.out _ _ trivial (fun ay4=>?_);clear hK K ay4;have ay4:True:=trivial
    (try refine pt ?_)
    clear Si
   all_goals
    refine o1 11 fun K hK=>?_
    refine DT.step IG.u ah _ _ ah ah y _ ah (eh v5 _ _ 4 _ ez ez) (oN HN.u HK8.u) ?_;intro A' c' w7 ⟨GM,hD7,FW⟩;have VF:=hY hD7;have rO:=hY (FW _ _ _ (uH _) iL.u);have k6:=GM.ck 1;have f6:=GM.frozen 1;clear GM hD7 FW;refine hK.out _ _ trivial (fun ay4=>?_);clear hK K ay4;have ay4:True:=trivial
    (try refine pt ?_)
    refine tq 12 ?_;refine o1 13 fun K hK=>?_
    go_simp;refine hK.out _ _ trivial (fun ay4=>?_);clear hK K ay4;have ay4:True:=trivial
    (try refine pt ?_)
    refine dn ?_;clear k6 f6 ay4;have eM:IntKind.i64.wrap ((k:Int)+1)=((k+1:Nat):Int):=by have:=HK8.u;rw [lH _ aa];rfl
    have iG:=wB k (oM HK8.u);go_wp2;go_roundw
    case rel=>exact ⟨k+1,A',c',by first|rfl|rw [eM]|rw [iG],oM HK8.u.2,by rw [Wf,HYY.u];exact VF,rO⟩
    case measure=>simp [intOf,iG];have:=HK8.u;omega
  ·have iG:k=2*n.toNat:=aa
   have HID:Hid (idL n k=RE n.toNat):=by unfold Hid;rw [iG];exact aa0 h1 h4
   clear iG;obtain ⟨⟨c0,c1⟩,-⟩:=bt xj.u.b;obtain ⟨⟨d0,d1⟩,f0,f1⟩:=bt LK.u;go_wp2;have sR:Hid (ay (dN wr w.heap.size (iI n) (.slice A k cap)) w.heap.size 147 #[iI n,.slice A k cap]):=LK.u.dN _ _;refine bR (v:=.agg #[iI n,.slice A k cap]) ?_ rfl ?_
   rotate_left
   ·exact ⟨⟨_,rfl,HID.u ▸ jX.put (rs:=[]) (n:=0) xj.u (uH _) _ _⟩,dH (g:=w.heap.size) xj.u.x (lI _) _ _⟩
   ·exact ajs rfl sR.u _ af rfl
def wk (n:Int) (gs:List Gt):Option (List Pa):=if MV n gs=true then rH n gs else none
theorem Qw {n:Int} {gs:List Gt} (h:MV n gs=false):wk n gs=none:=by unfold wk;rw [h];rfl
theorem Dz {n:Int} {gs:List Gt} (h:MV n gs=true):wk n gs=rH n gs:=by unfold wk;rw [h];rfl
theorem Wj {n:Int} {gs:List Gt} (h:MV n gs=true):1<=n/\n<=4:=by
  unfold MV at h;simp only [lF,lu] at h
  exact ⟨h.1.1.1,h.1.1.2⟩
theorem Sj (n:Int) (gs:List Gt) (g:Gt):rH n (gs++[g])=(rH n gs).bind fun rs=>fa n rs g:=by unfold rH;rw [sG];rfl
theorem Sk (n:Int) (gs:List Gt):rH n (gs.take 0)=some (RE n.toNat):=by rw [yQ];rfl
theorem Hc {n:Int} {gs:List Gt} {k:Nat} {g:Gt} {rs:List Pa} (hg:gs[k]?=some g) (h:rH n (gs.take k)=some rs):rH n (gs.take (k+1))=fa n rs g:=by
  rw [Ns,hg];show rH n (gs.take k++[g])=_;rw [Sj,h];rfl
theorem DA (n:Int):∀gs:List Gt,gs.foldl (fun t g=>t.bind fun rs=>fa n rs g) (none:Option (List Pa))=none
  |[]=>rfl
  |g::gs=>by rw [PI];exact DA n gs
theorem Sl {n:Int} {gs:List Gt} {k:Nat} (h:rH n (gs.take k)=none):rH n gs=none:=by
  have e:rH n gs=rH n (gs.take k++gs.drop k):=by rw [qW]
  rw [e];unfold rH at h |-;rw [sG,h]
  exact DA n _
theorem DB {n:Int} {rs AE:List Pa} {g:Gt} (h:fa n rs g=some AE):AE.length=rs.length:=by
  unfold fa at h;split at h
  · injection h with h;subst h;rw [jk]
  · cases h
theorem Qx (k:Nat):(RE k).length=2*k:=by unfold RE;rw [lA,jk,jk,Nt];omega
theorem qw {W:World} {q t n B:Nat} {z0 z1:Value} {A:OA} {xs:List Value} (h:Rd W B 4 A n xs) (hb:ay W q t #[z0,z1]) (a b:Value):Rd (dN W q a b) B 4 A n xs:=by
  refine ⟨h.1,fun hn=>?_⟩;obtain ⟨b',o,e,rb,hc⟩:=h.2 hn;refine ⟨b',o,e,rb,fun j u hu=>?_⟩;have hne:b'≠q:=by
    rintro rfl;have hlen:=h.1;have h3:=hc 3 _ (lB aa);rw [hb.cell] at h3;rw [zL ag] at h3
    cases h3
  have e1:(dN W q a b).heap[b']?=W.heap[b']?:=(mO _ ⟨q,1,none⟩ b b' hne).trans (mO _ ⟨q,0,none⟩ a b' hne)
  exact (sD (a:=⟨b',o+j,none⟩) e1).trans (hc j u hu)
theorem kx (W:World) (q:Nat) (a b:Value):(dN W q a b).heap.size=W.heap.size:=by simp [dN]
def CG (w W:World) (A:OA) (l c:Nat) (n:Int) (q:Nat):Prop:=
  ay W w.heap.size 50 #[iI n,.slice A l c]/\ay W (w.heap.size+1) 147 jC/\w.heap.size+2<=q/\Ext w W
theorem CG.ext {w W W':World} {A:OA} {l c q:Nat} {n:Int} (h:CG w W A l c n q) (hx:Ext W W'):CG w W' A l c n q:=⟨h.1.ext hx,h.2.1.ext hx,h.2.2.1,h.2.2.2.trans hx⟩
theorem CG.put {w W:World} {A:OA} {l c q:Nat} {n:Int} (h:CG w W A l c n q) (a b:Value):CG w (dN W q a b) A l c n q:=
  ⟨(h.1.bX (p:=(aA q 0)) kD a).bX (p:=(aA q 1)) kD b,
   (h.2.1.bX (p:=(aA q 0)) kD a).bX (p:=(aA q 1)) kD b,h.2.2.1,dH (g:=q) h.2.2.2 (oM h.2.2.1) a b⟩
def CT (W:World) (n:Int) (q:Nat) (A:OA) (m c:Nat) (rs:List Pa):Prop:=
  ay W q 147 #[iI n,.slice A m c]/\Rd W W.heap.size 4 A m (aV rs)/\m<=c/\m<=8/\rs.length=m
theorem CT.ext {W W':World} {n:Int} {q m c:Nat} {A:OA} {rs:List Pa} (h:CT W n q A m c rs) (hx:Ext W W'):CT W' n q A m c rs:=⟨h.1.ext hx,h.2.1.ext hx,h.2.2⟩
theorem CT.copy {W:World} {n:Int} {q s m c:Nat} {A:OA} {rs:List Pa} {z0 z1:Value} (h:CT W n s A m c rs) (hb:ay W q 147 #[z0,z1]):CT (dN W q (iI n) (.slice A m c)) n q A m c rs:=
  ⟨hb.dN _ _,by rw [kx];exact qw h.2.1 hb _ _,h.2.2⟩
theorem CT.fill {W:World} {n:Int} {s m c:Nat} {A:OA} {rs:List Pa} {z0 z1:Value} (hr:Rd W W.heap.size 4 A m (aV rs)) (hc:m<=c) (h8:m<=8) (hl:rs.length=m) (hb:ay W s 147 #[z0,z1]):CT (dN W s (iI n) (.slice A m c)) n s A m c rs:=
  ⟨hb.dN _ _,by rw [kx];exact qw hr hb _ _,hc,h8,hl⟩
theorem CT.u {W:World} {n:Int} {q m c r:Nat} {A:OA} {rs:List Pa} {z0 z1:Value} (h:CT W n q A m c rs) (hb:ay W r 147 #[z0,z1]) (a b:Value):jX n rs (.agg #[iI n,.slice A m c]) (dN W r a b):=by
  obtain ⟨-,h2,h3,-,h5⟩:=h;subst h5
  exact ⟨A,c,rfl,by rw [kx];exact qw h2 hb _ _,h3⟩
theorem jq {n:Int} {rs:List Pa} {e:Ending} {w:World} {t:Option (List Pa)} {m:Nat} (ht:t=some rs) (hm:rs.length=m) (h:nz n t e w):∃(A:OA) (c:Nat),e=.returned (.tuple #[.agg #[iI n,.slice A m c],.bool true])/\Rd w w.heap.size 4 A m (aV rs)/\m<=c:=by
  subst ht hm;obtain ⟨v,he,A,c,rfl,hr,hc⟩:=h
  exact ⟨A,c,he,hr,hc⟩
theorem wm {n:Int} {e:Ending} {w:World} {t:Option (List Pa)} (ht:t=none) (h:nz n t e w):e=.returned (.tuple #[.agg jC,.bool false]):=by subst ht;exact h
def gz (k:Int):Gt:=⟨k,0,0,0⟩
theorem Wk {α:Type} (f:α->α->Bool) (hf:∀a b,f a b=true->a=b):∀xs ys:List α,zS f xs ys=true->xs=ys
 |[],[],_=>rfl
 |[],_::_,h=>by simp [zS] at h
 |_::_,[],h=>by simp [zS] at h
 |x::xs,y::ys,h=>by
  rw [zS,lF] at h;rw [hf x y h.1,Wk f hf xs ys h.2]
theorem aeR (a b:Pa) (h:PZ a b=true):a=b:=by
 obtain ⟨a1,a2,a3,a4⟩:=a;obtain ⟨b1,b2,b3,b4⟩:=b;simp [PZ] at h;obtain ⟨⟨⟨rfl,rfl⟩,rfl⟩,rfl⟩:=h;rfl
theorem aor (a b:Gt) (h:Gn a b=true):a=b:=by
 obtain ⟨a1,a2,a3,a4⟩:=a;obtain ⟨b1,b2,b3,b4⟩:=b;simp [Gn] at h;obtain ⟨⟨⟨rfl,rfl⟩,rfl⟩,rfl⟩:=h;rfl
def qx (a b:List Pa):Bool:=zS PZ a b
theorem DD {a b:List Pa}:qx a b=true ↔ a=b:=⟨Wk PZ aeR a b,fun h=>by subst h;exact pC PZ UR a⟩
def pg (s:List (List Gt ×List Pa)) (i:Nat) (k:Int):List (List Gt ×List Pa):=match s[i]? with
 |none=>s
 |some p=>match fa 1 p.2 (gz k) with
  |none=>s
  |some u=>if (s.any fun q=>qx q.2 u)=true then s else s++[(p.1++[gz k],u)]
def jI:Nat->List (List Gt ×List Pa)
 |0=>[([],RE 1)]
 |j+1=>pg (jI j) (j / 6) ((j % 6:Nat)+1)
def Ov:List (List Gt ×List Pa):=[([],[⟨1,1,0,0⟩,⟨1,0,1,0⟩]),([gz 1],[⟨1,1,0,0⟩,⟨1,0,1,2⟩]),([gz 2],[⟨1,1,0,2⟩,⟨1,0,1,2⟩]),([gz 3],[⟨1,1,0,2⟩,⟨1,0,1,0⟩]),([gz 4],[⟨1,0,1,0⟩,⟨1,1,0,0⟩]),([gz 5],[⟨1,1,1,1⟩,⟨1,0,1,0⟩]),([gz 6],[⟨1,1,1,3⟩,⟨1,0,1,0⟩]),([gz 1,gz 4],[⟨1,0,1,0⟩,⟨1,1,0,2⟩]),([gz 1,gz 5],[⟨1,1,1,1⟩,⟨1,0,1,2⟩]),([gz 1,gz 6],[⟨1,1,1,3⟩,⟨1,0,1,2⟩]),([gz 2,gz 4],[⟨1,0,1,2⟩,⟨1,1,0,2⟩]),([gz 3,gz 4],[⟨1,0,1,2⟩,⟨1,1,0,0⟩]),([gz 4,gz 5],[⟨1,0,1,0⟩,⟨1,1,1,1⟩]),([gz 4,gz 6],[⟨1,0,1,0⟩,⟨1,1,1,3⟩]),([gz 5,gz 4],[⟨1,1,1,3⟩,⟨1,1,0,0⟩]),([gz 6,gz 4],[⟨1,1,1,1⟩,⟨1,1,0,0⟩]),([gz 1,gz 5,gz 4],[⟨1,1,1,3⟩,⟨1,1,0,2⟩]),([gz 1,gz 6,gz 4],[⟨1,1,1,1⟩,⟨1,1,0,2⟩]),([gz 2,gz 4,gz 5],[⟨1,0,1,2⟩,⟨1,1,1,3⟩]),([gz 2,gz 4,gz 6],[⟨1,0,1,2⟩,⟨1,1,1,1⟩]),([gz 4,gz 5,gz 4],[⟨1,1,0,0⟩,⟨1,1,1,3⟩]),([gz 4,gz 6,gz 4],[⟨1,1,0,0⟩,⟨1,1,1,1⟩]),([gz 5,gz 4,gz 6],[⟨1,1,0,2⟩,⟨1,1,1,3⟩]),([gz 6,gz 4,gz 5],[⟨1,1,0,2⟩,⟨1,1,1,1⟩])]
def cnt (i:Nat):Nat:=[1,7,10,11,12,14,15,16,16,17,18,20,20,21,22,23,24,24,24,24,24,24,24,24,24].getD i 24
def ajt (s:List (List Gt ×List Pa)) (i:Nat):List (List Gt ×List Pa):=pg (pg (pg (pg (pg (pg s i 1) i 2) i 3) i 4) i 5) i 6
theorem aos:(List.range 24).map (fun i=>ajt (Ov.take (cnt i)) i)=(List.range 24).map (fun i=>Ov.take (cnt (i+1))):=af
theorem aa3 {i:Nat} (hi:i<24):ajt (Ov.take (cnt i)) i=Ov.take (cnt (i+1)):=by
 have h:=sI (fun l=>l[i]?) aos;simp only [sF,List.getElem?_range hi,Nx,fW] at h
 exact h
theorem Qy:∀i:Nat,i<=24->jI (6*i)=Ov.take (cnt i)
 |0,_=>rfl
 |i+1,hi=>by
  rw [<-aa3 aa,<-Qy i aa];have e:6*(i+1)=6*i+5+1:=aa
  have d:∀t,t<6->(6*i+t) / 6=i/\(6*i+t) % 6=t:=fun t ht=>aa
  rw [e];show pg (pg (pg (pg (pg (pg (jI (6*i)) ((6*i) / 6) (((6*i) % 6:Nat)+1)) ((6*i+1) / 6) (((6*i+1) % 6:Nat)+1)) ((6*i+2) / 6) (((6*i+2) % 6:Nat)+1)) ((6*i+3) / 6) (((6*i+3) % 6:Nat)+1)) ((6*i+4) / 6) (((6*i+4) % 6:Nat)+1)) ((6*i+5) / 6) (((6*i+5) % 6:Nat)+1)=_;rw [show 6*i / 6=i by omega,show 6*i % 6=0 by omega,(d 1 aa).1,(d 1 aa).2,(d 2 aa).1,(d 2 aa).2,(d 3 aa).1,(d 3 aa).2,(d 4 aa).1,(d 4 aa).2,(d 5 aa).1,(d 5 aa).2];rfl
theorem Wl (s:List (List Gt ×List Pa)) (i:Nat) (k:Int):s<+:pg s i k:=by
 unfold pg;split
 ·exact Ix _
 ·split
  ·exact Ix _
  ·split
   ·exact Ix _
   ·exact List.prefix_append _ _
theorem Bv:∀(i j:Nat),jI i<+:jI (i+j)
 |i,0=>Ix _
 |i,j+1=>(Bv i j).trans (Wl _ _ _)
theorem Jk {j:Nat} (hj:j<=144):jI j<+:Ov:=by
 have h:=Bv j (144 - j);rw [show j+(144 - j)=6*24 by omega,Qy 24 aa] at h
 exact h
theorem Jl {j:Nat} (hj:j<=144):1<=(jI j).length/\(jI j).length<=24:=by
 refine ⟨?_,(Jk hj).length_le⟩;have:=(Bv 0 j).length_le;rw [lM] at this
 exact this
theorem aeS {i:Nat} (hi:i<24):i<(jI (6*i)).length:=by
 rw [Qy i aa];have h:(List.range 24).all (fun i=>decide (i<(Ov.take (cnt i)).length))=true:=af
 exact xD (kc.1 h i (BS.2 hi))
def lY (rs:List Pa) (p:Pa):Pa:=
 let o:Pa:=⟨p.n,0,0,p.p⟩
 let o:=if Ct p.x 0=true then mulR o (rs.getD 0 P0) else o
 if Ct p.z 0=true then mulR o (rs.getD 1 P0) else o
def Hd (a b:List Pa):List Pa:=[lY b (a.getD 0 P0),lY b (a.getD 1 P0)]
def lZ (rs:List Pa):Int:=if (rs.getD 1 P0).x=0 then 0 else if (rs.getD 0 P0).x=0 then 1 else 2
def dI (k:Int):List Gt:=if k=1 then [gz 4] else if k=2 then [gz 6,gz 4] else []
def ky (gs:List Gt):List Pa:=(rH 1 gs).getD []
def Kr (cl:List Pa):List Pa:=
 if ((Hd (ky (gG (dI (lZ cl)))) cl).getD 1 P0).p=2 then (fa 1 (Hd (ky (gG (dI (lZ cl)))) cl) (gz 5)).getD [] else Hd (ky (gG (dI (lZ cl)))) cl
structure Nf where
 sy:List Int
 cl:List Pa
def LL (s:Nf):Nf:=
 if lZ s.cl=0/\0<s.sy.length then ⟨s.sy.take (s.sy.length - 1),Hd (ky (dI (s.sy.getLastD 0)++[gz 5])) (Kr s.cl)⟩ else ⟨s.sy++[lZ s.cl],Kr s.cl⟩
def FA (s:Nf) (k:Int):Nf:=if k=7 then LL s else if k=8 then LL ⟨s.sy,(fa 1 s.cl (gz 6)).getD []⟩ else ⟨s.sy,(fa 1 s.cl (gz k)).getD []⟩
def nf0:Nf:=⟨[],RE 1⟩
def wu (ks:List Int):Nf:=ks.foldl FA nf0
def T24:List (List Pa):=Ov.map (·.2)
def vD (t:List Pa):Bool:=T24.any (qx t)
theorem aa4 {t:List Pa} (h:vD t=true):t∈T24:=by
 obtain ⟨u,hu,he⟩:=yO.1 h;rw [DD.1 he]
 exact hu
theorem He {f:List Pa->Bool} (h:T24.all f=true) {t:List Pa} (ht:vD t=true):f t=true:=kc.1 h t (aa4 ht)
theorem aeT:vD (RE 1)=true:=af
theorem gL (t:List Pa) (h:vD t=true):mB 1 t=true/\t.length=2:=by
 have h1:=He (f:=fun t=>mB 1 t && t.length==2) af h;rw [lF,dc] at h1
 exact h1
theorem pM {t:List Pa} (h:vD t=true) {k:Int} (hk:1<=k/\k<=6):∃u,fa 1 t (gz k)=some u/\vD u=true:=by
 have h1:=He (f:=fun t=>(List.range 6).all fun j=>match fa 1 t (gz ((j:Int)+1)) with|none=>false|some u=>vD u) af h;obtain ⟨j,rfl⟩:∃j:Nat,k=(j:Int)+1:=⟨(k - 1).toNat,aa⟩;have h2:=kc.1 h1 j (BS.2 aa)
 cases he:fa 1 t (gz ((j:Int)+1)) with
 |none=>rw [he] at h2;cases h2
 |some u=>rw [he] at h2;exact ⟨u,rfl,h2⟩
theorem Bx {t:List Pa} (h:vD t=true):vD (Kr t)=true:=He (f:=fun t=>vD (Kr t)) af h
theorem aa5 {t:List Pa} (h:vD t=true) {m:Int} (hm:0<=m/\m<=2):vD (Hd (ky (dI m++[gz 5])) t)=true:=by
 have h1:=He (f:=fun t=>(List.range 3).all fun j=>vD (Hd (ky (dI (j:Int)++[gz 5])) t)) af h;obtain ⟨j,rfl⟩:=lD hm.1
 exact kc.1 h1 j (BS.2 aa)
theorem Qz (rs:List Pa):0<=lZ rs/\lZ rs<=2:=by unfold lZ;split<;>(try split)<;>omega
theorem tu (k:Int):(dI k).length<=2:=by unfold dI;split<;>(try split)<;>simp
def Ow (sy:List Int):Bool:=sy.all (fun k=>decide (0<=k/\k<=2)) && (sy.drop 1).all (fun k=>!(k==0))
structure Sm (s:Nf) (n:Nat):Prop where
 c:vD s.cl=true
 y:Ow s.sy=true
 l:s.sy.length<=n
theorem Wm {sy:List Int} (h:Ow sy=true) (k:Nat):Ow (sy.take k)=true:=by
 unfold Ow at*
 rw [lF] at*
 refine ⟨kc.2 fun x hx=>kc.1 h.1 x (Gk hx),kc.2 fun x hx=>kc.1 h.2 x ?_⟩;rw [List.drop_take] at hx
 exact Gk hx
theorem aa6 {sy:List Int} (h:Ow sy=true) {k:Int} (hk:0<=k/\k<=2) (h0:sy=[]\/k≠0):Ow (sy++[k])=true:=by
 unfold Ow at*
 rw [lF] at*
 refine ⟨by rw [nX,h.1];simp;exact hk,?_⟩;rcases h0 with rfl|h0
 ·rfl
 ·cases sy with
  |nil=>rfl
  |cons a r=>
   have h2:=h.2;simp only [nY,Iq,xE] at h2 |-;rw [nX,h2];simpa using h0
theorem Wn {sy:List Int} (h:Ow sy=true) (hl:0<sy.length):0<=sy.getLastD 0/\sy.getLastD 0<=2:=by
 unfold Ow at h;rw [lF] at h;have hne:sy≠[]:=fun e=>by rw [e] at hl;simp at hl
 have e:sy.getLastD 0=sy.getLast hne:=by rw [Nh,Uo hne];rfl
 rw [e]
 exact xD (kc.1 h.1 _ (List.getLast_mem hne))
theorem Wq {s:Nf} {n:Nat} (h:Sm s n):Sm (LL s) (n+1):=by
 unfold LL;split
 ·rename_i hc
  exact ⟨aa5 (Bx h.c) (Wn h.y hc.2),Wm h.y _,by show (s.sy.take _).length<=_;rw [lT];have:=h.l;omega⟩
 ·rename_i hc;refine ⟨Bx h.c,aa6 h.y (Qz _) ?_,by show (s.sy++[_]).length<=_;rw [lA];have:=h.l;simp;omega⟩
  by_cases hl:0<s.sy.length
  ·right;intro e
   exact hc ⟨e,hl⟩
  ·left
   exact xu aa
theorem aeU {s:Nf} {n:Nat} (h:Sm s n) {k:Int} (hk:1<=k/\k<=8):Sm (FA s k) (n+1):=by
 unfold FA;split
 ·exact Wq h
 ·split
  ·obtain ⟨u,hu,hi⟩:=pM h.c (k:=6) aa;rw [hu]
   exact Wq ⟨hi,h.y,h.l⟩
  ·obtain ⟨u,hu,hi⟩:=pM h.c (k:=k) aa;rw [hu]
   exact ⟨hi,h.y,by have:=h.l;show s.sy.length<=_;omega⟩
theorem aeV:Sm nf0 0:=⟨aeT,rfl,lI _⟩
theorem Hf (ks:List Int) (k:Int):wu (ks++[k])=FA (wu ks) k:=by unfold wu;rw [sG];rfl
theorem By {ks:List Int} (h:∀k∈ks,1<=k/\k<=8):∀j:Nat,j<=ks.length->Sm (wu (ks.take j)) j
 |0,_=>by rw [yQ];exact aeV
 |j+1,hj=>by
  have hg:ks[j]?=some (ks[j]' aa):=lB _;rw [aL hg,Hf]
  exact aeU (By h j aa) (h _ (BU _))
def cwd (t:List Pa):List Gt:=match Ov.find? (fun p=>qx p.2 t) with
 |none=>[]
 |some p=>p.1
theorem Jm (t:List Pa):(cwd t).length<=3:=by
 unfold cwd;split
 ·simp
 ·rename_i p hp;have h:Ov.all (fun p=>decide (p.1.length<=3))=true:=af
  exact xD (kc.1 h p (Iu hp))
def Bb (s:Nf):List Gt:=(s.sy.flatMap fun k=>dI k++[gz 7])++cwd s.cl
theorem Jn:∀sy:List Int,(sy.flatMap fun k=>dI k++[gz 7]).length<=3*sy.length
 |[]=>ag
 |k::sy=>by
  rw [fK,lA,lA];have:=Jn sy;have:=tu k;simp only [ij,uI];omega
theorem LM (s:Nf):(Bb s).length<=3*s.sy.length+3:=by
 unfold Bb;rw [lA];have:=Jn s.sy;have:=Jm s.cl;omega
def Jo (g:Gt):Nat:=if (g.k==7)=true then 100 else if (g.k==8)=true then 100 else 1
def lf (gs:List Gt):Nat:=(gs.map Jo).sum
def aa7 (xs:List Gt):Bool:=xs.all fun g=>ar g.k==1 && vg g 4 && g.a==(xs.headD ⟨0,0,0,0⟩).a
def DE (xs:List Gt):List Gt:=(Bb (wu (xs.map Gt.k))).map fun g=>⟨g.k,(xs.headD ⟨0,0,0,0⟩).a,g.b,g.c⟩
def short (xs:List Gt):List Gt:=if (aa7 xs && decide (2<=xs.length) && decide (lf (Bb (wu (xs.map Gt.k)))<lf xs))=true then DE xs else xs
theorem zq (xs:List Gt):(short xs).length<=6*xs.length:=by
 unfold short;split
 ·rename_i h;simp only [lF,lu] at h;unfold DE;rw [jk];have h1:=LM (wu (xs.map Gt.k));have h2:∀k∈xs.map Gt.k,1<=k/\k<=8:=fun k hk=>by
   obtain ⟨g,hg,rfl⟩:=zM.1 hk;have h3:=kc.1 h.1.1 g hg;simp only [lF,dc] at h3;have h4:=h3.1.1;unfold ar at h4;split at h4
   ·omega
   ·split at h4
    ·omega
    ·split at h4<;>omega
  have h3:=(By h2 _ (lI _)).l;rw [jt,jk] at h3;omega
 ·omega
def Ks (r:Nat->List Gt) (q:Nat) (xs:List Gt):Nat->List Gt:=fun i=>if i=q then xs else r i
def emit (s:List Gt ×(Nat->List Gt)) (q:Nat):List Gt ×(Nat->List Gt):=(s.1++short (s.2 q),Ks s.2 q [])
def jx (s:List Gt ×(Nat->List Gt)) (qs:List Int):List Gt ×(Nat->List Gt):=qs.foldl (fun s q=>emit s q.toNat) s
def nA (s:List Gt ×(Nat->List Gt)) (g:Gt):List Gt ×(Nat->List Gt):=
 if ar g.k=1 then (s.1,Ks s.2 g.a.toNat (s.2 g.a.toNat++[g])) else ((jx s (pa g)).1++[g],(jx s (pa g)).2)
def qy (xs:List Gt):List Gt ×(Nat->List Gt):=xs.foldl nA ([],fun _=>[])
def ej (xs:List Gt) (n:Int):List Gt:=if (xs.all fun g=>vg g n)=true then (jx (qy xs) [0,1,2,3]).1 else xs
def LN (r:Nat->List Gt):Nat:=(r 0).length+(r 1).length+(r 2).length+(r 3).length
theorem Wt {r:Nat->List Gt} {q:Nat} (hq:q<4) (xs:List Gt):LN (Ks r q xs)+(r q).length=LN r+xs.length:=by
 unfold LN Ks;rcases (show q=0\/q=1\/q=2\/q=3 by omega) with rfl|rfl|rfl|rfl<;>simp<;>omega
theorem Wu {s:List Gt ×(Nat->List Gt)} {q:Nat} (hq:q<4):(emit s q).1.length+6*LN (emit s q).2<=s.1.length+6*LN s.2:=by
 unfold emit;have h1:=Wt (r:=s.2) hq [];have h2:=zq (s.2 q);simp only [lA,uI] at*
 omega
theorem zr:∀(qs:List Int) (s:List Gt ×(Nat->List Gt)),(∀q∈qs,0<=q/\q<4)->(jx s qs).1.length+6*LN (jx s qs).2<=s.1.length+6*LN s.2
 |[],s,_=>lI _
 |q::qs,s,h=>by
  have h1:=zr qs (emit s q.toNat) fun x hx=>h x (pz _ hx)
  have h2:=Wu (s:=s) (q:=q.toNat) (oM (h q (nV ..)))
  exact lK h1 h2
theorem ek (k:Int) (w:World):Calls prog 138 #[iI k] w fun e w'=>(∃v,e=.returned v/\w'.ownsRow w.heap.size 54 4 v (dI k).length (ak (dI k)))/\Ext w w':=by
 by_cases h1:k=1
 ·subst h1;go_enter func138,ntmps138;go_wp2_with fail;refine (aM 4 0 _ (xZ _)).mono ?_;rintro e w1 ⟨rfl,aS⟩;have HO:Hid ((w1.alloc (cO #[iI 4,iI 0,iI 0,iI 0] 54)).ownsRow w.heap.size 54 4 (.slice (some ⟨w1.heap.size,0,none⟩) 1 1) 1 (ak [gz 4])/\Ext w (w1.alloc (cO #[iI 4,iI 0,iI 0,iI 0] 54))):=⟨bL aS _ _ 4 1 _ _ rfl rfl rfl aa,aS.alloc _⟩;clear aS;go_wp2;go_ret
  exact ⟨⟨_,rfl,HO.u.1⟩,HO.u.2⟩
 by_cases h2:k=2
 ·subst h2;clear h1;go_enter func138,ntmps138;go_wp2_with fail;refine (aM 6 0 _ (xZ _)).mono ?_;rintro e w1 ⟨rfl,aS⟩;go_wp2_with fail;refine (aM 4 0 _ (xZ _)).mono ?_;rintro e w2 ⟨rfl,bH⟩;have hx:=aS.trans bH;have HO:Hid ((w2.alloc (cO #[iI 6,iI 0,iI 0,iI 0,iI 4,iI 0,iI 0,iI 0] 54)).ownsRow w.heap.size 54 4 (.slice (some ⟨w2.heap.size,0,none⟩) 2 2) 2 (ak [gz 6,gz 4])/\Ext w (w2.alloc (cO #[iI 6,iI 0,iI 0,iI 0,iI 4,iI 0,iI 0,iI 0] 54))):=⟨bL hx _ _ 4 2 _ _ rfl rfl rfl aa,hx.alloc _⟩;clear aS bH hx;go_wp2;go_ret
  exact ⟨⟨_,rfl,HO.u.1⟩,HO.u.2⟩
 have HV:Hid (dI k=[]):=by unfold Hid dI;rw [aK h1,aK h2]
 have e1:(k==1)=false:=sU h1
 have e2:(k==2)=false:=sU h2
 have HO:Hid ((w.alloc (cO #[] 54)).ownsRow w.heap.size 54 4 (.slice (some ⟨w.heap.size,0,none⟩) 0 0) 0 (ak [])):=aJ w w _ 4 (xZ _);go_enter func138,ntmps138;go_wp2;go_ret;rw [HV.u]
 exact ⟨⟨_,rfl,HO.u⟩,(xZ _).alloc _⟩
theorem Sn {gs:List Gt} {k:Nat} {g:Gt} (h:gs[k]?=some g):lf (gs.take (k+1))=lf (gs.take k)+Jo g:=by
 unfold lf;rw [aL h];simp
theorem aa8 (g:Gt):Jo g<=100:=by unfold Jo;split<;>(try split)<;>omega
theorem aa9 (gs:List Gt):lf gs<=100*gs.length:=by
 unfold lf
 induction gs with
 |nil=>simp
 |cons g gs ih=>have:=aa8 g;simp;omega
theorem So (gs:List Gt) (k:Nat):lf (gs.take k)<=100*k:=by
 have h1:=aa9 (gs.take k);have h2:(gs.take k).length<=k:=qU _ _;omega
theorem aeW {g:Gt} (h:(g.k==7)=true):Jo g=100:=aX h
theorem aeX {g:Gt} (h:(g.k==7)=false) (h2:(g.k==8)=true):Jo g=100:=by unfold Jo;rw [aK aW,aX h2]
theorem aeY {g:Gt} (h:(g.k==7)=false) (h2:(g.k==8)=false):Jo g=1:=by unfold Jo;rw [aK aW,aK fp]
theorem tx {P:Prop} (h:P:=by
 go_wp2;go_round
 case rel=>exact ⟨k+1,aa,az,by rw [HS.u,HC.u];go_num⟩
 case measure=>simp [intOf];omega):P:=h
theorem pN (A:OA) (n c:Nat) (gs:List Gt) (w:World) (h:Rd w w.heap.size 4 A n (ak gs)) (hn:n<=2000000000000):
  Calls prog 126 #[.slice A n c] w fun e w'=>e=.returned (iI (lf gs:Nat))/\Ext w w':=by
 have hlen:=hY (h.len Gt.aE aa);go_enter func126,ntmps126;go_wp2
 go_loop [3,4] (fun v i=>∃k:Nat,k<=n/\i=iI k/\v=iI (lf (gs.take k):Nat)) (fun _ i=>n - (intOf i).toNat)
 case atStart=>exact ⟨0,lJ _,rfl,rfl⟩
 case round=>
  obtain ⟨k,hk,rfl,rfl⟩:=hrel;have hle:=So gs k
  by_cases bh:k<n
  ·obtain ⟨b,o,g,rfl,hb,hg,h0,h1,h2,h3⟩:=bE h bh;have HS:=hY (Sn hg);clear hg
   cases h7:(g.k==7)
   ·cases h8:(g.k==8)
    ·have HC:=hY (aeY h7 h8)
     exact tx
    ·have HC:=hY (aeX h7 h8)
     exact tx
   ·have HC:=hY (aeW h7)
    exact tx
  ·rw [lE bN];go_wp2;go_ret
   exact ⟨rfl,xZ _⟩
end Go.Proofs.YtiajdbllccmokaaGreatDoor
