import Derived.Test.YtiajdbllccmokaaGreatDoorXx
import Derived.Test.YtiajdbllccmokaaGreatDoorXy
namespace Go.Proofs.YtiajdbllccmokaaGreatDoor
open Go.ChangeShapes Go.WideShapes Go.ChangeAt Go.RowKit Go.Deep Go.Proofs.Tryz
set_option linter.unusedVariables false
set_option linter.unusedSimpArgs false
set_option maxRecDepth 100000
set_option maxHeartbeats 16000000
def Ez (w:World) (v:Value) (s:Nf):Prop:=∃(Y:OA) (cy:Nat) (A:OA) (c:Nat),v=.agg #[.slice Y s.sy.length cy,iI 1,.slice A 2 c]/\
 Rd w w.heap.size 1 Y s.sy.length (aG s.sy)/\Rd w w.heap.size 4 A 2 (aV s.cl)/\s.sy.length<=cy/\2<=c
theorem Ez.ext {w w':World} {v:Value} {s:Nf} (h:Ez w v s) (hx:Ext w w'):Ez w' v s:=by
 obtain ⟨Y,cy,A,c,h1,h2,h3,h4⟩:=h
 exact ⟨Y,cy,A,c,h1,h2.ext hx,h3.ext hx,h4⟩
theorem oz {t:List Pa} (h:vD t=true):∃r0 r1,t=[r0,r1]/\gS r0=true/\r0.n=1/\gS r1=true/\r1.n=1:=by
 obtain ⟨r0,r1,rfl⟩:=aib (gL t h).2;have h1:=He (f:=fun t=>t.all fun r=>gS r && r.n==1) af h;simp only [List.all_cons,List.all_nil,mP,lF,dc] at h1
 exact ⟨r0,r1,rfl,h1.1.1,h1.1.2,h1.2.1,h1.2.2⟩
theorem Xu {sy:List Int} (h:Ow sy=true) {k:Nat} {x:Int} (hx:sy[k]?=some x):(0<=x/\x<=2)/\(0<k->x≠0):=by
 unfold Ow at h;rw [lF] at h;refine ⟨xD (kc.1 h.1 x (lG hx)),fun hk=>?_⟩;have h2:(sy.drop 1)[k - 1]?=some x:=by rw [xw,show 1+(k - 1)=k by omega];exact hx
 have h3:=kc.1 h.2 x (lG h2);simpa using h3
theorem hZ (v:Value) (s:Nf) (w:World) (h:Ez w v s) (hn:s.sy.length<=1800000000000) (hc:vD s.cl=true) (hy:Ow s.sy=true):
  Calls prog 137 #[v] w fun e w'=>e=.returned (.bool true)/\Ext w w':=by
 obtain ⟨Y,cy,A,c,rfl,FE,Gd,QP,sg⟩:=h;obtain ⟨sy,cl⟩:=s;simp only at FE Gd QP hn hc hy |-;obtain ⟨r0,r1,rfl,-⟩:=oz hc;have hv:=(gL _ hc).1;have HIV:Hid (∀w',Ext w w'->Calls prog 141 #[.agg #[iI 1,.slice A 2 c]] w' fun e w''=>e=.returned (.bool true)/\Ext w' w''):=fun w' hx=>by
  have h9:=cC A c 1 [r0,r1] w' (Gd.ext hx) ag sg;rw [hv] at h9
  exact h9
 have HY:=hY FE;have HVS:=hY hy;obtain ⟨n,vA⟩:=ex (sy.length);rw [vA] at HY QP hn |-;clear FE Gd hv hc hy vA;have HB:Hid (ay (w.alloc (cO #[.slice Y n cy,iI 1,.slice A 2 c] 168)) w.heap.size 168 #[.slice Y n cy,iI 1,.slice A 2 c]):=ay.new w _ _;have HX:Hid (Ext w (w.alloc (cO #[.slice Y n cy,iI 1,.slice A 2 c] 168))):=(xZ w).alloc _;go_enter func137,ntmps137;go_upto_region 1 with fail;generalize w.alloc (cO #[.slice Y n cy,iI 1,.slice A 2 c] 168)=W1 at*
 have b0:=HB.u.ck 0;go_wp2;clear b0
 go_loopw [3] (fun i wr=>∃k:Nat,k<=n/\i=iI k/\Hid (Ext W1 wr)) (fun i _=>n - (intOf i).toNat)
 case atStart=>exact ⟨0,lJ _,rfl,xZ _⟩
 case round=>
  obtain ⟨k,hk,rfl,SX⟩:=hrel;have b0:=(HB.u.ext SX.u).ck 0;have b1:=(HB.u.ext SX.u).ck 1;have b2:=(HB.u.ext SX.u).ck 2
  by_cases bh:k<n
  ·obtain ⟨b,o,x,rfl,-,hx,x0⟩:=eT (HY.u.ext (HX.u.trans SX.u)) bh;obtain ⟨bH,cH⟩:=Xu HVS.u hx;have bS:=hY bh;have dP:=hY (wC k aa);clear hx
   by_cases rE:k=0
   ·subst rE;clear cH;rw [qY] at x0;go_wp2_with fail;refine (aF x 0 2 _ bH.1 bH.2).mono ?_;rintro e wq ⟨rfl,rfl⟩;go_wp2;go_roundw
    case rel=>exact ⟨1,oM bS.u,by first|rfl|rw [dP.u.1]|rw [dP.u.2],SX⟩
    case measure=>simp [intOf];have:=bS.u;omega
   ·have hxb:(x==0)=false:=by have:=cH aa;simpa using this
    have hkb:decide ((k:Int)>0)=true:=aj
    have hkp:(0:Int)<(k:Int):=aa
    clear cH;go_wp2_with fail;refine (aF x 0 2 _ bH.1 bH.2).mono ?_;rintro e wq ⟨rfl,rfl⟩;go_wp2;go_roundw
    case rel=>exact ⟨k+1,oM bS.u,by first|rfl|rw [dP.u.1]|rw [dP.u.2],SX⟩
    case measure=>simp [intOf,dP.u.2];have:=bS.u;omega
  ·have jT:k=n:=aa
   subst jT;go_wp2_with fail;refine (HIV.u _ (HX.u.trans SX.u)).mono ?_;rintro e w9 ⟨rfl,tA⟩;have mJ:=hY (SX.u.trans tA);clear tA b0 b1 b2;have b1:=(HB.u.ext mJ.u).ck 1;go_wp2;go_ret
   exact ⟨rfl,HX.u.trans mJ.u⟩
def nG (w:World) (g bf:Nat) (P:Int->Prop) (e:Ending) (w':World):Prop:=
 ∃(N:Int) (A:OA) (len cap:Nat) (es:List Ed),e=.returned (.agg #[.int .i64 N,.slice A len cap])/\P N/\len<=bf/\w'.ownsRow w.heap.size 95 2 (.slice A len cap) len (bD es)/\dY w' g/\w.grownBy w' (some g)/\∀e∈es,e.ok
def PF (w:World) (b n:Nat) (xs:List Int):Prop:=∃cur,ay w b 3 cur/\∀j,j<n->(cur[j]?=some (.int .i64 (xs.getD j 0))/\ob (xs.getD j 0))
section
variable {w w':World} {b n B size m:Nat} {v:Value} {xs:List Int} {ys:List Value}
theorem PF.lt (h:PF w b n xs):b<w.heap.size:=by obtain ⟨_,hc,_⟩:=h;exact hc.lt
theorem PF.cell (h:PF w b n xs) {j:Nat} (hj:j<n):w.cell? (aA b j)=some (.int .i64 (xs.getD j 0)):=by
 obtain ⟨_,hc,hx⟩:=h
 exact (hc.cell j).trans (hx j hj).1
theorem PF.rng (h:PF w b n xs) {j:Nat} (hj:j<n):ob (xs.getD j 0):=by
 obtain ⟨_,_,hx⟩:=h
 exact (hx j hj).2
theorem PF.alloc (h:PF w b n xs) (o:Obj):PF (w.alloc o) b n xs:=by obtain ⟨_,hc,hx⟩:=h;exact ⟨_,hc.alloc o,hx⟩
theorem PF.bX (h:PF w b n xs) {p:Addr} (hp:b≠p.block) (u:Value):PF (w.setCell p u) b n xs:=by obtain ⟨_,hc,hx⟩:=h;exact ⟨_,hc.bX hp u,hx⟩
theorem PF.grown {row:Option Nat} (h:PF w b n xs) (hg:w.grownBy w' row) (hr:∀k,row=some k->b≠k):PF w' b n xs:=by obtain ⟨_,hc,hx⟩:=h;exact ⟨_,hc.grown hg hr,hx⟩
theorem PF.of {c:Nat} (h:eU w b c n):∃xs,PF w b n xs:=by
 obtain ⟨_,_,cur,hc,_,xs,_,hr,hx⟩:=h
 exact ⟨xs,cur,hc,fun j hj=>⟨hx j hj,hr j⟩⟩
theorem PF.apart (h:PF w b n xs) (ho:w.ownsRow B 95 size v m ys):∀q,v.ownBlock=some q->b≠q:=by
 intro q hq e;subst e;obtain ⟨cur,hc,_⟩:=h;rcases ho.2 with ⟨rfl,_⟩|⟨b',iJ,Uv,rfl,_,xG,_⟩
 ·cases hq
 ·injection hq with hq;subst hq;rw [hc] at xG;injection xG with xG;injection xG with _ xG
  exact absurd xG ae
end
theorem DG.at {w0 w:World} {g s:Nat} {N:Int} {A:OA} {len cap:Nat} {gs:List Ed} (h:DG w0 w g s N A len cap gs):gs.length=len/\eR w w.heap.size (.agg #[.int .i64 N,.slice A len cap]) ⟨N,gs⟩:=by
 have hr:=Rd.own h.2.2.1;have hl:=Rd.len (f:=Ed.cells) (fun _=>eB) aa hr;subst hl
 exact ⟨rfl,A,cap,rfl,hr⟩
theorem nG.mk {w w':World} {g bf:Nat} {P:Int->Prop} (N:Int) (A:OA) (len cap:Nat) (es:List Ed) (h1:P N) (h2:len<=bf) (h3:w'.ownsRow w.heap.size 95 2 (.slice A len cap) len (bD es)/\dY w' g/\w.grownBy w' (some g)/\∀e∈es,e.ok):nG w g bf P (.returned (.agg #[.int .i64 N,.slice A len cap])) w':=
 ⟨N,A,len,cap,es,rfl,h1,h2,h3⟩
def GL (w0 w:World) (g s:Nat) (N:Int) (A:OA) (len cap:Nat) (es:List Ed) (b n:Nat) (xs:List Int):Prop:=DG w0 w g s N A len cap es/\PF w b n xs/\s<b
section
variable {w0 w w':World} {g s:Nat} {N:Int} {A:OA} {len cap b n:Nat} {es:List Ed} {xs:List Int}
theorem GL.cur (h:GL w0 w g s N A len cap es b n xs):dY w g:=h.1.2.2.2.2.1
theorem GL.lt (h:GL w0 w g s N A len cap es b n xs):b<w.heap.size:=h.2.1.lt
theorem GL.cell (h:GL w0 w g s N A len cap es b n xs):∀j,j<n->w.cell? (aA b j)=some (.int .i64 (xs.getD j 0)):=fun _ hj=>h.2.1.cell hj
theorem GL.drew (h:GL w0 w g s N A len cap es b n xs):GL w0 w.drew g s N A len cap es b n xs:=⟨h.1.drew,h.2.1,h.2.2⟩
theorem GL.alloc (h:GL w0 w g s N A len cap es b n xs) (o:Obj):GL w0 (w.alloc o) g s N A len cap es b n xs:=⟨h.1.alloc o,h.2.1.alloc o,h.2.2⟩
theorem GL.grown (h:GL w0 w g s N A len cap es b n xs) (hg:w.grownBy w' (some g)) (hC:dY w' g) (hs:g<s) (hl:g<w0.heap.size):GL w0 w' g s N A len cap es b n xs:=
 ⟨h.1.grown hg hC hs hl,h.2.1.grown hg (fun k hk=>by injection hk;have:=h.2.2;omega),h.2.2⟩
theorem GL.bX (h:GL w0 w g s N A len cap es b n xs) {t j:Nat} (u:Value) (ht:b<t) (hw:w0.heap.size<t) (hl:g<w0.heap.size) (hq:∀q,(Value.slice A len cap).ownBlock=some q->q≠t):GL w0 (w.setCell ⟨t,j,none⟩ u) g s N A len cap es b n xs:=by
 obtain ⟨⟨h1,h2,h3,h4,h5,h6,h9⟩,h7,h8⟩:=h;refine ⟨⟨h1.bX (p:=(aA t j)) aj _,h2.bX (p:=(aA t j)) aj _,?_,h4,h5.ba (p:=(aA t j)) aj _,fE h6 (p:=(aA t j)) aj _,h9⟩,h7.bX (p:=(aA t j)) aj _,h8⟩;refine h3.kept (row:=some t) (cB (jN w (some t)) j _) ?_
 cases hv:(Value.slice A len cap).ownBlock with
 |none=>exact .inl rfl
 |some q=>exact .inr (fun e=>hq q hv dr)
theorem GL.app {A':OA} {c':Nat} {y:Ed} (h:GL w0 w g s N A len cap es b n xs) (hy:y.ok) (hs:w0.heap.size<s) (hl:g<w0.heap.size)
  (ho:w'.ownsRow (w0.heap.size+1) 95 2 (.slice A' (len+1) c') (len+1) (bD (es++[y]))) (hg:w.grownBy w' (Value.slice A len cap).ownBlock)
  (hb:(Value.slice A' (len+1) c').ownBlock=(Value.slice A len cap).ownBlock\/(Value.slice A' (len+1) c').ownBlock=some (w.heap.size+1)):
  ay w' s 42 #[.int .i64 N,.slice A len cap]/\GL w0 (w'.setCell ⟨s,1,none⟩ (.slice A' (len+1) c')) g s N A' (len+1) c' (es++[y]) b n xs:=by
 obtain ⟨h1,h2⟩:=h.1.app hy hs hl ho hg hb
 exact ⟨h1,h2,(h.2.1.grown hg (fun k hk=>h.2.1.apart h.1.2.2.1 k hk)).bX (p:=(aA s 1)) (by have:=h.2.2;simp;omega) _,h.2.2⟩
def GE (w0 w:World) (g s:Nat) (N:Int) (A:OA) (len cap:Nat) (es:List Ed) (b n:Nat) (xs:List Int) (t:Nat) (y z:Int):Prop:=
 GL w0 w g s N A len cap es b n xs/\ay w t 95 #[.int .i64 y,.int .i64 z]/\b<t/\w0.heap.size<t/\(∀q,(Value.slice A len cap).ownBlock=some q->q≠t)/\Ed.ok ⟨y,z⟩
theorem Ed.ok.sw {a b:Int} (h:Ed.ok ⟨a,b⟩):Ed.ok ⟨b,a⟩:=⟨h.2,h.1⟩
theorem GE.grown {t:Nat} {y z:Int} (h:GE w0 w g s N A len cap es b n xs t y z) (hg:w.grownBy w' (some g)) (hC:dY w' g) (hs:g<s) (hl:g<w0.heap.size):GE w0 w' g s N A len cap es b n xs t y z:=
 ⟨h.1.grown hg hC hs hl,h.2.1.grown hg (fun q hq=>by injection hq;have:=h.2.2.1;have:=h.1.2.2;omega),h.2.2⟩
theorem GE.nP {t:Nat} {y z:Int} (h:GE w0 w g s N A len cap es b n xs t y z) (hl:g<w0.heap.size) (u v:Int) (ho:Ed.ok ⟨u,v⟩):GE w0 ((w.setCell ⟨t,0,none⟩ (.int .i64 u)).setCell ⟨t,1,none⟩ (.int .i64 v)) g s N A len cap es b n xs t u v:=
 ⟨(h.1.bX _ h.2.2.1 h.2.2.2.1 hl h.2.2.2.2.1).bX _ h.2.2.1 h.2.2.2.1 hl h.2.2.2.2.1,h.2.1.nP _ _,h.2.2.1,h.2.2.2.1,h.2.2.2.2.1,ho⟩
theorem GE.app {t:Nat} {u v:Int} {A':OA} {c':Nat} {y:Ed} (h:GE w0 w g s N A len cap es b n xs t u v) (hy:y.ok) (hs:w0.heap.size<s) (hl:g<w0.heap.size)
  (ho:w'.ownsRow (w0.heap.size+1) 95 2 (.slice A' (len+1) c') (len+1) (bD (es++[y]))) (hg:w.grownBy w' (Value.slice A len cap).ownBlock)
  (hb:(Value.slice A' (len+1) c').ownBlock=(Value.slice A len cap).ownBlock\/(Value.slice A' (len+1) c').ownBlock=some (w.heap.size+1)):
  ay w' s 42 #[.int .i64 N,.slice A len cap]/\GE w0 (w'.setCell ⟨s,1,none⟩ (.slice A' (len+1) c')) g s N A' (len+1) c' (es++[y]) b n xs t u v:=by
 obtain ⟨h1,h2⟩:=h.1.app hy hs hl ho hg hb;have:=h.2.2.1;have:=h.1.2.2;have:=h.2.1.lt;refine ⟨h1,h2,(h.2.1.grown hg (fun k hk e=>h.2.2.2.2.1 k hk e.symm)).bX (p:=(aA s 1)) aj _,h.2.2.1,h.2.2.2.1,(fun q hq=>?_),h.2.2.2.2.2⟩;rcases hb with hb|hb
 ·exact h.2.2.2.2.1 q (hb ▸ hq)
 ·rw [hb] at hq;injection hq;omega
end
theorem EA {P:Prop} (h:P:=by
 obtain ⟨⟨b0,b1⟩,z0,z1⟩:=fu HG4.u.1.2.1;obtain ⟨⟨a0,a1⟩,y0,y1⟩:=fu HG4.u.1.1;go_wp2
 exact bR (v:=.agg #[.int .i64 k,.slice A len cap]) (Eo rfl HG4.u.1.1 (.int .i64 k) (.slice A len cap) _ rfl) rfl (nG.mk k A len cap es rfl aa (HG4.u.1.done df))):P:=h
theorem mD (g n:Nat) (hn:1<=n/\n<=4) (w:World) (h:dY w g):
  Calls prog 62 #[.pointer (some ⟨g,0,none⟩),.int .i64 n] w (nG w g 7 (fun N=>N=(n:Int))):=by
 have df:=h.lt;obtain ⟨nM,xT⟩:=id hn;go_enter func62,ntmps62;go_wp2_with fail;refine (qm g n hn _ ((h.alloc _).alloc _)).mono ?_;rintro e w2 ⟨b,c,rfl,hb,Zn,CJ,vv⟩;obtain ⟨xs,Zn⟩:=PF.of Zn;have zk:=((ay.new w 42 #[.int .i64 0,nS]).alloc _).grown vv (fun k hk=>aw);have hB7:=(ay.newAt (w:=w.alloc (cO #[.int .i64 0,nS] 42)) (t:=42) (cs:=#[.int .i64 n,nS]) (b:=w.heap.size+1) ag).grown vv (fun k hk=>aw);have jL:w.grownBy w2 (some g):=bY ((((xZ w).alloc _).alloc _).gr _) vv;have ZF:GL w w2 g (w.heap.size+1) n none 0 0 [] b n xs:=⟨⟨zk,hB7,⟨ag,.inl ⟨rfl,rfl⟩⟩,(fun q hq=>by cases hq),CJ,jL,ag⟩,Zn,by simp at hb;omega⟩;clear zk hB7 CJ jL vv Zn;generalize hs:w.heap.size+1=s at ZF |-;have HS:=hY hs;have um:w.heap.size<s:=aa
 have fi:g<s:=aa
 clear hs hb;go_wp2
 go_loopw [7] (fun i wr=>∃(k:Nat) (A:OA) (len cap:Nat) (es:List Ed),1<=k/\k<=n/\i=.int .i64 k/\len<=2*(k - 1)/\GL w wr g s n A len cap es b n xs) (fun i _=>n - (intOf i).toNat)
 case atStart=>exact ⟨1,none,0,0,[],lI _,nM,rfl,lJ _,ZF⟩
 case round=>
  clear ZF;obtain ⟨k,A,len,cap,es,eM,jT,rfl,hlen,ZF⟩:=hrel
  by_cases bh:k<n
  ·have rE:(0:Int)<=(k:Int):=aa
   have awi:(k:Int)<(n:Int):=aa
   have Ua:=hY ZF;clear ZF;go_wp2;refine dm (S:=fun W=>GL w W g s n A len cap es b n xs/\∀j,j<n->W.cell? (aA b j)=some (.int .i64 (xs.getD j 0))) af ⟨Ua.u.drew,Ua.u.drew.cell⟩ (fun ay4=>?_);refine tq 0 ?_;refine tq 1 ?_;refine tq 2 ?_;refine tq 3 ?_;refine tq 4 ?_;refine tq 5 ?_;refine tq 6 ?_;refine o2 7 11 (fun K hK=>?wA) fun K hK=>?wB
   case' wA=>
    go_simp;refine (aU g k _ ay4.1.cur aa).mono ?_;rintro e w3 ⟨x,rfl,⟨cH,aS,_⟩,Fw,FQ⟩;obtain ⟨j,rfl⟩:=lD cH;have hj:j<n:=dS
    have FY:(0:Int)<=(j:Int):=aa
    have Qa:(j:Int)<(n:Int):=aa
    clear cH aS;have EB:=ay4.1.grown FQ Fw fi df;refine ov hK ⟨EB,EB.cell⟩ fun ay4=>?_
    refine tq 8 ?_;refine tq 9 ?_;refine tq 10 ?_
    (refine iE (rs:=[11]) af ag ?_;refine gV rfl (fun K hK=>?_) iD;go_simp)
    refine ov hK ⟨ay4.1.alloc _,(ay4.1.alloc _).cell⟩ fun ay4=>?_
    (refine iE (rs:=[12]) af ag ?_;refine gV rfl (fun K hK=>?_) iD;go_simp)
    have hE:=ay.newAt (w:=w3) (t:=95) (cs:=#[.int .i64 (xs.getD k 0),.int .i64 (xs.getD j 0)]) (b:=w3.heap.size) rfl;have wN:=EB.alloc (cO #[.int .i64 (xs.getD k 0),.int .i64 (xs.getD j 0)] 95);refine ov hK ⟨wN,wN.cell⟩ fun ay4=>?_
    refine dn ?_;have SY:=hE;have tI:=wN;have Ub:=EB.lt;have hqt:=fun q hq=>(IU EB.1.2.2.1 (lI _) q hq).2
    have hsb:=EB.2.2;have ht:w.heap.size<w3.heap.size:=aa
    clear hE EB wN ay4 FQ Fw hsb;clear ay4;have hyz:Ed.ok ⟨xs.getD k 0,xs.getD j 0⟩:=⟨tI.2.1.rng bh,tI.2.1.rng hj⟩;simp only [lP] at SY tI hyz;generalize xs[k]?.getD 0=y at SY tI hyz |-;generalize xs[j]?.getD 0=z at SY tI hyz |-;generalize hW:w3.alloc _=W at SY tI |-;clear hW;generalize ht':w3.heap.size=t at SY hqt Ub ht |-
   case' wB=>
    go_simp;have hE:=ay.newAt (w:=wr) (t:=95) (cs:=#[.int .i64 0,.int .i64 0]) (b:=wr.heap.size) rfl;have EB:=(Ua.u.alloc (cO #[.int .i64 0,.int .i64 0] 95)).drew;refine ov hK ⟨EB,EB.cell⟩ fun ay4=>?_
    (refine iE (rs:=[7]) af ag ?_;refine gV rfl (fun K hK=>?_) iD;go_simp)
    refine (aU g k _ ay4.1.cur aa).mono ?_;rintro e w3 ⟨x,rfl,⟨cH,aS,_⟩,Fw,FQ⟩;obtain ⟨j,rfl⟩:=lD cH;have hj:j<n:=dS
    have FY:(0:Int)<=(j:Int):=aa
    have Qa:(j:Int)<(n:Int):=aa
    clear cH aS;have wN:=ay4.1.grown FQ Fw fi df;refine ov hK ⟨wN,wN.cell⟩ fun ay4=>?_
    refine tq 8 ?_;refine tq 9 ?_;refine tq 10 ?_;have Ub:=Ua.u.lt;have hqt:=fun q hq=>(IU Ua.u.1.2.2.1 (lI _) q hq).2
    have hsb:=Ua.u.2.2;have hE3:=hE.drew.grown (w':=w3) FQ (fun q hq=>by injection hq;omega);have xf:=hE3.ck 0;have vu:∀u,(w3.setCell ⟨wr.heap.size,0,none⟩ u).cell? (aA wr.z 1)=some (.int .i64 0):=fun u=>(hE3.ba 0 u).cell 1
    have xl:=hE3.frozen 0;have Ho:∀u,(w3.setCell ⟨wr.heap.size,0,none⟩ u).frozen? (aA wr.z 1)=false:=fun u=>(hE3.ba 0 u).frozen 1
    (refine iE (rs:=[12]) af ag ?_;refine gV rfl (fun K hK=>?_) iD;go_simp)
    have tI:=(wN.bX (t:=wr.heap.size) (j:=0) (.int .i64 (xs.getD k 0)) Ub aa df hqt).bX (t:=wr.heap.size) (j:=1) (.int .i64 (xs.getD j 0)) Ub aa df hqt;refine ov hK ⟨tI,tI.cell⟩ fun ay4=>?_
    refine dn ?_;have SY:=hE3.nP (.int .i64 (xs.getD k 0)) (.int .i64 (xs.getD j 0));have ht:w.heap.size<wr.heap.size:=aa
    clear hE EB wN hE3 xf vu xl Ho ay4 FQ Fw hsb;clear ay4;have hyz:Ed.ok ⟨xs.getD k 0,xs.getD j 0⟩:=⟨tI.2.1.rng bh,tI.2.1.rng hj⟩;simp only [lP] at SY tI hyz;generalize xs[k]?.getD 0=y at SY tI hyz |-;generalize xs[j]?.getD 0=z at SY tI hyz |-;generalize hW:(w3.setCell _ _).setCell _ _=W at SY tI |-;clear hW;generalize ht':wr.heap.size=t at SY hqt Ub ht |-
   all_goals
    clear ht';have hGE:GE w W g s n A len cap es b n xs t y z:=⟨tI,SY,Ub,ht,hqt,hyz⟩;clear tI SY Ub ht hqt hyz;go_wp2_with fail;refine (fO g 2 W hGE.1.cur aa).mono ?_;rintro e w4 ⟨f1,rfl,sj,xn⟩;have Be:=hGE.grown xn sj fi df;clear hGE xn sj W Ua;have OV:=Be.1.1.2.1.lt;have ht4:=Be.2.1.lt
    cases f1
    case' false=>
     have HG:=hY Be;obtain ⟨⟨b0,b1⟩,z0,z1⟩:=fu Be.1.1.2.1;obtain ⟨⟨a0,a1⟩,y0,y1⟩:=fu Be.2.1;clear Be;go_wp2_with (at_builtin;refine Xj (B:=w.heap.size+1) rfl _ _ rfl _ len _ rfl HG.u.1.1.2.2.1 aa ⟨_,_⟩ _ _ rfl rfl aa ?_;intro A7 c7 w7 ho hg hb;have HA:=hY (HG.u.app HG.u.2.2.2.2.2 um df ho hg hb);have k6:w7.cell? (aA s 1)=some (.slice A len cap):=HA.u.1.cell 1;have f6:w7.frozen? (aA s 1)=false:=HA.u.1.frozen 1;clear ho hg hb)
    case' true=>
     have HG:=hY (Be.nP df z y Be.2.2.2.2.2.sw);obtain ⟨⟨b0,b1⟩,z0,z1⟩:=fu HG.u.1.1.2.1;obtain ⟨⟨a0,a1⟩,y0,y1⟩:=fu Be.2.1;obtain ⟨⟨c0,c1⟩,x0,x1⟩:=fu HG.u.2.1;have Ol:=HG.u.1.1.2.1.lt;have y2:∀u,(w4.setCell ⟨t,0,none⟩ u).cell? (aA t 1)=some (.int .i64 z):=fun u=>(Be.2.1.ba 0 u).cell 1
     have y3:∀u,(w4.setCell ⟨t,0,none⟩ u).frozen? (aA t 1)=false:=fun u=>(Be.2.1.ba 0 u).frozen 1
     clear Be;go_wp2_with (at_builtin;go_loud (refine Xj (B:=w.heap.size+1) rfl _ _ rfl _ len _ rfl HG.u.1.1.2.2.1 aa ⟨_,_⟩ _ _ ah ag aa ?_;intro A7 c7 w7 ho hg hb;have HA:=hY (HG.u.app HG.u.2.2.2.2.2 um df ho hg hb);have k6:w7.cell? (aA s 1)=some (.slice A len cap):=HA.u.1.cell 1;have f6:w7.frozen? (aA s 1)=false:=HA.u.1.frozen 1;clear ho hg hb))
     clear x0 x1 c0 c1 Ol y2 y3
    all_goals
     clear b0 b1 z0 z1 a0 a1 y0 y1;clear k6 f6;refine (fO g 4 _ HA.u.2.1.cur aa).mono ?_;rintro e w8 ⟨f2,rfl,hC8,hG8⟩;have Mh:=HA.u.2.grown hG8 hC8 fi df;clear HA HG hC8 hG8;have hs8:=Mh.1.1.2.1.lt;have hw8:=Mh.1.1.1.lt
     cases f2
     ·have HG:=hY Mh;clear Mh;go_wp2;go_roundw
      case rel=>exact ⟨k+1,_,len+1,_,_,aa,aa,ag,aa,HG.u.1⟩
      case measure=>simp [intOf];omega
     ·have HG:=hY Mh;obtain ⟨⟨b0,b1⟩,z0,z1⟩:=fu Mh.1.1.2.1;obtain ⟨⟨a0,a1⟩,y0,y1⟩:=fu Mh.2.1;clear Mh;go_wp2_with (at_builtin;refine Xj (B:=w.heap.size+1) rfl _ _ rfl _ (len+1) _ rfl HG.u.1.1.2.2.1 aa ⟨_,_⟩ _ _ rfl rfl aa ?_;intro A9 c9 w9 ho hg hb;have HA:=hY (HG.u.app HG.u.2.2.2.2.2.sw um df ho hg hb);have k6:w9.cell? (aA s 1)=some (.slice A7 (len+1) c7):=HA.u.1.cell 1;have f6:w9.frozen? (aA s 1)=false:=HA.u.1.frozen 1;clear ho hg hb)
      clear b0 b1 z0 z1 a0 a1 y0 y1 k6 f6;go_roundw
      case rel=>exact ⟨k+1,_,len+1+1,_,_,aa,aa,ag,aa,HA.u.2.1⟩
      case measure=>simp [intOf];omega
  ·have jT:k=n:=aa
   subst jT;have rE:¬((k:Int)<(k:Int)):=aa
   have hs8:=ZF.1.2.1.lt;have hw8:=ZF.1.1.lt;have HG:=hY ZF;clear ZF
   by_cases h2:k<=2
   ·have h2':¬((2:Int)<(k:Int)):=aa
    obtain ⟨⟨b0,b1⟩,z0,z1⟩:=fu HG.u.1.2.1;obtain ⟨⟨a0,a1⟩,y0,y1⟩:=fu HG.u.1.1;go_wp2;refine dm (S:=fun W=>GL w W g s k A len cap es b k xs) af HG.u.drew (fun ay4=>?_);refine tq 0 ?_
    (refine nW (i:=1) (v:=.bool false) rfl af af af (fun _ _ _ h=>h) (Or.inl ⟨ah,?_⟩) aQ ?_;· (intro w hSw;(try dsimp only at hSw);go_simp;first|done|(trace_state;omega)))
    (try refine pt ?_)
    refine tq 2 ?_;refine sk 3 ?_;refine sk 4 ?_;refine tq 5 ?_;refine tq 6 ?_;refine sk 7 ?_;refine sk 8 ?_;refine sk 9 ?_;refine sk 10 ?_;refine sk 11 ?_;refine sk 12 ?_;refine sk 13 ?_;refine sk 14 ?_;refine sk 15 ?_;refine sk 16 ?_;refine sk 17 ?_;refine tq 18 ?_;refine dn ?_;go_wp2
    exact bR (v:=.agg #[.int .i64 k,.slice A len cap]) (Eo rfl HG.u.1.drew.1 (.int .i64 k) (.slice A len cap) _ rfl) rfl (nG.mk k A len cap es rfl aa (HG.u.1.drew.done df))
   ·have h2':(2:Int)<(k:Int):=aa
    obtain ⟨m,hm⟩:∃m:Nat,(k:Int) - 1=(m:Int):=⟨k - 1,aa⟩;have hm0:(0:Int)<=(m:Int):=aa
    have hmk:(m:Int)<(k:Int):=aa
    have awk:(0:Int)<(k:Int):=aa
    have hkN:0<k:=aa
    have hmN:m<k:=aa
    obtain ⟨⟨b0,b1⟩,z0,z1⟩:=fu HG.u.1.2.1;obtain ⟨⟨a0,a1⟩,y0,y1⟩:=fu HG.u.1.1;go_wp2;have hS:∀W,GL w W g s k A len cap es b k xs->GL w W g s k A len cap es b k xs/\W.cell? (aA b 0)=some (.int .i64 (xs.getD 0 0))/\W.cell? (aA b m)=some (.int .i64 (xs.getD m 0))/\W.cell? (aA s 0)=some (.int .i64 k)/\W.cell? (aA s 1)=some (.slice A len cap):=fun W h=>⟨h,h.cell 0 aa,h.cell m aa,h.1.2.1.cell 0,h.1.2.1.cell 1⟩
    refine dm (S:=fun W=>GL w W g s k A len cap es b k xs/\W.cell? (aA b 0)=some (.int .i64 (xs.getD 0 0))/\W.cell? (aA b m)=some (.int .i64 (xs.getD m 0))/\W.cell? (aA s 0)=some (.int .i64 k)/\W.cell? (aA s 1)=some (.slice A len cap)) af (hS _ HG.u.drew) (fun ay4=>?_);refine tq 0 ?_
    (refine nW (i:=1) (v:=.bool true) rfl af af af (fun _ _ _ h=>h) (Or.inl ⟨ah,?_⟩) aQ ?_;· (intro w hSw;(try dsimp only at hSw);go_simp;first|done|(trace_state;omega)))
    (try refine pt ?_)
    refine tq 2 ?_;refine tq 3 ?_
    (refine iE (rs:=[4]) af ag ?_;refine gV rfl (fun K hK=>?_) iD;go_simp)
    refine (fO g 3 _ ay4.1.cur aa).mono ?_;rintro e w4 ⟨f1,rfl,sj,xn⟩;have wN:=ay4.1.grown xn sj fi df;refine ov hK (hS _ wN) fun ay4=>?_
    clear xn
    cases f1
    ·refine tq 5 ?_;refine tq 6 ?_;refine sk 7 ?_;refine sk 8 ?_;refine sk 9 ?_;refine sk 10 ?_;refine sk 11 ?_;refine sk 12 ?_;refine sk 13 ?_;refine sk 14 ?_;refine sk 15 ?_;refine sk 16 ?_;refine sk 17 ?_;refine tq 18 ?_;refine dn ?_;have HG4:=hY wN;clear b0 b1 z0 z1 a0 a1 y0 y1 wN ay4
     exact EA
    ·refine tq 5 ?_;refine tq 6 ?_;refine tq 7 ?_;refine tq 8 ?_;refine tq 9 ?_;refine tq 10 ?_;refine tq 11 ?_;refine tq 12 ?_
     (refine nW (i:=13) (v:=.int .i64 m) rfl af af af (fun _ _ _ h=>h) (Or.inl ⟨ah,?_⟩) aQ ?_;· (intro w hSw;(try dsimp only at hSw);go_simp;first|done|exact lH _ aa))
     (try refine pt ?_)
     refine tq 14 ?_;refine tq 15 ?_
     (refine iE (rs:=[16]) af ag ?_;refine gV rfl (fun K hK=>?_) iD;go_simp)
     refine (dz _ _ _ _ _ ay4.1.1.at.2 (by have:=ay4.1.1.at.1;simp;omega)).mono ?_;rintro e w5 ⟨rfl,cN⟩;have JH:=ay4.1.grown (cN.gr (some g)) (ay4.1.cur.ext cN) fi df;generalize (fJ _ _ _||fJ _ _ _)=cc;refine hK.out _ _ (hS _ JH) (fun ay4=>?_);clear hK K cN
     (try refine pt ?_)
     cases cc
     ·refine tq 17 ?_;refine tq 18 ?_;refine dn ?_;have HG5:=hY JH;have Ol:=JH.1.2.1.lt;have hw5:=JH.1.1.lt;obtain ⟨-,p0,pm,k0,k1⟩:=hS _ JH;clear b0 b1 z0 z1 a0 a1 y0 y1 JH wN ay4 hS;obtain ⟨⟨b0,b1⟩,z0,z1⟩:=fu HG5.u.1.2.1;have gv:=hY HG5.u.drew;have hwm:IntKind.i64.wrap (m:Int)=(m:Int):=lH _ aa;go_wp2
      go_region_law (first
       |(refine Xi (B:=w.heap.size+1) ah _ _ ah _ len es ah gv.u.1.2.2.1 (oM gv.u.1.1.lt) ⟨_,_⟩ _ _ ah ah aa ?_;intro A6 c6 w6 px Lf hb6;have HA:=hY (gv.u.app (y:=⟨xs.getD 0 0,xs.getD m 0⟩) ⟨gv.u.2.1.rng hkN,gv.u.2.1.rng hmN⟩ um df px Lf hb6);have k6:w6.cell? (aA s 1)=some (.slice A len cap):=HA.u.1.cell 1;have f6:w6.frozen? (aA s 1)=false:=HA.u.1.frozen 1))
      all_goals
       clear k6 f6 b0 b1 z0 z1 k0 k1;have HD:=hY HA.u.2;obtain ⟨⟨b0,b1⟩,z0,z1⟩:=fu HD.u.1.2.1;obtain ⟨⟨a0,a1⟩,y0,y1⟩:=fu HD.u.1.1;go_wp2
       exact bR (v:=.agg #[.int .i64 k,.slice A6 (len+1) c6]) (Eo rfl HD.u.1.1 (.int .i64 k) (.slice A6 (len+1) c6) _ rfl) rfl (nG.mk k A6 (len+1) c6 _ rfl aa (HD.u.1.done df))
     ·refine tq 17 ?_;refine tq 18 ?_;refine dn ?_;have HG4:=hY JH;have hw5:=JH.1.1.lt;clear b0 b1 z0 z1 a0 a1 y0 y1 JH wN ay4
      exact EA
theorem EC {w:World} {B e size n k c:Nat} {A:OA} {xs:List Value} (h:w.ownsRow B e size (.slice A n c) n xs) (hk:k<=n):w.ownsRow B e size (.slice A k c) k (xs.take (k*size)):=by
 have hks:=Ip size hk;obtain ⟨hl,h⟩:=h;refine ⟨by rw [lT,hl];omega,?_⟩;rcases h with ⟨hv,hn⟩|⟨g,cap,cur,hv,hb,hg,h1,h2,h3,h4⟩
 ·injection hv with e1 e2 e3;subst e1;subst e3
  exact .inl ⟨by rw [show k=0 by omega],aa⟩
 ·injection hv with e1 e2 e3;subst e1;subst e3;refine .inr ⟨g,_,cur,rfl,hb,hg,aa,h2,h3,?_⟩;rw [<-h4,List.take_take,Nat.min_eq_left hks]
theorem Mi (k:Nat) (es:List Ed):bD (es.take k)=(bD es).take (k*2):=by
 induction es generalizing k with
 |nil=>simp [bD]
 |cons y es ih=>
  cases k with
  |zero=>simp [bD]
  |succ k=>
   have:=ih k;simp only [bD] at this |-;simp only [uF,fK,this,Ed.cells,nY,lN,yN]
theorem Xv {w:World} {B e size n c:Nat} {A:OA} {xs:List Value} (h:w.ownsRow B e size (.slice A n c) n xs):n<=c:=by
 rcases h.2 with ⟨h0,rfl⟩|⟨g,cap,cur,hv,_,_,KG,_⟩
 ·omega
 ·injection hv with _ _ h3;omega
theorem DG.cut {w0 w:World} {g s:Nat} {N:Int} {A:OA} {len cap:Nat} {gs:List Ed} (h:DG w0 w g s N A len cap gs) {k:Nat} (hk:k<=len) (hs:w0.heap.size<s) (hl:g<w0.heap.size):DG w0 (w.setCell (aA s 1) (.slice A k cap)) g s N A k cap (gs.take k):=by
 obtain ⟨h1,h2,h3,h4,h5,h6,h7⟩:=h;have h3':=EC h3 hk;rw [<-Mi] at h3';have TI:∀q,(Value.slice A k cap).ownBlock=some q->w0.heap.size+1<=q/\q≠s:=by cases A<;>exact h4
 refine ⟨h1.bX (p:=(aA s 1)) aj _,h2.ba 1 _,?_,TI,h5.ba (p:=(aA s 1)) aj _,fE h6 (p:=(aA s 1)) aj _,fun e he=>h7 e (Gk he)⟩;refine h3'.kept (row:=some s) (cB (jN w (some s)) 1 _) ?_
 cases hv:(Value.slice A k cap).ownBlock with
 |none=>exact .inl rfl
 |some q=>exact .inr (fun e=>(TI q hv).2 dr)
theorem Mj (g:Nat) (w:World) (h:dY w g):
  Calls prog 42 #[.pointer (some ⟨g,0,none⟩)] w (nG w g 8 (fun N=> -1<=N/\N<=5)):=by
 have df:=h.lt;go_enter func42,ntmps42;go_wp2_with fail;refine (aU g 4 _ (h.alloc _) aa).mono ?_;rintro e w2 ⟨x,rfl,⟨cH,aS,_⟩,CJ,vv⟩;obtain ⟨n,rfl⟩:=lD cH;have bH:n<4:=dS
 clear aS cH;go_wp2_with fail;obtain ⟨n1,e1,mS,vG⟩:∃n1:Nat,(1:Int)+(n:Int)=(n1:Int)/\1<=n1/\n1<=4:=⟨n+1,aa,aa,aa⟩;rw [e1];clear e1;refine (mD g n1 ⟨aa,aa⟩ _ CJ).mono ?_;rintro e w3 ⟨N,A,len,cap,gs,rfl,rfl,hlen,jm,Fw,FQ,apg⟩;have rh:=(ay.new w 42 jC).grown vv (fun k hk=>aw);have xR:=rh.grown FQ (fun k hk=>aw);have oF:=rh.lt;have Gy:=xR.lt;have Bl:w.grownBy w3 (some g):=bY (bY (((xZ w).alloc _).gr _) vv) FQ;have hD:DG w (w3.alloc (cO #[iI n1,.slice A len cap] 42)) g w3.heap.size n1 A len cap gs:=
  ⟨xR.alloc _,ay.new _ _ _,aq (aC jm oF) ((xZ w3).alloc _),IU (aC jm oF) (lI _),Fw.alloc _,gZ Bl _,apg⟩
 clear rh xR vv FQ Bl CJ jm;go_wp2_with fail;refine (aU g 8 _ (Fw.alloc _) aa).mono ?_;rintro e w4 ⟨x,rfl,⟨cH,aS,_⟩,sj,xn⟩;have bH:=aS aa;clear aS;have fi:g<w3.heap.size:=aa
 have Jc:=hD.grown xn sj fi df;clear hD xn Fw;generalize w3.heap.size=s at*
 have OV:=Jc.2.1.lt;have hw4:=Jc.1.lt;have tS:w.heap.size+1<=w4.heap.size:=aa
 by_cases e0:x=0
 ·subst e0;go_wp2_with fail;refine (dW g _ 5 _ [0,1,4,5, -1] _ (sj.alloc _) (fN w4 _ _ _ 5 1 _ rfl rfl rfl) iT aa).mono ?_;rintro e w5 ⟨z,rfl,hz,jV,gx⟩;have Bu:=(Jc.alloc _).grown gx jV fi df;have jK: -1<=z/\z<=5:=fl
  clear hz Jc sj gx;have hD6:=Bu.aiP z aa df;obtain ⟨⟨b0,b1⟩,z0,z1⟩:=fu Bu.2.1;obtain ⟨⟨a0,a1⟩,y0,y1⟩:=fu Bu.1;have HD:=hY hD6;clear hD6 Bu;go_wp2
  exact bR (v:=.agg #[iI z,.slice A len cap]) (Eo rfl HD.u.1 (iI z) (.slice A len cap) _ rfl) rfl (nG.mk (z) A (len) cap (gs) (jK) aa (HD.u.done df))
 by_cases e1:x=1
 ·subst e1;have td:=hY Jc;obtain ⟨⟨b0,b1⟩,z0,z1⟩:=fu Jc.2.1;clear Jc;go_wp2;have ay4:True:=trivial;refine dm (S:=fun _=>True) af trivial (fun ay4=>?_);refine tq 0 ?_;refine tq 2 ?_;refine tq 5 ?_;refine o2 1 3 (fun K hK=>?wL) fun K hK=>?wC
  case' wL=>
   go_simp;refine hK.out _ _ trivial (fun ay4=>?_);clear hK K ay4;have ay4:True:=trivial
   (try refine pt ?_)
   refine o1 3 fun K hK=>?_
   go_simp;refine (aU g 6 _ td.u.drew.2.2.2.2.1 aa).mono ?_;rintro e w5 ⟨y,rfl,⟨Fq,ki,_⟩,jV,gx⟩;have si:=ki aa;clear ki;have gv:=hY (td.u.drew.grown gx jV fi df);have k1:=gv.u.2.1.ck 1;have Ol:=gv.u.2.1.lt;clear gx;refine hK.out _ _ trivial (fun ay4=>?_);clear hK K ay4;have ay4:True:=trivial
   (try refine pt ?_)
   (refine nW (i:=4) (v:=iI (y - 1)) rfl af af af (fun _ _ _ h=>h) (Or.inl ⟨ah,?_⟩) aQ ?_;· (intro w hSw;(try dsimp only at hSw);go_simp;first|done|exact lH _ aa))
   (try refine pt ?_)
   refine o1 6 fun K hK=>?_
   go_simp;refine (aU g 5 _ jV aa).mono ?_;rintro e w6 ⟨z,rfl,⟨eX,gX,_⟩,xp,ln⟩;have jK:=gX aa;clear gX;have vy:=hY (gv.u.grown ln xp fi df);have m1:=vy.u.2.1.ck 1;have ou:=vy.u.2.1.lt;clear ln;refine hK.out _ _ trivial (fun ay4=>?_);clear hK K ay4;have ay4:True:=trivial
   (try refine pt ?_)
   refine tq 7 ?_;refine o1 8 fun K hK=>?_
   go_simp;refine hK.out _ _ trivial (fun ay4=>?_);clear hK K ay4;have ay4:True:=trivial
   (try refine pt ?_)
  case' wC=>
   go_simp;refine (aU g 6 _ td.u.drew.2.2.2.2.1 aa).mono ?_;rintro e w5 ⟨y,rfl,⟨Fq,ki,_⟩,jV,gx⟩;have si:=ki aa;clear ki;have gv:=hY (td.u.drew.grown gx jV fi df);have k1:=gv.u.2.1.ck 1;have Ol:=gv.u.2.1.lt;clear gx;refine hK.out _ _ trivial (fun ay4=>?_);clear hK K ay4;have ay4:True:=trivial
   (try refine pt ?_)
   (refine nW (i:=4) (v:=iI (y - 1)) rfl af af af (fun _ _ _ h=>h) (Or.inl ⟨ah,?_⟩) aQ ?_;· (intro w hSw;(try dsimp only at hSw);go_simp;first|done|exact lH _ aa))
   (try refine pt ?_)
   refine o2 1 6 (fun K hK=>?wL2) fun K hK=>?wC2
  case' wL2=>
   go_simp;refine hK.out _ _ trivial (fun ay4=>?_);clear hK K ay4;have ay4:True:=trivial
   (try refine pt ?_)
   refine o1 6 fun K hK=>?_
   go_simp;refine (aU g 5 _ jV aa).mono ?_;rintro e w6 ⟨z,rfl,⟨eX,gX,_⟩,xp,ln⟩;have jK:=gX aa;clear gX;have vy:=hY (gv.u.grown ln xp fi df);have m1:=vy.u.2.1.ck 1;have ou:=vy.u.2.1.lt;clear ln;refine hK.out _ _ trivial (fun ay4=>?_);clear hK K ay4;have ay4:True:=trivial
   (try refine pt ?_)
   refine tq 7 ?_;refine o1 8 fun K hK=>?_
   go_simp;refine hK.out _ _ trivial (fun ay4=>?_);clear hK K ay4;have ay4:True:=trivial
   (try refine pt ?_)
  case' wC2=>
   go_simp;refine (aU g 5 _ jV aa).mono ?_;rintro e w6 ⟨z,rfl,⟨eX,gX,_⟩,xp,ln⟩;have jK:=gX aa;clear gX;have vy:=hY (gv.u.grown ln xp fi df);have m1:=vy.u.2.1.ck 1;have ou:=vy.u.2.1.lt;clear ln;refine hK.out _ _ trivial (fun ay4=>?_);clear hK K ay4;have ay4:True:=trivial
   (try refine pt ?_)
   refine tq 7 ?_;refine o2 1 8 (fun K hK=>?wL3) fun K hK=>?wC3
  case' wL3=>
   go_simp;refine hK.out _ _ trivial (fun ay4=>?_);clear hK K ay4;have ay4:True:=trivial
   (try refine pt ?_)
   refine o1 8 fun K hK=>?_
   go_simp;refine hK.out _ _ trivial (fun ay4=>?_);clear hK K ay4;have ay4:True:=trivial
   (try refine pt ?_)
  case' wC3=>
   go_simp;refine hK.out _ _ trivial (fun ay4=>?_);clear hK K ay4;have ay4:True:=trivial
   (try refine pt ?_)
   refine o1 1 fun K hK=>?_
   go_simp;refine hK.out _ _ trivial (fun ay4=>?_);clear hK K ay4;have ay4:True:=trivial
   (try refine pt ?_)
  all_goals
   refine o1 9 fun K hK=>?_
   refine Xi (B:=w.heap.size+1) ah _ _ ah _ len gs ah vy.u.2.2.1 (oM vy.u.1.lt) ⟨y - 1,z⟩ _ _ ah ah aa ?_;intro A6 c6 w7 px Lf hb6;have HA:=hY (vy.u.app (y:=⟨y - 1,z⟩) ⟨by unfold ob;dsimp only;omega,by unfold ob;dsimp only;omega⟩ aa df px Lf hb6);have k6:=HA.u.1.ck 1;have f6:=HA.u.1.frozen 1;clear px Lf hb6;refine hK.out _ _ trivial (fun ay4=>?_);clear hK K ay4;have ay4:True:=trivial
   (try refine pt ?_)
   refine tq 10 ?_;refine o1 11 fun K hK=>?_
   go_simp;refine hK.out _ _ trivial (fun ay4=>?_);clear hK K ay4;have ay4:True:=trivial
   (try refine pt ?_)
   refine dn ?_;clear k6 f6 k1 m1 b0 b1 z0 z1;have HD:=hY HA.u.2;obtain ⟨⟨b0,b1⟩,z0,z1⟩:=fu HD.u.2.1;obtain ⟨⟨a0,a1⟩,y0,y1⟩:=fu HD.u.1;go_wp2
   exact bR (v:=.agg #[iI n1,.slice A6 (len+1) c6]) (Eo rfl HD.u.1 (iI n1) (.slice A6 (len+1) c6) _ rfl) rfl (nG.mk n1 A6 (len+1) c6 _ ⟨aa,aa⟩ aa (HD.u.done df))
 by_cases e2:x=2
 ·subst e2;have td:=hY Jc;obtain ⟨⟨b0,b1⟩,z0,z1⟩:=fu Jc.2.1;clear Jc;have Ss:IntKind.i64.wrap ((len:Int)+1)=(len:Int)+1:=lH _ aa;go_wp2;have ay4:True:=trivial;have hlc:len<=cap:=Xv td.u.2.2.1;refine dm (S:=fun _=>True) af trivial (fun ay4=>?_);refine tq 0 ?_;refine tq 2 ?_;refine tq 3 ?_;refine o2 1 4 (fun K hK=>?vL) fun K hK=>?vM
  case' vL=>
   go_simp;refine hK.out _ _ trivial (fun ay4=>?_);clear hK K ay4;have ay4:True:=trivial
   (try refine pt ?_)
   refine o1 4 fun K hK=>?_
   go_simp;refine hK.out _ _ trivial (fun ay4=>?_);clear hK K ay4;have ay4:True:=trivial
   (try refine pt ?_)
   refine tq 5 ?_
   (refine nW (i:=6) (v:=iI ((len:Int)+1)) rfl af af af (fun _ _ _ h=>h) (Or.inl ⟨ah,?_⟩) aQ ?_;· (intro w hSw;(try dsimp only at hSw);go_simp;first|done|exact lH _ aa))
   (try refine pt ?_)
   refine o1 7 fun K hK=>?_
   go_simp;refine (aU g _ _ td.u.drew.2.2.2.2.1 aa).mono ?_;rintro e w5 ⟨y,rfl,⟨Fq,ki,_⟩,jV,gx⟩;have si:=ki aa;clear ki;have gv:=hY (td.u.drew.grown gx jV fi df);have k1:=gv.u.2.1.ck 1;have f1:=gv.u.2.1.frozen 1;have Ol:=gv.u.2.1.lt;clear gx;obtain ⟨k,rfl⟩:=lD Fq;have uo:k<=len:=aa
   have Vu:k<=cap:=aa
   refine hK.out _ _ trivial (fun ay4=>?_);clear hK K ay4;have ay4:True:=trivial
   (try refine pt ?_)
  case' vM=>
   go_simp;refine hK.out _ _ trivial (fun ay4=>?_);clear hK K ay4;have ay4:True:=trivial
   (try refine pt ?_)
   refine tq 5 ?_
   (refine nW (i:=6) (v:=iI ((len:Int)+1)) rfl af af af (fun _ _ _ h=>h) (Or.inl ⟨ah,?_⟩) aQ ?_;· (intro w hSw;(try dsimp only at hSw);go_simp;first|done|exact lH _ aa))
   (try refine pt ?_)
   refine o2 1 7 (fun K hK=>?vL2) fun K hK=>?vC2
  case' vL2=>
   go_simp;refine hK.out _ _ trivial (fun ay4=>?_);clear hK K ay4;have ay4:True:=trivial
   (try refine pt ?_)
   refine o1 7 fun K hK=>?_
   go_simp;refine (aU g _ _ td.u.drew.2.2.2.2.1 aa).mono ?_;rintro e w5 ⟨y,rfl,⟨Fq,ki,_⟩,jV,gx⟩;have si:=ki aa;clear ki;have gv:=hY (td.u.drew.grown gx jV fi df);have k1:=gv.u.2.1.ck 1;have f1:=gv.u.2.1.frozen 1;have Ol:=gv.u.2.1.lt;clear gx;obtain ⟨k,rfl⟩:=lD Fq;have uo:k<=len:=aa
   have Vu:k<=cap:=aa
   refine hK.out _ _ trivial (fun ay4=>?_);clear hK K ay4;have ay4:True:=trivial
   (try refine pt ?_)
  case' vC2=>
   go_simp;refine (aU g _ _ td.u.drew.2.2.2.2.1 aa).mono ?_;rintro e w5 ⟨y,rfl,⟨Fq,ki,_⟩,jV,gx⟩;have si:=ki aa;clear ki;have gv:=hY (td.u.drew.grown gx jV fi df);have k1:=gv.u.2.1.ck 1;have f1:=gv.u.2.1.frozen 1;have Ol:=gv.u.2.1.lt;clear gx;obtain ⟨k,rfl⟩:=lD Fq;have uo:k<=len:=aa
   have Vu:k<=cap:=aa
   refine hK.out _ _ trivial (fun ay4=>?_);clear hK K ay4;have ay4:True:=trivial
   (try refine pt ?_)
   refine o1 1 fun K hK=>?_
   go_simp;refine hK.out _ _ trivial (fun ay4=>?_);clear hK K ay4;have ay4:True:=trivial
   (try refine pt ?_)
  all_goals
   refine o1 8 fun K hK=>?_
   go_simp;refine hK.out _ _ trivial (fun ay4=>?_);clear hK K ay4;have ay4:True:=trivial
   (try refine pt ?_)
   refine tq 9 ?_;refine o1 10 fun K hK=>?_
   go_simp;refine hK.out _ _ trivial (fun ay4=>?_);clear hK K ay4;have ay4:True:=trivial
   (try refine pt ?_)
   refine dn ?_;have HD:=hY (gv.u.cut uo aa df);clear k1 f1 b0 b1 z0 z1;obtain ⟨⟨b0,b1⟩,z0,z1⟩:=fu HD.u.2.1;obtain ⟨⟨a0,a1⟩,y0,y1⟩:=fu HD.u.1;go_wp2
   exact bR (v:=.agg #[iI n1,.slice A k cap]) (Eo rfl HD.u.1 (iI n1) (.slice A k cap) _ rfl) rfl (nG.mk n1 A k cap _ ⟨aa,aa⟩ aa (HD.u.done df))
 ·have HD:=hY Jc;obtain ⟨⟨b0,b1⟩,z0,z1⟩:=fu Jc.2.1;obtain ⟨⟨a0,a1⟩,y0,y1⟩:=fu Jc.1;clear Jc;go_wp2
  exact bR (v:=.agg #[iI n1,.slice A len cap]) (Eo rfl HD.u.1 (iI n1) (.slice A len cap) _ rfl) rfl (nG.mk n1 A (len) cap (gs) ⟨aa,aa⟩ aa (HD.u.done df))
end Go.Proofs.YtiajdbllccmokaaGreatDoor
