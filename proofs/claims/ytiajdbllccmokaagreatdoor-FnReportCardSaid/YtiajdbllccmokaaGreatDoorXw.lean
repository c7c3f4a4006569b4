import Derived.Test.YtiajdbllccmokaaGreatDoorXs
import Derived.Test.YtiajdbllccmokaaGreatDoorXi
namespace Go.Proofs.YtiajdbllccmokaaGreatDoor
open Go.ChangeShapes Go.WideShapes Go.ChangeAt Go.RowKit Go.Deep Go.Proofs.Tryz
set_option linter.unusedVariables false
set_option linter.unusedSimpArgs false
set_option maxRecDepth 100000
set_option maxHeartbeats 16000000
theorem ajQ {w:World} {g t:Nat} {a b c:Value} (h:ay w g t #[a,b,c]):(w.cell? (aA g 0)=some a/\w.cell? (aA g 1)=some b/\w.cell? (aA g 2)=some c)/\w.frozen? (aA g 0)=false/\w.frozen? (aA g 1)=false/\w.frozen? (aA g 2)=false:=
 ⟨⟨h.cell 0,h.cell 1,h.cell 2⟩,h.frozen 0,h.frozen 1,h.frozen 2⟩
theorem yn:(187:Nat)≠54:=ae
theorem Jz:(187:Nat)≠195:=ae
theorem LX:(195:Nat)≠54:=ae
theorem JA {w:World} {s T T':Nat} {cs cs':Array Value} (h:ay w s T cs) (h':ay w s T' cs'):T=T':=by
 unfold ay at h h';rw [h] at h';injection h' with h';injection h' with _ h'
theorem BD {w:World} {s T:Nat} {cs:Array Value} {B e size n:Nat} {v:Value} {xs:List Value} (h:ay w s T cs) (ho:w.ownsRow B e size v n xs) (hne:T≠e):∀k,v.ownBlock=some k->s≠k:=by
 intro k hk e1;subst e1;rcases ho.2 with ⟨rfl,_⟩|⟨b',iJ,Uv,rfl,_,xG,_⟩
 ·cases hk
 ·injection hk with hk;subst hk
  exact hne (JA h xG)
structure WK (w0 W:World) (q:Nat) (n:Int) (A:OA) (m c:Nat) (rs:List Pa) (L:OA) (len cap:Nat) (gs:List Gt):Prop where
 b:ay W q 195 #[iI n,.slice A m c,.slice L len cap]
 r:Rd W W.heap.size 4 A m (aV rs)
 o:W.ownsRow (q+1) 54 4 (.slice L len cap) len (ak gs)
 p:PB W A
 hm:rs.length=m/\m<=c/\m<=8
 x:Ext w0 W
 q0:w0.heap.size<=q
 kk:∀x∈gs,x.k<=11
section
variable {w0 W W':World} {q:Nat} {n:Int} {A A':OA} {m c c':Nat} {rs AE:List Pa} {L L':OA} {len cap iJ:Nat} {gs:List Gt}
theorem WK.ext (h:WK w0 W q n A m c rs L len cap gs) (hx:Ext W W'):WK w0 W' q n A m c rs L len cap gs:=⟨h.b.ext hx,h.r.ext hx,aq h.o hx,h.p.ext hx,h.hm,h.x.trans hx,h.q0,h.kk⟩
theorem JB (h:Rd W W.heap.size 4 A m (aV rs)) (hp:PB W A) (hb:ay W q 195 #[iI n,.slice A' c c',.slice L len cap]) (i:Nat) (u:Value):Rd (W.setCell (aA q i) u) (W.setCell (aA q i) u).heap.size 4 A m (aV rs)/\PB (W.setCell (aA q i) u) A:=by
 have hne:∀b o,A=some ⟨b,o,none⟩->b≠q:=fun b o e e2=>by
  obtain ⟨cs,h1⟩:=hp b o e;subst e2
  exact Jz (JA h1 hb)
 refine ⟨⟨h.1,fun hn=>?_⟩,fun b o e=>?_⟩
 ·obtain ⟨b',o,e,rb,hc⟩:=h.2 hn;have e1:(W.setCell (aA q i) u).heap[b']?=W.heap[b']?:=mO _ ⟨q,i,none⟩ u b' (hne b' o e)
  exact ⟨b',o,e,sU rb,fun j u' hu=>(sD (a:=⟨b',o+j,none⟩) e1).trans (hc j u' hu)⟩
 ·obtain ⟨cs,h1⟩:=hp b o e
  exact ⟨cs,h1.bX (p:=(aA q i)) (hne b o e) u⟩
theorem WX {s:Nat} {z0 z1:Value} (h:Rd W W.heap.size 4 A m (aV rs)) (hp:PB W A) (hb:ay W s 147 #[z0,z1]) (a b:Value):Rd ((W.setCell (aA s 0) a).setCell (aA s 1) b) ((W.setCell (aA s 0) a).setCell (aA s 1) b).heap.size 4 A m (aV rs)/\PB ((W.setCell (aA s 0) a).setCell (aA s 1) b) A:=by
 refine ⟨?_,fun b' o e=>?_⟩
 ·have:=qw h hb a b;rw [<-kx W s a b] at this
  exact this
 ·obtain ⟨cs,h1⟩:=hp b' o e;have hne:b'≠s:=fun e2=>by
   subst e2
   exact absurd (JA h1 hb) ae
  exact ⟨cs,(h1.bX (p:=(aA s 0)) hne a).bX (p:=(aA s 1)) hne b⟩
theorem WK.set (h:WK w0 W q n A m c rs L len cap gs) (hr:Rd W W.heap.size 4 A' m (aV AE)) (hp:PB W A') (hl:AE.length=m) (hc:m<=c'):WK w0 ((W.setCell (aA q 0) (iI n)).setCell (aA q 1) (.slice A' m c')) q n A' m c' AE L len cap gs:=by
 have h1:=JB hr hp h.b 0 (iI n);have mS:ay (W.setCell (aA q 0) (iI n)) q 195 #[iI n,.slice A m c,.slice L len cap]:=h.b.ba 0 _;have h2:=JB h1.1 h1.2 mS 1 (.slice A' m c')
 exact ⟨mS.ba 1 _,h2.1,bk (bk h.o (p:=(aA q 0)) (uH q) _) (p:=(aA q 1)) (uH q) _,h2.2,⟨hl,hc,h.hm.2.2⟩,(h.x.setCell (p:=(aA q 0)) h.q0 _).setCell (p:=(aA q 1)) h.q0 _,h.q0,h.kk⟩
theorem WK.app {y:Gt} (h:WK w0 W q n A m c rs L len cap gs) (ho:W'.ownsRow (q+1) 54 4 (.slice L' (len+1) iJ) (len+1) (ak (gs++[y]))) (hg:W.grownBy W' (Value.slice L len cap).ownBlock) (hy:y.k<=11):ay W' q 195 #[iI n,.slice A m c,.slice L len cap]/\WK w0 (W'.setCell (aA q 2) (.slice L' (len+1) iJ)) q n A m c rs L' (len+1) iJ (gs++[y]):=by
 have hb:=h.b.grown hg (BD h.b h.o LX);have hp:PB W' A:=fun b o e=>by
  obtain ⟨cs,h1⟩:=h.p b o e
  exact ⟨cs,h1.grown hg (BD h1 h.o yn)⟩
 have hr:Rd W' W'.heap.size 4 A m (aV rs):=by
  refine ⟨h.r.1,fun hn=>?_⟩;obtain ⟨b',o,e,rb,hc⟩:=h.r.2 hn;obtain ⟨cs,h1⟩:=h.p b' o e;have hne:=BD h1 h.o yn;have e1:=hg.block b' h1.lt (fun e2=>hne b' e2.symm rfl)
  exact ⟨b',o,e,oM hg.size,fun j u hu=>(sD (a:=⟨b',o+j,none⟩) e1).trans (hc j u hu)⟩
 have h2:=JB hr hp hb 2 (.slice L' (len+1) iJ);refine ⟨hb,hb.ba 2 _,h2.1,bk ho (p:=(aA q 2)) (uH q) _,h2.2,h.hm,?_,h.q0,fun x hx=>(mM.1 hx).elim (h.kk x) fun h9=>by rw [xt.1 h9];exact hy⟩
 exact (h.x.grown hg (fun k hk=>oN ((h.o.lt k hk).1) h.q0)).setCell (p:=(aA q 2)) h.q0 _
end
def WkE (w0:World) (q:Nat) (n:Int) (m bf:Nat) (e:Ending) (W:World):Prop:=e=.returned (.tuple #[])/\∃A c rs L len cap gs,WK w0 W q n A m c rs L len cap gs/\len<=bf
theorem Eb {P:Prop} (h:P:=by
 refine o1 10 fun K hK=>?_
 obtain ⟨⟨q0,q1⟩,f0,f1⟩:=bt dL.u;go_simp;have eQ:Hid (Ext W1 ((w6.setCell (aA s 0) (iI n)).setCell (aA s 1) (.slice A2 m c2))):=(dG.u.setCell (p:=(aA s 0)) ou _).setCell (p:=(aA s 1)) ou _;have lX:Hid (ay ((w6.setCell (aA s 0) (iI n)).setCell (aA s 1) (.slice A2 m c2)) s 147 #[iI n,.slice A2 m c2]):=(dL.u.ba 0 _).ba 1 _;have rO:Hid (Rd ((w6.setCell (aA s 0) (iI n)).setCell (aA s 1) (.slice A2 m c2)) ((w6.setCell (aA s 0) (iI n)).setCell (aA s 1) (.slice A2 m c2)).heap.size 4 A2 m (aV AE)/\PB ((w6.setCell (aA s 0) (iI n)).setCell (aA s 1) (.slice A2 m c2)) A2):=WX rp.u.1 rp.u.2 dL.u _ _;refine ov hK (HK.u _ eQ.u) fun ay4=>?_
 refine tq 11 ?_;refine dn ?_;clear q0 q1 f0 f1 ay4;generalize (w6.setCell (aA s 0) (iI n)).setCell (aA s 1) (.slice A2 m c2)=w7 at*
 clear dG dL ou;have HW7:=hY (Jr.u.ext eQ.u);obtain ⟨⟨p0,p1,p2⟩,g0',g1',g2'⟩:=ajQ HW7.u.b;obtain ⟨⟨q0,q1⟩,-⟩:=bt lX.u;go_upto_region 4 with fail;have HW8:=hY (HW7.u.set rO.u.1 rO.u.2 WY Cs);have HG8:Hid (ay ((w7.setCell (aA q 0) (iI n)).setCell (aA q 1) (.slice A2 m c2)) g0 54 (gA g)):=((HGB.u.ext eQ.u).bX (p:=(aA q 0)) hgq _).bX (p:=(aA q 1)) hgq _;clear p0 p1 p2 g0' g1' g2' q0 q1 HW7 lX rO;generalize (w7.setCell (aA q 0) (iI n)).setCell (aA q 1) (.slice A2 m c2)=w8 at*
 obtain ⟨⟨p0,p1,p2⟩,g0',g1',g2'⟩:=ajQ HW8.u.b;obtain ⟨⟨x0,x1,x2,x3⟩,-⟩:=aB HG8.u;have hq8:=HW8.u.b.lt;have hg8:=HG8.u.lt;go_wp2
 go_region_law (first
  |(refine CM (B:=q+1) ah _ _ ah _ len gs ah (HW8.u.ext (xZ w8).drew).o (by have:=hq8;show q+1<=w8.heap.size;omega) g _ _ ah ah aa ?_;intro A9 c9 w9 AZ hg9 _;have HA:=hY (WK.app (HW8.u.ext (xZ w8).drew) AZ hg9 Jx);have k4:w9.cell? (aA q 2)=some (.slice L len cap):=HA.u.1.cell 2;have g4:w9.frozen? (aA q 2)=false:=HA.u.1.frozen 2))
 all_goals
  clear k4 g4;go_wp2
  exact BZ (v:=.tuple #[]) af rfl ⟨rfl,_,_,_,_,_,_,_,HA.u.2,aa⟩):P:=h
theorem Ec {P:Prop} (h:P:=by
 refine o1 10 fun K hK=>?_
 obtain ⟨⟨q0,q1⟩,f0,f1⟩:=bt dL.u;go_simp;have eQ:Hid (Ext W1 ((w6.setCell (aA s 0) (iI 0)).setCell (aA s 1) (nS))):=(dG.u.setCell (p:=(aA s 0)) ou _).setCell (p:=(aA s 1)) ou _;have lX:Hid (ay ((w6.setCell (aA s 0) (iI 0)).setCell (aA s 1) (nS)) s 147 jC):=(dL.u.ba 0 _).ba 1 _;refine ov hK (HK.u _ eQ.u) fun ay4=>?_
 refine tq 11 ?_;refine dn ?_;clear q0 q1 f0 f1 ay4;generalize (w6.setCell (aA s 0) (iI 0)).setCell (aA s 1) (nS)=w7 at*
 clear dG dL ou;go_wp2
 exact BZ (v:=.tuple #[]) af rfl ⟨rfl,A,c,rs,L,len,cap,gs,Jr.u.ext eQ.u,aa⟩):P:=h
theorem SD (w0 W:World) (q:Nat) (n:Int) (A:OA) (m c:Nat) (rs:List Pa) (L:OA) (len cap:Nat) (gs:List Gt) (g:Gt) (h:WK w0 W q n A m c rs L len cap gs) (hlen:len<=1000000) (Jx:g.k<=11):
  Calls prog 160 #[.pointer (some ⟨q,0,none⟩),g.val] W (WkE w0 q n m (len+1)):=by
 have HC:Hid (∀w',Ext W w'->Calls prog 128 #[.agg #[iI n,.slice A m c],g.val] w' fun e w''=>Bz n (fa n rs g) e w''/\Ext w' w''):=fun w' hx=>by
  have hr:=h.r.ext hx;obtain ⟨e1,e2,e3⟩:=h.hm;rw [<-e1] at hr |-
  exact fH A c n rs g w' hr aa aa
 obtain ⟨t,ht⟩:=ey (fa n rs g);have HTL:Hid (∀AE,t=some AE->AE.length=m):=fun AE e=>by rw [DB (ht ▸ e)];exact h.hm.1
 rw [<-ht] at HC;clear ht;have Jr:Hid (WK w0 (W.alloc (cO (gA g) 54)) q n A m c rs L len cap gs):=h.ext ((xZ W).alloc _);have HGB:Hid (ay (W.alloc (cO (gA g) 54)) W.heap.size 54 (gA g)):=ay.new _ _ _;have dk:Hid (Ext W (W.alloc (cO (gA g) 54))):=(xZ W).alloc _;have hgq:W.heap.size≠q:=oM h.b.lt
 clear h;go_enter func160,ntmps160;go_upto_region 1 with fail;generalize W.alloc (cO (gA g) 54)=W1 at*
 generalize W.heap.size=g0 at*
 have HK:Hid (∀w',Ext W1 w'->(w'.cell? (aA q 0)=some (iI n)/\w'.cell? (aA q 1)=some (.slice A m c))/\(w'.cell? (aA g0 0)=some (iI g.k)/\w'.cell? (aA g0 1)=some (iI g.a)/\w'.cell? (aA g0 2)=some (iI g.b)/\w'.cell? (aA g0 3)=some (iI g.c))):=fun w' hx=>⟨⟨(Jr.u.ext hx).b.cell 0,(Jr.u.ext hx).b.cell 1⟩,(aB (HGB.u.ext hx)).1⟩
 obtain ⟨⟨p0,p1⟩,x0,x1,x2,x3⟩:=HK.u W1 (xZ _);go_wp2;refine dm (S:=fun w'=>(w'.cell? (aA q 0)=some (iI n)/\w'.cell? (aA q 1)=some (.slice A m c))/\(w'.cell? (aA g0 0)=some (iI g.k)/\w'.cell? (aA g0 1)=some (iI g.a)/\w'.cell? (aA g0 2)=some (iI g.b)/\w'.cell? (aA g0 3)=some (iI g.c))) af (HK.u _ (xZ W1).drew) (fun ay4=>?_);clear p0 p1 x0 x1 x2 x3;refine tq 0 ?_;refine tq 1 ?_;refine tq 2 ?_;refine tq 3 ?_;refine tq 4 ?_
 cases t with
 |none=>
  refine o2 5 9 (fun K hK=>?_) fun K hK=>?_
  ·go_simp;refine (HC.u _ (dk.u.trans (xZ W1).drew)).mono ?_;rintro e v5 ⟨rfl,bK⟩;have kM:Hid (Ext W1 v5):=Ext.trans (xZ W1).drew bK;clear bK;refine ov hK (HK.u _ kM.u) fun ay4=>?_
   refine tq 6 ?_;refine tq 7 ?_;refine tq 8 ?_;refine o1 9 fun K hK=>?_
   go_simp;have dG:Hid (Ext W1 (v5.alloc (cO jC 147))):=kM.u.alloc _;have dL:Hid (ay (v5.alloc (cO jC 147)) v5.heap.size 147 jC):=ay.new _ _ _;have ou:W1.heap.size<=v5.heap.size:=kM.u.size;refine ov hK (HK.u _ dG.u) fun ay4=>?_
   generalize v5.alloc (cO jC 147)=w6 at*
   generalize v5.heap.size=s at*
   clear kM
   exact Ec
  ·go_simp;refine ov hK (HK.u _ ((xZ W1).alloc _).drew) fun ay4=>?_
   refine o1 5 fun K hK=>?_
   go_simp;refine (HC.u _ (dk.u.trans ((xZ W1).alloc _).drew)).mono ?_;rintro e w6 ⟨rfl,bK⟩;have dG:Hid (Ext W1 w6):=Ext.trans ((xZ W1).alloc (cO jC 147)).drew bK;have dL:Hid (ay w6 W1.heap.size 147 jC):=((ay.new W1 147 jC).ext ((xZ _).drew)).ext bK;have ou:W1.heap.size<=W1.heap.size:=lI _;clear bK;refine ov hK (HK.u _ dG.u) fun ay4=>?_
   refine tq 6 ?_;refine tq 7 ?_;refine tq 8 ?_;obtain ⟨s,hs⟩:=ey (W1.heap.size);rw [<-hs] at dL |-;replace ou:W1.heap.size<=s:=gj
   clear hs
   exact Ec
 |some AE=>
  have WY:AE.length=m:=HTL.u AE rfl;refine o2 5 9 (fun K hK=>?_) fun K hK=>?_
  ·go_simp;refine (HC.u _ (dk.u.trans (xZ W1).drew)).mono ?_;rintro e v5 ⟨⟨v,rfl,A2,c2,rfl,mg,Cs,hp2⟩,bK⟩;rw [WY] at Cs |-;have kM:Hid (Ext W1 v5):=Ext.trans (xZ W1).drew bK;clear bK;have Ay:Hid (Rd v5 v5.heap.size 4 A2 m (aV AE)/\PB v5 A2):=⟨by rw [<-WY];exact mg,hp2⟩;clear mg hp2;refine ov hK (HK.u _ kM.u) fun ay4=>?_
   refine tq 6 ?_;refine tq 7 ?_;refine tq 8 ?_;refine o1 9 fun K hK=>?_
   go_simp;have dG:Hid (Ext W1 (v5.alloc (cO jC 147))):=kM.u.alloc _;have dL:Hid (ay (v5.alloc (cO jC 147)) v5.heap.size 147 jC):=ay.new _ _ _;have ou:W1.heap.size<=v5.heap.size:=kM.u.size;have rp:Hid (Rd (v5.alloc (cO jC 147)) (v5.alloc (cO jC 147)).heap.size 4 A2 m (aV AE)/\PB (v5.alloc (cO jC 147)) A2):=⟨Ay.u.1.ext ((xZ v5).alloc _),Ay.u.2.ext ((xZ v5).alloc _)⟩;refine ov hK (HK.u _ dG.u) fun ay4=>?_
   generalize v5.alloc (cO jC 147)=w6 at*
   generalize v5.heap.size=s at*
   clear kM
   exact Eb
  ·go_simp;refine ov hK (HK.u _ ((xZ W1).alloc _).drew) fun ay4=>?_
   refine o1 5 fun K hK=>?_
   go_simp;refine (HC.u _ (dk.u.trans ((xZ W1).alloc _).drew)).mono ?_;rintro e w6 ⟨⟨v,rfl,A2,c2,rfl,mg,Cs,hp2⟩,bK⟩;rw [WY] at Cs |-;have dG:Hid (Ext W1 w6):=Ext.trans ((xZ W1).alloc (cO jC 147)).drew bK;have dL:Hid (ay w6 W1.heap.size 147 jC):=((ay.new W1 147 jC).ext ((xZ _).drew)).ext bK;have ou:W1.heap.size<=W1.heap.size:=lI _;clear bK;have rp:Hid (Rd w6 w6.heap.size 4 A2 m (aV AE)/\PB w6 A2):=⟨by rw [<-WY];exact mg,hp2⟩;clear mg hp2;refine ov hK (HK.u _ dG.u) fun ay4=>?_
   refine tq 6 ?_;refine tq 7 ?_;refine tq 8 ?_;obtain ⟨s,hs⟩:=ey (W1.heap.size);rw [<-hs] at dL |-;replace ou:W1.heap.size<=s:=gj
   clear hs
   exact Eb
theorem nC (p:Pa) (k:Nat) (hk:k<4) (w:World):Calls prog 158 #[p.val,iI k] w fun e w'=>(∃b,e=.returned (.bool b))/\Ext w w':=by
 have rE:(0:Int)<=(k:Int):=aa
 have aoS:IntKind.u64.wrap (k:Int)=(k:Int):=by rcases (show k=0\/k=1\/k=2\/k=3 by omega) with rfl|rfl|rfl|rfl<;>rfl
 go_enter func158,ntmps158;go_wp2;go_ret
 exact ⟨⟨_,rfl⟩,aD⟩
theorem tD (p:Pa) (k:Nat) (hk:k<4) (w:World):Calls prog 159 #[p.val,iI k] w fun e w'=>(∃b,e=.returned (.bool b))/\Ext w w':=by
 have rE:(0:Int)<=(k:Int):=aa
 have aoS:IntKind.u64.wrap (k:Int)=(k:Int):=by rcases (show k=0\/k=1\/k=2\/k=3 by omega) with rfl|rfl|rfl|rfl<;>rfl
 go_enter func159,ntmps159;go_wp2;go_ret
 exact ⟨⟨_,rfl⟩,aD⟩
def yo (w0 W:World) (q n m bf:Nat):Prop:=∃A c rs L len cap gs,WK w0 W q n A m c rs L len cap gs/\len<=bf
theorem yo.ext {w0 W W':World} {q n m bf:Nat} (h:yo w0 W q n m bf) (hx:Ext W W'):yo w0 W' q n m bf:=by
 obtain ⟨A,c,rs,L,len,cap,gs,h1,h2⟩:=h
 exact ⟨A,c,rs,L,len,cap,gs,h1.ext hx,h2⟩
theorem yo.more {w0 W:World} {q n m bf most':Nat} (h:yo w0 W q n m bf) (hl:bf<=most'):yo w0 W q n m most':=by
 obtain ⟨A,c,rs,L,len,cap,gs,h1,h2⟩:=h
 exact ⟨A,c,rs,L,len,cap,gs,h1,aa⟩
theorem yo.TW {w0 W:World} {q n m bf:Nat} (h:yo w0 W q n m bf) (hl:bf<=1000000) (g:Gt) (Jx:g.k<=11:=by simp):Calls prog 160 #[.pointer (some ⟨q,0,none⟩),g.val] W fun e W'=>e=.returned (.tuple #[])/\yo w0 W' q n m (bf+1):=by
 obtain ⟨A,c,rs,L,len,cap,gs,h1,h2⟩:=h;refine (SD w0 W q n A m c rs L len cap gs g h1 aa Jx).mono ?_;rintro e W' ⟨rfl,A',c',AE,L',pP,iJ,gs',h3,h4⟩
 exact ⟨rfl,A',c',AE,L',pP,iJ,gs',h3,aa⟩
theorem yo.row {w0 W:World} {q n m bf i:Nat} (h:yo w0 W q n m bf) (hi:i<m):W.cell? (aA q 0)=some (iI n)/\∃(b o c:Nat) (p:Pa),W.cell? (aA q 1)=some (.slice (some ⟨b,o,none⟩) m c)/\
  (W.cell? (aA b (o+i*4))=some (iI p.n)/\W.cell? (aA b (o+i*4+1))=some (iI p.x)/\W.cell? (aA b (o+i*4+2))=some (iI p.z)/\W.cell? (aA b (o+i*4+3))=some (iI p.p)):=by
 obtain ⟨A,c,rs,L,len,cap,gs,h1,h2⟩:=h;obtain ⟨b,o,p,rfl,hb,hg,y0,y1,y2,y3⟩:=fD h1.r hi
 exact ⟨h1.b.cell 0,b,o,c,p,h1.b.cell 1,y0,y1,y2,y3⟩
theorem yo.n_ {w0 W:World} {q n m bf:Nat} (h:yo w0 W q n m bf):W.cell? (aA q 0)=some (iI n):=by
 obtain ⟨A,c,rs,L,len,cap,gs,h1,h2⟩:=h
 exact h1.b.cell 0
theorem yo.x {w0 W:World} {q n m bf:Nat} (h:yo w0 W q n m bf):Ext w0 W:=by
 obtain ⟨A,c,rs,L,len,cap,gs,h1,h2⟩:=h
 exact h1.x
theorem qE {P:Prop} (h:P:=by
 rintro e wx ⟨⟨bx,rfl⟩,iY⟩;have cI:=hY (HX.u.ext iY);have QE:=hY (HP.u.ext iY);clear iY HX HP p0 p1 p2 p3;have HX:=cI;have HP:=QE;clear cI QE
 cases bx
 ·go_wp2;go_roundw
  case rel=>exact ⟨k+1,by first|rfl|rw [eM]|rw [iG],oM bS.u,oM bS.u,HX.u.more (oM bS.u)⟩
  case measure=>simp [intOf,iG];have:=bS.u;omega
 ·go_wp2_with fail;refine (aM 4 k _ (xZ _)).mono ?_;rintro e wo ⟨rfl,rz⟩;have cI:=hY (HX.u.ext rz);clear rz HX;have HX:=cI;clear cI;go_wp2_with fail;refine (HX.u.TW (oM HN.u) ⟨4,k,0,0⟩).mono ?_;rintro e wd ⟨rfl,tE⟩;have cI:=hY tE;clear tE HX;have HX:=cI;clear cI;go_wp2;go_roundw
  case rel=>exact ⟨k+1,by first|rfl|rw [eM]|rw [iG],oM bS.u,oM bS.u,HX.u.more (oM bS.u)⟩
  case measure=>simp [intOf,iG];have:=bS.u;omega):P:=h
theorem kz {P:Prop} (h:P:=by
 go_wp2;go_roundw
 case rel=>exact ⟨k+1,by first|rfl|rw [eM]|rw [iG],oM bS.u,oM bS.u,HX.u.more (oM bS.u)⟩
 case measure=>simp [intOf,iG];have:=bS.u;omega):P:=h
theorem wG {P:Prop} (h:P:=by
 have hi1:=wA i (oM HN.u);have Zr:=wB i (oM HN.u)
 exact ⟨i+1,by first|rfl|rw [hi1]|rw [Zr],lI _,oM HN.u,HX.u.more aa⟩):P:=h
theorem JC (w0 W:World) (q n m i bf:Nat) (h:yo w0 W q n m bf) (hn:1<=n/\n<=4) (hm:m=2*n) (hi:i<n) (CK:bf<=900000):
  Calls prog 144 #[.pointer (some ⟨q,0,none⟩),iI i] W fun e W'=>e=.returned (.tuple #[])/\yo w0 W' q n m (bf+8):=by
 have HN:Hid (1<=n/\n<=4/\m=2*n/\i<n/\bf<=900000):=⟨hn.1,hn.2,hm,hi,CK⟩;have HX:=hY h;have NB:(0:Int)<=(i:Int):=aa
 have him:(i:Int)<(m:Int):=aa
 have nM:IntKind.i64.wrap ((n:Int) - 1)=((n - 1:Nat):Int):=oV
 have GC:wrap64 ((n:Int) - 1)=((n - 1:Nat):Int):=bo
 clear h hn hm hi CK;have d0:=HX.u.n_;go_enter func144,ntmps144;go_wp2;clear d0
 go_loopw [5] (fun kv wr=>∃k:Nat,kv=iI k/\i<=k/\k<=n/\Hid (yo w0 wr q n m (bf+1*(k - (i))))) (fun kv _=>n - (intOf kv).toNat)
 case atStart=>exact ⟨i,rfl,lI _,oM HN.u,HX.u.more aa⟩
 case round=>
  obtain ⟨k,rfl,Fz,jT,cI⟩:=hrel;clear HX;have HX:=cI;clear cI
  by_cases bh:k<n
  ·have bS:Hid (i<=k/\k<n/\n<=4):=⟨Fz,bh,HN.u.2.1⟩;have eM:=wA k (oM HN.u);have iG:=wB k (oM HN.u);obtain ⟨d0,b,o,c,p,d1,x0,x1,x2,x3⟩:=HX.u.row (i:=i) (oM HN.u);go_upto_region 5 with fail;have cI:=hY (HX.u.ext ((xZ wr).alloc (cO (jF p) 187)));have HP:Hid (ay (wr.alloc (cO (jF p) 187)) wr.heap.size 187 (jF p)):=ay.new _ _ _;clear HX d0 d1 x0 x1 x2 x3;have HX:=cI;clear cI;generalize wr.alloc (cO (jF p) 187)=wp at*
   generalize wr.heap.size=s at*
   obtain ⟨⟨p0,p1,p2,p3⟩,-⟩:=aB HP.u;go_wp2_with fail;refine (nC p k (oM HN.u) _).mono ?_;rintro e wx ⟨⟨bx,rfl⟩,iY⟩;have cI:=hY (HX.u.ext iY);have QE:=hY (HP.u.ext iY);clear iY HX HP p0 p1 p2 p3;have HX:=cI;have HP:=QE;clear cI QE
   cases bx
   ·obtain ⟨⟨p0,p1,p2,p3⟩,-⟩:=aB HP.u;go_wp2_with fail;refine (tD p k (oM HN.u) _).mono ?_
    exact qE
   ·obtain ⟨⟨p0,p1,p2,p3⟩,-⟩:=aB HP.u;go_wp2_with fail;refine (tD p k (oM HN.u) _).mono ?_;rintro e wx ⟨⟨bx,rfl⟩,iY⟩;have cI:=hY (HX.u.ext iY);have QE:=hY (HP.u.ext iY);clear iY HX HP p0 p1 p2 p3;have HX:=cI;have HP:=QE;clear cI QE
    cases bx
    ·obtain ⟨⟨p0,p1,p2,p3⟩,-⟩:=aB HP.u;go_wp2_with fail;refine (tD p k (oM HN.u) _).mono ?_
     exact qE
    ·go_wp2_with fail;refine (aM 5 k _ (xZ _)).mono ?_;rintro e wo ⟨rfl,rz⟩;have cI:=hY (HX.u.ext rz);clear rz HX;have HX:=cI;clear cI;go_wp2_with fail;refine (HX.u.TW (oM HN.u) ⟨5,k,0,0⟩).mono ?_;rintro e wd ⟨rfl,tE⟩;have cI:=hY tE;clear tE HX;have HX:=cI;clear cI
     exact kz
  ·obtain rfl:n=k:=aa
   have cI:=hY (HX.u.more (most':=bf+4) (oM HN.u));clear HX bh Fz jT;have HX:=cI;clear cI;go_wp2
   go_loopw [7] (fun kv wr=>∃k:Nat,kv=iI k/\i<=k/\k+1<=n/\Hid (yo w0 wr q n m (bf+4))) (fun kv _=>n - (intOf kv).toNat)
   case atStart=>exact ⟨i,rfl,lI _,oM HN.u,HX⟩
   case round=>
    obtain ⟨k,rfl,Fz,jT,cI⟩:=hrel;clear HX;have HX:=cI;clear cI;have bS:Hid (i<=k/\k+1<=n/\n<=4):=⟨Fz,jT,HN.u.2.1⟩;have eM:=wA k (oM HN.u);have iG:=wB k (oM HN.u)
    by_cases bh:k+1<n
    case' pos=>
     have uo:(k:Int)<((n - 1:Nat):Int):=aa
     obtain ⟨d0,b,o,c,p,d1,x0,x1,x2,x3⟩:=HX.u.row (i:=i) (oM HN.u);go_wp2_with fail;refine (nC p k (oM HN.u) _).mono ?_;rintro e wx ⟨⟨bx,rfl⟩,iY⟩;have cI:=hY (HX.u.ext iY);clear iY HX d0 d1 x0 x1 x2 x3;have HX:=cI;clear cI
     cases bx
     case' false=>
      go_wp2;go_roundw
      case rel=>exact ⟨k+1,by first|rfl|rw [eM]|rw [iG],oM bS.u,oM bS.u,HX.u.more (oM bS.u)⟩
      case measure=>simp [intOf,iG];have:=bS.u;omega
    case' neg=>
     have uo:¬(k:Int)<((n - 1:Nat):Int):=aa
    all_goals
     by_cases Zm:k=i
     case' pos=>
      obtain rfl:i=k:=Zm.symm;go_wp2
     case' neg=>
      have aoT:¬(k:Int)=(i:Int):=aa
      go_wp2_with fail;refine (HX.u.TW (oM HN.u) ⟨11,i,k,0⟩).mono ?_;rintro e wd ⟨rfl,tE⟩;have cI:=hY tE;clear tE HX;have HX:=cI;clear cI;go_wp2
    all_goals
     have cI:=hY (HX.u.more (most':=bf+5) aa);clear HX;have HX:=cI;clear cI;clear bh Fz jT bS eM iG
     (try clear Zm)
     (try clear aoT)
     (try clear uo)
     go_loopw [7] (fun kv wr=>∃k:Nat,kv=iI k/\i+1<=k/\k<=n/\Hid (yo w0 wr q n m (bf+5+(k - (i+1))))) (fun kv _=>n - (intOf kv).toNat)
     case atStart=>
      exact wG
     case round=>
      obtain ⟨k,rfl,Fz,jT,cI⟩:=hrel;clear HX;have HX:=cI;clear cI
      by_cases bh:k<n
      ·have bS:Hid (i+1<=k/\k<n/\n<=4):=⟨Fz,bh,HN.u.2.1⟩;have eM:=wA k (oM HN.u);have iG:=wB k (oM HN.u);obtain ⟨d0,b,o,c,p,d1,x0,x1,x2,x3⟩:=HX.u.row (i:=i) (oM HN.u);go_wp2_with fail;refine (nC p k (oM HN.u) _).mono ?_;rintro e wx ⟨⟨bx,rfl⟩,iY⟩;have cI:=hY (HX.u.ext iY);clear iY HX d0 d1 x0 x1 x2 x3;have HX:=cI;clear cI
       cases bx
       ·exact kz
       ·go_wp2_with fail;refine (dA i k _ (xZ _)).mono ?_;rintro e wo ⟨rfl,rz⟩;have cI:=hY (HX.u.ext rz);clear rz HX;have HX:=cI;clear cI;go_wp2_with fail;refine (HX.u.TW (oM HN.u) ⟨9,i,k,0⟩).mono ?_;rintro e wd ⟨rfl,tE⟩;have cI:=hY tE;clear tE HX;have HX:=cI;clear cI
        exact kz
      ·have cI:=hY (HX.u.more (most':=bf+8) (oM HN.u));clear HX;have HX:=cI;clear cI;go_wp2
       exact BZ (v:=.tuple #[]) af rfl ⟨rfl,HX.u⟩
theorem yo.ajS {w0 W:World} {q n m bf i j:Nat} (h:yo w0 W q n m bf) (hi:i<m) (hj:j<m):W.cell? (aA q 0)=some (iI n)/\∃(b o c:Nat) (p p':Pa),W.cell? (aA q 1)=some (.slice (some ⟨b,o,none⟩) m c)/\
  (W.cell? (aA b (o+i*4))=some (iI p.n)/\W.cell? (aA b (o+i*4+1))=some (iI p.x)/\W.cell? (aA b (o+i*4+2))=some (iI p.z)/\W.cell? (aA b (o+i*4+3))=some (iI p.p))/\
  (W.cell? (aA b (o+j*4))=some (iI p'.n)/\W.cell? (aA b (o+j*4+1))=some (iI p'.x)/\W.cell? (aA b (o+j*4+2))=some (iI p'.z)/\W.cell? (aA b (o+j*4+3))=some (iI p'.p)):=by
 obtain ⟨A,c,rs,L,len,cap,gs,h1,h2⟩:=h;obtain ⟨b,o,p,rfl,hb,hg,y0,y1,y2,y3⟩:=fD h1.r hi;obtain ⟨b',o',p',he,rb,Fu,z0,z1,z2,z3⟩:=fD h1.r hj;simp only [fW,iO] at he;obtain ⟨rfl,rfl,-⟩:=he
 exact ⟨h1.b.cell 0,b,o,c,p,p',h1.b.cell 1,⟨y0,y1,y2,y3⟩,z0,z1,z2,z3⟩
theorem Ee {P:Prop} (h:P:=by
 go_wp2_with fail;refine (aM 1 i _ (xZ _)).mono ?_;rintro e wo ⟨rfl,rz⟩;have cI:=hY (HX.u.ext rz);clear rz HX;have HX:=cI;clear cI;go_wp2_with fail;refine (HX.u.TW (oM HN.u) ⟨1,i,0,0⟩).mono ?_;rintro e wd ⟨rfl,tE⟩;have cI:=hY tE;clear tE HX;have HX:=cI;clear cI;have cI:=hY (HX.u.more (most':=bf+16) (oM HN.u));clear HX;go_wp2
 exact BZ (v:=.tuple #[]) af rfl ⟨rfl,cI.u⟩):P:=h
theorem Ef {P:Prop} (h:P:=by
 have cI:=hY (HX.u.more (most':=bf+16) (oM HN.u));clear HX;go_wp2
 exact BZ (v:=.tuple #[]) af rfl ⟨rfl,cI.u⟩):P:=h
theorem Ga (w0 W:World) (q n m i bf:Nat) (h:yo w0 W q n m bf) (hn:1<=n/\n<=4) (hm:m=2*n) (hi:i<n) (CK:bf<=900000):
  Calls prog 145 #[.pointer (some ⟨q,0,none⟩),iI i] W fun e W'=>e=.returned (.tuple #[])/\yo w0 W' q n m (bf+16):=by
 have HN:Hid (1<=n/\n<=4/\m=2*n/\i<n/\bf<=900000):=⟨hn.1,hn.2,hm,hi,CK⟩;have HX:=hY h;have NB:(0:Int)<=(i:Int):=aa
 have him:(i:Int)<(m:Int):=aa
 have UM:(0:Int)<=(n:Int)+(i:Int):=aa
 have hsm:(n:Int)+(i:Int)<(m:Int):=aa
 have OH:IntKind.i64.wrap ((n:Int)+(i:Int))=(n:Int)+(i:Int):=lH _ aa;have Jy:wrap64 ((n:Int)+(i:Int))=(n:Int)+(i:Int):=bo
 have hs3:((n:Int)+(i:Int)).toNat=n+i:=aa
 clear h hn hm hi CK;have d0:=HX.u.n_;go_enter func145,ntmps145;go_wp2;clear d0
 go_loopw [5] (fun kv wr=>∃k:Nat,kv=iI k/\i+1<=k/\k<=n/\Hid (yo w0 wr q n m (bf+0+2*(k - (i+1))))) (fun kv _=>n - (intOf kv).toNat)
 case atStart=>
      exact wG
 case round=>
  obtain ⟨k,rfl,Fz,jT,cI⟩:=hrel;clear HX;have HX:=cI;clear cI
  by_cases bh:k<n
  ·have bS:Hid (i+1<=k/\k<n/\n<=4):=⟨Fz,bh,HN.u.2.1⟩;have eM:=wA k (oM HN.u);have iG:=wB k (oM HN.u);obtain ⟨d0,b,o,c,p,d1,x0,x1,x2,x3⟩:=HX.u.row (i:=n+i) (oM HN.u);go_upto_region 5 with fail;have cI:=hY (HX.u.ext ((xZ wr).alloc (cO (jF p) 187)));have HP:Hid (ay (wr.alloc (cO (jF p) 187)) wr.heap.size 187 (jF p)):=ay.new _ _ _;clear HX d0 d1 x0 x1 x2 x3;have HX:=cI;clear cI;generalize wr.alloc (cO (jF p) 187)=wp at*
   generalize wr.heap.size=s at*
   obtain ⟨⟨p0,p1,p2,p3⟩,-⟩:=aB HP.u;go_wp2_with fail;refine (nC p k (oM HN.u) _).mono ?_;rintro e wx ⟨⟨bx,rfl⟩,iY⟩;have cI:=hY (HX.u.ext iY);have QE:=hY (HP.u.ext iY);clear iY HX HP p0 p1 p2 p3;have HX:=cI;have HP:=QE;clear cI QE
   cases bx
   ·obtain ⟨⟨p0,p1,p2,p3⟩,-⟩:=aB HP.u;go_wp2_with fail;refine (nC p k (oM HN.u) _).mono ?_
    exact qE
   ·obtain ⟨⟨p0,p1,p2,p3⟩,-⟩:=aB HP.u;go_wp2_with fail;refine (tD p k (oM HN.u) _).mono ?_;rintro e wx ⟨⟨bx,rfl⟩,iY⟩;have cI:=hY (HX.u.ext iY);have QE:=hY (HP.u.ext iY);clear iY HX HP p0 p1 p2 p3;have HX:=cI;have HP:=QE;clear cI QE
    cases bx
    ·obtain ⟨⟨p0,p1,p2,p3⟩,-⟩:=aB HP.u;go_wp2_with fail;refine (nC p k (oM HN.u) _).mono ?_
     exact qE
    ·go_wp2_with fail;refine (aM 5 k _ (xZ _)).mono ?_;rintro e wo ⟨rfl,rz⟩;have cI:=hY (HX.u.ext rz);clear rz HX;have HX:=cI;clear cI;go_wp2_with fail;refine (HX.u.TW (oM HN.u) ⟨5,k,0,0⟩).mono ?_;rintro e wd ⟨rfl,tE⟩;have cI:=hY tE;clear tE HX;have HX:=cI;clear cI;go_wp2_with fail;refine (aM 4 k _ (xZ _)).mono ?_;rintro e wo ⟨rfl,rz⟩;have cI:=hY (HX.u.ext rz);clear rz HX;have HX:=cI;clear cI;go_wp2_with fail;refine (HX.u.TW (oM HN.u) ⟨4,k,0,0⟩).mono ?_;rintro e wd ⟨rfl,tE⟩;have cI:=hY tE;clear tE HX;have HX:=cI;clear cI
     exact kz
  ·obtain rfl:n=k:=aa
   have cI:=hY (HX.u.more (most':=bf+6) (oM HN.u));clear HX;have HX:=cI;clear cI;clear bh Fz jT;go_wp2
   go_loopw [7] (fun kv wr=>∃k:Nat,kv=iI k/\i+1<=k/\k<=n/\Hid (yo w0 wr q n m (bf+6+1*(k - (i+1))))) (fun kv _=>n - (intOf kv).toNat)
   case atStart=>
      exact wG
   case round=>
    obtain ⟨k,rfl,Fz,jT,cI⟩:=hrel;clear HX;have HX:=cI;clear cI
    by_cases bh:k<n
    ·have bS:Hid (i+1<=k/\k<n/\n<=4):=⟨Fz,bh,HN.u.2.1⟩;have eM:=wA k (oM HN.u);have iG:=wB k (oM HN.u);obtain ⟨d0,b,o,c,p,d1,x0,x1,x2,x3⟩:=HX.u.row (i:=n+i) (oM HN.u);go_wp2_with fail;refine (tD p k (oM HN.u) _).mono ?_;rintro e wx ⟨⟨bx,rfl⟩,iY⟩;have cI:=hY (HX.u.ext iY);clear iY HX d0 d1 x0 x1 x2 x3;have HX:=cI;clear cI
     cases bx
     ·exact kz
     ·go_wp2_with fail;refine (dA k i _ (xZ _)).mono ?_;rintro e wo ⟨rfl,rz⟩;have cI:=hY (HX.u.ext rz);clear rz HX;have HX:=cI;clear cI;go_wp2_with fail;refine (HX.u.TW (oM HN.u) ⟨9,k,i,0⟩).mono ?_;rintro e wd ⟨rfl,tE⟩;have cI:=hY tE;clear tE HX;have HX:=cI;clear cI
      exact kz
    ·obtain rfl:n=k:=aa
     have cI:=hY (HX.u.more (most':=bf+9) (oM HN.u));clear HX;have HX:=cI;clear cI;clear bh Fz jT;obtain ⟨d0,b,o,c,p,d1,x0,x1,x2,x3⟩:=HX.u.row (i:=n+i) (oM HN.u);go_wp2_with fail;refine (nC p i (oM HN.u) _).mono ?_;rintro e wx ⟨⟨bx,rfl⟩,iY⟩;have cI:=hY (HX.u.ext iY);clear iY HX d0 d1 x0 x1 x2 x3;have HX:=cI;clear cI
     cases bx
     case' true=>
      go_wp2_with fail;refine (aM 4 i _ (xZ _)).mono ?_;rintro e wo ⟨rfl,rz⟩;have cI:=hY (HX.u.ext rz);clear rz HX;have HX:=cI;clear cI;go_wp2_with fail;refine (HX.u.TW (oM HN.u) ⟨4,i,0,0⟩).mono ?_;rintro e wd ⟨rfl,tE⟩;have cI:=hY tE;clear tE HX;have HX:=cI;clear cI;go_wp2_with fail;refine (aM 5 i _ (xZ _)).mono ?_;rintro e wo ⟨rfl,rz⟩;have cI:=hY (HX.u.ext rz);clear rz HX;have HX:=cI;clear cI;go_wp2_with fail;refine (HX.u.TW (oM HN.u) ⟨5,i,0,0⟩).mono ?_;rintro e wd ⟨rfl,tE⟩;have cI:=hY tE;clear tE HX;have HX:=cI;clear cI;go_wp2_with fail;refine (aM 4 i _ (xZ _)).mono ?_;rintro e wo ⟨rfl,rz⟩;have cI:=hY (HX.u.ext rz);clear rz HX;have HX:=cI;clear cI;go_wp2_with fail;refine (HX.u.TW (oM HN.u) ⟨4,i,0,0⟩).mono ?_;rintro e wd ⟨rfl,tE⟩;have cI:=hY tE;clear tE HX;have HX:=cI;clear cI
     all_goals
      have cI:=hY (HX.u.more (most':=bf+12) (oM HN.u));clear HX;have HX:=cI;clear cI;obtain ⟨d0,b,o,c,p,p',d1,⟨x0,x1,x2,x3⟩,y0,y1,y2,y3⟩:=HX.u.ajS (i:=i) (j:=n+i) (oM HN.u) (oM HN.u)
      by_cases hp2:p.p=2
      ·rw [hp2] at x3;clear y0 y1 y2 y3 hp2;go_wp2_with fail;refine (aM 3 i _ (xZ _)).mono ?_;rintro e wo ⟨rfl,rz⟩;have cI:=hY (HX.u.ext rz);clear rz HX;have HX:=cI;clear cI;go_wp2_with fail;refine (HX.u.TW (oM HN.u) ⟨3,i,0,0⟩).mono ?_;rintro e wd ⟨rfl,tE⟩;have cI:=hY tE;clear tE HX;have HX:=cI;clear cI;have cI:=hY (HX.u.more (most':=bf+13) (oM HN.u));clear HX;have HX:=cI;clear cI;clear d0 d1 x0 x1 x2 x3;obtain ⟨d0,b,o,c,p,p',d1,⟨x0,x1,x2,x3⟩,y0,y1,y2,y3⟩:=HX.u.ajS (i:=i) (j:=n+i) (oM HN.u) (oM HN.u)
       by_cases hp3:p'.p=2
       ·rw [hp3] at y3;clear x0 x1 x2 x3 hp3
        exact Ee
       ·clear x0 x1 x2 x3
        exact Ef
      ·by_cases hp3:p'.p=2
       ·rw [hp3] at y3;clear hp3
        exact Ee
       ·exact Ef
end Go.Proofs.YtiajdbllccmokaaGreatDoor
