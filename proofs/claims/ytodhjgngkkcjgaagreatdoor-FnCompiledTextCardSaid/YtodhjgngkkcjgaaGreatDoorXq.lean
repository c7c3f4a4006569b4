import Derived.Test.YtodhjgngkkcjgaaGreatDoorXj
import Derived.Test.YtodhjgngkkcjgaaGreatDoorXl
namespace Go.Proofs.YtodhjgngkkcjgaaGreatDoor
open Go.ChangeShapes Go.WideShapes Go.ChangeAt Go.RowKit Go.Deep Go.Proofs.Tryz
set_option linter.unusedVariables false
set_option linter.unusedSimpArgs false
set_option maxRecDepth 100000
set_option maxHeartbeats 16000000
def Plain (A:OA) (c:Nat):Prop:=(A=none/\c=0)\/∃b o,A=some ⟨b,o,none⟩
theorem My {w:World} {B e size n c:Nat} {A:OA} {xs:List Value} (h:w.ownsRow B e size (.slice A n c) n xs):Plain A c:=by
 rcases h.2 with ⟨h0,hn⟩|⟨g,jM,cur,hv,_,_,_,_⟩
 ·injection h0 with h1 h2 h3;subst h1 h3
  exact Or.inl ⟨rfl,rfl⟩
 ·injection hv with h1 h2 h3
  exact Or.inr ⟨g,0,h1⟩
def RI (w:World) (B:Nat) (v:Value) (p:Pp):Prop:=∃(A1:OA) (c1:Nat) (A2:OA) (c2:Nat),v=.agg #[iI p.n,iI p.ph,.slice A1 p.ts.length c1,.slice A2 p.os.length c2]/\
 Rd w B 2 A1 p.ts.length (aQ p.ts)/\Rd w B 2 A2 p.os.length (bF p.os)/\p.ts.length<=c1/\p.os.length<=c2/\Plain A1 c1/\Plain A2 c2
theorem RI.ext {w w':World} {v:Value} {p:Pp} (h:RI w w.heap.size v p) (hx:Ext w w'):RI w' w'.heap.size v p:=by
 obtain ⟨A1,c1,A2,c2,h1,h2,h3,h4⟩:=h
 exact ⟨A1,c1,A2,c2,h1,h2.ext hx,h3.ext hx,h4⟩
def wN (w:World) (B:Nat) (v:Value) (p:Pp):Prop:=∃(A1:OA) (c1:Nat) (A2:OA) (c2:Nat),v=.agg #[iI p.n,iI p.ph,.slice A1 p.ts.length c1,.slice A2 p.os.length c2]/\
 w.ownsRow B 243 2 (.slice A1 p.ts.length c1) p.ts.length (aQ p.ts)/\w.ownsRow B 227 2 (.slice A2 p.os.length c2) p.os.length (bF p.os)
theorem ac4 {w:World} {B:Nat} {v:Value} {p:Pp} (h:wN w B v p):RI w w.heap.size v p:=by
 obtain ⟨A1,c1,A2,c2,h1,h2,h3⟩:=h;have l1:p.ts.length<=c1:=by
  rcases h2.2 with ⟨h0,h5⟩|⟨g,cap,cur,hv,_,_,LR,_⟩
  ·omega
  ·injection hv with _ _ h6;omega
 have l2:p.os.length<=c2:=by
  rcases h3.2 with ⟨h0,h5⟩|⟨g,cap,cur,hv,_,_,LR,_⟩
  ·omega
  ·injection hv with _ _ h6;omega
 exact ⟨A1,c1,A2,c2,h1,Rd.own h2,Rd.own h3,l1,l2,My h2,My h3⟩
theorem ac5 {ts:List Pt} {m:Int} {k:Nat} {x:Pt} (hx:ts[k]?=some x) (hn:∀y∈ts.take k,¬y.m=m) (hm:x.m=m):nD ts m=x.c:=by
 have e:ts=ts.take k++x::ts.drop (k+1):=by
  obtain ⟨hl,rfl⟩:=gu.1 hx;rw [<-Bn hl,yj]
 unfold nD;rw [e,List.find?_append];have h0:(ts.take k).find? (fun t=>t.m==m)=none:=Ns.2 fun y hy=>by simpa using hn y hy
 rw [h0];simp [hm]
theorem Zt {ts:List Pt} {m:Int} (hn:∀y∈ts,¬y.m=m):nD ts m=0:=by
 unfold nD;rw [Ns.2 fun y hy=>by simpa using hn y hy]
theorem RJ (v:Value) (p:Pp) (m:Int) (w:World) (h:RI w w.heap.size v p) (hn:p.ts.length<=200000000000):
  Calls prog 182 #[v,iI m] w fun e w'=>e=.returned (iI (nD p.ts m))/\Ext w w':=by
 obtain ⟨A1,c1,A2,c2,rfl,hr,-,-⟩:=h;obtain ⟨ts,hts⟩:=ey (p.ts);obtain ⟨n,Bk⟩:=ey (ts.length);rw [<-hts] at hr hn |-;rw [<-Bk] at hr hn |-;have HN:=hY Bk.symm;have cH:Hid (Ext w (w.alloc (cO #[iI p.n,iI p.ph,.slice A1 n c1,.slice A2 p.os.length c2] 222))):=fT
 have HB:Hid (au (w.alloc (cO #[iI p.n,iI p.ph,.slice A1 n c1,.slice A2 p.os.length c2] 222)) w.heap.size 222 #[iI p.n,iI p.ph,.slice A1 n c1,.slice A2 p.os.length c2]):=au.new w _ _;have HR:=hY (hr.ext cH.u);clear hr hts Bk;go_enter func182,ntmps182;go_upto_region 1 with fail;generalize w.alloc (cO #[iI p.n,iI p.ph,.slice A1 n c1,.slice A2 p.os.length c2] 222)=W at*
 obtain ⟨⟨b0,b1,b2,b3⟩,-⟩:=aB HB.u;go_wp2
 go_loop [5] (fun i=>∃k:Nat,k<=n/\i=iI k/\Hid (∀y∈ts.take k,¬y.m=m)) (fun i=>n - (intOf i).toNat)
 case atStart=>exact ⟨0,lJ _,rfl,fun y hy=>by simp at hy⟩
 case round=>
  obtain ⟨k,hk,rfl,HQ⟩:=hrel
  by_cases ba:k<n
  ·obtain ⟨b,o,x,rfl,-,hx,x0,x1⟩:=Wn HR.u ba;have HX:=hY hx;have bZ:=hY ba;have et:=wA k aa;have iM:=wB k aa;clear hx
   by_cases hm:x.m=m
   ·have HV:=hY (ac5 HX.u HQ.u hm);have hmb:(x.m==m)=true:=sU hm
    clear hm;go_wp2;go_ret
    exact ⟨eB HV.u.symm,cH.u⟩
   ·have oH:Hid (∀y∈ts.take (k+1),¬y.m=m):=fun y hy=>by
     rw [aS HX.u] at hy;rcases iT.1 hy with hy|hy
     ·exact HQ.u y hy
     ·rw [oZ.1 hy];exact hm
    have hmb:(x.m==m)=false:=sU hm
    clear hm;go_wp2;go_roundw
    case rel=>exact ⟨k+1,oM bZ.u,by first|rfl|rw [et]|rw [iM],oH⟩
    case measure=>simp [intOf,iM];have:=bZ.u;omega
  ·have jJ:k=n:=aa
   subst jJ;have HV:Hid (nD ts m=0):=Zt fun y hy=>HQ.u y (by rw [lE (by rw [HN.u];exact lI _)];exact hy)
   go_wp2;go_ret
   exact ⟨eB HV.u.symm,cH.u⟩
theorem sG {w:World} {B:Nat} (h:B<=w.heap.size):({w with heap:=w.heap.extract 0 B}:World).heap.size=B:=ai
theorem ID {w:World} {B:Nat} (h:B<=w.heap.size):Ext ({w with heap:=w.heap.extract 0 B}:World) w:=by
 refine ⟨rfl,rfl,rfl,by rw [sG h];exact h,fun k hk=>?_⟩;rw [sG h] at hk;simp [Nl];omega
theorem Mz {w w':World} (h:Ext w w') (row:Option Nat):w.grownBy w' row:=⟨h.os,h.tape,h.output,h.size,fun k hk _=>h.block k hk⟩
theorem OD {w:World} {B:Nat} {ops:Array Oper} {rest:List Oper} {o:Oper} {a:Act} {Q:Exit->Act->World->Prop} (fX:o.guard=none) (s x:Operand)
  (ho:aO o s x 220) (v:Value) (n:Nat) (xs:List Af) (hs:a.eval s=v)
  (bj:w.ownsRow B 227 2 v n (bF xs)) (hB:B<=w.heap.size) (y:Af) (e:TypeId) (b:Nat) (hx:a.eval x=.slice (some ⟨b,0,none⟩) 1 1) (sg:b=w.heap.size) (hn:n<=1800000000000)
  (h:∀A' c' w',w'.ownsRow B 227 2 (.slice A' (n+1) c') (n+1) (bF (xs++[y]))->w.grownBy w' v.ownBlock->wpList prog ops Q rest (a.put o.dst (.slice A' (n+1) c')) w'):
  wpList prog ops Q (o::rest) a (w.alloc (cO #[iI y.m,iI y.f] e)):=by
 subst sg;have mW:=sG hB;refine Ut (w0:={w with heap:=w.heap.extract 0 B}) fX s x ho v n xs hs dT ((ID hB).alloc _) _ 1 1 [y] hx (dZ w _ e 2 _ mU mU) aa ?_;intro v' w' h1 h2 h3 h4;rw [mW] at h1;obtain ⟨A',c',rfl,_⟩:=ak h1
 exact h A' c' w' h1 (FP (Mz ((xZ w).alloc _) _) h3)
structure Zu (w0 W:World) (r q:Nat) (n:Int) (A:OA) (k c:Nat) (os:List Af):Prop where
 b0:au W r 222 jB
 b:au W q 222 #[iI n,iI 0,nS,.slice A k c]
 o:W.ownsRow (q+1) 227 2 (.slice A k c) k (bF os)
 x:Ext w0 W
 le:w0.heap.size<=r/\r<q
theorem Zu.app {w0 W W':World} {r q:Nat} {n:Int} {A A':OA} {k c c':Nat} {os:List Af} {y:Af} (h:Zu w0 W r q n A k c os) (ho:W'.ownsRow (q+1) 227 2 (.slice A' (k+1) c') (k+1) (bF (os++[y]))) (hg:W.grownBy W' (Value.slice A k c).ownBlock):
  au W' q 222 #[iI n,iI 0,nS,.slice A k c]/\Zu w0 (W'.setCell (aA q 3) (.slice A' (k+1) c')) r q n A' (k+1) c' (os++[y]):=by
 obtain ⟨l1,l2⟩:=h.le;have hne:∀g,(Value.slice A k c).ownBlock=some g->q<g:=fun g hgk=>oM ((h.o.lt g hgk).1)
 have hb:=h.b.grown hg (fun g hgk=>oM (hne g hgk))
 exact ⟨hb,(h.b0.grown hg (fun g hgk=>oM (hne g hgk))).cB (p:=(aA q 3)) (by show r≠q;omega) _,hb.aU 3 _,bo ho (p:=(aA q 3)) (yq q) _,(h.x.grown hg (fun g hgk=>oM (hne g hgk))).setCell (p:=(aA q 3)) (by show w0.heap.size<=q;omega) _,h.le⟩
def RL (k:Nat):List Af:=(List.range k).map fun (q:Nat)=>⟨pw (q:Int),0⟩
theorem abk (k:Nat):RL (k+1)=RL k++[⟨pw (k:Int),0⟩]:=by unfold RL;rw [FR,qF];rfl
theorem WT (k:Nat):(RL k).length=k:=by unfold RL;rw [jK,TK]
theorem fN (n:Int) (w:World) (h1:1<=n) (h4:n<=4):Calls prog 179 #[iI n] w fun e w'=>(∃v,e=.returned v/\wN w' w.heap.size v (Fc n))/\Ext w w':=by
 go_enter func179,ntmps179;go_wp2_with fail;refine (aF _ _ _ _ h1 h4).mono ?_;rintro e w' ⟨rfl,rfl⟩;have HP0:Hid (Zu w ((w.alloc (cO jB 222)).alloc (cO #[iI n,iI 0,nS,nS] 222)) w.heap.size (w.heap.size+1) n none 0 0 []):=⟨(au.new w _ _).alloc _,au.newAt ag,⟨ag,.inl ⟨rfl,rfl⟩⟩,aw,lI _,yq _⟩;go_upto_region 5 with fail;generalize (w.alloc (cO jB 222)).alloc (cO #[iI n,iI 0,nS,nS] 222)=W at*
 have HN:Hid (1<=n/\n<=4):=⟨h1,h4⟩
 go_loopw [4] (fun iv wr=>∃(k:Nat) (A:OA) (c:Nat),iv=iI k/\(k:Int)<=n/\Hid (Zu w wr w.heap.size (w.heap.size+1) n A k c (RL k))) (fun iv _=>n.toNat - (intOf iv).toNat)
 case atStart=>exact ⟨0,none,0,rfl,aa,HP0⟩
 case round=>
  obtain ⟨k,A,c,rfl,hk,HD⟩:=hrel;clear HP0
  by_cases ba:(k:Int)<n
  ·have bZ:=hY ba;have hk4:k=0\/k=1\/k=2\/k=3:=aa
   rcases hk4 with rfl|rfl|rfl|rfl
   ·have h0:=HD.u.b;have b3:=h0.ck 3;have hs0:=h0.lt;clear h0;go_wp2_with (at_builtin;refine OD (B:=w.heap.size+1+1) rfl _ _ rfl _ 0 (RL 0) rfl HD.u.o aa ⟨pw (0:Nat),0⟩ _ _ rfl rfl aa ?_;intro A9 c9 w9 g1 g2;have HA:=hY (Zu.app HD.u g1 g2);have k3:w9.cell? (aA (w.z+1) 3)=some (.slice A 0 c):=HA.u.1.cell 3;have f3:w9.frozen? (aA (w.z+1) 3)=false:=HA.u.1.frozen 3;clear g1 g2)
    have Cz:Hid (Zu w (w9.setCell (aA (w.heap.size+1) 3) (.slice A9 (0+1) c9)) w.heap.size (w.heap.size+1) n A9 (0+1) c9 (RL (0+1))):=mR
    clear k3 f3 b3;go_wp2;go_roundw
    case rel=>exact ⟨1,A9,c9,rfl,oM HN.u,Cz⟩
    case measure=>simp [intOf];have:=bZ.u;omega
   ·have h0:=HD.u.b;have b3:=h0.ck 3;have hs0:=h0.lt;clear h0;go_wp2_with (at_builtin;refine OD (B:=w.heap.size+1+1) rfl _ _ rfl _ 1 (RL 1) rfl HD.u.o aa ⟨pw (1:Nat),0⟩ _ _ rfl rfl aa ?_;intro A9 c9 w9 g1 g2;have HA:=hY (Zu.app HD.u g1 g2);have k3:w9.cell? (aA (w.z+1) 3)=some (.slice A 1 c):=HA.u.1.cell 3;have f3:w9.frozen? (aA (w.z+1) 3)=false:=HA.u.1.frozen 3;clear g1 g2)
    have Cz:Hid (Zu w (w9.setCell (aA (w.heap.size+1) 3) (.slice A9 (1+1) c9)) w.heap.size (w.heap.size+1) n A9 (1+1) c9 (RL (1+1))):=mR
    clear k3 f3 b3;go_wp2;go_roundw
    case rel=>exact ⟨2,A9,c9,rfl,oM HN.u,Cz⟩
    case measure=>simp [intOf];have:=bZ.u;omega
   ·have h0:=HD.u.b;have b3:=h0.ck 3;have hs0:=h0.lt;clear h0;go_wp2_with (at_builtin;refine OD (B:=w.heap.size+1+1) rfl _ _ rfl _ 2 (RL 2) rfl HD.u.o aa ⟨pw (2:Nat),0⟩ _ _ rfl rfl aa ?_;intro A9 c9 w9 g1 g2;have HA:=hY (Zu.app HD.u g1 g2);have k3:w9.cell? (aA (w.z+1) 3)=some (.slice A 2 c):=HA.u.1.cell 3;have f3:w9.frozen? (aA (w.z+1) 3)=false:=HA.u.1.frozen 3;clear g1 g2)
    have Cz:Hid (Zu w (w9.setCell (aA (w.heap.size+1) 3) (.slice A9 (2+1) c9)) w.heap.size (w.heap.size+1) n A9 (2+1) c9 (RL (2+1))):=mR
    clear k3 f3 b3;go_wp2;go_roundw
    case rel=>exact ⟨3,A9,c9,rfl,oM HN.u,Cz⟩
    case measure=>simp [intOf];have:=bZ.u;omega
   ·have h0:=HD.u.b;have b3:=h0.ck 3;have hs0:=h0.lt;clear h0;go_wp2_with (at_builtin;refine OD (B:=w.heap.size+1+1) rfl _ _ rfl _ 3 (RL 3) rfl HD.u.o aa ⟨pw (3:Nat),0⟩ _ _ rfl rfl aa ?_;intro A9 c9 w9 g1 g2;have HA:=hY (Zu.app HD.u g1 g2);have k3:w9.cell? (aA (w.z+1) 3)=some (.slice A 3 c):=HA.u.1.cell 3;have f3:w9.frozen? (aA (w.z+1) 3)=false:=HA.u.1.frozen 3;clear g1 g2)
    have Cz:Hid (Zu w (w9.setCell (aA (w.heap.size+1) 3) (.slice A9 (3+1) c9)) w.heap.size (w.heap.size+1) n A9 (3+1) c9 (RL (3+1))):=mR
    clear k3 f3 b3;go_wp2;go_roundw
    case rel=>exact ⟨4,A9,c9,rfl,oM HN.u,Cz⟩
    case measure=>simp [intOf];have:=bZ.u;omega
  ·have jJ:n=(k:Int):=aa
   subst jJ;have hz:=HD.u.le;obtain ⟨⟨b0,b1,b2,b3⟩,-⟩:=aB HD.u.b;obtain ⟨⟨d0,d1,d2,d3⟩,z0,z1,z2,z3⟩:=aB HD.u.b0;have HB:Hid (au (bR wr w.heap.size (iI k) (iI 0) (nS) (.slice A k c)) w.heap.size 222 #[iI k,iI 0,nS,.slice A k c]):=HD.u.b0.bR _ _ _ _;have HX:Hid (Ext w (bR wr w.heap.size (iI k) (iI 0) (nS) (.slice A k c))):=aW (g:=w.heap.size) HD.u.x (lI _) _ _ _ _;have HO:Hid ((bR wr w.heap.size (iI k) (iI 0) (nS) (.slice A k c)).ownsRow (w.heap.size+1+1) 227 2 (.slice A k c) k (bF (RL k))):=
    bo (bo (bo (bo HD.u.o (p:=(aA w.heap.size 0)) (by show w.heap.size<_;omega) _) (p:=(aA w.heap.size 1)) (by show w.heap.size<_;omega) _) (p:=(aA w.heap.size 2)) (by show w.heap.size<_;omega) _) (p:=(aA w.heap.size 3)) (by show w.heap.size<_;omega) _
   go_wp2;refine bJ (v:=.agg #[iI k,iI 0,nS,.slice A k c]) ?_ rfl ?_
   rotate_left
   ·have ho:(Fc k).os=RL k:=by unfold Fc RL;rw [yp]
    refine ⟨⟨_,rfl,none,0,A,c,?_,⟨rfl,Or.inl ⟨rfl,rfl⟩⟩,?_⟩,HX.u⟩
    ·rw [ho,WT];rfl
    ·rw [ho,WT];exact aC HO.u aa
   ·exact pc rfl _ _ w.heap.size 222 _ (0,0) _ af HB.u yu rfl af
theorem RM (v:Value) (p:Pp) (w:World) (h:RI w w.heap.size v p) (hn:p.ts.length<=200000000000) (hm:p.os.length<=200000000000):
  Calls prog 192 #[v] w fun e w'=>(∃v',e=.returned v'/\wN w' w.heap.size v' p)/\Ext w w':=by
 obtain ⟨A1,c1,A2,c2,rfl,kG,jk,-,-,-,-⟩:=h;obtain ⟨N,F,ts,os⟩:=p;simp only at kG jk hn hm |-;obtain ⟨n1,jX⟩:=ey (ts.length);obtain ⟨n2,DP⟩:=ey (os.length);rw [<-jX] at kG hn |-;rw [<-DP] at jk hm |-;have HN:=hY (lQ jX DP);have cH:Hid (Ext w ((w.alloc (cO #[iI N,iI F,.slice A1 n1 c1,.slice A2 n2 c2] 222)).alloc (cO jB 222))):=fT
 have HB:Hid (au ((w.alloc (cO #[iI N,iI F,.slice A1 n1 c1,.slice A2 n2 c2] 222)).alloc (cO jB 222)) w.heap.size 222 #[iI N,iI F,.slice A1 n1 c1,.slice A2 n2 c2]/\au ((w.alloc (cO #[iI N,iI F,.slice A1 n1 c1,.slice A2 n2 c2] 222)).alloc (cO jB 222)) (w.heap.size+1) 222 jB):=⟨(au.new w _ _).alloc _,au.newAt ag⟩;have hs:w.heap.size+1+1=((w.alloc (cO #[iI N,iI F,.slice A1 n1 c1,.slice A2 n2 c2] 222)).alloc (cO jB 222)).heap.size:=ag
 have mC:=hY kG;have jN:=hY jk;clear kG jk jX DP;go_enter func192,ntmps192;go_upto_region 1 with fail;generalize ((w.alloc (cO #[iI N,iI F,.slice A1 n1 c1,.slice A2 n2 c2] 222)).alloc (cO jB 222))=W at*
 have a2:(W.alloc (cO #[] 243)).cell? (aA w.z 2)=some (.slice A1 n1 c1):=(HB.u.1.alloc _).cell 2;go_upto_region 2 with (at_builtin;refine nW (w0:=W) rfl _ _ rfl _ 0 [] rfl (aN W W _ 2 (xZ _)) ((xZ W).alloc _) A1 n1 c1 ts rfl ((mC.u.ext cH.u).ext ((xZ _).alloc _)) aa ?_;intro v5 w5 g1 g2 g3 g4;rw [lM,lN] at g1;obtain ⟨A5,c5,rfl,-⟩:=ak g1;have k2:w5.cell? (aA w.z 2)=some (.slice A1 n1 c1):=(HB.u.1.ext g2).cell 2;have f2:w5.frozen? (aA w.z 2)=false:=(HB.u.1.ext g2).frozen 2)
 have ak2:w.heap.size<W.heap.size:=aa
 have kN:Hid (au (w5.setCell (aA w.heap.size 2) (.slice A5 n1 c5)) w.heap.size 222 #[iI N,iI F,.slice A5 n1 c5,.slice A2 n2 c2]/\au (w5.setCell (aA w.heap.size 2) (.slice A5 n1 c5)) (w.heap.size+1) 222 jB):=⟨(HB.u.1.ext g2).aU 2 _,(HB.u.2.ext g2).cB (p:=(aA w.heap.size 2)) (by show w.heap.size+1≠w.heap.size;omega) _⟩;have jL:Hid ((w5.setCell (aA w.heap.size 2) (.slice A5 n1 c5)).ownsRow W.heap.size 243 2 (.slice A5 n1 c5) n1 (aQ ts)):=bo g1 (p:=(aA w.heap.size 2)) ak2 _;have jP:Hid (Ext w (w5.setCell (aA w.heap.size 2) (.slice A5 n1 c5))):=(cH.u.trans g2).setCell (p:=(aA w.heap.size 2)) (lI _) _;have Zv:W.heap.size<=(w5.setCell (aA w.heap.size 2) (.slice A5 n1 c5)).heap.size:=by have:=g2.size;simpa using this
 (try rw [lM])
 clear a2 k2 f2 g1 g2 g3 g4 HB;generalize w5.setCell (aA w.heap.size 2) (.slice A5 n1 c5)=W2 at*
 have a3:(W2.alloc (cO #[] 227)).cell? (aA w.z 3)=some (.slice A2 n2 c2):=(kN.u.1.alloc _).cell 3;go_upto_region 3 with (at_builtin;refine Ut (w0:=W2) rfl _ _ rfl _ 0 [] rfl (aN W2 W2 _ 2 (xZ _)) ((xZ W2).alloc _) A2 n2 c2 os rfl ((jN.u.ext jP.u).ext ((xZ _).alloc _)) aa ?_;intro v6 w6 g1 g2 g3 g4;rw [lM,lN] at g1;obtain ⟨A6,c6,rfl,-⟩:=ak g1;have k2:w6.cell? (aA w.z 3)=some (.slice A2 n2 c2):=(kN.u.1.ext g2).cell 3;have f2:w6.frozen? (aA w.z 3)=false:=(kN.u.1.ext g2).frozen 3)
 have dP:Hid (au (w6.setCell (aA w.heap.size 3) (.slice A6 n2 c6)) w.heap.size 222 #[iI N,iI F,.slice A5 n1 c5,.slice A6 n2 c6]/\au (w6.setCell (aA w.heap.size 3) (.slice A6 n2 c6)) (w.heap.size+1) 222 jB):=⟨(kN.u.1.ext g2).aU 3 _,(kN.u.2.ext g2).cB (p:=(aA w.heap.size 3)) (by show w.heap.size+1≠w.heap.size;omega) _⟩;have mn:Hid ((w6.setCell (aA w.heap.size 3) (.slice A6 n2 c6)).ownsRow W.heap.size 227 2 (.slice A6 n2 c6) n2 (bF os)/\(w6.setCell (aA w.heap.size 3) (.slice A6 n2 c6)).ownsRow W.heap.size 243 2 (.slice A5 n1 c5) n1 (aQ ts)):=⟨bo (aC g1 Zv) (p:=(aA w.heap.size 3)) ak2 _,bo (aj jL.u g2) (p:=(aA w.heap.size 3)) ak2 _⟩;have dL:Hid (Ext w (w6.setCell (aA w.heap.size 3) (.slice A6 n2 c6))):=(jP.u.trans g2).setCell (p:=(aA w.heap.size 3)) (lI _) _
 (try rw [lM])
 clear a3 k2 f2 g1 g2 g3 g4 kN jL jP;generalize w6.setCell (aA w.heap.size 3) (.slice A6 n2 c6)=W3 at*
 obtain ⟨⟨b0,b1,b2,b3⟩,-⟩:=aB dP.u.1;obtain ⟨⟨d0,d1,d2,d3⟩,z0,z1,z2,z3⟩:=aB dP.u.2;have nZ:Hid (au (bR W3 (w.heap.size+1) (iI N) (iI F) (.slice A5 n1 c5) (.slice A6 n2 c6)) (w.heap.size+1) 222 #[iI N,iI F,.slice A5 n1 c5,.slice A6 n2 c6]):=dP.u.2.bR _ _ _ _;have fz:Hid (Ext w (bR W3 (w.heap.size+1) (iI N) (iI F) (.slice A5 n1 c5) (.slice A6 n2 c6))):=aW (g:=w.heap.size+1) dL.u aa _ _ _ _;have pR:w.heap.size+1<W.heap.size:=aa
 have bj:∀{e size n:Nat} {u:Value} {xs:List Value},W3.ownsRow W.heap.size e size u n xs->(bR W3 (w.heap.size+1) (iI N) (iI F) (.slice A5 n1 c5) (.slice A6 n2 c6)).ownsRow w.heap.size e size u n xs:=fun ho=>aC (bo (bo (bo (bo ho (p:=(aA (w.heap.size+1) 0)) pR _) (p:=(aA (w.heap.size+1) 1)) pR _) (p:=(aA (w.heap.size+1) 2)) pR _) (p:=(aA (w.heap.size+1) 3)) pR _) aa
 have gH:=hY (lQ (bj mn.u.1) (bj mn.u.2));clear bj;go_wp2;refine bJ (v:=.agg #[iI N,iI F,.slice A5 n1 c5,.slice A6 n2 c6]) ?_ rfl ?_
 rotate_left
 ·refine ⟨⟨_,rfl,A5,c5,A6,c6,?_,?_,?_⟩,fz.u⟩
  ·rw [HN.u.1,HN.u.2]
  ·show World.ownsRow _ _ _ 2 (.slice A5 ts.length c5) ts.length (aQ ts);rw [<-HN.u.1]
   exact gH.u.2
  ·show World.ownsRow _ _ _ 2 (.slice A6 os.length c6) os.length (bF os);rw [<-HN.u.2]
   exact gH.u.1
 ·exact pc rfl _ _ (w.heap.size+1) 222 _ (0,0) _ af nZ.u yu rfl af
def lX (x lo hi:Int):Bool:=decide (lo<=x) && decide (x<=hi)
theorem kZ {x lo hi:Int} (h:x<lo\/hi<x):lX x lo hi=false:=by
 unfold lX;rcases h with h|h
 ·rw [lZ aa,ku]
 ·rw [lZ (p:=x<=hi) aa,ic]
theorem gy {x lo hi:Int} (h1:lo<=x) (h2:x<=hi):lX x lo hi=true:=by
 unfold lX;rw [vP h1,vP h2,pb]
def Oq.g1 (o:Oq):Oq:=⟨o.k,o.g,0,0,o.cond⟩
def Oq.g2 (o:Oq):Oq:=⟨o.k,⟨0,0,0,0⟩,o.q,o.bit,0⟩
def Oq.g3 (o:Oq):Oq:=⟨o.k,⟨0,0,0,0⟩,o.q,0,0⟩
def dM (o:Oq) (n bits:Int):Bool:=
 lX n 1 4 && lX bits 0 3 && (if o.k=1 then Br o o.g1 && vg o.g n && lX o.cond 0 bits
  else if o.k=2 then Br o o.g2 && lX o.q 0 (n - 1) && lX o.bit 0 (bits - 1)
  else if o.k=3 then Br o o.g3 && lX o.q 0 (n - 1) else false)
theorem WU {o:Oq} {n bits:Int} (h:lX n 1 4=false):dM o n bits=false:=by unfold dM;rw [h,ku,ku]
theorem WV {o:Oq} {n bits:Int} (h:lX bits 0 3=false):dM o n bits=false:=by unfold dM;rw [h,ic,ku]
theorem FZ {o:Oq} {n bits:Int} (h:lX n 1 4=true) (h':lX bits 0 3=true) (hk:o.k=1):dM o n bits=(Br o o.g1 && vg o.g n && lX o.cond 0 bits):=by unfold dM;rw [h,h',aY hk];rfl
theorem Ga {o:Oq} {n bits:Int} (h:lX n 1 4=true) (h':lX bits 0 3=true) (hk:o.k=2):dM o n bits=(Br o o.g2 && lX o.q 0 (n - 1) && lX o.bit 0 (bits - 1)):=by unfold dM;rw [h,h',aM aa,aY hk];rfl
theorem Gb {o:Oq} {n bits:Int} (h:lX n 1 4=true) (h':lX bits 0 3=true) (hk:o.k=3):dM o n bits=(Br o o.g3 && lX o.q 0 (n - 1)):=by unfold dM;rw [h,h',aM aa,aM aa,aY hk];rfl
theorem ac6 {o:Oq} {n bits:Int} (h1:¬o.k=1) (h2:¬o.k=2) (h3:¬o.k=3):dM o n bits=false:=by unfold dM;rw [aM h1,aM h2,aM h3,ic]
theorem bh {P:Prop} (h:P:=by
 go_wp2;go_ret
 exact ⟨aI (HV.u.symm.trans (HF.u)).symm,aw⟩):P:=h
theorem tK {P:Prop} (h:P:=by
 rintro e w1 ⟨rfl,rfl⟩;go_wp2;go_ret
 exact ⟨aI (HV.u.symm.trans (HF.u.trans (by rw [Ihq.u,Ihc.u];rfl))).symm,aw⟩):P:=h
theorem tL {P:Prop} (h:P:=by
 rintro e w1 ⟨rfl,rfl⟩;go_wp2;go_ret
 exact ⟨aI (HV.u.symm.trans (HF.u.trans Ihc.u)).symm,aw⟩):P:=h
theorem tM {P:Prop} (h:P:=by
 rintro e w1 ⟨rfl,rfl⟩;go_wp2;go_ret
 exact ⟨aI (HV.u.symm.trans (HF.u.trans Ihq.u)).symm,aw⟩):P:=h
theorem IE {P:Prop} (h:P:=by
 rintro e w1 ⟨rfl,rfl⟩;go_wp2;go_ret
 exact ⟨aI (HV.u.symm.trans (HF.u.trans (by rw [Ihq.u];rfl))).symm,aw⟩):P:=h
theorem pW (o:Oq) (n bits:Int) (w:World):
  Calls prog 41 #[o.val,iI n,iI bits] w fun e w'=>e=.returned (.bool (dM o n bits))/\Ext w w':=by
 obtain ⟨k,⟨gk,ga,gb,gc⟩,q,bit,cond⟩:=o;generalize hV:dM (⟨k,⟨gk,ga,gb,gc⟩,q,bit,cond⟩:Oq) n bits=V;have HV:=hY hV;clear hV;show Calls prog 41 #[.agg #[iI k,iI gk,iI ga,iI gb,iI gc,iI q,iI bit,iI cond],iI n,iI bits] w _;go_enter func41,ntmps41
 by_cases hn:n<1\/4<n
 ·have Hhn:=hY hn;have VH:=hY (kZ hn);clear hn;go_wp2_with fail;refine (px _ _ _ _ Hhn.u).mono ?_;rintro e w1 ⟨rfl,rfl⟩;have HF:=hY (WU (o:=(⟨k,⟨gk,ga,gb,gc⟩,q,bit,cond⟩:Oq)) (bits:=bits) VH.u)
  exact bh
 have VH:=hY (gy (show 1<=n by omega) (show n<=4 by omega));have Jhn:=hY (show 1<=n/\n<=4 from ⟨aa,aa⟩)
 by_cases hb:bits<0\/3<bits
 ·have Hhb:=hY hb;have VI:=hY (kZ hb);clear hb;go_wp2_with fail;refine (gS _ _ _ _ Jhn.u.1 Jhn.u.2).mono ?_;rintro e w1 ⟨rfl,rfl⟩;go_wp2_with fail;refine (px _ _ _ _ Hhb.u).mono ?_;rintro e w1 ⟨rfl,rfl⟩;have HF:=hY (WV (o:=(⟨k,⟨gk,ga,gb,gc⟩,q,bit,cond⟩:Oq)) (n:=n) VI.u)
  exact bh
 have VI:=hY (gy (show 0<=bits by omega) (show bits<=3 by omega));have Jhb:=hY (show 0<=bits/\bits<=3 from ⟨aa,aa⟩);have ky:0<=bits:=Jhb.u.1;have zC:bits<=3:=Jhb.u.2;have jX:1<=n:=Jhn.u.1;have DP:n<=4:=Jhn.u.2;clear hn hb;go_wp2_with fail;refine (gS _ _ _ _ jX DP).mono ?_;rintro e w1 ⟨rfl,rfl⟩;go_wp2_with fail;refine (gS _ _ _ _ ky zC).mono ?_;rintro e w1 ⟨rfl,rfl⟩
 by_cases et:k=1
 ·subst et
  by_cases hzq:q=0
  ·subst hzq
   by_cases pZ:bit=0
   ·subst pZ;have HR:=hY (FZ (o:=(⟨1,⟨gk,ga,gb,gc⟩,0,0,cond⟩:Oq)) VH.u VI.u rfl);go_wp2_with fail;refine (iX ⟨gk,ga,gb,gc⟩ n _).mono ?_;rintro e w1 ⟨rfl,dw⟩;have hB:au w1 w.heap.size 41 #[iI 1,iI gk,iI ga,iI gb,iI gc,iI 0,iI 0,iI cond]:=(au.new w _ _).ext dw;have b7:=hB.ck 7;have hx:Ext w w1:=Ext.trans aw dw
    cases hv:vg ⟨gk,ga,gb,gc⟩ n
    ·have HF:Hid (dM (⟨1,⟨gk,ga,gb,gc⟩,0,0,cond⟩:Oq) n bits=false):=mP
     exact bh
    ·have HF:Hid (dM (⟨1,⟨gk,ga,gb,gc⟩,0,0,cond⟩:Oq) n bits=lX cond 0 bits):=mP
     by_cases hc:cond<0\/bits<cond
     ·have Hhc:=hY hc;have Ihc:=hY (kZ hc);clear hc;go_wp2_with fail;refine (px _ _ _ _ Hhc.u).mono ?_
      exact tL
     ·have Ihc:=hY (gy (show 0<=cond by omega) (show cond<=bits by omega));have Jhc:=hY (show 0<=cond/\cond<=bits from ⟨aa,aa⟩);go_wp2_with fail;refine (gS _ _ _ _ Jhc.u.1 Jhc.u.2).mono ?_
      exact tL
   ·have vX:(bit==0)=false:=by simp [pZ]
    have HF:Hid (dM (⟨1,⟨gk,ga,gb,gc⟩,0,bit,cond⟩:Oq) n bits=false):=mQ
    clear pZ
    exact bh
  ·have vX:(q==0)=false:=by simp [hzq]
   have HF:Hid (dM (⟨1,⟨gk,ga,gb,gc⟩,q,bit,cond⟩:Oq) n bits=false):=mQ
   clear hzq
   exact bh
 have auz:(k==1)=false:=by simp [et]
 by_cases iM:k=2
 ·subst iM
  by_cases Aj:gk=0
  ·subst Aj
   by_cases Ak:ga=0
   ·subst Ak
    by_cases At:gb=0
    ·subst At
     by_cases Av:gc=0
     ·subst Av
      by_cases kp:cond=0
      ·subst kp;have HR:=hY (Ga (o:=(⟨2,⟨0,0,0,0⟩,q,bit,0⟩:Oq)) VH.u VI.u rfl);have HF:Hid (dM (⟨2,⟨0,0,0,0⟩,q,bit,0⟩:Oq) n bits=(lX q 0 (n - 1) && lX bit 0 (bits - 1))):=yV
       by_cases hq:q<0\/n - 1<q
       ·have Hhq:=hY hq;have Ihq:=hY (kZ hq);clear hq;go_wp2_with fail;refine (px _ _ _ _ Hhq.u).mono ?_
        exact IE
       ·have Ihq:=hY (gy (show 0<=q by omega) (show q<=n - 1 by omega));have Jhq:=hY (show 0<=q/\q<=n - 1 from ⟨aa,aa⟩);go_wp2_with fail;refine (gS _ _ _ _ Jhq.u.1 Jhq.u.2).mono ?_;rintro e w1 ⟨rfl,rfl⟩
        by_cases hc:bit<0\/bits - 1<bit
        ·have Hhc:=hY hc;have Ihc:=hY (kZ hc);clear hc;go_wp2_with fail;refine (px _ _ _ _ Hhc.u).mono ?_
         exact tK
        ·have Ihc:=hY (gy (show 0<=bit by omega) (show bit<=bits - 1 by omega));have Jhc:=hY (show 0<=bit/\bit<=bits - 1 from ⟨aa,aa⟩);go_wp2_with fail;refine (gS _ _ _ _ Jhc.u.1 Jhc.u.2).mono ?_
         exact tK
      ·have vX:(cond==0)=false:=by simp [kp]
       have HF:Hid (dM (⟨2,⟨0,0,0,0⟩,q,bit,cond⟩:Oq) n bits=false):=dz
       clear kp
       exact bh
     ·have vX:(gc==0)=false:=by simp [Av]
      have HF:Hid (dM (⟨2,⟨0,0,0,gc⟩,q,bit,cond⟩:Oq) n bits=false):=dz
      clear Av
      exact bh
    ·have vX:(gb==0)=false:=by simp [At]
     have HF:Hid (dM (⟨2,⟨0,0,gb,gc⟩,q,bit,cond⟩:Oq) n bits=false):=dz
     clear At
     exact bh
   ·have vX:(ga==0)=false:=by simp [Ak]
    have HF:Hid (dM (⟨2,⟨0,ga,gb,gc⟩,q,bit,cond⟩:Oq) n bits=false):=dz
    clear Ak
    exact bh
  ·have vX:(gk==0)=false:=by simp [Aj]
   have HF:Hid (dM (⟨2,⟨gk,ga,gb,gc⟩,q,bit,cond⟩:Oq) n bits=false):=dz
   clear Aj
   exact bh
 have ak6:(k==2)=false:=by simp [iM]
 by_cases Qt:k=3
 ·subst Qt
  by_cases Aj:gk=0
  ·subst Aj
   by_cases Ak:ga=0
   ·subst Ak
    by_cases At:gb=0
    ·subst At
     by_cases Av:gc=0
     ·subst Av
      by_cases pZ:bit=0
      ·subst pZ
       by_cases kp:cond=0
       ·subst kp;have HR:=hY (Gb (o:=(⟨3,⟨0,0,0,0⟩,q,0,0⟩:Oq)) VH.u VI.u rfl);have HF:Hid (dM (⟨3,⟨0,0,0,0⟩,q,0,0⟩:Oq) n bits=lX q 0 (n - 1)):=yX
        by_cases hq:q<0\/n - 1<q
        ·have Hhq:=hY hq;have Ihq:=hY (kZ hq);clear hq;go_wp2_with fail;refine (px _ _ _ _ Hhq.u).mono ?_
         exact tM
        ·have Ihq:=hY (gy (show 0<=q by omega) (show q<=n - 1 by omega));have Jhq:=hY (show 0<=q/\q<=n - 1 from ⟨aa,aa⟩);go_wp2_with fail;refine (gS _ _ _ _ Jhq.u.1 Jhq.u.2).mono ?_
         exact tM
       ·have vX:(cond==0)=false:=by simp [kp]
        have HF:Hid (dM (⟨3,⟨0,0,0,0⟩,q,0,cond⟩:Oq) n bits=false):=cM
        clear kp
        exact bh
      ·have vX:(bit==0)=false:=by simp [pZ]
       have HF:Hid (dM (⟨3,⟨0,0,0,0⟩,q,bit,cond⟩:Oq) n bits=false):=cM
       clear pZ
       exact bh
     ·have vX:(gc==0)=false:=by simp [Av]
      have HF:Hid (dM (⟨3,⟨0,0,0,gc⟩,q,bit,cond⟩:Oq) n bits=false):=cM
      clear Av
      exact bh
    ·have vX:(gb==0)=false:=by simp [At]
     have HF:Hid (dM (⟨3,⟨0,0,gb,gc⟩,q,bit,cond⟩:Oq) n bits=false):=cM
     clear At
     exact bh
   ·have vX:(ga==0)=false:=by simp [Ak]
    have HF:Hid (dM (⟨3,⟨0,ga,gb,gc⟩,q,bit,cond⟩:Oq) n bits=false):=cM
    clear Ak
    exact bh
  ·have vX:(gk==0)=false:=by simp [Aj]
   have HF:Hid (dM (⟨3,⟨gk,ga,gb,gc⟩,q,bit,cond⟩:Oq) n bits=false):=cM
   clear Aj
   exact bh
 have auA:(k==3)=false:=by simp [Qt]
 have HF:=hY (ac6 (o:=(⟨k,⟨gk,ga,gb,gc⟩,q,bit,cond⟩:Oq)) (n:=n) (bits:=bits) et iM Qt);clear et iM Qt
 exact bh
theorem kq (o:Oq) (n bits:Int) (w:World):
  Calls prog 44 #[o.val,iI n,iI bits] w fun e w'=>e=.returned (.bool (dM o n bits))/\Ext w w':=by
 obtain ⟨k,⟨gk,ga,gb,gc⟩,q,bit,cond⟩:=o;generalize hV:dM (⟨k,⟨gk,ga,gb,gc⟩,q,bit,cond⟩:Oq) n bits=V;have HV:=hY hV;clear hV;show Calls prog 44 #[.agg #[iI k,iI gk,iI ga,iI gb,iI gc,iI q,iI bit,iI cond],iI n,iI bits] w _;go_enter func44,ntmps44
 by_cases hn:n<1\/4<n
 ·have Hhn:=hY hn;have VH:=hY (kZ hn);clear hn;go_wp2_with fail;refine (bP _ _ _ _ Hhn.u).mono ?_;rintro e w1 ⟨rfl,rfl⟩;have HF:=hY (WU (o:=(⟨k,⟨gk,ga,gb,gc⟩,q,bit,cond⟩:Oq)) (bits:=bits) VH.u)
  exact bh
 have VH:=hY (gy (show 1<=n by omega) (show n<=4 by omega));have Jhn:=hY (show 1<=n/\n<=4 from ⟨aa,aa⟩)
 by_cases hb:bits<0\/3<bits
 ·have Hhb:=hY hb;have VI:=hY (kZ hb);clear hb;go_wp2_with fail;refine (aF _ _ _ _ Jhn.u.1 Jhn.u.2).mono ?_;rintro e w1 ⟨rfl,rfl⟩;go_wp2_with fail;refine (bP _ _ _ _ Hhb.u).mono ?_;rintro e w1 ⟨rfl,rfl⟩;have HF:=hY (WV (o:=(⟨k,⟨gk,ga,gb,gc⟩,q,bit,cond⟩:Oq)) (n:=n) VI.u)
  exact bh
 have VI:=hY (gy (show 0<=bits by omega) (show bits<=3 by omega));have Jhb:=hY (show 0<=bits/\bits<=3 from ⟨aa,aa⟩);have ky:0<=bits:=Jhb.u.1;have zC:bits<=3:=Jhb.u.2;have jX:1<=n:=Jhn.u.1;have DP:n<=4:=Jhn.u.2;clear hn hb;go_wp2_with fail;refine (aF _ _ _ _ jX DP).mono ?_;rintro e w1 ⟨rfl,rfl⟩;go_wp2_with fail;refine (aF _ _ _ _ ky zC).mono ?_;rintro e w1 ⟨rfl,rfl⟩
 by_cases et:k=1
 ·subst et
  by_cases hzq:q=0
  ·subst hzq
   by_cases pZ:bit=0
   ·subst pZ;have HR:=hY (FZ (o:=(⟨1,⟨gk,ga,gb,gc⟩,0,0,cond⟩:Oq)) VH.u VI.u rfl);go_wp2_with fail;refine (bn ⟨gk,ga,gb,gc⟩ n _).mono ?_;rintro e w1 ⟨rfl,dw⟩;have hB:au w1 w.heap.size 41 #[iI 1,iI gk,iI ga,iI gb,iI gc,iI 0,iI 0,iI cond]:=(au.new w _ _).ext dw;have b7:=hB.ck 7;have hx:Ext w w1:=Ext.trans aw dw
    cases hv:vg ⟨gk,ga,gb,gc⟩ n
    ·have HF:Hid (dM (⟨1,⟨gk,ga,gb,gc⟩,0,0,cond⟩:Oq) n bits=false):=mP
     exact bh
    ·have HF:Hid (dM (⟨1,⟨gk,ga,gb,gc⟩,0,0,cond⟩:Oq) n bits=lX cond 0 bits):=mP
     by_cases hc:cond<0\/bits<cond
     ·have Hhc:=hY hc;have Ihc:=hY (kZ hc);clear hc;go_wp2_with fail;refine (bP _ _ _ _ Hhc.u).mono ?_
      exact tL
     ·have Ihc:=hY (gy (show 0<=cond by omega) (show cond<=bits by omega));have Jhc:=hY (show 0<=cond/\cond<=bits from ⟨aa,aa⟩);go_wp2_with fail;refine (aF _ _ _ _ Jhc.u.1 Jhc.u.2).mono ?_
      exact tL
   ·have vX:(bit==0)=false:=by simp [pZ]
    have HF:Hid (dM (⟨1,⟨gk,ga,gb,gc⟩,0,bit,cond⟩:Oq) n bits=false):=mQ
    clear pZ
    exact bh
  ·have vX:(q==0)=false:=by simp [hzq]
   have HF:Hid (dM (⟨1,⟨gk,ga,gb,gc⟩,q,bit,cond⟩:Oq) n bits=false):=mQ
   clear hzq
   exact bh
 have auz:(k==1)=false:=by simp [et]
 by_cases iM:k=2
 ·subst iM
  by_cases Aj:gk=0
  ·subst Aj
   by_cases Ak:ga=0
   ·subst Ak
    by_cases At:gb=0
    ·subst At
     by_cases Av:gc=0
     ·subst Av
      by_cases kp:cond=0
      ·subst kp;have HR:=hY (Ga (o:=(⟨2,⟨0,0,0,0⟩,q,bit,0⟩:Oq)) VH.u VI.u rfl);have HF:Hid (dM (⟨2,⟨0,0,0,0⟩,q,bit,0⟩:Oq) n bits=(lX q 0 (n - 1) && lX bit 0 (bits - 1))):=yV
       by_cases hq:q<0\/n - 1<q
       ·have Hhq:=hY hq;have Ihq:=hY (kZ hq);clear hq;go_wp2_with fail;refine (bP _ _ _ _ Hhq.u).mono ?_
        exact IE
       ·have Ihq:=hY (gy (show 0<=q by omega) (show q<=n - 1 by omega));have Jhq:=hY (show 0<=q/\q<=n - 1 from ⟨aa,aa⟩);go_wp2_with fail;refine (aF _ _ _ _ Jhq.u.1 Jhq.u.2).mono ?_;rintro e w1 ⟨rfl,rfl⟩
        by_cases hc:bit<0\/bits - 1<bit
        ·have Hhc:=hY hc;have Ihc:=hY (kZ hc);clear hc;go_wp2_with fail;refine (bP _ _ _ _ Hhc.u).mono ?_
         exact tK
        ·have Ihc:=hY (gy (show 0<=bit by omega) (show bit<=bits - 1 by omega));have Jhc:=hY (show 0<=bit/\bit<=bits - 1 from ⟨aa,aa⟩);go_wp2_with fail;refine (aF _ _ _ _ Jhc.u.1 Jhc.u.2).mono ?_
         exact tK
      ·have vX:(cond==0)=false:=by simp [kp]
       have HF:Hid (dM (⟨2,⟨0,0,0,0⟩,q,bit,cond⟩:Oq) n bits=false):=dz
       clear kp
       exact bh
     ·have vX:(gc==0)=false:=by simp [Av]
      have HF:Hid (dM (⟨2,⟨0,0,0,gc⟩,q,bit,cond⟩:Oq) n bits=false):=dz
      clear Av
      exact bh
    ·have vX:(gb==0)=false:=by simp [At]
     have HF:Hid (dM (⟨2,⟨0,0,gb,gc⟩,q,bit,cond⟩:Oq) n bits=false):=dz
     clear At
     exact bh
   ·have vX:(ga==0)=false:=by simp [Ak]
    have HF:Hid (dM (⟨2,⟨0,ga,gb,gc⟩,q,bit,cond⟩:Oq) n bits=false):=dz
    clear Ak
    exact bh
  ·have vX:(gk==0)=false:=by simp [Aj]
   have HF:Hid (dM (⟨2,⟨gk,ga,gb,gc⟩,q,bit,cond⟩:Oq) n bits=false):=dz
   clear Aj
   exact bh
 have ak6:(k==2)=false:=by simp [iM]
 by_cases Qt:k=3
 ·subst Qt
  by_cases Aj:gk=0
  ·subst Aj
   by_cases Ak:ga=0
   ·subst Ak
    by_cases At:gb=0
    ·subst At
     by_cases Av:gc=0
     ·subst Av
      by_cases pZ:bit=0
      ·subst pZ
       by_cases kp:cond=0
       ·subst kp;have HR:=hY (Gb (o:=(⟨3,⟨0,0,0,0⟩,q,0,0⟩:Oq)) VH.u VI.u rfl);have HF:Hid (dM (⟨3,⟨0,0,0,0⟩,q,0,0⟩:Oq) n bits=lX q 0 (n - 1)):=yX
        by_cases hq:q<0\/n - 1<q
        ·have Hhq:=hY hq;have Ihq:=hY (kZ hq);clear hq;go_wp2_with fail;refine (bP _ _ _ _ Hhq.u).mono ?_
         exact tM
        ·have Ihq:=hY (gy (show 0<=q by omega) (show q<=n - 1 by omega));have Jhq:=hY (show 0<=q/\q<=n - 1 from ⟨aa,aa⟩);go_wp2_with fail;refine (aF _ _ _ _ Jhq.u.1 Jhq.u.2).mono ?_
         exact tM
       ·have vX:(cond==0)=false:=by simp [kp]
        have HF:Hid (dM (⟨3,⟨0,0,0,0⟩,q,0,cond⟩:Oq) n bits=false):=cM
        clear kp
        exact bh
      ·have vX:(bit==0)=false:=by simp [pZ]
       have HF:Hid (dM (⟨3,⟨0,0,0,0⟩,q,bit,cond⟩:Oq) n bits=false):=cM
       clear pZ
       exact bh
     ·have vX:(gc==0)=false:=by simp [Av]
      have HF:Hid (dM (⟨3,⟨0,0,0,gc⟩,q,bit,cond⟩:Oq) n bits=false):=cM
      clear Av
      exact bh
    ·have vX:(gb==0)=false:=by simp [At]
     have HF:Hid (dM (⟨3,⟨0,0,gb,gc⟩,q,bit,cond⟩:Oq) n bits=false):=cM
     clear At
     exact bh
   ·have vX:(ga==0)=false:=by simp [Ak]
    have HF:Hid (dM (⟨3,⟨0,ga,gb,gc⟩,q,bit,cond⟩:Oq) n bits=false):=cM
    clear Ak
    exact bh
  ·have vX:(gk==0)=false:=by simp [Aj]
   have HF:Hid (dM (⟨3,⟨gk,ga,gb,gc⟩,q,bit,cond⟩:Oq) n bits=false):=cM
   clear Aj
   exact bh
 have auA:(k==3)=false:=by simp [Qt]
 have HF:=hY (ac6 (o:=(⟨k,⟨gk,ga,gb,gc⟩,q,bit,cond⟩:Oq)) (n:=n) (bits:=bits) et iM Qt);clear et iM Qt
 exact bh
theorem tN {P:Prop} (h:P:=by
 go_wp2;go_ret
 exact ⟨aI HV.u.symm,HX.u⟩):P:=h
theorem tO (g:Gt) (w:World):Calls prog 177 #[g.val] w fun e w'=>e=.returned (.bool (pP g))/\Ext w w':=by
 have HX:Hid (Ext w (w.alloc (cO (gA g) 39))):=fT
 have HB:Hid (au (w.alloc (cO (gA g) 39)) w.heap.size 39 (gA g)):=au.new w _ _;go_enter func177,ntmps177;go_upto_region 1 with fail;generalize (w.alloc (cO (gA g) 39))=W at*
 obtain ⟨⟨g0,g1,g2,g3⟩,-⟩:=aB HB.u
 cases e1:(g.k==1)
 ·cases e2:(g.k==9)
  ·cases e3:(g.k==11)
   ·have HV:Hid (pP g=decide (bH g.k>0)):=by
     unfold Hid pP;simp only [e1,e2,e3,ju]<;>rfl
    go_wp2_with fail;refine (bI g.k _).mono ?_;rintro e wq ⟨rfl,rfl⟩
    exact tN
   ·skip;have HV:Hid (pP g=true):=by unfold Hid pP;simp only [e1,e2,e3,ma,pj,ju]
    exact tN
  ·skip;have HV:Hid (pP g=true):=by unfold Hid pP;simp only [e1,e2,ma,pj,ju]
   exact tN
 ·skip;have HV:Hid (pP g=true):=by unfold Hid pP;simp only [e1,ma,pj,ju]
  exact tN
end Go.Proofs.YtodhjgngkkcjgaaGreatDoor
