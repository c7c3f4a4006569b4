import Derived.Test.YtodhjgngkkcjgaaGreatDoorXj
import Derived.Test.YtodhjgngkkcjgaaGreatDoorXe
namespace Go.Proofs.YtodhjgngkkcjgaaGreatDoor
open Go.ChangeShapes Go.WideShapes Go.ChangeAt Go.RowKit Go.Deep Go.Proofs.Tryz
set_option linter.unusedVariables false
set_option linter.unusedSimpArgs false
set_option maxRecDepth 100000
set_option maxHeartbeats 16000000
theorem acF:(List.range 201).all (fun i=>decide ((if ((i:Int) - 100).tmod 8<0 then ((i:Int) - 100).tmod 8+8 else ((i:Int) - 100).tmod 8)=((i:Int) - 100) % 8/\(((i:Int) - 100).tmod 8+8).tmod 8=((i:Int) - 100) % 8/\ -7<=((i:Int) - 100).tmod 8/\((i:Int) - 100).tmod 8<=7))=true:=af
theorem ag6 {n:Int} (h: -100<=n/\n<=100):(if n.tmod 8<0 then n.tmod 8+8 else n.tmod 8)=n % 8/\(n.tmod 8+8).tmod 8=n % 8/\ -7<=n.tmod 8/\n.tmod 8<=7:=by
 obtain ⟨i,hi⟩:∃i:Nat,n=(i:Int) - 100:=⟨(n+100).toNat,aa⟩;subst hi
 exact DH (lq.1 acF i (DJ.2 aa))
theorem Ih {P:Prop} (h:P:=by
 have HV:=hY h1;have kG:IntKind.i64.wrap r=r:=lH _ aa;have jk:wrap64 r=r:=bk
 clear h1;go_enter func168,ntmps168;go_wp2;go_ret
 exact ⟨eB HV.u,rfl⟩):P:=h
theorem eZ (n:Int) (w:World) (h: -100<=n/\n<=100):Calls prog 168 #[iI n] w fun e w'=>e=.returned (iI (n % 8))/\w=w':=by
 obtain ⟨h1,-,h3,h4⟩:=ag6 h;obtain ⟨r,hr⟩:=ex (n.tmod 8);rw [hr] at h1 h3 h4
 by_cases hn:r<0
 ·rw [aY hn] at h1;have hw:IntKind.i64.wrap (r+8)=r+8:=lH _ aa;have hw2:wrap64 (r+8)=r+8:=bk
  exact Ih
 ·rw [aM hn] at h1
  exact Ih
theorem jc {P:Prop} (h:P:=by
 clear HD;go_wp2_with fail;refine (aF _ _ _ _ aa aa).mono ?_;rintro e w' ⟨rfl,rfl⟩;go_wp2;go_ret
 exact ⟨_,rfl,Ii.u.1,Ii.u.2⟩):P:=h
theorem km {P:Prop} (h:P:=by
 clear g1 g2 g3 g4;go_wp2;go_roundw
 case rel=>exact ⟨1,A9,c9,rfl,rfl,aa,Cz⟩
 case measure=>simp [intOf]):P:=h
theorem Ij {P:Prop} (h:P:=by
 clear g1 g2 g3 g4;go_wp2;go_roundw
 case rel=>exact ⟨2,A9,c9,rfl,rfl,aa,Cz⟩
 case measure=>simp [intOf]):P:=h
theorem gY (c q:Int) (w:World):Calls prog 183 #[iI c,iI q] w fun e w'=>∃v,e=.returned v/\w'.ownsRow w.heap.size 39 4 v (cG c q).length (aq (cG c q))/\Ext w w':=by
 go_enter func183,ntmps183;go_upto_region 2 with fail;obtain ⟨W,hW⟩:=ey ((((((((((w.alloc (cO #[] 3)).alloc (cO #[iI 7] 3)).alloc (cO #[iI 5] 3)).alloc (cO #[iI 5,iI 7] 3)).alloc (cO #[iI 3] 3)).alloc (cO #[iI 3,iI 7] 3)).alloc (cO #[iI 6] 3)).alloc (cO #[iI 8] 3)).alloc (cO #[.slice (some ⟨w.heap.size,0,none⟩) 0 0,.slice (some ⟨w.heap.size+1,0,none⟩) 1 1,.slice (some ⟨w.heap.size+2,0,none⟩) 1 1,.slice (some ⟨w.heap.size+3,0,none⟩) 2 2,.slice (some ⟨w.heap.size+4,0,none⟩) 1 1,.slice (some ⟨w.heap.size+5,0,none⟩) 2 2,.slice (some ⟨w.heap.size+6,0,none⟩) 1 1,.slice (some ⟨w.heap.size+7,0,none⟩) 1 1] 25)));have HX:Hid (Ext w W):=by unfold Hid;rw [hW];exact xx
 have HT:Hid (au W (w.heap.size+8) 25 #[.slice (some ⟨w.heap.size,0,none⟩) 0 0,.slice (some ⟨w.heap.size+1,0,none⟩) 1 1,.slice (some ⟨w.heap.size+2,0,none⟩) 1 1,.slice (some ⟨w.heap.size+3,0,none⟩) 2 2,.slice (some ⟨w.heap.size+4,0,none⟩) 1 1,.slice (some ⟨w.heap.size+5,0,none⟩) 2 2,.slice (some ⟨w.heap.size+6,0,none⟩) 1 1,.slice (some ⟨w.heap.size+7,0,none⟩) 1 1]):=by rw [hW];exact au.newAt ag
 have mC:Hid (au W (w.heap.size+1) 3 #[iI 7]):=by rw [hW];exact au.alloc (au.alloc (au.alloc (au.alloc (au.alloc (au.alloc (au.alloc (au.newAt ag) _) _) _) _) _) _) _
 have jN:Hid (au W (w.heap.size+2) 3 #[iI 5]):=by rw [hW];exact au.alloc (au.alloc (au.alloc (au.alloc (au.alloc (au.alloc (au.newAt ag) _) _) _) _) _) _
 have Mp:Hid (au W (w.heap.size+3) 3 #[iI 5,iI 7]):=by rw [hW];exact au.alloc (au.alloc (au.alloc (au.alloc (au.alloc (au.newAt ag) _) _) _) _) _
 have HR4:Hid (au W (w.heap.size+4) 3 #[iI 3]):=by rw [hW];exact au.alloc (au.alloc (au.alloc (au.alloc (au.newAt ag) _) _) _) _
 have Ik:Hid (au W (w.heap.size+5) 3 #[iI 3,iI 7]):=by rw [hW];exact au.alloc (au.alloc (au.alloc (au.newAt ag) _) _) _
 have wH:Hid (au W (w.heap.size+6) 3 #[iI 6]):=by rw [hW];exact au.alloc (au.alloc (au.newAt ag) _) _
 have vh:Hid (au W (w.heap.size+7) 3 #[iI 8]):=by rw [hW];exact au.alloc (au.newAt ag) _
 rw [<-hW];clear hW;have qx:Hid ((W.alloc (cO #[] 39)).ownsRow W.heap.size 39 4 (.slice (some ⟨W.heap.size,0,none⟩) 0 0) 0 (aq ((cG c q).take 0))/\Ext W (W.alloc (cO #[] 39))):=⟨aN W W _ 4 (xZ _),(xZ _).alloc _⟩;go_upto_region 4 with fail;generalize W.alloc (cO #[] 39)=W1 at*
 by_cases h0:c=0
 ·subst h0;have HV:Hid (cG 0 q=[]):=rfl
  go_loopw [6,7] (fun rv iv wr=>∃(k:Nat) (A':OA) (cap:Nat),rv=.slice A' k cap/\iv=iI k/\k<=0/\Hid (wr.ownsRow W.heap.size 39 4 (.slice A' k cap) k (aq ((cG 0 q).take k))/\Ext W wr)) (fun _ i _=>0 - (intOf i).toNat)
  case atStart=>exact ⟨0,_,0,rfl,rfl,lJ _,qx⟩
  case round=>
   obtain ⟨k,A',cap,rfl,rfl,hk,HD⟩:=hrel;clear qx;obtain rfl:k=0:=aa
   clear hk;have Ii:Hid (wr.ownsRow w.heap.size 39 4 (.slice A' 0 cap) (cG 0 q).length (aq (cG 0 q))/\Ext w wr):=⟨aC HD.u.1 HX.u.size,HX.u.trans HD.u.2⟩;have t0:=(HT.u.ext HD.u.2).ck 0
   exact jc
 by_cases h1:c=1
 ·subst h1;have HV:Hid (cG 1 q=[⟨7,q,0,0⟩]):=rfl
  go_loopw [6,7] (fun rv iv wr=>∃(k:Nat) (A':OA) (cap:Nat),rv=.slice A' k cap/\iv=iI k/\k<=1/\Hid (wr.ownsRow W.heap.size 39 4 (.slice A' k cap) k (aq ((cG 1 q).take k))/\Ext W wr)) (fun _ i _=>1 - (intOf i).toNat)
  case atStart=>exact ⟨0,_,0,rfl,rfl,lJ _,qx⟩
  case round=>
   obtain ⟨k,A',cap,rfl,rfl,hk,HD⟩:=hrel;clear qx
   by_cases e0:k=0
   ·subst e0;clear hk;have t0:=(HT.u.ext HD.u.2).ck 1;have r0:=(mC.u.ext HD.u.2).ck 0;go_wp2_with fail;refine (aF _ _ _ _ aa aa).mono ?_;rintro e w' ⟨rfl,rfl⟩;go_wp2_with fail;refine (aP 7 q _ (xZ _)).mono ?_;rintro e w5 ⟨rfl,cI⟩;have iy:Hid (w5.ownsRow W.heap.size 39 4 (.slice A' 0 cap) 0 (aq ((cG 1 q).take 0))/\Ext W w5):=⟨aj HD.u.1 cI,HD.u.2.trans cI⟩;clear HD cI r0 t0;go_wp2_with (at_builtin;refine fJ (w0:=W) rfl _ _ rfl _ 0 ((cG 1 q).take 0) rfl iy.u.1 iy.u.2 ⟨7,q,0,0⟩ _ _ rfl rfl aa ?_;intro v' w9 g1 g2 g3 g4)
    obtain ⟨A9,c9,rfl,-⟩:=ak g1;have Cz:Hid (w9.ownsRow W.heap.size 39 4 (.slice A9 1 c9) 1 (aq ((cG 1 q).take 1))/\Ext W w9):=⟨g1,g2⟩
    exact km
   obtain rfl:k=1:=aa
   clear hk;have Ii:Hid (wr.ownsRow w.heap.size 39 4 (.slice A' 1 cap) (cG 1 q).length (aq (cG 1 q))/\Ext w wr):=⟨aC HD.u.1 HX.u.size,HX.u.trans HD.u.2⟩;have t0:=(HT.u.ext HD.u.2).ck 1
   exact jc
 by_cases h2:c=2
 ·subst h2;have HV:Hid (cG 2 q=[⟨5,q,0,0⟩]):=rfl
  go_loopw [6,7] (fun rv iv wr=>∃(k:Nat) (A':OA) (cap:Nat),rv=.slice A' k cap/\iv=iI k/\k<=1/\Hid (wr.ownsRow W.heap.size 39 4 (.slice A' k cap) k (aq ((cG 2 q).take k))/\Ext W wr)) (fun _ i _=>1 - (intOf i).toNat)
  case atStart=>exact ⟨0,_,0,rfl,rfl,lJ _,qx⟩
  case round=>
   obtain ⟨k,A',cap,rfl,rfl,hk,HD⟩:=hrel;clear qx
   by_cases e0:k=0
   ·subst e0;clear hk;have t0:=(HT.u.ext HD.u.2).ck 2;have r0:=(jN.u.ext HD.u.2).ck 0;go_wp2_with fail;refine (aF _ _ _ _ aa aa).mono ?_;rintro e w' ⟨rfl,rfl⟩;go_wp2_with fail;refine (aP 5 q _ (xZ _)).mono ?_;rintro e w5 ⟨rfl,cI⟩;have iy:Hid (w5.ownsRow W.heap.size 39 4 (.slice A' 0 cap) 0 (aq ((cG 2 q).take 0))/\Ext W w5):=⟨aj HD.u.1 cI,HD.u.2.trans cI⟩;clear HD cI r0 t0;go_wp2_with (at_builtin;refine fJ (w0:=W) rfl _ _ rfl _ 0 ((cG 2 q).take 0) rfl iy.u.1 iy.u.2 ⟨5,q,0,0⟩ _ _ rfl rfl aa ?_;intro v' w9 g1 g2 g3 g4)
    obtain ⟨A9,c9,rfl,-⟩:=ak g1;have Cz:Hid (w9.ownsRow W.heap.size 39 4 (.slice A9 1 c9) 1 (aq ((cG 2 q).take 1))/\Ext W w9):=⟨g1,g2⟩
    exact km
   obtain rfl:k=1:=aa
   clear hk;have Ii:Hid (wr.ownsRow w.heap.size 39 4 (.slice A' 1 cap) (cG 2 q).length (aq (cG 2 q))/\Ext w wr):=⟨aC HD.u.1 HX.u.size,HX.u.trans HD.u.2⟩;have t0:=(HT.u.ext HD.u.2).ck 2
   exact jc
 by_cases h3:c=3
 ·subst h3;have HV:Hid (cG 3 q=[⟨5,q,0,0⟩,⟨7,q,0,0⟩]):=rfl
  go_loopw [6,7] (fun rv iv wr=>∃(k:Nat) (A':OA) (cap:Nat),rv=.slice A' k cap/\iv=iI k/\k<=2/\Hid (wr.ownsRow W.heap.size 39 4 (.slice A' k cap) k (aq ((cG 3 q).take k))/\Ext W wr)) (fun _ i _=>2 - (intOf i).toNat)
  case atStart=>exact ⟨0,_,0,rfl,rfl,lJ _,qx⟩
  case round=>
   obtain ⟨k,A',cap,rfl,rfl,hk,HD⟩:=hrel;clear qx
   by_cases e0:k=0
   ·subst e0;clear hk;have t0:=(HT.u.ext HD.u.2).ck 3;have r0:=(Mp.u.ext HD.u.2).ck 0;go_wp2_with fail;refine (aF _ _ _ _ aa aa).mono ?_;rintro e w' ⟨rfl,rfl⟩;go_wp2_with fail;refine (aP 5 q _ (xZ _)).mono ?_;rintro e w5 ⟨rfl,cI⟩;have iy:Hid (w5.ownsRow W.heap.size 39 4 (.slice A' 0 cap) 0 (aq ((cG 3 q).take 0))/\Ext W w5):=⟨aj HD.u.1 cI,HD.u.2.trans cI⟩;clear HD cI r0 t0;go_wp2_with (at_builtin;refine fJ (w0:=W) rfl _ _ rfl _ 0 ((cG 3 q).take 0) rfl iy.u.1 iy.u.2 ⟨5,q,0,0⟩ _ _ rfl rfl aa ?_;intro v' w9 g1 g2 g3 g4)
    obtain ⟨A9,c9,rfl,-⟩:=ak g1;have Cz:Hid (w9.ownsRow W.heap.size 39 4 (.slice A9 1 c9) 1 (aq ((cG 3 q).take 1))/\Ext W w9):=⟨g1,g2⟩
    exact km
   by_cases e1:k=1
   ·subst e1;clear hk;have t0:=(HT.u.ext HD.u.2).ck 3;have r0:=(Mp.u.ext HD.u.2).ck 1;go_wp2_with fail;refine (aF _ _ _ _ aa aa).mono ?_;rintro e w' ⟨rfl,rfl⟩;go_wp2_with fail;refine (aP 7 q _ (xZ _)).mono ?_;rintro e w5 ⟨rfl,cI⟩;have iy:Hid (w5.ownsRow W.heap.size 39 4 (.slice A' 1 cap) 1 (aq ((cG 3 q).take 1))/\Ext W w5):=⟨aj HD.u.1 cI,HD.u.2.trans cI⟩;clear HD cI r0 t0;go_wp2_with (at_builtin;refine fJ (w0:=W) rfl _ _ rfl _ 1 ((cG 3 q).take 1) rfl iy.u.1 iy.u.2 ⟨7,q,0,0⟩ _ _ rfl rfl aa ?_;intro v' w9 g1 g2 g3 g4)
    obtain ⟨A9,c9,rfl,-⟩:=ak g1;have Cz:Hid (w9.ownsRow W.heap.size 39 4 (.slice A9 2 c9) 2 (aq ((cG 3 q).take 2))/\Ext W w9):=⟨g1,g2⟩
    exact Ij
   obtain rfl:k=2:=aa
   clear hk;have Ii:Hid (wr.ownsRow w.heap.size 39 4 (.slice A' 2 cap) (cG 3 q).length (aq (cG 3 q))/\Ext w wr):=⟨aC HD.u.1 HX.u.size,HX.u.trans HD.u.2⟩;have t0:=(HT.u.ext HD.u.2).ck 3
   exact jc
 by_cases h4:c=4
 ·subst h4;have HV:Hid (cG 4 q=[⟨3,q,0,0⟩]):=rfl
  go_loopw [6,7] (fun rv iv wr=>∃(k:Nat) (A':OA) (cap:Nat),rv=.slice A' k cap/\iv=iI k/\k<=1/\Hid (wr.ownsRow W.heap.size 39 4 (.slice A' k cap) k (aq ((cG 4 q).take k))/\Ext W wr)) (fun _ i _=>1 - (intOf i).toNat)
  case atStart=>exact ⟨0,_,0,rfl,rfl,lJ _,qx⟩
  case round=>
   obtain ⟨k,A',cap,rfl,rfl,hk,HD⟩:=hrel;clear qx
   by_cases e0:k=0
   ·subst e0;clear hk;have t0:=(HT.u.ext HD.u.2).ck 4;have r0:=(HR4.u.ext HD.u.2).ck 0;go_wp2_with fail;refine (aF _ _ _ _ aa aa).mono ?_;rintro e w' ⟨rfl,rfl⟩;go_wp2_with fail;refine (aP 3 q _ (xZ _)).mono ?_;rintro e w5 ⟨rfl,cI⟩;have iy:Hid (w5.ownsRow W.heap.size 39 4 (.slice A' 0 cap) 0 (aq ((cG 4 q).take 0))/\Ext W w5):=⟨aj HD.u.1 cI,HD.u.2.trans cI⟩;clear HD cI r0 t0;go_wp2_with (at_builtin;refine fJ (w0:=W) rfl _ _ rfl _ 0 ((cG 4 q).take 0) rfl iy.u.1 iy.u.2 ⟨3,q,0,0⟩ _ _ rfl rfl aa ?_;intro v' w9 g1 g2 g3 g4)
    obtain ⟨A9,c9,rfl,-⟩:=ak g1;have Cz:Hid (w9.ownsRow W.heap.size 39 4 (.slice A9 1 c9) 1 (aq ((cG 4 q).take 1))/\Ext W w9):=⟨g1,g2⟩
    exact km
   obtain rfl:k=1:=aa
   clear hk;have Ii:Hid (wr.ownsRow w.heap.size 39 4 (.slice A' 1 cap) (cG 4 q).length (aq (cG 4 q))/\Ext w wr):=⟨aC HD.u.1 HX.u.size,HX.u.trans HD.u.2⟩;have t0:=(HT.u.ext HD.u.2).ck 4
   exact jc
 by_cases h5:c=5
 ·subst h5;have HV:Hid (cG 5 q=[⟨3,q,0,0⟩,⟨7,q,0,0⟩]):=rfl
  go_loopw [6,7] (fun rv iv wr=>∃(k:Nat) (A':OA) (cap:Nat),rv=.slice A' k cap/\iv=iI k/\k<=2/\Hid (wr.ownsRow W.heap.size 39 4 (.slice A' k cap) k (aq ((cG 5 q).take k))/\Ext W wr)) (fun _ i _=>2 - (intOf i).toNat)
  case atStart=>exact ⟨0,_,0,rfl,rfl,lJ _,qx⟩
  case round=>
   obtain ⟨k,A',cap,rfl,rfl,hk,HD⟩:=hrel;clear qx
   by_cases e0:k=0
   ·subst e0;clear hk;have t0:=(HT.u.ext HD.u.2).ck 5;have r0:=(Ik.u.ext HD.u.2).ck 0;go_wp2_with fail;refine (aF _ _ _ _ aa aa).mono ?_;rintro e w' ⟨rfl,rfl⟩;go_wp2_with fail;refine (aP 3 q _ (xZ _)).mono ?_;rintro e w5 ⟨rfl,cI⟩;have iy:Hid (w5.ownsRow W.heap.size 39 4 (.slice A' 0 cap) 0 (aq ((cG 5 q).take 0))/\Ext W w5):=⟨aj HD.u.1 cI,HD.u.2.trans cI⟩;clear HD cI r0 t0;go_wp2_with (at_builtin;refine fJ (w0:=W) rfl _ _ rfl _ 0 ((cG 5 q).take 0) rfl iy.u.1 iy.u.2 ⟨3,q,0,0⟩ _ _ rfl rfl aa ?_;intro v' w9 g1 g2 g3 g4)
    obtain ⟨A9,c9,rfl,-⟩:=ak g1;have Cz:Hid (w9.ownsRow W.heap.size 39 4 (.slice A9 1 c9) 1 (aq ((cG 5 q).take 1))/\Ext W w9):=⟨g1,g2⟩
    exact km
   by_cases e1:k=1
   ·subst e1;clear hk;have t0:=(HT.u.ext HD.u.2).ck 5;have r0:=(Ik.u.ext HD.u.2).ck 1;go_wp2_with fail;refine (aF _ _ _ _ aa aa).mono ?_;rintro e w' ⟨rfl,rfl⟩;go_wp2_with fail;refine (aP 7 q _ (xZ _)).mono ?_;rintro e w5 ⟨rfl,cI⟩;have iy:Hid (w5.ownsRow W.heap.size 39 4 (.slice A' 1 cap) 1 (aq ((cG 5 q).take 1))/\Ext W w5):=⟨aj HD.u.1 cI,HD.u.2.trans cI⟩;clear HD cI r0 t0;go_wp2_with (at_builtin;refine fJ (w0:=W) rfl _ _ rfl _ 1 ((cG 5 q).take 1) rfl iy.u.1 iy.u.2 ⟨7,q,0,0⟩ _ _ rfl rfl aa ?_;intro v' w9 g1 g2 g3 g4)
    obtain ⟨A9,c9,rfl,-⟩:=ak g1;have Cz:Hid (w9.ownsRow W.heap.size 39 4 (.slice A9 2 c9) 2 (aq ((cG 5 q).take 2))/\Ext W w9):=⟨g1,g2⟩
    exact Ij
   obtain rfl:k=2:=aa
   clear hk;have Ii:Hid (wr.ownsRow w.heap.size 39 4 (.slice A' 2 cap) (cG 5 q).length (aq (cG 5 q))/\Ext w wr):=⟨aC HD.u.1 HX.u.size,HX.u.trans HD.u.2⟩;have t0:=(HT.u.ext HD.u.2).ck 5
   exact jc
 by_cases h6:c=6
 ·subst h6;have HV:Hid (cG 6 q=[⟨6,q,0,0⟩]):=rfl
  go_loopw [6,7] (fun rv iv wr=>∃(k:Nat) (A':OA) (cap:Nat),rv=.slice A' k cap/\iv=iI k/\k<=1/\Hid (wr.ownsRow W.heap.size 39 4 (.slice A' k cap) k (aq ((cG 6 q).take k))/\Ext W wr)) (fun _ i _=>1 - (intOf i).toNat)
  case atStart=>exact ⟨0,_,0,rfl,rfl,lJ _,qx⟩
  case round=>
   obtain ⟨k,A',cap,rfl,rfl,hk,HD⟩:=hrel;clear qx
   by_cases e0:k=0
   ·subst e0;clear hk;have t0:=(HT.u.ext HD.u.2).ck 6;have r0:=(wH.u.ext HD.u.2).ck 0;go_wp2_with fail;refine (aF _ _ _ _ aa aa).mono ?_;rintro e w' ⟨rfl,rfl⟩;go_wp2_with fail;refine (aP 6 q _ (xZ _)).mono ?_;rintro e w5 ⟨rfl,cI⟩;have iy:Hid (w5.ownsRow W.heap.size 39 4 (.slice A' 0 cap) 0 (aq ((cG 6 q).take 0))/\Ext W w5):=⟨aj HD.u.1 cI,HD.u.2.trans cI⟩;clear HD cI r0 t0;go_wp2_with (at_builtin;refine fJ (w0:=W) rfl _ _ rfl _ 0 ((cG 6 q).take 0) rfl iy.u.1 iy.u.2 ⟨6,q,0,0⟩ _ _ rfl rfl aa ?_;intro v' w9 g1 g2 g3 g4)
    obtain ⟨A9,c9,rfl,-⟩:=ak g1;have Cz:Hid (w9.ownsRow W.heap.size 39 4 (.slice A9 1 c9) 1 (aq ((cG 6 q).take 1))/\Ext W w9):=⟨g1,g2⟩
    exact km
   obtain rfl:k=1:=aa
   clear hk;have Ii:Hid (wr.ownsRow w.heap.size 39 4 (.slice A' 1 cap) (cG 6 q).length (aq (cG 6 q))/\Ext w wr):=⟨aC HD.u.1 HX.u.size,HX.u.trans HD.u.2⟩;have t0:=(HT.u.ext HD.u.2).ck 6
   exact jc
 by_cases h7:c=7
 ·subst h7;have HV:Hid (cG 7 q=[⟨8,q,0,0⟩]):=rfl
  go_loopw [6,7] (fun rv iv wr=>∃(k:Nat) (A':OA) (cap:Nat),rv=.slice A' k cap/\iv=iI k/\k<=1/\Hid (wr.ownsRow W.heap.size 39 4 (.slice A' k cap) k (aq ((cG 7 q).take k))/\Ext W wr)) (fun _ i _=>1 - (intOf i).toNat)
  case atStart=>exact ⟨0,_,0,rfl,rfl,lJ _,qx⟩
  case round=>
   obtain ⟨k,A',cap,rfl,rfl,hk,HD⟩:=hrel;clear qx
   by_cases e0:k=0
   ·subst e0;clear hk;have t0:=(HT.u.ext HD.u.2).ck 7;have r0:=(vh.u.ext HD.u.2).ck 0;go_wp2_with fail;refine (aF _ _ _ _ aa aa).mono ?_;rintro e w' ⟨rfl,rfl⟩;go_wp2_with fail;refine (aP 8 q _ (xZ _)).mono ?_;rintro e w5 ⟨rfl,cI⟩;have iy:Hid (w5.ownsRow W.heap.size 39 4 (.slice A' 0 cap) 0 (aq ((cG 7 q).take 0))/\Ext W w5):=⟨aj HD.u.1 cI,HD.u.2.trans cI⟩;clear HD cI r0 t0;go_wp2_with (at_builtin;refine fJ (w0:=W) rfl _ _ rfl _ 0 ((cG 7 q).take 0) rfl iy.u.1 iy.u.2 ⟨8,q,0,0⟩ _ _ rfl rfl aa ?_;intro v' w9 g1 g2 g3 g4)
    obtain ⟨A9,c9,rfl,-⟩:=ak g1;have Cz:Hid (w9.ownsRow W.heap.size 39 4 (.slice A9 1 c9) 1 (aq ((cG 7 q).take 1))/\Ext W w9):=⟨g1,g2⟩
    exact km
   obtain rfl:k=1:=aa
   clear hk;have Ii:Hid (wr.ownsRow w.heap.size 39 4 (.slice A' 1 cap) (cG 7 q).length (aq (cG 7 q))/\Ext w wr):=⟨aC HD.u.1 HX.u.size,HX.u.trans HD.u.2⟩;have t0:=(HT.u.ext HD.u.2).ck 7
   exact jc
 have HV:Hid (cG c q=[]):=by unfold Hid cG agE;rw [aM h1,aM h2,aM h3,aM h4,aM h5,aM h6,aM h7];rfl
 have hc:c<0\/7<c:=aa
 clear h0 h1 h2 h3 h4 h5 h6 h7
 go_loopw [6,7] (fun rv iv wr=>rv=.slice (some ⟨W.heap.size,0,none⟩) 0 0/\iv=iI 0/\wr=W1) (fun _ _ _=>0)
 case atStart=>exact ⟨rfl,rfl,rfl⟩
 case round=>
  obtain ⟨rfl,rfl,rfl⟩:=hrel;go_wp2_with fail;refine (bP _ _ _ _ hc).mono ?_;rintro e w' ⟨rfl,rfl⟩;go_wp2;go_ret;rw [HV.u]
  exact ⟨_,rfl,aC qx.u.1 HX.u.size,HX.u.trans qx.u.2⟩
def Qh (ts:List Pt) (m:Int) (j:Nat):Int:=if atT (ts.drop j) m<(ts.drop j).length then ((j+atT (ts.drop j) m:Nat):Int) else -1
def Qi (ts:List Pt) (m:Int) (j:Nat):Nat:=j+plT (ts.drop j) m
theorem BS {α:Type} {xs:List α} {i:Nat} {x:α} (h:xs[i]?=some x):xs.drop i=x::xs.drop (i+1):=by
 obtain ⟨hl,rfl⟩:=gu.1 h
 exact Bn hl
theorem apf {ts:List Pt} {m:Int} {i:Nat} {x:Pt} (h:ts[i]?=some x) (hm:x.m=m):Qh ts m i=i:=by
 unfold Qh atT;rw [BS h,Nt];simp [hm]
theorem ai8 {ts:List Pt} {m:Int} {i:Nat} {x:Pt} (h:ts[i]?=some x) (hm:¬x.m=m):Qh ts m i=Qh ts m (i+1):=by
 unfold Qh atT;have hb:(x.m==m)=false:=sU hm
 rw [BS h,Nt,hb];simp only [ki,cond_false,Nat.add_lt_add_iff_right]
 by_cases hl:List.findIdx (fun t=>t.m==m) (ts.drop (i+1))<(ts.drop (i+1)).length
 ·rw [aY hl,aY hl];congr 1;omega
 ·rw [aM hl,aM hl]
theorem apg {ts:List Pt} {m:Int} {i:Nat} {x:Pt} (h:ts[i]?=some x) (hm:m<x.m):Qi ts m i=i:=by
 unfold Qi plT;rw [BS h,Nt];simp [hm]
theorem ai9 {ts:List Pt} {m:Int} {i:Nat} {x:Pt} (h:ts[i]?=some x) (hm:¬m<x.m):Qi ts m i=Qi ts m (i+1):=by
 unfold Qi plT;have hb:decide (m<x.m)=false:=sU hm
 rw [BS h,Nt,hb];simp only [cond_false];omega
theorem akO (ts:List Pt) (m:Int):Qi ts m 0<=ts.length:=by
 unfold Qi plT;rw [Bp,lM]
 exact List.findIdx_le_length
theorem ag8 {ts:List Pt} {m:Int} {j:Nat} (h:ts.length<=j):Qh ts m j= -1:=by
 unfold Qh;rw [vI h];rfl
theorem ag9 {ts:List Pt} {m:Int}:Qi ts m ts.length=ts.length:=by
 unfold Qi plT;rw [vI (lI _)];rfl
theorem Zb {α:Type} {xs:List α} {i:Nat} {x:α} (h:xs[i]?=some x) (f:α->α):xs.modify i f=xs.set i (f x):=by
 apply FM;intro j;rw [List.getElem?_modify,List.getElem?_set]
 by_cases hj:i=j
 ·subst hj;rw [aY rfl,h];simp [(gu.1 h).1]
 ·rw [aM hj];simp [hj]
theorem Ok (xs:List Pt) (m:Nat):(aQ xs).take (m*2)=aQ (xs.take m):=by
 induction xs generalizing m with
 |nil=>simp
 |cons x xs ih=>
  cases m with
  |zero=>simp
  |succ m=>
   rw [yl];show (Pt.cells x++aQ xs).take ((m+1)*2)=Pt.cells x++aQ (xs.take m);rw [TL,<-ih];rw [lE rr,Pt.aG];congr 2;omega
theorem Ol (xs:List Pt) (m:Nat):(aQ xs).drop (m*2)=aQ (xs.drop m):=by
 induction xs generalizing m with
 |nil=>simp
 |cons x xs ih=>
  cases m with
  |zero=>simp
  |succ m=>
   rw [Np];show (Pt.cells x++aQ xs).drop ((m+1)*2)=aQ (xs.drop m);rw [TN,vI rr,Pt.aG,lN,<-ih];congr 1;omega
theorem wJ {xs:List Pt} {i:Nat} {x:Pt} (h:xs[i]?=some x) (u:Int):(aQ xs).set (i*2+1) (iI u)=aQ (xs.set i ⟨x.m,u⟩):=by
 induction xs generalizing i with
 |nil=>simp at h
 |cons y xs ih=>
  cases i with
  |zero=>
   simp at h;subst h;rfl
  |succ i=>
   rw [List.getElem?_cons_succ] at h;rw [TE];show (Pt.cells y++aQ xs).set ((i+1)*2+1) _=Pt.cells y++aQ (xs.set i _);rw [Ty _ _ rr,<-ih h,Pt.aG];congr 2;omega
theorem acG {w:World} {B n m:Nat} {A:OA} {xs:List Pt} (h:Rd w B 2 A n (aQ xs)) (hm:m<=n):Rd w B 2 A m (aQ (xs.take m)):=by
 rw [<-Ok]
 exact zJ h hm
theorem Zc {w:World} {B n m b o:Nat} {xs:List Pt} (h:Rd w B 2 (some ⟨b,o,none⟩) n (aQ xs)) (hm:m<=n):Rd w B 2 (some ⟨b,o+m*2,none⟩) (n - m) (aQ (xs.drop m)):=by
 rw [<-Ol];refine ⟨?_,fun h0=>?_⟩
 ·rw [lU,h.1];omega
 ·obtain ⟨b',o',e,hb,hc⟩:=h.2 aa;injection e with e;injection e with e1 e2;subst e1 e2;refine ⟨b,o+m*2,rfl,hb,fun j u hu=>?_⟩;rw [vK] at hu;have:=hc _ _ hu;rw [Nz]
  exact this
theorem Il {P:Prop} (h:P:=by
 obtain ⟨A8,c8,rfl,-⟩:=ak g1;obtain ⟨g,hg,-⟩:=ny g1 aa;subst hg;have xF:Hid (w8.ownsRow w.heap.size 243 2 (.slice (some ⟨g,0,none⟩) (p+1+(n - p)) c8) (p+1+(n - p)) (aQ (ts.take p++[⟨m,0⟩]++ts.drop p))/\Ext w w8):=⟨g1,g2⟩;clear g1 g2 g3 g4;have ka:(ts.take p++[(⟨m,0⟩:Pt)]++ts.drop p)[p]?=some ⟨m,0⟩:=by
  have:=HN.u;rw [vJ,uS fW,lT,show p - min p ts.length=0 by omega];rfl
 obtain ⟨l,hl⟩:=ey (p+1+(n - p));obtain ⟨ws,CA⟩:=ey (ts.take p++[(⟨m,0⟩:Pt)]++ts.drop p);obtain ⟨x,hx⟩:∃x:Pt,x=⟨m,0⟩:=⟨_,rfl⟩;have cD:x.c=0:=by rw [hx]
 rw [<-hl,<-CA] at xF;rw [<-hl];rw [<-CA] at Qj ka;have acH:Hid (ws.set p ⟨x.m,(x.c+d) % 8⟩=Od ts m d):=by rw [hx];exact Qj.u
 rw [<-hx] at ka;have HP:Hid (ws[p]?=some x/\p<l/\0<=x.c/\x.c<=7):=⟨ka,aa,aa,aa⟩;have YX:l<=200000000001:=aa
 clear ka hx CA hl cD Qj mn gH HD akP;have Tm:ws.length=l:=(Rd.own xF.u.1).len Pt.aG aa;have rV:(aQ ws)[p*2+1]?=some (iI x.c):=by
  have:=xt Pt.aG ws p x HP.u.1 1 aa
  exact this
 have HC:Hid (w8.cell? (aA g (p*2+1))=some (iI x.c)/\w8.frozen? (aA g (p*2+1))=false):=by
  refine ⟨?_,xF.u.1.frozenAt _⟩;obtain ⟨b',o',e',-,sW⟩:=(Rd.own xF.u.1).2 (oM HP.u);injection e' with e';injection e' with e1 e2;subst e1 e2;have:=sW _ _ rV;rw [lM] at this
  exact this
 have hp0:(0:Int)<=(p:Int):=aa
 have zV:(p:Int)<(l:Int):=oM HP.u
 have Ec:IntKind.i64.wrap (x.c+d)=x.c+d:=lH _ (oM HP.u);have acJ:wrap64 (x.c+d)=x.c+d:=ru
 obtain ⟨c1,f1⟩:=HC.u;go_wp2_with fail;refine (eZ (x.c+d) _ (oM HP.u)).mono ?_;rintro e wq ⟨rfl,rfl⟩;have vk:Hid ((w8.setCell (aA g (p*2+1)) (iI ((x.c+d) % 8))).ownsRow w.heap.size 243 2 (.slice (some ⟨g,0,none⟩) l c8) l (aQ (Od ts m d))/\Ext w (w8.setCell (aA g (p*2+1)) (iI ((x.c+d) % 8)))):=by
  have h1:=xF.u.1.stored (p*2+1) (iI ((x.c+d) % 8));rw [wJ HP.u.1,acH.u] at h1
  exact ⟨h1.1,xF.u.2.setCell (xF.u.1.lt g rfl).1 _⟩
 go_upto_region 16 with fail;clear c1 f1 rV HC hp0 zV Ec acJ
 (try clear acK)
 (try clear pH)
 (try clear QH)
 (try clear KZ)
 (try clear hd)
 (try clear Tn)
 (try clear hpc)
 (try clear akQ)
 (try clear Ww)
 (try clear Zd)
 generalize w8.setCell (aA g (p*2+1)) (iI ((x.c+d) % 8))=W2 at*
 have Ze:(Od ts m d).length=l:=(Rd.own vk.u.1).len Pt.aG aa;obtain ⟨zs,EZ⟩:=ey (Od ts m d);have HZ:Hid (fM ts m d=zs.filter fun t=>!(t.c==0)):=by rw [EZ];rfl
 rw [<-EZ] at vk Ze;clear EZ;have mf:Hid ((W2.alloc (cO #[] 243)).ownsRow W2.heap.size 243 2 (.slice (some ⟨W2.heap.size,0,none⟩) 0 0) 0 (aQ ((zs.take 0).filter fun t=>!(t.c==0)))/\Ext W2 (W2.alloc (cO #[] 243))):=⟨aN W2 W2 _ 2 (xZ _),(xZ _).alloc _⟩;have HRZ:=hY (Rd.own vk.u.1);go_upto_region 18 with fail;generalize W2.alloc (cO #[] 243)=W3 at*
 go_loopw [11,12] (fun rv iv wr=>∃(k q:Nat) (A':OA) (cap:Nat),rv=.slice A' q cap/\iv=iI k/\k<=l/\q<=k/\Hid (wr.ownsRow W2.heap.size 243 2 (.slice A' q cap) q (aQ ((zs.take k).filter fun t=>!(t.c==0)))/\Ext W2 wr)) (fun _ iv _=>l - (intOf iv).toNat)
 case atStart=>exact ⟨0,0,_,0,rfl,rfl,lJ _,lI _,mf⟩
 case round=>
  obtain ⟨k,q,A',cap,rfl,rfl,hk,hq,HD⟩:=hrel;clear mf
  by_cases ba:k<l
  ·have bZ:Hid (k<l/\q<=k/\l<=400000000000):=⟨ba,hq,aa⟩;obtain ⟨b,o,y,he,-,hy,y0,y1⟩:=Wn (HRZ.u.ext HD.u.2) ba;simp only [iG,jR] at he;obtain ⟨rfl,rfl,-⟩:=he;rw [lM] at y0 y1;have HY:=hY hy;clear hy;have dy:Hid (IntKind.i64.wrap ((k:Int)+1)=((k+1:Nat):Int)):=by unfold Hid;rw [lH _ aa];rfl
   have Bh:Hid (wrap64 ((k:Int)+1)=((k+1:Nat):Int)):=rG
   by_cases mg:y.c=0
   ·have HF:Hid ((zs.take (k+1)).filter (fun t=>!(t.c==0))=(zs.take k).filter fun t=>!(t.c==0)):=by
     unfold Hid;rw [aS HY.u,FK];simp [mg]
    have hyb:(y.c !=0)=false:=ze
    clear mg;go_wp2;go_roundw
    case rel=>exact ⟨k+1,q,A',cap,rfl,by first|rfl|rw [dy.u]|rw [Bh.u],oM bZ.u,oM bZ.u,by rw [HF.u];exact HD⟩
    case measure=>have h5:=Bh.u;have h6:=dy.u;simp [intOf,h5,h6];have:=bZ.u;omega
   ·have HF:Hid ((zs.take (k+1)).filter (fun t=>!(t.c==0))=((zs.take k).filter fun t=>!(t.c==0))++[y]):=by
     unfold Hid;rw [aS HY.u,FK];simp [mg]
    have hyb:(y.c !=0)=true:=zf
    clear mg;go_wp2_with (at_builtin;refine Rm (w0:=W2) rfl _ _ rfl _ q _ rfl HD.u.1 HD.u.2 y _ _ rfl rfl (oM bZ.u) ?_;intro v9 w9 g1 g2 g3 g4)
    obtain ⟨A9,c9,rfl,-⟩:=ak g1;have Cz:Hid (w9.ownsRow W2.heap.size 243 2 (.slice A9 (q+1) c9) (q+1) (aQ ((zs.take (k+1)).filter fun t=>!(t.c==0)))/\Ext W2 w9):=⟨by rw [HF.u];exact g1,g2⟩;clear g1 g2 g3 g4;go_wp2;go_roundw
    case rel=>exact ⟨k+1,q+1,A9,c9,rfl,by first|rfl|rw [dy.u]|rw [Bh.u],oM bZ.u,oM bZ.u,Cz⟩
    case measure=>have h5:=Bh.u;have h6:=dy.u;simp [intOf,h5,h6];have:=bZ.u;omega
  ·have wE:k=l:=aa
   subst wE;have HV:Hid (wr.ownsRow w.heap.size 243 2 (.slice A' q cap) (fM ts m d).length (aQ (fM ts m d))/\Ext w wr):=by
    have h1:=HD.u.1;rw [lE aa,<-HZ.u] at h1;have h2:(fM ts m d).length=q:=(Rd.own h1).len Pt.aG aa;rw [h2]
    exact ⟨aC h1 vk.u.2.size,vk.u.2.trans HD.u.2⟩
   go_wp2;go_ret
   exact ⟨⟨_,rfl,HV.u.1⟩,HV.u.2⟩):P:=h
theorem Im {P:Prop} (h:P:=by
 obtain ⟨b,o,y,he,-,hy,y0,y1⟩:=Wn (HRZ.u.ext HD.u.2) ba;simp only [iG,jR] at he;obtain ⟨rfl,rfl,-⟩:=he;rw [lM] at y0 y1;have HY:=hY hy;clear hy;have dy:Hid (IntKind.i64.wrap ((k:Int)+1)=((k+1:Nat):Int)):=by unfold Hid;rw [lH _ aa];rfl
 have Bh:Hid (wrap64 ((k:Int)+1)=((k+1:Nat):Int)):=rG
 by_cases mg:y.c=0
 ·have HF:Hid ((zs.take (k+1)).filter (fun t=>!(t.c==0))=(zs.take k).filter fun t=>!(t.c==0)):=by
   unfold Hid;rw [aS HY.u,FK];simp [mg]
  have hyb:(y.c !=0)=false:=ze
  clear mg;go_wp2;go_roundw
  case rel=>exact ⟨k+1,q,A',cap,rfl,by first|rfl|rw [dy.u]|rw [Bh.u],oM bZ.u,oM bZ.u,by rw [HF.u];exact HD⟩
  case measure=>have h5:=Bh.u;have h6:=dy.u;simp [intOf,h5,h6];have:=bZ.u;omega
 ·have HF:Hid ((zs.take (k+1)).filter (fun t=>!(t.c==0))=((zs.take k).filter fun t=>!(t.c==0))++[y]):=by
   unfold Hid;rw [aS HY.u,FK];simp [mg]
  have hyb:(y.c !=0)=true:=zf
  clear mg;go_wp2_with (at_builtin;refine Rm (w0:=W2) rfl _ _ rfl _ q _ rfl HD.u.1 HD.u.2 y _ _ rfl rfl (oM bZ.u) ?_;intro v9 w9 g1 g2 g3 g4)
  obtain ⟨A9,c9,rfl,-⟩:=ak g1;have Cz:Hid (w9.ownsRow W2.heap.size 243 2 (.slice A9 (q+1) c9) (q+1) (aQ ((zs.take (k+1)).filter fun t=>!(t.c==0)))/\Ext W2 w9):=⟨by rw [HF.u];exact g1,g2⟩;clear g1 g2 g3 g4;go_wp2;go_roundw
  case rel=>exact ⟨k+1,q+1,A9,c9,rfl,by first|rfl|rw [dy.u]|rw [Bh.u],oM bZ.u,oM bZ.u,Cz⟩
  case measure=>have h5:=Bh.u;have h6:=dy.u;simp [intOf,h5,h6];have:=bZ.u;omega):P:=h
theorem zW {P:Prop} (h:P:=by
 clear xm;go_wp2;go_roundw
 case rel=>exact ⟨i,by rw [HA.u.1],by rw [HA.u.2],by first|rfl|rw [et]|rw [iM],oM bZ.u,HE⟩
 case measure=>have h5:=iM;have h7:=bZ.u;simp [intOf];try omega):P:=h
theorem Io {P:Prop} (h:P:=by
 injection e' with e';injection e' with e1 e2;subst e1 e2;have:=sW _ _ rV;rw [lM] at this
 exact this):P:=h
theorem Ip (A:OA) (n c:Nat) (ts:List Pt) (m d:Int) (w:World) (h:Rd w w.heap.size 2 A n (aQ ts)) (hn:n<=200000000000) (hc:n<=c) (hts:∀t∈ts,0<=t.c/\t.c<=7) (hd: -50<=d/\d<=50) (hA:(A=none/\c=0)\/∃b o,A=some ⟨b,o,none⟩):
  Calls prog 193 #[.slice A n c,iI m,iI d] w fun e w'=>(∃v,e=.returned v/\w'.ownsRow w.heap.size 243 2 v (fM ts m d).length (aQ (fM ts m d)))/\Ext w w':=by
 have hlen:=h.len Pt.aG aa;have HN:=hY hlen;have HR:=hY h;have HTS:=hY hts;have hw0:IntKind.i64.wrap ((n:Int) - 1)=(n:Int) - 1:=lH _ aa;have hw1:wrap64 ((n:Int) - 1)=(n:Int) - 1:=bk
 have H0:Hid (Qh ts m n= -1/\Qi ts m n=n):=⟨ag8 aa,by rw [<-hlen];exact ag9⟩;clear hlen h hts;go_enter func193,ntmps193;go_wp2
 go_loopw [7,8,9] (fun av pv iv wr=>∃j:Nat,av=iI (Qh ts m j)/\pv=iI (Qi ts m j:Nat)/\iv=iI ((j:Int) - 1)/\j<=n/\Hid (Ext w wr)) (fun _ _ iv _=>(intOf iv+1).toNat)
 case atStart=>exact ⟨n,by rw [H0.u.1],by rw [H0.u.2],by first|rfl|rw [hw0]|rw [hw1],lI _,xZ _⟩
 case round=>
  obtain ⟨j,rfl,rfl,rfl,hj,HE⟩:=hrel;clear H0 hw0 hw1
  by_cases KZ:0<j
  ·obtain ⟨i,rfl⟩:∃i,j=i+1:=⟨j - 1,aa⟩;have zG:i<n:=aa
   have bZ:Hid (i<n/\n<=200000000000):=⟨zG,hn⟩;have e1:((i+1:Nat):Int) - 1=(i:Int):=aa
   rw [e1];have TW:(0:Int)<=(i:Int):=aa
   have hi1:(i:Int)>=0:=TW;have et:IntKind.i64.wrap ((i:Int) - 1)=(i:Int) - 1:=lH _ aa;have iM:wrap64 ((i:Int) - 1)=(i:Int) - 1:=bk
   obtain ⟨b,o,x,rfl,hb,hx,x0,x1⟩:=Wn (HR.u.ext HE.u) zG;have HX:=hY hx;clear hx hb e1 hj KZ;have aAW:(i:Int)<(n:Int):=aa
   by_cases xm:x.m=m
   ·have xmb:(x.m==m)=true:=sU xm
    have xmg:¬m<x.m:=aa
    have aAY:¬x.m>m:=xmg;have HA:Hid (Qh ts m i=i/\Qi ts m i=Qi ts m (i+1)):=⟨apf HX.u xm,ai9 HX.u xmg⟩
    exact zW
   ·have xmb:(x.m==m)=false:=sU xm
    by_cases xg:m<x.m
    ·have xg2:x.m>m:=xg;have HA:Hid (Qh ts m i=Qh ts m (i+1)/\Qi ts m i=i):=⟨ai8 HX.u xm,apg HX.u xg⟩
     exact zW
    ·have xg2:¬x.m>m:=xg;have HA:Hid (Qh ts m i=Qh ts m (i+1)/\Qi ts m i=Qi ts m (i+1)):=⟨ai8 HX.u xm,ai9 HX.u xg⟩
     exact zW
  ·obtain rfl:j=0:=aa
   have pH:¬((0:Nat):Int) - 1>=0:=aa
   have QH:¬(0:Int)<=((0:Nat):Int) - 1:=aa
   by_cases Wy:atT ts m<ts.length
   ·have hav:Qh ts m 0=(atT ts m:Int):=by unfold Qh;rw [Bp,aY Wy,lM]
    obtain ⟨p,hp⟩:=ex (atT ts m);have Qj:Hid (∀x:Pt,ts[p]?=some x->ts.set p ⟨x.m,(x.c+d) % 8⟩=Od ts m d):=fun x hx=>by
     unfold Od;rw [aY Wy,hp]
     exact (Zb hx (fun t=>⟨t.m,(t.c+d) % 8⟩)).symm
    rw [hp] at Wy hav;have Tn:p<n:=oM HN.u
    obtain ⟨x,hx⟩:∃x,ts[p]?=some x:=⟨_,lB Wy⟩;have WA:=HTS.u x (lG hx);rw [hav];have HP:Hid (ts[p]?=some x/\p<n/\0<=x.c/\x.c<=7):=⟨hx,Tn,WA.1,WA.2⟩;have acH:=hY (Qj.u x hx);have acK:¬((p:Int)<0):=aa
    clear Qj hp hav hx WA Wy;go_upto_region 11 with (at_builtin;refine nW (w0:=w) rfl _ _ rfl _ 0 [] rfl (aN w wr _ 2 HE.u) (HE.u.alloc _) A n c ts rfl ((HR.u.ext HE.u).ext ((xZ _).alloc _)) aa ?_;intro v5 w5 g1 g2 g3 g4)
    rw [lM,lN] at g1;obtain ⟨A5,c5,rfl,-⟩:=ak g1;obtain ⟨g,hg,-⟩:=ny g1 aa;subst hg
    try rw [lM]
    have jL:Hid (w5.ownsRow w.heap.size 243 2 (.slice (some ⟨g,0,none⟩) n c5) n (aQ ts)/\Ext w w5):=⟨g1,g2⟩;clear g1 g2 g3 g4 HE HR;have Tm:ts.length=n:=(Rd.own jL.u.1).len Pt.aG aa;have rV:(aQ ts)[p*2+1]?=some (iI x.c):=by
     have:=xt Pt.aG ts p x HP.u.1 1 aa
     exact this
    have HC:Hid (w5.cell? (aA g (p*2+1))=some (iI x.c)/\w5.frozen? (aA g (p*2+1))=false):=by
     refine ⟨?_,jL.u.1.frozenAt _⟩;obtain ⟨b',o',e',-,sW⟩:=(Rd.own jL.u.1).2 (oM HP.u)
     exact Io
    have hp0:(0:Int)<=(p:Int):=aa
    have zV:(p:Int)<(n:Int):=oM HP.u
    have Ec:IntKind.i64.wrap (x.c+d)=x.c+d:=lH _ (oM HP.u);have acJ:wrap64 (x.c+d)=x.c+d:=ru
    obtain ⟨c1,f1⟩:=HC.u;go_wp2_with fail;refine (eZ (x.c+d) _ (oM HP.u)).mono ?_;rintro e wq ⟨rfl,rfl⟩;have vk:Hid ((w5.setCell (aA g (p*2+1)) (iI ((x.c+d) % 8))).ownsRow w.heap.size 243 2 (.slice (some ⟨g,0,none⟩) n c5) n (aQ (Od ts m d))/\Ext w (w5.setCell (aA g (p*2+1)) (iI ((x.c+d) % 8)))):=by
     have h1:=jL.u.1.stored (p*2+1) (iI ((x.c+d) % 8));rw [wJ HP.u.1,acH.u] at h1
     exact ⟨h1.1,jL.u.2.setCell (jL.u.1.lt g rfl).1 _⟩
    go_upto_region 16 with fail;clear c1 f1 rV HC hp0 zV Ec acJ
    (try clear acK)
    (try clear pH)
    (try clear QH)
    (try clear KZ)
    (try clear hd)
    (try clear Tn)
    (try clear hpc)
    (try clear akQ)
    (try clear Ww)
    (try clear Zd)
    generalize w5.setCell (aA g (p*2+1)) (iI ((x.c+d) % 8))=W2 at*
    have Ze:(Od ts m d).length=n:=(Rd.own vk.u.1).len Pt.aG aa;obtain ⟨zs,EZ⟩:=ey (Od ts m d);have HZ:Hid (fM ts m d=zs.filter fun t=>!(t.c==0)):=by rw [EZ];rfl
    rw [<-EZ] at vk Ze;clear EZ;have mf:Hid ((W2.alloc (cO #[] 243)).ownsRow W2.heap.size 243 2 (.slice (some ⟨W2.heap.size,0,none⟩) 0 0) 0 (aQ ((zs.take 0).filter fun t=>!(t.c==0)))/\Ext W2 (W2.alloc (cO #[] 243))):=⟨aN W2 W2 _ 2 (xZ _),(xZ _).alloc _⟩;have HRZ:=hY (Rd.own vk.u.1);go_upto_region 18 with fail;generalize W2.alloc (cO #[] 243)=W3 at*
    go_loopw [11,12] (fun rv iv wr=>∃(k q:Nat) (A':OA) (cap:Nat),rv=.slice A' q cap/\iv=iI k/\k<=n/\q<=k/\Hid (wr.ownsRow W2.heap.size 243 2 (.slice A' q cap) q (aQ ((zs.take k).filter fun t=>!(t.c==0)))/\Ext W2 wr)) (fun _ iv _=>n - (intOf iv).toNat)
    case atStart=>exact ⟨0,0,_,0,rfl,rfl,lJ _,lI _,mf⟩
    case round=>
     obtain ⟨k,q,A',cap,rfl,rfl,hk,hq,HD⟩:=hrel;clear mf
     by_cases ba:k<n
     ·have bZ:Hid (k<n/\q<=k/\n<=400000000000):=⟨ba,hq,aa⟩
      exact Im
     ·have wE:k=n:=aa
      subst wE;have HV:Hid (wr.ownsRow w.heap.size 243 2 (.slice A' q cap) (fM ts m d).length (aQ (fM ts m d))/\Ext w wr):=by
       have h1:=HD.u.1;rw [lE aa,<-HZ.u] at h1;have h2:(fM ts m d).length=q:=(Rd.own h1).len Pt.aG aa;rw [h2]
       exact ⟨aC h1 vk.u.2.size,vk.u.2.trans HD.u.2⟩
      go_wp2;go_ret
      exact ⟨⟨_,rfl,HV.u.1⟩,HV.u.2⟩
   ·have hav:Qh ts m 0= -1:=by unfold Qh;rw [Bp,aM Wy]
    have hpv:Qi ts m 0=plT ts m:=by unfold Qi;rw [Bp,lM]
    have Zd:=akO ts m;rw [hpv] at Zd;obtain ⟨p,hp⟩:=ex (plT ts m);have Qj:Hid ((ts.take p++[(⟨m,0⟩:Pt)]++ts.drop p).set p ⟨m,(0+d) % 8⟩=Od ts m d):=by
     unfold Hid Od;rw [aM Wy,hp,Int.zero_add,vJ,Ty _ _ fW,lT];rw [show p - min p ts.length=0 by rw [hp] at Zd;omega,vJ];rfl
    rw [hav,hpv,hp];rw [hp] at Zd;have Tn:p<=n:=oM HN.u
    have hp0:(0:Int)<=(p:Int):=aa
    have hpc:(p:Int)<=(c:Int):=aa
    have akQ:(p:Int)<=(n:Int):=aa
    have Ww:(-1:Int)<0:=aa
    clear hav hpv hp Wy;rcases hA with ⟨rfl,rfl⟩|⟨b,o,rfl⟩
    ·have Tk:n=0:=by
      rcases DF n with h0|h0
      ·exact h0
      ·obtain ⟨b,o,e,-⟩:=HR.u.2 h0
       cases e
     subst Tk;obtain rfl:p=0:=aa
     have ht0:ts=[]:=Bm HN.u;subst ht0;have HD:Hid (∀w',Rd w' w'.heap.size 2 none 0 (aQ [])):=fun w'=>⟨ag,fun h0=>absurd h0 aa⟩
     go_upto_region 11 with (at_builtin;refine nW (w0:=w) rfl _ _ rfl _ 0 [] rfl (aN w wr _ 2 HE.u) (HE.u.alloc _) none 0 0 [] rfl (HD.u _) aa ?_;intro v5 w5 g1 g2 g3 g4)
     have jP:=hY g2;clear g1 g2 g3 g4
     go_upto_region 15 with (first
      |(at_builtin;refine nW (w0:=w) rfl _ _ rfl _ 0 [] rfl (aN w w5 _ 2 jP) (jP.alloc _) none 0 _ [] rfl (HD.u _) aa ?_;intro v6 w6 g1 g2 g3 g4;rw [lM,lN] at g1;have mn:Hid (w6.ownsRow w.heap.size 243 2 v6 0 (aQ [])/\Ext w w6):=⟨g1,g2⟩;clear g1 g2 g3 g4)
      |(at_builtin;refine Rm (w0:=w) rfl _ _ rfl _ 0 [] rfl mn.u.1 mn.u.2 ⟨m,0⟩ _ _ rfl rfl aa ?_;intro v7 w7 g1 g2 g3 g4;have gH:Hid (w7.ownsRow w.heap.size 243 2 v7 (0+1) (aQ ([]++[⟨m,0⟩]))/\Ext w w7):=⟨g1,g2⟩;clear g1 g2 g3 g4)
      |(at_builtin;refine nW (w0:=w) rfl _ _ rfl _ (0+1) _ rfl gH.u.1 gH.u.2 none 0 _ [] rfl (HD.u _) aa ?_;intro v8 w8 g1 g2 g3 g4))
     obtain ⟨A8,c8,rfl,-⟩:=ak g1;obtain ⟨g,hg,-⟩:=ny g1 aa;subst hg;have xF:Hid (w8.ownsRow w.heap.size 243 2 (.slice (some ⟨g,0,none⟩) (0+1+0) c8) (0+1+0) (aQ ([]++[⟨m,0⟩]++[]))/\Ext w w8):=⟨g1,g2⟩;clear g1 g2 g3 g4;have ka:([]++[(⟨m,0⟩:Pt)]++[])[0]?=some ⟨m,0⟩:=rfl;obtain ⟨l,hl⟩:=ey (0+1+0);obtain ⟨ws,CA⟩:=ey ([]++[(⟨m,0⟩:Pt)]++[]);obtain ⟨x,hx⟩:∃x:Pt,x=⟨m,0⟩:=⟨_,rfl⟩;have cD:x.c=0:=by rw [hx]
     rw [<-hl,<-CA] at xF
     (try rw [show (0:Nat)+1+0=l from hl.symm])
     rw [<-CA] at ka;have acH:Hid (ws.set 0 ⟨x.m,(x.c+d) % 8⟩=Od [] m d):=by rw [hx,CA];exact Qj.u
     rw [<-hx] at ka;have HP:Hid (ws[0]?=some x/\0<l/\0<=x.c/\x.c<=7):=⟨ka,aa,aa,aa⟩;have YX:l<=200000000001:=aa
     clear ka hx CA hl cD Qj mn gH HD;have Tm:ws.length=l:=(Rd.own xF.u.1).len Pt.aG aa;have rV:(aQ ws)[1]?=some (iI x.c):=by
      have:=xt Pt.aG ws 0 x HP.u.1 1 aa
      exact this
     have HC:Hid (w8.cell? (aA g 1)=some (iI x.c)/\w8.frozen? (aA g 1)=false):=by
      refine ⟨?_,xF.u.1.frozenAt _⟩;obtain ⟨b',o',e',-,sW⟩:=(Rd.own xF.u.1).2 (oM HP.u)
      exact Io
     have hp0:(0:Int)<=(0:Int):=aa
     have zV:(0:Int)<(l:Int):=oM HP.u
     have Ec:IntKind.i64.wrap (x.c+d)=x.c+d:=lH _ (oM HP.u);have acJ:wrap64 (x.c+d)=x.c+d:=ru
     obtain ⟨c1,f1⟩:=HC.u;go_wp2_with fail;refine (eZ (x.c+d) _ (oM HP.u)).mono ?_;rintro e wq ⟨rfl,rfl⟩;have vk:Hid ((w8.setCell (aA g 1) (iI ((x.c+d) % 8))).ownsRow w.heap.size 243 2 (.slice (some ⟨g,0,none⟩) l c8) l (aQ (Od [] m d))/\Ext w (w8.setCell (aA g 1) (iI ((x.c+d) % 8)))):=by
      have h1:=xF.u.1.stored (0*2+1) (iI ((x.c+d) % 8));rw [wJ HP.u.1,acH.u] at h1
      exact ⟨h1.1,xF.u.2.setCell (xF.u.1.lt g rfl).1 _⟩
     go_upto_region 16 with fail;clear c1 f1 rV HC hp0 zV Ec acJ
     (try clear acK)
     (try clear pH)
     (try clear QH)
     (try clear KZ)
     (try clear hd)
     (try clear Tn)
     (try clear hpc)
     (try clear akQ)
     (try clear Ww)
     (try clear Zd)
     generalize w8.setCell (aA g 1) (iI ((x.c+d) % 8))=W2 at*
     have Ze:(Od [] m d).length=l:=(Rd.own vk.u.1).len Pt.aG aa;obtain ⟨zs,EZ⟩:=ey (Od [] m d);have HZ:Hid (fM [] m d=zs.filter fun t=>!(t.c==0)):=by rw [EZ];rfl
     rw [<-EZ] at vk Ze;clear EZ;have mf:Hid ((W2.alloc (cO #[] 243)).ownsRow W2.heap.size 243 2 (.slice (some ⟨W2.heap.size,0,none⟩) 0 0) 0 (aQ ((zs.take 0).filter fun t=>!(t.c==0)))/\Ext W2 (W2.alloc (cO #[] 243))):=⟨aN W2 W2 _ 2 (xZ _),(xZ _).alloc _⟩;have HRZ:=hY (Rd.own vk.u.1);go_upto_region 18 with fail;generalize W2.alloc (cO #[] 243)=W3 at*
     go_loopw [11,12] (fun rv iv wr=>∃(k q:Nat) (A':OA) (cap:Nat),rv=.slice A' q cap/\iv=iI k/\k<=l/\q<=k/\Hid (wr.ownsRow W2.heap.size 243 2 (.slice A' q cap) q (aQ ((zs.take k).filter fun t=>!(t.c==0)))/\Ext W2 wr)) (fun _ iv _=>l - (intOf iv).toNat)
     case atStart=>exact ⟨0,0,_,0,rfl,rfl,lJ _,lI _,mf⟩
     case round=>
      obtain ⟨k,q,A',cap,rfl,rfl,hk,hq,HD⟩:=hrel;clear mf
      by_cases ba:k<l
      ·have bZ:Hid (k<l/\q<=k/\l<=400000000000):=⟨ba,hq,aa⟩
       exact Im
      ·have wE:k=l:=aa
       subst wE;have HV:Hid (wr.ownsRow w.heap.size 243 2 (.slice A' q cap) (fM [] m d).length (aQ (fM [] m d))/\Ext w wr):=by
        have h1:=HD.u.1;rw [lE aa,<-HZ.u] at h1;have h2:(fM [] m d).length=q:=(Rd.own h1).len Pt.aG aa;rw [h2]
        exact ⟨aC h1 vk.u.2.size,vk.u.2.trans HD.u.2⟩
       go_wp2;go_ret
       exact ⟨⟨_,rfl,HV.u.1⟩,HV.u.2⟩
    ·have akP:Hid (∀w',Ext w w'->Rd w' w'.heap.size 2 (some ⟨b,o,none⟩) p (aQ (ts.take p))):=fun w' hx=>acG (HR.u.ext hx) Tn
     by_cases Yt:c=p
     ·have HD:Hid (∀w',Ext w w'->Rd w' w'.heap.size 2 (some ⟨b,o,none⟩) (n - p) (aQ (ts.drop p))):=fun w' hx=>by
       have e1:ts.drop p=[]:=vI (oM HN.u);rw [e1,show n - p=0 by omega]
       exact ⟨ag,fun h0=>absurd h0 aa⟩
      go_upto_region 11 with (at_builtin;refine nW (w0:=w) rfl _ _ rfl _ 0 [] rfl (aN w wr _ 2 HE.u) (HE.u.alloc _) (some ⟨b,o,none⟩) n c ts rfl ((HR.u.ext HE.u).ext ((xZ _).alloc _)) aa ?_;intro v5 w5 g1 g2 g3 g4)
      have jP:=hY g2;clear g1 g2 g3 g4
      go_upto_region 15 with (first
       |(at_builtin;refine nW (w0:=w) rfl _ _ rfl _ 0 [] rfl (aN w w5 _ 2 jP) (jP.alloc _) (some ⟨b,o,none⟩) p _ (ts.take p) rfl (akP.u _ (jP.alloc _)) aa ?_;intro v6 w6 g1 g2 g3 g4;rw [lM,lN] at g1;have mn:Hid (w6.ownsRow w.heap.size 243 2 v6 p (aQ (ts.take p))/\Ext w w6):=⟨g1,g2⟩;clear g1 g2 g3 g4)
       |(at_builtin;refine Rm (w0:=w) rfl _ _ rfl _ p (ts.take p) rfl mn.u.1 mn.u.2 ⟨m,0⟩ _ _ rfl rfl aa ?_;intro v7 w7 g1 g2 g3 g4;have gH:Hid (w7.ownsRow w.heap.size 243 2 v7 (p+1) (aQ (ts.take p++[⟨m,0⟩]))/\Ext w w7):=⟨g1,g2⟩;clear g1 g2 g3 g4)
       |(at_builtin;refine nW (w0:=w) rfl _ _ rfl _ (p+1) _ rfl gH.u.1 gH.u.2 (some ⟨b,o,none⟩) (n - p) _ (ts.drop p) rfl (HD.u _ gH.u.2) aa ?_;intro v8 w8 g1 g2 g3 g4))
      exact Il
     ·have HD:Hid (∀w',Ext w w'->Rd w' w'.heap.size 2 (some ⟨b,o+p*2,none⟩) (n - p) (aQ (ts.drop p))):=fun w' hx=>Zc (HR.u.ext hx) Tn
      go_upto_region 11 with (at_builtin;refine nW (w0:=w) rfl _ _ rfl _ 0 [] rfl (aN w wr _ 2 HE.u) (HE.u.alloc _) (some ⟨b,o,none⟩) n c ts rfl ((HR.u.ext HE.u).ext ((xZ _).alloc _)) aa ?_;intro v5 w5 g1 g2 g3 g4)
      have jP:=hY g2;clear g1 g2 g3 g4
      go_upto_region 15 with (first
       |(at_builtin;refine nW (w0:=w) rfl _ _ rfl _ 0 [] rfl (aN w w5 _ 2 jP) (jP.alloc _) (some ⟨b,o,none⟩) p _ (ts.take p) rfl (akP.u _ (jP.alloc _)) aa ?_;intro v6 w6 g1 g2 g3 g4;rw [lM,lN] at g1;have mn:Hid (w6.ownsRow w.heap.size 243 2 v6 p (aQ (ts.take p))/\Ext w w6):=⟨g1,g2⟩;clear g1 g2 g3 g4)
       |(at_builtin;refine Rm (w0:=w) rfl _ _ rfl _ p (ts.take p) rfl mn.u.1 mn.u.2 ⟨m,0⟩ _ _ rfl rfl aa ?_;intro v7 w7 g1 g2 g3 g4;have gH:Hid (w7.ownsRow w.heap.size 243 2 v7 (p+1) (aQ (ts.take p++[⟨m,0⟩]))/\Ext w w7):=⟨g1,g2⟩;clear g1 g2 g3 g4)
       |(at_builtin;refine nW (w0:=w) rfl _ _ rfl _ (p+1) _ rfl gH.u.1 gH.u.2 (some ⟨b,o+p*2,none⟩) (n - p) _ (ts.drop p) rfl (HD.u _ gH.u.2) aa ?_;intro v8 w8 g1 g2 g3 g4))
      exact Il
end Go.Proofs.YtodhjgngkkcjgaaGreatDoor
