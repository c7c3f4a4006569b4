import Derived.Test.YtiajdbllccmokaaGreatDoorXj
import Derived.Test.YtiajdbllccmokaaGreatDoorXl
namespace Go.Proofs.YtiajdbllccmokaaGreatDoor
open Go.ChangeShapes Go.WideShapes Go.ChangeAt Go.RowKit Go.Deep Go.Proofs.Tryz
set_option linter.unusedVariables false
set_option linter.unusedSimpArgs false
set_option maxRecDepth 100000
set_option maxHeartbeats 16000000
theorem VG:(List.range 201).all (fun i=>decide ((if ((i:Int) - 100).tmod 8<0 then ((i:Int) - 100).tmod 8+8 else ((i:Int) - 100).tmod 8)=((i:Int) - 100) % 8/\(((i:Int) - 100).tmod 8+8).tmod 8=((i:Int) - 100) % 8/\ -7<=((i:Int) - 100).tmod 8/\((i:Int) - 100).tmod 8<=7))=true:=af
theorem aaS {n:Int} (h: -100<=n/\n<=100):(if n.tmod 8<0 then n.tmod 8+8 else n.tmod 8)=n % 8/\(n.tmod 8+8).tmod 8=n % 8/\ -7<=n.tmod 8/\n.tmod 8<=7:=by
 obtain ⟨i,hi⟩:∃i:Nat,n=(i:Int) - 100:=⟨(n+100).toNat,aa⟩;subst hi
 exact xD (kc.1 VG i (BS.2 aa))
theorem Dm {P:Prop} (h:P:=by
 have HV:=hY h1;have pD:IntKind.i64.wrap r=r:=lH _ aa;have mg:wrap64 r=r:=bo
 clear h1;go_enter func107,ntmps107;go_wp2;go_ret
 exact ⟨dZ HV.u,rfl⟩):P:=h
theorem eD (n:Int) (w:World) (h: -100<=n/\n<=100):Calls prog 107 #[iI n] w fun e w'=>e=.returned (iI (n % 8))/\w=w':=by
 obtain ⟨h1,-,h3,h4⟩:=aaS h;obtain ⟨r,hr⟩:=ex (n.tmod 8);rw [hr] at h1 h3 h4
 by_cases hn:r<0
 ·rw [aX hn] at h1;have hw:IntKind.i64.wrap (r+8)=r+8:=lH _ aa;have hw2:wrap64 (r+8)=r+8:=bo
  exact Dm
 ·rw [aK hn] at h1
  exact Dm
theorem hH {P:Prop} (h:P:=by
 clear HD;go_wp2_with fail;refine (aF _ _ _ _ aa aa).mono ?_;rintro e w' ⟨rfl,rfl⟩;go_wp2;go_ret
 exact ⟨_,rfl,Dn.u.1,Dn.u.2⟩):P:=h
theorem jo {P:Prop} (h:P:=by
 clear g1 g2 g3 g4;go_wp2;go_roundw
 case rel=>exact ⟨1,A9,c9,rfl,rfl,aa,yH⟩
 case measure=>simp [intOf]):P:=h
theorem Dp {P:Prop} (h:P:=by
 clear g1 g2 g3 g4;go_wp2;go_roundw
 case rel=>exact ⟨2,A9,c9,rfl,rfl,aa,yH⟩
 case measure=>simp [intOf]):P:=h
theorem fQ (c q:Int) (w:World):Calls prog 122 #[iI c,iI q] w fun e w'=>∃v,e=.returned v/\w'.ownsRow w.heap.size 54 4 v (bV c q).length (ak (bV c q))/\Ext w w':=by
 go_enter func122,ntmps122;go_upto_region 2 with fail;obtain ⟨W,hW⟩:=ey ((((((((((w.alloc (cO #[] 3)).alloc (cO #[iI 7] 3)).alloc (cO #[iI 5] 3)).alloc (cO #[iI 5,iI 7] 3)).alloc (cO #[iI 3] 3)).alloc (cO #[iI 3,iI 7] 3)).alloc (cO #[iI 6] 3)).alloc (cO #[iI 8] 3)).alloc (cO #[.slice (some ⟨w.heap.size,0,none⟩) 0 0,.slice (some ⟨w.heap.size+1,0,none⟩) 1 1,.slice (some ⟨w.heap.size+2,0,none⟩) 1 1,.slice (some ⟨w.heap.size+3,0,none⟩) 2 2,.slice (some ⟨w.heap.size+4,0,none⟩) 1 1,.slice (some ⟨w.heap.size+5,0,none⟩) 2 2,.slice (some ⟨w.heap.size+6,0,none⟩) 1 1,.slice (some ⟨w.heap.size+7,0,none⟩) 1 1] 27)));have HX:Hid (Ext w W):=by unfold Hid;rw [hW];exact xx
 have HT:Hid (ay W (w.heap.size+8) 27 #[.slice (some ⟨w.heap.size,0,none⟩) 0 0,.slice (some ⟨w.heap.size+1,0,none⟩) 1 1,.slice (some ⟨w.heap.size+2,0,none⟩) 1 1,.slice (some ⟨w.heap.size+3,0,none⟩) 2 2,.slice (some ⟨w.heap.size+4,0,none⟩) 1 1,.slice (some ⟨w.heap.size+5,0,none⟩) 2 2,.slice (some ⟨w.heap.size+6,0,none⟩) 1 1,.slice (some ⟨w.heap.size+7,0,none⟩) 1 1]):=by rw [hW];exact ay.newAt ag
 have mI:Hid (ay W (w.heap.size+1) 3 #[iI 7]):=by rw [hW];exact ay.alloc (ay.alloc (ay.alloc (ay.alloc (ay.alloc (ay.alloc (ay.alloc (ay.newAt ag) _) _) _) _) _) _) _
 have iL:Hid (ay W (w.heap.size+2) 3 #[iI 5]):=by rw [hW];exact ay.alloc (ay.alloc (ay.alloc (ay.alloc (ay.alloc (ay.alloc (ay.newAt ag) _) _) _) _) _) _
 have Ak:Hid (ay W (w.heap.size+3) 3 #[iI 5,iI 7]):=by rw [hW];exact ay.alloc (ay.alloc (ay.alloc (ay.alloc (ay.alloc (ay.newAt ag) _) _) _) _) _
 have VH:Hid (ay W (w.heap.size+4) 3 #[iI 3]):=by rw [hW];exact ay.alloc (ay.alloc (ay.alloc (ay.alloc (ay.newAt ag) _) _) _) _
 have Ay:Hid (ay W (w.heap.size+5) 3 #[iI 3,iI 7]):=by rw [hW];exact ay.alloc (ay.alloc (ay.alloc (ay.newAt ag) _) _) _
 have rp:Hid (ay W (w.heap.size+6) 3 #[iI 6]):=by rw [hW];exact ay.alloc (ay.alloc (ay.newAt ag) _) _
 have rO:Hid (ay W (w.heap.size+7) 3 #[iI 8]):=by rw [hW];exact ay.alloc (ay.newAt ag) _
 rw [<-hW];clear hW;have nN:Hid ((W.alloc (cO #[] 54)).ownsRow W.heap.size 54 4 (.slice (some ⟨W.heap.size,0,none⟩) 0 0) 0 (ak ((bV c q).take 0))/\Ext W (W.alloc (cO #[] 54))):=⟨aJ W W _ 4 (xZ _),(xZ _).alloc _⟩;go_upto_region 4 with fail;generalize W.alloc (cO #[] 54)=W1 at*
 by_cases h0:c=0
 ·subst h0;have HV:Hid (bV 0 q=[]):=rfl
  go_loopw [6,7] (fun rv iv wr=>∃(k:Nat) (A':OA) (cap:Nat),rv=.slice A' k cap/\iv=iI k/\k<=0/\Hid (wr.ownsRow W.heap.size 54 4 (.slice A' k cap) k (ak ((bV 0 q).take k))/\Ext W wr)) (fun _ i _=>0 - (intOf i).toNat)
  case atStart=>exact ⟨0,_,0,rfl,rfl,lJ _,nN⟩
  case round=>
   obtain ⟨k,A',cap,rfl,rfl,hk,HD⟩:=hrel;clear nN;obtain rfl:k=0:=aa
   clear hk;have Dn:Hid (wr.ownsRow w.heap.size 54 4 (.slice A' 0 cap) (bV 0 q).length (ak (bV 0 q))/\Ext w wr):=⟨aC HD.u.1 HX.u.size,HX.u.trans HD.u.2⟩;have t0:=(HT.u.ext HD.u.2).ck 0
   exact hH
 by_cases h1:c=1
 ·subst h1;have HV:Hid (bV 1 q=[⟨7,q,0,0⟩]):=rfl
  go_loopw [6,7] (fun rv iv wr=>∃(k:Nat) (A':OA) (cap:Nat),rv=.slice A' k cap/\iv=iI k/\k<=1/\Hid (wr.ownsRow W.heap.size 54 4 (.slice A' k cap) k (ak ((bV 1 q).take k))/\Ext W wr)) (fun _ i _=>1 - (intOf i).toNat)
  case atStart=>exact ⟨0,_,0,rfl,rfl,lJ _,nN⟩
  case round=>
   obtain ⟨k,A',cap,rfl,rfl,hk,HD⟩:=hrel;clear nN
   by_cases e0:k=0
   ·subst e0;clear hk;have t0:=(HT.u.ext HD.u.2).ck 1;have r0:=(mI.u.ext HD.u.2).ck 0;go_wp2_with fail;refine (aF _ _ _ _ aa aa).mono ?_;rintro e w' ⟨rfl,rfl⟩;go_wp2_with fail;refine (aM 7 q _ (xZ _)).mono ?_;rintro e w5 ⟨rfl,cN⟩;have gv:Hid (w5.ownsRow W.heap.size 54 4 (.slice A' 0 cap) 0 (ak ((bV 1 q).take 0))/\Ext W w5):=⟨aq HD.u.1 cN,HD.u.2.trans cN⟩;clear HD cN r0 t0;go_wp2_with (at_builtin;refine er (w0:=W) rfl _ _ rfl _ 0 ((bV 1 q).take 0) rfl gv.u.1 gv.u.2 ⟨7,q,0,0⟩ _ _ rfl rfl aa ?_;intro v' w9 g1 g2 g3 g4)
    obtain ⟨A9,c9,rfl,-⟩:=au g1;have yH:Hid (w9.ownsRow W.heap.size 54 4 (.slice A9 1 c9) 1 (ak ((bV 1 q).take 1))/\Ext W w9):=⟨g1,g2⟩
    exact jo
   obtain rfl:k=1:=aa
   clear hk;have Dn:Hid (wr.ownsRow w.heap.size 54 4 (.slice A' 1 cap) (bV 1 q).length (ak (bV 1 q))/\Ext w wr):=⟨aC HD.u.1 HX.u.size,HX.u.trans HD.u.2⟩;have t0:=(HT.u.ext HD.u.2).ck 1
   exact hH
 by_cases h2:c=2
 ·subst h2;have HV:Hid (bV 2 q=[⟨5,q,0,0⟩]):=rfl
  go_loopw [6,7] (fun rv iv wr=>∃(k:Nat) (A':OA) (cap:Nat),rv=.slice A' k cap/\iv=iI k/\k<=1/\Hid (wr.ownsRow W.heap.size 54 4 (.slice A' k cap) k (ak ((bV 2 q).take k))/\Ext W wr)) (fun _ i _=>1 - (intOf i).toNat)
  case atStart=>exact ⟨0,_,0,rfl,rfl,lJ _,nN⟩
  case round=>
   obtain ⟨k,A',cap,rfl,rfl,hk,HD⟩:=hrel;clear nN
   by_cases e0:k=0
   ·subst e0;clear hk;have t0:=(HT.u.ext HD.u.2).ck 2;have r0:=(iL.u.ext HD.u.2).ck 0;go_wp2_with fail;refine (aF _ _ _ _ aa aa).mono ?_;rintro e w' ⟨rfl,rfl⟩;go_wp2_with fail;refine (aM 5 q _ (xZ _)).mono ?_;rintro e w5 ⟨rfl,cN⟩;have gv:Hid (w5.ownsRow W.heap.size 54 4 (.slice A' 0 cap) 0 (ak ((bV 2 q).take 0))/\Ext W w5):=⟨aq HD.u.1 cN,HD.u.2.trans cN⟩;clear HD cN r0 t0;go_wp2_with (at_builtin;refine er (w0:=W) rfl _ _ rfl _ 0 ((bV 2 q).take 0) rfl gv.u.1 gv.u.2 ⟨5,q,0,0⟩ _ _ rfl rfl aa ?_;intro v' w9 g1 g2 g3 g4)
    obtain ⟨A9,c9,rfl,-⟩:=au g1;have yH:Hid (w9.ownsRow W.heap.size 54 4 (.slice A9 1 c9) 1 (ak ((bV 2 q).take 1))/\Ext W w9):=⟨g1,g2⟩
    exact jo
   obtain rfl:k=1:=aa
   clear hk;have Dn:Hid (wr.ownsRow w.heap.size 54 4 (.slice A' 1 cap) (bV 2 q).length (ak (bV 2 q))/\Ext w wr):=⟨aC HD.u.1 HX.u.size,HX.u.trans HD.u.2⟩;have t0:=(HT.u.ext HD.u.2).ck 2
   exact hH
 by_cases h3:c=3
 ·subst h3;have HV:Hid (bV 3 q=[⟨5,q,0,0⟩,⟨7,q,0,0⟩]):=rfl
  go_loopw [6,7] (fun rv iv wr=>∃(k:Nat) (A':OA) (cap:Nat),rv=.slice A' k cap/\iv=iI k/\k<=2/\Hid (wr.ownsRow W.heap.size 54 4 (.slice A' k cap) k (ak ((bV 3 q).take k))/\Ext W wr)) (fun _ i _=>2 - (intOf i).toNat)
  case atStart=>exact ⟨0,_,0,rfl,rfl,lJ _,nN⟩
  case round=>
   obtain ⟨k,A',cap,rfl,rfl,hk,HD⟩:=hrel;clear nN
   by_cases e0:k=0
   ·subst e0;clear hk;have t0:=(HT.u.ext HD.u.2).ck 3;have r0:=(Ak.u.ext HD.u.2).ck 0;go_wp2_with fail;refine (aF _ _ _ _ aa aa).mono ?_;rintro e w' ⟨rfl,rfl⟩;go_wp2_with fail;refine (aM 5 q _ (xZ _)).mono ?_;rintro e w5 ⟨rfl,cN⟩;have gv:Hid (w5.ownsRow W.heap.size 54 4 (.slice A' 0 cap) 0 (ak ((bV 3 q).take 0))/\Ext W w5):=⟨aq HD.u.1 cN,HD.u.2.trans cN⟩;clear HD cN r0 t0;go_wp2_with (at_builtin;refine er (w0:=W) rfl _ _ rfl _ 0 ((bV 3 q).take 0) rfl gv.u.1 gv.u.2 ⟨5,q,0,0⟩ _ _ rfl rfl aa ?_;intro v' w9 g1 g2 g3 g4)
    obtain ⟨A9,c9,rfl,-⟩:=au g1;have yH:Hid (w9.ownsRow W.heap.size 54 4 (.slice A9 1 c9) 1 (ak ((bV 3 q).take 1))/\Ext W w9):=⟨g1,g2⟩
    exact jo
   by_cases e1:k=1
   ·subst e1;clear hk;have t0:=(HT.u.ext HD.u.2).ck 3;have r0:=(Ak.u.ext HD.u.2).ck 1;go_wp2_with fail;refine (aF _ _ _ _ aa aa).mono ?_;rintro e w' ⟨rfl,rfl⟩;go_wp2_with fail;refine (aM 7 q _ (xZ _)).mono ?_;rintro e w5 ⟨rfl,cN⟩;have gv:Hid (w5.ownsRow W.heap.size 54 4 (.slice A' 1 cap) 1 (ak ((bV 3 q).take 1))/\Ext W w5):=⟨aq HD.u.1 cN,HD.u.2.trans cN⟩;clear HD cN r0 t0;go_wp2_with (at_builtin;refine er (w0:=W) rfl _ _ rfl _ 1 ((bV 3 q).take 1) rfl gv.u.1 gv.u.2 ⟨7,q,0,0⟩ _ _ rfl rfl aa ?_;intro v' w9 g1 g2 g3 g4)
    obtain ⟨A9,c9,rfl,-⟩:=au g1;have yH:Hid (w9.ownsRow W.heap.size 54 4 (.slice A9 2 c9) 2 (ak ((bV 3 q).take 2))/\Ext W w9):=⟨g1,g2⟩
    exact Dp
   obtain rfl:k=2:=aa
   clear hk;have Dn:Hid (wr.ownsRow w.heap.size 54 4 (.slice A' 2 cap) (bV 3 q).length (ak (bV 3 q))/\Ext w wr):=⟨aC HD.u.1 HX.u.size,HX.u.trans HD.u.2⟩;have t0:=(HT.u.ext HD.u.2).ck 3
   exact hH
 by_cases h4:c=4
 ·subst h4;have HV:Hid (bV 4 q=[⟨3,q,0,0⟩]):=rfl
  go_loopw [6,7] (fun rv iv wr=>∃(k:Nat) (A':OA) (cap:Nat),rv=.slice A' k cap/\iv=iI k/\k<=1/\Hid (wr.ownsRow W.heap.size 54 4 (.slice A' k cap) k (ak ((bV 4 q).take k))/\Ext W wr)) (fun _ i _=>1 - (intOf i).toNat)
  case atStart=>exact ⟨0,_,0,rfl,rfl,lJ _,nN⟩
  case round=>
   obtain ⟨k,A',cap,rfl,rfl,hk,HD⟩:=hrel;clear nN
   by_cases e0:k=0
   ·subst e0;clear hk;have t0:=(HT.u.ext HD.u.2).ck 4;have r0:=(VH.u.ext HD.u.2).ck 0;go_wp2_with fail;refine (aF _ _ _ _ aa aa).mono ?_;rintro e w' ⟨rfl,rfl⟩;go_wp2_with fail;refine (aM 3 q _ (xZ _)).mono ?_;rintro e w5 ⟨rfl,cN⟩;have gv:Hid (w5.ownsRow W.heap.size 54 4 (.slice A' 0 cap) 0 (ak ((bV 4 q).take 0))/\Ext W w5):=⟨aq HD.u.1 cN,HD.u.2.trans cN⟩;clear HD cN r0 t0;go_wp2_with (at_builtin;refine er (w0:=W) rfl _ _ rfl _ 0 ((bV 4 q).take 0) rfl gv.u.1 gv.u.2 ⟨3,q,0,0⟩ _ _ rfl rfl aa ?_;intro v' w9 g1 g2 g3 g4)
    obtain ⟨A9,c9,rfl,-⟩:=au g1;have yH:Hid (w9.ownsRow W.heap.size 54 4 (.slice A9 1 c9) 1 (ak ((bV 4 q).take 1))/\Ext W w9):=⟨g1,g2⟩
    exact jo
   obtain rfl:k=1:=aa
   clear hk;have Dn:Hid (wr.ownsRow w.heap.size 54 4 (.slice A' 1 cap) (bV 4 q).length (ak (bV 4 q))/\Ext w wr):=⟨aC HD.u.1 HX.u.size,HX.u.trans HD.u.2⟩;have t0:=(HT.u.ext HD.u.2).ck 4
   exact hH
 by_cases h5:c=5
 ·subst h5;have HV:Hid (bV 5 q=[⟨3,q,0,0⟩,⟨7,q,0,0⟩]):=rfl
  go_loopw [6,7] (fun rv iv wr=>∃(k:Nat) (A':OA) (cap:Nat),rv=.slice A' k cap/\iv=iI k/\k<=2/\Hid (wr.ownsRow W.heap.size 54 4 (.slice A' k cap) k (ak ((bV 5 q).take k))/\Ext W wr)) (fun _ i _=>2 - (intOf i).toNat)
  case atStart=>exact ⟨0,_,0,rfl,rfl,lJ _,nN⟩
  case round=>
   obtain ⟨k,A',cap,rfl,rfl,hk,HD⟩:=hrel;clear nN
   by_cases e0:k=0
   ·subst e0;clear hk;have t0:=(HT.u.ext HD.u.2).ck 5;have r0:=(Ay.u.ext HD.u.2).ck 0;go_wp2_with fail;refine (aF _ _ _ _ aa aa).mono ?_;rintro e w' ⟨rfl,rfl⟩;go_wp2_with fail;refine (aM 3 q _ (xZ _)).mono ?_;rintro e w5 ⟨rfl,cN⟩;have gv:Hid (w5.ownsRow W.heap.size 54 4 (.slice A' 0 cap) 0 (ak ((bV 5 q).take 0))/\Ext W w5):=⟨aq HD.u.1 cN,HD.u.2.trans cN⟩;clear HD cN r0 t0;go_wp2_with (at_builtin;refine er (w0:=W) rfl _ _ rfl _ 0 ((bV 5 q).take 0) rfl gv.u.1 gv.u.2 ⟨3,q,0,0⟩ _ _ rfl rfl aa ?_;intro v' w9 g1 g2 g3 g4)
    obtain ⟨A9,c9,rfl,-⟩:=au g1;have yH:Hid (w9.ownsRow W.heap.size 54 4 (.slice A9 1 c9) 1 (ak ((bV 5 q).take 1))/\Ext W w9):=⟨g1,g2⟩
    exact jo
   by_cases e1:k=1
   ·subst e1;clear hk;have t0:=(HT.u.ext HD.u.2).ck 5;have r0:=(Ay.u.ext HD.u.2).ck 1;go_wp2_with fail;refine (aF _ _ _ _ aa aa).mono ?_;rintro e w' ⟨rfl,rfl⟩;go_wp2_with fail;refine (aM 7 q _ (xZ _)).mono ?_;rintro e w5 ⟨rfl,cN⟩;have gv:Hid (w5.ownsRow W.heap.size 54 4 (.slice A' 1 cap) 1 (ak ((bV 5 q).take 1))/\Ext W w5):=⟨aq HD.u.1 cN,HD.u.2.trans cN⟩;clear HD cN r0 t0;go_wp2_with (at_builtin;refine er (w0:=W) rfl _ _ rfl _ 1 ((bV 5 q).take 1) rfl gv.u.1 gv.u.2 ⟨7,q,0,0⟩ _ _ rfl rfl aa ?_;intro v' w9 g1 g2 g3 g4)
    obtain ⟨A9,c9,rfl,-⟩:=au g1;have yH:Hid (w9.ownsRow W.heap.size 54 4 (.slice A9 2 c9) 2 (ak ((bV 5 q).take 2))/\Ext W w9):=⟨g1,g2⟩
    exact Dp
   obtain rfl:k=2:=aa
   clear hk;have Dn:Hid (wr.ownsRow w.heap.size 54 4 (.slice A' 2 cap) (bV 5 q).length (ak (bV 5 q))/\Ext w wr):=⟨aC HD.u.1 HX.u.size,HX.u.trans HD.u.2⟩;have t0:=(HT.u.ext HD.u.2).ck 5
   exact hH
 by_cases h6:c=6
 ·subst h6;have HV:Hid (bV 6 q=[⟨6,q,0,0⟩]):=rfl
  go_loopw [6,7] (fun rv iv wr=>∃(k:Nat) (A':OA) (cap:Nat),rv=.slice A' k cap/\iv=iI k/\k<=1/\Hid (wr.ownsRow W.heap.size 54 4 (.slice A' k cap) k (ak ((bV 6 q).take k))/\Ext W wr)) (fun _ i _=>1 - (intOf i).toNat)
  case atStart=>exact ⟨0,_,0,rfl,rfl,lJ _,nN⟩
  case round=>
   obtain ⟨k,A',cap,rfl,rfl,hk,HD⟩:=hrel;clear nN
   by_cases e0:k=0
   ·subst e0;clear hk;have t0:=(HT.u.ext HD.u.2).ck 6;have r0:=(rp.u.ext HD.u.2).ck 0;go_wp2_with fail;refine (aF _ _ _ _ aa aa).mono ?_;rintro e w' ⟨rfl,rfl⟩;go_wp2_with fail;refine (aM 6 q _ (xZ _)).mono ?_;rintro e w5 ⟨rfl,cN⟩;have gv:Hid (w5.ownsRow W.heap.size 54 4 (.slice A' 0 cap) 0 (ak ((bV 6 q).take 0))/\Ext W w5):=⟨aq HD.u.1 cN,HD.u.2.trans cN⟩;clear HD cN r0 t0;go_wp2_with (at_builtin;refine er (w0:=W) rfl _ _ rfl _ 0 ((bV 6 q).take 0) rfl gv.u.1 gv.u.2 ⟨6,q,0,0⟩ _ _ rfl rfl aa ?_;intro v' w9 g1 g2 g3 g4)
    obtain ⟨A9,c9,rfl,-⟩:=au g1;have yH:Hid (w9.ownsRow W.heap.size 54 4 (.slice A9 1 c9) 1 (ak ((bV 6 q).take 1))/\Ext W w9):=⟨g1,g2⟩
    exact jo
   obtain rfl:k=1:=aa
   clear hk;have Dn:Hid (wr.ownsRow w.heap.size 54 4 (.slice A' 1 cap) (bV 6 q).length (ak (bV 6 q))/\Ext w wr):=⟨aC HD.u.1 HX.u.size,HX.u.trans HD.u.2⟩;have t0:=(HT.u.ext HD.u.2).ck 6
   exact hH
 by_cases h7:c=7
 ·subst h7;have HV:Hid (bV 7 q=[⟨8,q,0,0⟩]):=rfl
  go_loopw [6,7] (fun rv iv wr=>∃(k:Nat) (A':OA) (cap:Nat),rv=.slice A' k cap/\iv=iI k/\k<=1/\Hid (wr.ownsRow W.heap.size 54 4 (.slice A' k cap) k (ak ((bV 7 q).take k))/\Ext W wr)) (fun _ i _=>1 - (intOf i).toNat)
  case atStart=>exact ⟨0,_,0,rfl,rfl,lJ _,nN⟩
  case round=>
   obtain ⟨k,A',cap,rfl,rfl,hk,HD⟩:=hrel;clear nN
   by_cases e0:k=0
   ·subst e0;clear hk;have t0:=(HT.u.ext HD.u.2).ck 7;have r0:=(rO.u.ext HD.u.2).ck 0;go_wp2_with fail;refine (aF _ _ _ _ aa aa).mono ?_;rintro e w' ⟨rfl,rfl⟩;go_wp2_with fail;refine (aM 8 q _ (xZ _)).mono ?_;rintro e w5 ⟨rfl,cN⟩;have gv:Hid (w5.ownsRow W.heap.size 54 4 (.slice A' 0 cap) 0 (ak ((bV 7 q).take 0))/\Ext W w5):=⟨aq HD.u.1 cN,HD.u.2.trans cN⟩;clear HD cN r0 t0;go_wp2_with (at_builtin;refine er (w0:=W) rfl _ _ rfl _ 0 ((bV 7 q).take 0) rfl gv.u.1 gv.u.2 ⟨8,q,0,0⟩ _ _ rfl rfl aa ?_;intro v' w9 g1 g2 g3 g4)
    obtain ⟨A9,c9,rfl,-⟩:=au g1;have yH:Hid (w9.ownsRow W.heap.size 54 4 (.slice A9 1 c9) 1 (ak ((bV 7 q).take 1))/\Ext W w9):=⟨g1,g2⟩
    exact jo
   obtain rfl:k=1:=aa
   clear hk;have Dn:Hid (wr.ownsRow w.heap.size 54 4 (.slice A' 1 cap) (bV 7 q).length (ak (bV 7 q))/\Ext w wr):=⟨aC HD.u.1 HX.u.size,HX.u.trans HD.u.2⟩;have t0:=(HT.u.ext HD.u.2).ck 7
   exact hH
 have HV:Hid (bV c q=[]):=by unfold Hid bV Ut;rw [aK h1,aK h2,aK h3,aK h4,aK h5,aK h6,aK h7];rfl
 have hc:c<0\/7<c:=aa
 clear h0 h1 h2 h3 h4 h5 h6 h7
 go_loopw [6,7] (fun rv iv wr=>rv=.slice (some ⟨W.heap.size,0,none⟩) 0 0/\iv=iI 0/\wr=W1) (fun _ _ _=>0)
 case atStart=>exact ⟨rfl,rfl,rfl⟩
 case round=>
  obtain ⟨rfl,rfl,rfl⟩:=hrel;go_wp2_with fail;refine (bI _ _ _ _ hc).mono ?_;rintro e w' ⟨rfl,rfl⟩;go_wp2;go_ret;rw [HV.u]
  exact ⟨_,rfl,aC nN.u.1 HX.u.size,HX.u.trans nN.u.2⟩
def zo (x:Gr) (g:Gt):List Gt:=if fJ x.es g.a g.b=true then [fL g.a g.b] else [g1 4 g.a,g1 4 g.b,fL g.b g.a,g1 4 g.a,g1 4 g.b]
def pB (x:Gr) (g:Gt):Bool:=fJ x.es g.a g.b||fJ x.es g.b g.a
def eo (x:Gr) (g:Gt):Bool:=vg g x.n && (ar g.k==1||(pB x g && (g.k==9||g.k==11)))
def iZ (x:Gr) (g:Gt):List Gt:=if eo x g=true then (if (ar g.k==1)=true then [g] else (dec g).flatMap (zo x)) else []
theorem Jd {x:Gr} {g:Gt} (h:eo x g=false):iZ x g=[]:=by unfold iZ;rw [aK aW]
theorem aeG {x:Gr} {g:Gt} (h:eo x g=true) (h1:(ar g.k==1)=true):iZ x g=[g]:=by unfold iZ;rw [aX h,aX h1]
theorem Oi {x:Gr} {g:Gt} (h:eo x g=true) (h1:(ar g.k==1)=false):iZ x g=(dec g).flatMap (zo x):=by unfold iZ;rw [aX h,aK dU]
theorem Qn (x:Gr) (g:Gt):(zo x g).length<=5:=by unfold zo;split<;>simp
theorem ye (x:Gr) (gs:List Gt):(gs.flatMap (zo x)).length<=5*gs.length:=by
 induction gs with
 |nil=>simp
 |cons g gs ih=>have:=Qn x g;rw [fK,lA,ij];omega
theorem Dq (x:Gr) (g:Gt):(iZ x g).length<=75:=by
 unfold iZ;split
 ·split
  ·simp
  ·have h1:=ye x (dec g);have h2:=mA g;omega
 ·simp
def hJ (x:Gr) (gs:List Gt):Bool:=gs.all (eo x)
def wg (x:Gr) (gs:List Gt):List Gt:=if hJ x gs=true then gs.flatMap (iZ x) else []
theorem acZ {x:Gr} {gs:List Gt} {k:Nat} {g:Gt} (h:gs[k]?=some g) (hg:eo x g=false):hJ x gs=false:=by
 unfold hJ;rw [Gl];intro ha;rw [lO] at ha;rw [ha g (lG h)] at hg
 cases hg
theorem Zz {x:Gr} {gs:List Gt} {k:Nat} {g:Gt} (h:gs[k]?=some g) (hk:hJ x (gs.take k)=true) (hg:eo x g=true):hJ x (gs.take (k+1))=true:=by
 unfold hJ at*
 rw [aL h,nX,hk];simp [hg]
theorem RY {x:Gr} {gs:List Gt} (h:hJ x gs=false):wg x gs=[]:=by unfold wg;rw [aK aW]
theorem Oj {x:Gr} {gs:List Gt} (h:hJ x gs=true):wg x gs=gs.flatMap (iZ x):=by unfold wg;rw [aX h]
theorem ahj {x:Gr} {gs:List Gt} {k:Nat} {g:Gt} (h:gs[k]?=some g):(gs.take (k+1)).flatMap (iZ x)=(gs.take k).flatMap (iZ x)++iZ x g:=by
 rw [aL h,lR];simp
theorem VI (x:Gr) (gs:List Gt):(gs.flatMap (iZ x)).length<=75*gs.length:=by
 induction gs with
 |nil=>simp
 |cons g gs ih=>have:=Dq x g;rw [fK,lA,ij];omega
theorem ar9:ar 9=2:=gp
theorem VJ {g:Gt} {n:Int} (h:vg g n=true):1<=n/\n<=4/\0<ar g.k/\IP g n 0 g.a=true/\IP g n 1 g.b=true/\IP g n 2 g.c=true:=by
 unfold vg at h;simp only [lF,lu] at h;obtain ⟨⟨⟨⟨⟨h1,h2⟩,h3⟩,h4⟩,h5⟩,h6⟩:=h
 exact ⟨h1,h2,h3,h4,h5,h6⟩
theorem VK {g:Gt} {n:Int} (h:vg g n=true) (h2:ar g.k=2):1<=n/\n<=4/\0<=g.a/\g.a<=n - 1/\0<=g.b/\g.b<=n - 1/\g.a≠g.b/\g.c=0:=by
 obtain ⟨p1,p2,p3,p4,p5,p6⟩:=VJ h;rw [vJ (by rw [h2];omega)] at p4;rw [vJ (by rw [h2];omega)] at p5;rw [UQ (by rw [h2];omega)] at p6;simp only [lF,lu,qs,yQ,Iw,dc] at p4 p5 p6;obtain ⟨⟨p5a,p5b⟩,p5c⟩:=p5;refine ⟨p1,p2,p4.1.1,p4.1.2,p5a,p5b,fun e=>?_,p6⟩;rw [e] at p5c;simp at p5c
theorem ac0 {n a b:Int} (h1:1<=n) (h2:n<=4) (ha:0<=a) (ha':a<=n - 1) (hb:0<=b) (rb:b<=n - 1) (hne:a≠b):vg (fL a b) n=true:=by
 refine PY h1 h2 (by show 0<ar 9;rw [ar9];omega) ?_;intro i q hq;have hk:(fL a b).k=9:=rfl;rcases (by have:=(gU.1 hq).1;simp [qs] at this;omega:i=0\/i=1\/i=2) with rfl|rfl|rfl
 ·rw [vJ (by rw [hk,ar9];omega)];simp [qs,fL] at hq;subst hq;simp [ha,ha']
 ·rw [vJ (by rw [hk,ar9];omega)];simp [qs,fL] at hq;subst hq;simp [hb,rb,qs,fL,hne.symm]
 ·rw [UQ (by rw [hk,ar9];omega)];simp [qs,fL] at hq;subst hq;simp
theorem yg {k:Int} (h:(k==9)=true\/(k==11)=true):ar k=2:=by
 rcases h with h|h<;>(rw [dc] at h;subst h;unfold ar;omega)
theorem VL {g:Gt} {n:Int} (h:vg g n=true) (h9:(g.k==9)=true):g=fL g.a g.b:=by
 have h2:=VK h (yg (.inl h9));rw [dc] at h9;obtain ⟨k,a,b,c⟩:=g;simp at h2 h9;simp [fL,h9,h2.2.2.2.2.2.2.2]
theorem ajl {g:Gt} (h9:(g.k==9)=true):dec g=[g]:=by
 rw [dc] at h9
 exact FJ (by rw [h9];rfl) (by rw [h9];rfl) (by rw [h9];rfl)
theorem VM {g:Gt} (h:(g.k==11)=true):dec g=[fL g.a g.b,fL g.b g.a,fL g.a g.b]:=by
 have h':=h;rw [dc] at h'
 exact xH (by rw [h'];rfl) h
theorem dz (v:Value) (x:Gr) (a b:Int) (w:World) (h:eR w w.heap.size v x) (hn:x.es.length<=2000000000000):
  Calls prog 76 #[v,iI a,iI b] w fun e w'=>e=.returned (.bool (fJ x.es a b||fJ x.es b a))/\Ext w w':=by
 obtain ⟨A1,c1,rfl,h1⟩:=h;have hG:eR w w.heap.size (.agg #[iI x.n,.slice A1 x.es.length c1]) x:=⟨A1,c1,rfl,h1⟩;clear h1;go_enter func76,ntmps76;go_wp2_with fail;refine (iu _ x a b _ ((hG.up aD (lI _)).more ag) hn).mono ?_;rintro e w1 ⟨rfl,aS⟩;have hB:ay w1 w.heap.size 42 #[iI x.n,.slice A1 x.es.length c1]:=(ay.new w _ _).ext aS;have hx:Ext w w1:=Ext.trans aD aS;have b0:=hB.ck 0;have b1:=hB.ck 1;clear aS
 cases h1:fJ x.es a b
 ·go_wp2_with fail;refine (iu _ x b a _ ((hG.up hx (lI _)).more hx.size) hn).mono ?_;rintro e w2 ⟨rfl,bH⟩;go_wp2;go_ret
  exact ⟨aT (by rw [h1,iC]),hx.trans bH⟩
 ·go_wp2;go_ret
  exact ⟨aT (by rw [h1,kh]),hx⟩
theorem RZ (v:Value) (x:Gr) (g:Gt) (w:World) (h:eR w w.heap.size v x) (hn:x.es.length<=2000000000000):
  Calls prog 85 #[iI g.a,iI g.b,v] w fun e w'=>∃v,e=.returned v/\w'.ownsRow w.heap.size 54 4 v (zo x g).length (ak (zo x g))/\Ext w w':=by
 obtain ⟨A1,c1,rfl,h1⟩:=h;have hG:eR w w.heap.size (.agg #[iI x.n,.slice A1 x.es.length c1]) x:=⟨A1,c1,rfl,h1⟩;clear h1;go_enter func85,ntmps85;go_wp2_with fail;refine (iu _ x g.a g.b _ ((hG.up aD (lI _)).more ag) hn).mono ?_;rintro e w1 ⟨rfl,aS⟩;have hx:Ext w w1:=Ext.trans aD aS;clear aS
 cases h1:fJ x.es g.a g.b
 ·have HC:Hid (zo x g=[g1 4 g.a,g1 4 g.b,fL g.b g.a,g1 4 g.a,g1 4 g.b]):=by unfold Hid zo;rw [aK dU]
  go_wp2_with (first|(go_at_call 58;refine (aM _ _ _ hx).mono ?_;clear hx;rintro e w' ⟨rfl,hx⟩)|(go_at_call 59;refine (dA _ _ _ hx).mono ?_;clear hx;rintro e w' ⟨rfl,hx⟩))
  go_ret;refine ⟨_,rfl,?_,hx.alloc _⟩;rw [HC.u]
  exact bL hx _ _ 4 5 _ _ rfl kK rfl aa
 ·have HC:Hid (zo x g=[fL g.a g.b]):=by unfold Hid zo;rw [aX h1]
  go_wp2_with (first|(go_at_call 59;refine (dA _ _ _ hx).mono ?_;clear hx;rintro e w' ⟨rfl,hx⟩))
  go_ret;refine ⟨_,rfl,?_,hx.alloc _⟩;rw [HC.u]
  exact bL hx _ _ 4 1 _ _ rfl (by simp [Gt.cells,fL]) rfl aa
theorem Rd.aaT {w w':World} {B size n:Nat} {A:OA} {xs:List Value} {row:Option Nat} (h:Rd w B size A n xs) (hg:w.grownBy w' row) (hB:B<=w.heap.size) (hne:∀b o,A=some ⟨b,o,none⟩->row≠some b):Rd w' B size A n xs:=
 ⟨h.1,fun hn=>by
  obtain ⟨b,o,e,hb,hc⟩:=h.2 hn
  exact ⟨b,o,e,hb,fun j u hu=>(sD (a:=⟨b,o+j,none⟩) (hg.block b aa (fun e1=>hne b o e e1.symm))).trans (hc j u hu)⟩⟩
theorem Sa {α β:Type} (f:α->List β) {l:List α} {k:Nat} {a:α} (h:l[k]?=some a):(l.take (k+1)).flatMap f=(l.take k).flatMap f++f a:=by
 rw [aL h,lR];simp
theorem Dr {P:Prop} (h:P:=by
 have HL:=hY (Oi HO.u ha);go_wp2_with fail;refine (jP g _).mono ?_;rintro e w3 ⟨v3,rfl,Gy,kl⟩;obtain ⟨A3,c3,rfl,Qo⟩:=au Gy;have bT:=bH.trans kl;have jm:=aq ep kl;have lq:Hid (∀b o,A3=some ⟨b,o,none⟩->w2.heap.size<=b/\b<w3.heap.size):=fun b o e=>Gy.lt b (by rw [e];rfl)
 have fV:Hid (∀q,(Value.slice (some ⟨w.heap.size+1+1,0,none⟩) 0 0).ownBlock=some q->q<w2.heap.size\/w3.heap.size<=q):=fun q hq=> .inl (ep.lt q hq).2
 have hz3:=kl.size;clear kl Gy bH ep b0 b1 b2 b3 d0 d1;have NC:=mA g;generalize hL:(dec g).length=L at*
 have Bn:=hY hL;clear hL;go_wp2
 go_loopw [6,8] (fun v i wr=>∃k:Nat,k<=L/\i=iI k/\wr.ownsRow W.heap.size 54 4 v (((dec g).take k).flatMap (zo x)).length (ak (((dec g).take k).flatMap (zo x)))/\Hid (∀q,v.ownBlock=some q->q<w2.heap.size\/w3.heap.size<=q)/\Rd wr w3.heap.size 4 A3 L (ak (dec g))/\Ext W wr/\w3.heap.size<=wr.heap.size) (fun _ i _=>L - (intOf i).toNat)
 case atStart=>exact ⟨0,lJ _,rfl,jm,fV,Qo,bT,lI _⟩
 case round=>
  obtain ⟨k,hk,rfl,bc,HV,hR,hX,hzr⟩:=hrel
  by_cases bh:k<L
  ·obtain ⟨b,o,y,rfl,Kp,hg,r0,r1,r2,r3⟩:=bE hR bh;have HG:=hY hg;clear hg;have HS:=hY (Sa (zo x) HG.u);have hf:(((dec g).take k).flatMap (zo x)).length<=100:=by
    have z1:=ye x ((dec g).take k);have z2:((dec g).take k).length<=k:=qU _ _;omega
   have hc5:=Qn x y;have HK:Hid (∀w',Rd w' w3.heap.size 4 (some ⟨b,o,none⟩) L (ak (dec g))->Ext W w'->w'.cell? (aA b (o+k*4+1))=some (iI y.a)/\w'.cell? (aA b (o+k*4+2))=some (iI y.b)/\w'.cell? (aA (w.z+1) 0)=some (iI x.n)/\w'.cell? (aA (w.z+1) 1)=some (.slice A1 x.es.length c1)):=by
    intro w' hR' hX';obtain ⟨b',o',y',e',_,FU,z0,z1,z2,z3⟩:=bE hR' bh;injection e' with e';injection e' with e1 e2;subst e1 e2;have PW:y'=y:=by have:=HG.u;rw [FU] at this;injection this
    subst PW
    exact ⟨z1,z2,(mS.ext hX').cell 0,(mS.ext hX').cell 1⟩
   obtain ⟨q1,q2,q3,q4⟩:=HK.u wr hR hX;clear r0 r1 r2 r3;have rE:(0:Int)<=(k:Int):=aa
   have hkL:(k:Int)<(L:Int):=aa
   go_wp2
   go_region_held3 (fun w'=>w'.cell? (aA b (o+k*4+1))=some (iI y.a)/\w'.cell? (aA b (o+k*4+2))=some (iI y.b)/\w'.cell? (aA (w.z+1) 0)=some (iI x.n)/\w'.cell? (aA (w.z+1) 1)=some (.slice A1 x.es.length c1))
    (first|go_keep|exact HK.u _ aQ aQ)
    (first
     |(go_at_call 85;refine (RZ _ x y _ ((hG.up (cH.trans hX.drew) (lI _)).more (cH.trans hX.drew).size) hn).mono ?_;rintro e w4 ⟨v4,rfl,hl4,CN⟩;replace CN:Ext wr w4:=Ext.trans (xZ wr).drew CN;have hR4:=hR.up CN hzr;have hX4:=hX.trans CN;obtain ⟨A4,c4,rfl,RM⟩:=au hl4)
     |(refine eE (w0:=W) ah _ _ ah _ _ (((dec g).take k).flatMap (zo x)) ah (aq bc CN) hX4 A4 _ c4 (zo x y) ah RM aa ?_;intro v5 w5 jM ZA xV TN;have hz4:=CN.size;have hR5:=hR4.aaT xV aa (fun b' o' e1 e2=>oN (lq.u b' o' e1) (HV.u b' e2))))
   go_wp2;go_roundw
   case rel=>
    refine ⟨k+1,aa,az,by rw [HS.u,lA];exact jM,fun q hq=>?_,hR5,ZA,oM xV.size⟩;rcases TN with e|e
    ·exact HV.u q (e ▸ hq)
    ·rw [e] at hq;injection hq with hq;omega
   case measure=>simp [intOf];omega
  ·rw [lE (by rw [Bn.u];omega)] at bc;go_wp2;go_ret2;refine ⟨_,iR,?_,cH.trans hX⟩;rw [HL.u]
   exact aC bc cH.size):P:=h
theorem Ds {P:Prop} (h:P:=by
 have HL:=hY (Jd HO.u);go_wp2;go_ret2;refine ⟨_,iR,?_,cH.trans bH⟩;rw [HL.u]
 exact aC ep cH.size):P:=h
theorem uq (v:Value) (x:Gr) (g:Gt) (w:World) (h:eR w w.heap.size v x) (hn:x.es.length<=2000000000000):
  Calls prog 71 #[g.val,v] w fun e w'=>∃v,e=.returned (.tuple #[v,.bool (eo x g)])/\w'.ownsRow w.heap.size 54 4 v (iZ x g).length (ak (iZ x g))/\Ext w w':=by
 obtain ⟨A1,c1,rfl,h1⟩:=h;have hG:eR w w.heap.size (.agg #[iI x.n,.slice A1 x.es.length c1]) x:=⟨A1,c1,rfl,h1⟩;clear h1;go_enter func71,ntmps71;go_wp2_with fail;have cH:Ext w ((w.alloc (cO (gA g) 54)).alloc (cO #[iI x.n,.slice A1 x.es.length c1] 42)):=aD
 have ir:ay ((w.alloc (cO (gA g) 54)).alloc (cO #[iI x.n,.slice A1 x.es.length c1] 42)) w.heap.size 54 (gA g):=(ay.new _ _ _).alloc _;have mS:ay ((w.alloc (cO (gA g) 54)).alloc (cO #[iI x.n,.slice A1 x.es.length c1] 42)) (w.heap.size+1) 42 #[iI x.n,.slice A1 x.es.length c1]:=ay.newAt ag;have eX:((w.alloc (cO (gA g) 54)).alloc (cO #[iI x.n,.slice A1 x.es.length c1] 42)).heap.size=w.heap.size+1+1:=ag
 generalize ((w.alloc (cO (gA g) 54)).alloc (cO #[iI x.n,.slice A1 x.es.length c1] 42))=W at*
 have Ft:(W.alloc (cO #[] 54)).ownsRow W.heap.size 54 4 (.slice (some ⟨w.heap.size+1+1,0,none⟩) 0 0) 0 (ak []):=bL (xZ W) _ _ 4 0 #[] _ (by rw [eX]) rfl rfl aa;have HZ:=hY eX;clear eX;refine (bj g x.n _).mono ?_;rintro e w1 ⟨rfl,ki⟩;have aS:Ext W w1:=Ext.trans ((xZ W).alloc _) ki;have eF:=aq Ft ki;clear ki Ft;have vu:=ir.ext aS;have Ba:=mS.ext aS;have b0:=vu.ck 0;have b1:=vu.ck 1;have b2:=vu.ck 2;have b3:=vu.ck 3;have d0:=Ba.ck 0;have d1:=Ba.ck 1;clear vu Ba
 cases hv:vg g x.n
 ·have HO:Hid (eo x g=false):=by unfold Hid eo;rw [hv];rfl
  have HL:=hY (Jd HO.u);go_wp2;go_ret2;refine ⟨_,iR,?_,cH.trans aS⟩;rw [HL.u]
  exact aC eF cH.size
 go_wp2_with fail;refine (aY _ _).mono ?_;rintro e w2 ⟨rfl,rfl⟩
 cases ha:(ar g.k==1)
 ·go_wp2_with fail;refine (dz _ x g.a g.b _ ((hG.up (cH.trans aS) (lI _)).more (cH.trans aS).size) hn).mono ?_;rintro e w2 ⟨rfl,si⟩;have bH:=aS.trans si;have ep:=aq eF si;clear si eF aS b0 b1 b2 b3 d0 d1;have vu:=ir.ext bH;have Ba:=mS.ext bH;have b0:=vu.ck 0;have b1:=vu.ck 1;have b2:=vu.ck 2;have b3:=vu.ck 3;have d0:=Ba.ck 0;have d1:=Ba.ck 1;clear vu Ba
  cases Rw:(fJ x.es g.a g.b||fJ x.es g.b g.a)
  ·have HO:Hid (eo x g=false):=by unfold Hid eo pB;rw [hv,ha,Rw];rfl
   exact Ds
  cases h9:(g.k==9)
  ·have h9':(g.k !=9)=true:=by simp [bne,h9]
   cases PL:(g.k==11)
   ·have aol:(g.k !=11)=true:=by simp [bne,PL]
    have HO:Hid (eo x g=false):=uY
    exact Ds
   have aol:(g.k !=11)=false:=by simp [bne,PL]
   have HO:Hid (eo x g=true):=uY
   exact Dr
  have h9':(g.k !=9)=false:=by simp [bne,h9]
  have HO:Hid (eo x g=true):=by unfold Hid eo pB;rw [hv,ha,Rw,h9];rfl
  exact Dr
 ·have HO:Hid (eo x g=true):=by unfold Hid eo;rw [hv,ha];rfl
  have HL:=hY (aeG HO.u ha);go_wp2_with (at_builtin;refine er (w0:=W) rfl _ _ rfl _ _ [] rfl eF aS g _ _ rfl rfl aa ?_;intro v3 w3 jm bT Bl ji)
  go_ret2;refine ⟨v3,iR,?_,cH.trans bT⟩;rw [HL.u]
  exact aC jm cH.size
theorem aeI (x:Gr) (gs:List Gt):(wg x gs).length<=75*gs.length:=by
 unfold wg;split
 ·exact VI x gs
 ·simp
end Go.Proofs.YtiajdbllccmokaaGreatDoor
