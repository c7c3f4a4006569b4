import Derived.Test.YtiajdbllccmokaaGreatDoorXk
import Derived.Test.YtiajdbllccmokaaGreatDoorXl
namespace Go.Proofs.YtiajdbllccmokaaGreatDoor
open Go.ChangeShapes Go.WideShapes Go.ChangeAt Go.RowKit Go.Deep Go.Proofs.Tryz
set_option linter.unusedVariables false
set_option linter.unusedSimpArgs false
set_option maxRecDepth 100000
set_option maxHeartbeats 16000000
theorem Dv {P:Prop} (h:P:=by
 refine o1 6 fun K hK=>?_
 go_simp;refine (HMz.u _).mono ?_;rintro e uz ⟨⟨bm,rfl⟩,hy⟩;have Lz:=hY (qv.u.ext hy);clear hy;refine ov hK ⟨(Lz.u).1.cell 0,(Lz.u).2.1.cell 0,(Lz.u).2.1.cell 1,(Lz.u).2.1.cell 2,(Lz.u).2.1.cell 3⟩ fun ay4=>?_
 refine tq 7 ?_;refine tq 8 ?_;refine tq 9 ?_;refine o1 10 fun K hK=>?_
 obtain ⟨⟨q0,q1,q2,q3⟩,f0,f1,f2,f3⟩:=aB Lz.u.2.2.2.1;go_simp;have E0:=hY (Lz.u.put mz);clear q0 q1 q2 q3 f0 f1 f2 f3;refine ov hK ⟨(E0.u).1.cell 0,(E0.u).2.1.cell 0,(E0.u).2.1.cell 1,(E0.u).2.1.cell 2,(E0.u).2.1.cell 3⟩ fun ay4=>?_
 refine dn ?_;generalize ((((uz.setCell (aA q 0) (iI mz.n)).setCell (aA q 1) (iI mz.x)).setCell (aA q 2) (iI mz.z)).setCell (aA q 3) (iI mz.p))=Wz at*
 clear Jf qv Lz HIz HMz;go_wp2;go_roundw
 case rel=>exact ⟨k+1,by first|rfl|rw [eM],aa,by rw [HN.u,HEx.u,HEz.u];exact E0⟩
 case measure=>simp [intOf];omega):P:=h
theorem Dw {P:Prop} (h:P:=by
 refine o1 6 fun K hK=>?_
 go_simp;refine (HMz.u _).mono ?_;rintro e uz ⟨⟨bm,rfl⟩,hy⟩;have Lz:=hY (qv.u.ext hy);clear hy;refine ov hK ⟨(Lz.u).1.cell 0,(Lz.u).2.1.cell 0,(Lz.u).2.1.cell 1,(Lz.u).2.1.cell 2,(Lz.u).2.1.cell 3⟩ fun ay4=>?_
 refine tq 7 ?_;refine tq 8 ?_;refine tq 9 ?_;refine o1 10 fun K hK=>?_
 obtain ⟨⟨q0,q1,q2,q3⟩,f0,f1,f2,f3⟩:=aB Lz.u.2.2.2.1;go_simp;have E1:=hY (Lz.u.put mz);clear q0 q1 q2 q3 f0 f1 f2 f3;refine ov hK ⟨(E1.u).1.cell 0,(E1.u).2.1.cell 0,(E1.u).2.1.cell 1,(E1.u).2.1.cell 2,(E1.u).2.1.cell 3⟩ fun ay4=>?_
 refine dn ?_;generalize ((((uz.setCell (aA q 0) (iI mz.n)).setCell (aA q 1) (iI mz.x)).setCell (aA q 2) (iI mz.z)).setCell (aA q 3) (iI mz.p))=Wz at*
 clear Jf qv Lz HIz HMz;go_wp2;go_roundw
 case rel=>exact ⟨k+1,by first|rfl|rw [eM],aa,by rw [HN.u,HEx.u,HEz.u];exact E1⟩
 case measure=>simp [intOf];omega):P:=h
theorem pJ (p:Pa) (g:Gt) (w:World):Calls prog 142 #[p.val,g.val] w fun e w'=>Lq p g e/\Ext w w':=by
 go_enter func142,ntmps142;go_wp2_with fail;refine (cP p _).mono ?_;rintro e w1 ⟨rfl,aS⟩;have mI:Hid (ay w1 (w.heap.size+2) 187 zO):=(ay.newAt (b:=w.heap.size+2) ag).ext aS;have Kq:Hid (ay w1 w.heap.size 187 (jF p)):=(((ay.new w _ _).alloc _).alloc _).ext aS;have Vp:Hid (ay w1 (w.heap.size+1) 54 (gA g)):=((ay.newAt (b:=w.heap.size+1) ag).alloc _).ext aS;have dk:Hid (Ext w w1):=Ext.trans aD aS;have nQ:w.heap.size+3<=w1.heap.size:=gl
 clear aS
 cases hv:gS p
 ·have HN:Hid (rD p g=false):=oR
  clear hv;obtain ⟨⟨c0,c1,c2,c3⟩,z0,z1,z2,z3⟩:=aB mI.u;go_wp2;have sR:Hid (ay (bP _ (w.heap.size+2) (iI 0) (iI 0) (iI 0) (iI 0)) (w.heap.size+2) 187 zO):=mI.u.bP _ _ _ _;refine bR (v:=.tuple #[P0.val,.bool false]) ?_ rfl ?_
  rotate_left
  ·exact ⟨Da HN.u rfl,br (g:=w.heap.size+2) dk.u aa _ _ _ _⟩
  ·exact bF rfl _ _ _ _ _ _ _ rfl rfl sR.u underlying187 rfl gY
 have HV:=hY hv;clear hv;obtain ⟨⟨g0,g1,g2,g3⟩,-⟩:=aB Vp.u;obtain ⟨⟨p0,p1,p2,p3⟩,-⟩:=aB Kq.u;go_wp2_with fail;refine (bj g p.n _).mono ?_;rintro e w2 ⟨rfl,bH⟩;have iL:=hY (mI.u.ext bH);have KC:=hY (Kq.u.ext bH);have RQ:=hY (Vp.u.ext bH);have kj:=hY (dk.u.trans bH);have oF:w.heap.size+3<=w2.heap.size:=oM bH.size
 clear bH mI Kq Vp dk g0 g1 g2 g3 p0 p1 p2 p3 nQ
 cases hv:vg g p.n
 ·have HN:Hid (rD p g=false):=oR
  clear hv;obtain ⟨⟨c0,c1,c2,c3⟩,z0,z1,z2,z3⟩:=aB iL.u;go_wp2;have sR:Hid (ay (bP _ (w.heap.size+2) (iI 0) (iI 0) (iI 0) (iI 0)) (w.heap.size+2) 187 zO):=iL.u.bP _ _ _ _;refine bR (v:=.tuple #[P0.val,.bool false]) ?_ rfl ?_
  rotate_left
  ·exact ⟨Da HN.u rfl,br (g:=w.heap.size+2) kj.u aa _ _ _ _⟩
  ·exact bF rfl _ _ _ _ _ _ _ rfl rfl sR.u underlying187 rfl gY
 have HVG:=hY hv;clear hv;obtain ⟨⟨g0,g1,g2,g3⟩,-⟩:=aB RQ.u;go_wp2_with fail;refine (mj g _).mono ?_;rintro e w3 ⟨rfl,bT⟩;have Ak:=hY (iL.u.ext bT);have Kk:=hY (KC.u.ext bT);have HG3:=hY (RQ.u.ext bT);have iM:=hY (kj.u.trans bT);have Gy:w.heap.size+3<=w3.heap.size:=oM bT.size
 clear bT iL KC RQ kj g0 g1 g2 g3 oF
 cases hv:cD g
 ·have HN:Hid (rD p g=false):=oR
  clear hv;obtain ⟨⟨c0,c1,c2,c3⟩,z0,z1,z2,z3⟩:=aB Ak.u;go_wp2;have sR:Hid (ay (bP _ (w.heap.size+2) (iI 0) (iI 0) (iI 0) (iI 0)) (w.heap.size+2) 187 zO):=Ak.u.bP _ _ _ _;refine bR (v:=.tuple #[P0.val,.bool false]) ?_ rfl ?_
  rotate_left
  ·exact ⟨Da HN.u rfl,br (g:=w.heap.size+2) iM.u aa _ _ _ _⟩
  ·exact bF rfl _ _ _ _ _ _ _ rfl rfl sR.u underlying187 rfl gY
 have HC:=hY hv;have FR:Hid (rD p g=true):=by unfold Hid rD;rw [HV.u,HVG.u,HC.u];rfl
 clear hv;have Zv:=IQ.1 HV.u;obtain ⟨nM,xT⟩:=Zv.1;clear Zv;obtain ⟨⟨p0,p1,p2,p3⟩,-⟩:=aB Kk.u;obtain ⟨q,hq⟩:=ey (w3.heap.size);go_upto_region 4 with fail;rw [<-hq];have HW:Hid (CjW w (w3.alloc (cO #[iI p.n,iI 0,iI 0,iI p.p] 187)) p g q ⟨p.n,0,0,p.p⟩):=
  ⟨Kk.u.alloc _,HG3.u.alloc _,Ak.u.alloc _,ay.newAt hq,iM.u.alloc _,by rw [hq];exact Gy⟩
 clear Kk HG3 Ak iM Gy p0 p1 p2 p3;generalize w3.alloc (cO #[iI p.n,iI 0,iI 0,iI p.p] 187)=W0 at*
 clear hq;go_wp2
 go_loopw [7] (fun iv wr=>∃k:Nat,iv=iI k/\(k:Int)<=p.n/\Hid (CjW w wr p g q (Zq p g k))) (fun i _=>4 - (intOf i).toNat)
 case atStart=>exact ⟨0,rfl,aa,HW⟩
 case round=>
  obtain ⟨k,rfl,hk,HO⟩:=hrel;clear HW;have VV:=HO.u.1.ck 0
  by_cases bh:(k:Int)<p.n
  ·have rE:(0:Int)<=(k:Int):=aa
   have NA:(k:Int)<=3:=aa
   have HN:=hY (Vq p g k);have HB:=hY (ai9 HVG.u);obtain ⟨r,hr⟩:=ex (Zq p g k);rw [hr] at HO HN;clear hr;have hku:IntKind.u64.wrap (k:Int)=(k:Int):=IntWalk.u64_in _ aa;have eM:=wA k aa
   cases TJ:Ct p.x k
   ·have hwx:(bits .and .i64 (p.x / 2 ^ k) 1==1)=false:=TJ;have HEx:Hid (cjX p g k r=r):=aet TJ;clear TJ;obtain ⟨⟨p0,p1,p2,p3⟩,-⟩:=aB HO.u.1;go_upto_region 9 with fail;clear p0 p1 p2 p3 hwx
    cases KE:Ct p.z k
    ·have hwz:(bits .and .i64 (p.z / 2 ^ k) 1==1)=false:=KE;have HEz:Hid (Zp p g k r=r):=Vr KE;clear KE;obtain ⟨⟨p0,p1,p2,p3⟩,-⟩:=aB HO.u.1;go_wp2;go_roundw
     case rel=>exact ⟨k+1,by first|rfl|rw [eM],aa,by rw [HN.u,HEx.u,HEz.u];exact HO⟩
     case measure=>simp [intOf];omega
    ·have hwz:(bits .and .i64 (p.z / 2 ^ k) 1==1)=true:=KE;obtain ⟨⟨p0,p1,p2,p3⟩,-⟩:=aB HO.u.1;go_upto_region 10 with fail;clear p0 p1 p2 p3 hwz;obtain ⟨iz,hiz⟩:=ex (kf p.n g k true);have HIz:Hid (∀w',Calls prog 157 #[iI p.n,.agg (gA g),iI (k:Int),.bool true] w' fun e w''=>e=.returned (.agg (jF iz))/\Ext w' w''):=fun w'=>uW
     obtain ⟨mz,hmz⟩:=ex (mulR r iz);have HMz:Hid (∀w',Calls prog 156 #[.agg (jF r),.agg (jF iz)] w' fun e w''=>(∃b,e=.returned (.tuple #[.agg (jF mz),.bool b]))/\Ext w' w''):=fun w'=>by
      refine (dw r iz w').mono ?_;rintro e w'' ⟨he,hx⟩
      exact ⟨⟨gS r && gS iz && r.n==iz.n,by rw [<-hmz];exact he⟩,hx⟩
     have HEz:Hid (Zp p g k r=mz):=uX
     clear hiz hmz KE;have Jf:=hY (HO.u.ext (xZ _).drew);refine dm (S:=fun W'=>W'.cell? (aA w.z 0)=some (iI p.n)/\(W'.cell? (aA (w.z+1) 0)=some (iI g.k)/\W'.cell? (aA (w.z+1) 1)=some (iI g.a)/\W'.cell? (aA (w.z+1) 2)=some (iI g.b)/\W'.cell? (aA (w.z+1) 3)=some (iI g.c))) af ⟨(HO.u.ext (xZ _).drew).1.cell 0,(HO.u.ext (xZ _).drew).2.1.cell 0,(HO.u.ext (xZ _).drew).2.1.cell 1,(HO.u.ext (xZ _).drew).2.1.cell 2,(HO.u.ext (xZ _).drew).2.1.cell 3⟩ (fun ay4=>?_);refine tq 1 ?_;refine tq 2 ?_;refine tq 3 ?_;refine tq 4 ?_;refine o2 0 5 (fun K hK=>?_) fun K hK=>?_
     ·obtain ⟨⟨q0,q1,q2,q3⟩,-⟩:=aB Jf.u.2.2.2.1;go_simp;refine ov hK ⟨(Jf.u).1.cell 0,(Jf.u).2.1.cell 0,(Jf.u).2.1.cell 1,(Jf.u).2.1.cell 2,(Jf.u).2.1.cell 3⟩ fun ay4=>?_
      clear q0 q1 q2 q3;refine o1 5 fun K hK=>?_
      go_simp;refine (HIz.u _).mono ?_;rintro e vz ⟨rfl,hy⟩;have qv:=hY (Jf.u.ext hy);clear hy;refine ov hK ⟨(qv.u).1.cell 0,(qv.u).2.1.cell 0,(qv.u).2.1.cell 1,(qv.u).2.1.cell 2,(qv.u).2.1.cell 3⟩ fun ay4=>?_
      exact Dv
     ·go_simp;refine (HIz.u _).mono ?_;rintro e vz ⟨rfl,hy⟩;have qv:=hY (Jf.u.ext hy);clear hy;refine ov hK ⟨(qv.u).1.cell 0,(qv.u).2.1.cell 0,(qv.u).2.1.cell 1,(qv.u).2.1.cell 2,(qv.u).2.1.cell 3⟩ fun ay4=>?_
      refine o1 0 fun K hK=>?_
      obtain ⟨⟨q0,q1,q2,q3⟩,-⟩:=aB qv.u.2.2.2.1;go_simp;refine ov hK ⟨(qv.u).1.cell 0,(qv.u).2.1.cell 0,(qv.u).2.1.cell 1,(qv.u).2.1.cell 2,(qv.u).2.1.cell 3⟩ fun ay4=>?_
      clear q0 q1 q2 q3
      exact Dv
   ·have hwx:(bits .and .i64 (p.x / 2 ^ k) 1==1)=true:=TJ;obtain ⟨⟨p0,p1,p2,p3⟩,-⟩:=aB HO.u.1;go_upto_region 8 with fail;clear p0 p1 p2 p3 hwx;obtain ⟨ix,hix⟩:=ex (kf p.n g k false);have HIx:Hid (∀w',Calls prog 157 #[iI p.n,.agg (gA g),iI (k:Int),.bool false] w' fun e w''=>e=.returned (.agg (jF ix))/\Ext w' w''):=fun w'=>by rw [<-hix];exact oa g p.n k false w' rE NA HB.u.1.1 HB.u.1.2 HB.u.2.1.1 HB.u.2.1.2 HC.u HB.u.2.2
    obtain ⟨mx,hmx⟩:=ex (mulR r ix);have HMx:Hid (∀w',Calls prog 156 #[.agg (jF r),.agg (jF ix)] w' fun e w''=>(∃b,e=.returned (.tuple #[.agg (jF mx),.bool b]))/\Ext w' w''):=fun w'=>by
     refine (dw r ix w').mono ?_;rintro e w'' ⟨he,hx⟩
     exact ⟨⟨gS r && gS ix && r.n==ix.n,by rw [<-hmx];exact he⟩,hx⟩
    have HEx:Hid (cjX p g k r=mx):=by unfold Hid;rw [aaJ TJ,<-hmx,<-hix];rfl
    clear hix hmx TJ;have Dx0:=hY (HO.u.ext (xZ _).drew);refine dm (S:=fun W'=>W'.cell? (aA w.z 0)=some (iI p.n)/\(W'.cell? (aA (w.z+1) 0)=some (iI g.k)/\W'.cell? (aA (w.z+1) 1)=some (iI g.a)/\W'.cell? (aA (w.z+1) 2)=some (iI g.b)/\W'.cell? (aA (w.z+1) 3)=some (iI g.c))) af ⟨(HO.u.ext (xZ _).drew).1.cell 0,(HO.u.ext (xZ _).drew).2.1.cell 0,(HO.u.ext (xZ _).drew).2.1.cell 1,(HO.u.ext (xZ _).drew).2.1.cell 2,(HO.u.ext (xZ _).drew).2.1.cell 3⟩ (fun ay4=>?_);refine tq 1 ?_;refine tq 2 ?_;refine tq 3 ?_;refine tq 4 ?_;refine o2 0 5 (fun K hK=>?ax) fun K hK=>?bx
    case' ax=>
     obtain ⟨⟨q0,q1,q2,q3⟩,-⟩:=aB Dx0.u.2.2.2.1;go_simp;refine ov hK ⟨(Dx0.u).1.cell 0,(Dx0.u).2.1.cell 0,(Dx0.u).2.1.cell 1,(Dx0.u).2.1.cell 2,(Dx0.u).2.1.cell 3⟩ fun ay4=>?_
     clear q0 q1 q2 q3;refine o1 5 fun K hK=>?_
     go_simp;refine (HIx.u _).mono ?_;rintro e vx ⟨rfl,hy⟩;have Jg:=hY (Dx0.u.ext hy);clear hy;refine ov hK ⟨(Jg.u).1.cell 0,(Jg.u).2.1.cell 0,(Jg.u).2.1.cell 1,(Jg.u).2.1.cell 2,(Jg.u).2.1.cell 3⟩ fun ay4=>?_
    case' bx=>
     go_simp;refine (HIx.u _).mono ?_;rintro e vx ⟨rfl,hy⟩;have Jg:=hY (Dx0.u.ext hy);clear hy;refine ov hK ⟨(Jg.u).1.cell 0,(Jg.u).2.1.cell 0,(Jg.u).2.1.cell 1,(Jg.u).2.1.cell 2,(Jg.u).2.1.cell 3⟩ fun ay4=>?_
     refine o1 0 fun K hK=>?_
     obtain ⟨⟨q0,q1,q2,q3⟩,-⟩:=aB Jg.u.2.2.2.1;go_simp;refine ov hK ⟨(Jg.u).1.cell 0,(Jg.u).2.1.cell 0,(Jg.u).2.1.cell 1,(Jg.u).2.1.cell 2,(Jg.u).2.1.cell 3⟩ fun ay4=>?_
     clear q0 q1 q2 q3
    all_goals
     refine o1 6 fun K hK=>?_
     go_simp;refine (HMx.u _).mono ?_;rintro e ux ⟨⟨bm,rfl⟩,hy⟩;have Dx2:=hY (Jg.u.ext hy);clear hy;refine ov hK ⟨(Dx2.u).1.cell 0,(Dx2.u).2.1.cell 0,(Dx2.u).2.1.cell 1,(Dx2.u).2.1.cell 2,(Dx2.u).2.1.cell 3⟩ fun ay4=>?_
     refine tq 7 ?_;refine tq 8 ?_;refine tq 9 ?_;refine o1 10 fun K hK=>?_
     obtain ⟨⟨q0,q1,q2,q3⟩,f0,f1,f2,f3⟩:=aB Dx2.u.2.2.2.1;go_simp;have EX:=hY (Dx2.u.put mx);clear q0 q1 q2 q3 f0 f1 f2 f3;refine ov hK ⟨(EX.u).1.cell 0,(EX.u).2.1.cell 0,(EX.u).2.1.cell 1,(EX.u).2.1.cell 2,(EX.u).2.1.cell 3⟩ fun ay4=>?_
     refine dn ?_;generalize ((((ux.setCell (aA q 0) (iI mx.n)).setCell (aA q 1) (iI mx.x)).setCell (aA q 2) (iI mx.z)).setCell (aA q 3) (iI mx.p))=Wx at*
     clear Dx0 Jg Dx2 HIx HMx;go_upto_region 9 with fail
     cases KE:Ct p.z k
     ·have hwz:(bits .and .i64 (p.z / 2 ^ k) 1==1)=false:=KE;have HEz:Hid (Zp p g k mx=mx):=Vr KE;clear KE;obtain ⟨⟨p0,p1,p2,p3⟩,-⟩:=aB EX.u.1;go_wp2;go_roundw
      case rel=>exact ⟨k+1,by first|rfl|rw [eM],aa,by rw [HN.u,HEx.u,HEz.u];exact EX⟩
      case measure=>simp [intOf];omega
     ·have hwz:(bits .and .i64 (p.z / 2 ^ k) 1==1)=true:=KE;obtain ⟨⟨p0,p1,p2,p3⟩,-⟩:=aB EX.u.1;go_upto_region 10 with fail;clear p0 p1 p2 p3 hwz;obtain ⟨iz,hiz⟩:=ex (kf p.n g k true);have HIz:Hid (∀w',Calls prog 157 #[iI p.n,.agg (gA g),iI (k:Int),.bool true] w' fun e w''=>e=.returned (.agg (jF iz))/\Ext w' w''):=fun w'=>uW
      obtain ⟨mz,hmz⟩:=ex (mulR mx iz);have HMz:Hid (∀w',Calls prog 156 #[.agg (jF mx),.agg (jF iz)] w' fun e w''=>(∃b,e=.returned (.tuple #[.agg (jF mz),.bool b]))/\Ext w' w''):=fun w'=>by
       refine (dw mx iz w').mono ?_;rintro e w'' ⟨he,hx⟩
       exact ⟨⟨gS mx && gS iz && mx.n==iz.n,by rw [<-hmz];exact he⟩,hx⟩
      have HEz:Hid (Zp p g k mx=mz):=uX
      clear hiz hmz KE;have Jf:=hY (EX.u.ext (xZ _).drew);refine dm (S:=fun W'=>W'.cell? (aA w.z 0)=some (iI p.n)/\(W'.cell? (aA (w.z+1) 0)=some (iI g.k)/\W'.cell? (aA (w.z+1) 1)=some (iI g.a)/\W'.cell? (aA (w.z+1) 2)=some (iI g.b)/\W'.cell? (aA (w.z+1) 3)=some (iI g.c))) af ⟨(EX.u.ext (xZ _).drew).1.cell 0,(EX.u.ext (xZ _).drew).2.1.cell 0,(EX.u.ext (xZ _).drew).2.1.cell 1,(EX.u.ext (xZ _).drew).2.1.cell 2,(EX.u.ext (xZ _).drew).2.1.cell 3⟩ (fun ay4=>?_);refine tq 1 ?_;refine tq 2 ?_;refine tq 3 ?_;refine tq 4 ?_;refine o2 0 5 (fun K hK=>?_) fun K hK=>?_
      ·obtain ⟨⟨q0,q1,q2,q3⟩,-⟩:=aB Jf.u.2.2.2.1;go_simp;refine ov hK ⟨(Jf.u).1.cell 0,(Jf.u).2.1.cell 0,(Jf.u).2.1.cell 1,(Jf.u).2.1.cell 2,(Jf.u).2.1.cell 3⟩ fun ay4=>?_
       clear q0 q1 q2 q3;refine o1 5 fun K hK=>?_
       go_simp;refine (HIz.u _).mono ?_;rintro e vz ⟨rfl,hy⟩;have qv:=hY (Jf.u.ext hy);clear hy;refine ov hK ⟨(qv.u).1.cell 0,(qv.u).2.1.cell 0,(qv.u).2.1.cell 1,(qv.u).2.1.cell 2,(qv.u).2.1.cell 3⟩ fun ay4=>?_
       exact Dw
      ·go_simp;refine (HIz.u _).mono ?_;rintro e vz ⟨rfl,hy⟩;have qv:=hY (Jf.u.ext hy);clear hy;refine ov hK ⟨(qv.u).1.cell 0,(qv.u).2.1.cell 0,(qv.u).2.1.cell 1,(qv.u).2.1.cell 2,(qv.u).2.1.cell 3⟩ fun ay4=>?_
       refine o1 0 fun K hK=>?_
       obtain ⟨⟨q0,q1,q2,q3⟩,-⟩:=aB qv.u.2.2.2.1;go_simp;refine ov hK ⟨(qv.u).1.cell 0,(qv.u).2.1.cell 0,(qv.u).2.1.cell 1,(qv.u).2.1.cell 2,(qv.u).2.1.cell 3⟩ fun ay4=>?_
       clear q0 q1 q2 q3
       exact Dw
  ·have HR:Hid (Zq p g p.n.toNat=Zq p g k):=by unfold Hid;rw [show p.n.toNat=k by omega]
   obtain ⟨r,hr⟩:=ex (Zq p g k);rw [hr] at HO HR;clear hr;obtain ⟨⟨c0,c1,c2,c3⟩,z0,z1,z2,z3⟩:=aB HO.u.2.2.1;obtain ⟨⟨r0,r1,r2,r3⟩,-⟩:=aB HO.u.2.2.2.1;go_wp2;have sR:Hid (ay (bP wr (w.heap.size+2) (iI r.n) (iI r.x) (iI r.z) (iI r.p)) (w.heap.size+2) 187 (jF r)):=HO.u.2.2.1.bP _ _ _ _;refine bR (v:=.tuple #[r.val,.bool true]) ?_ rfl ?_
   rotate_left
   ·exact ⟨RR FR.u HR.u rfl,br (g:=w.heap.size+2) HO.u.2.2.2.2.1 aa _ _ _ _⟩
   ·exact bF rfl _ _ _ _ _ _ _ rfl rfl sR.u underlying187 rfl gY
namespace eN
section
variable (adj:Int->Int->Bool) (n:Nat)
def lvl (a:Int):Nat->Int->Bool
 |0,y=>y==a
 |s+1,y=>lvl a s y||(List.range n).any fun x=>lvl a s (x:Int) && adj (x:Int) y
def mn (a b:Int):Int:=match (List.range n).find? fun s=>lvl adj n a s b with
 |some s=>(s:Int)
 |none=> -1
end
section
variable {adj:Int->Int->Bool} {n:Nat} {a b:Int}
theorem fG {s:Nat} {y:Int}:lvl adj n a (s+1) y=true ↔ lvl adj n a s y=true\/∃x:Nat,x<n/\lvl adj n a s (x:Int)=true/\adj (x:Int) y=true:=by
 rw [lvl,yX,yO];simp
theorem zp {s:Nat} {y:Int} (h:lvl adj n a s y=true):lvl adj n a (s+1) y=true:=fG.2 (.inl h)
theorem Dx {s t:Nat} {y:Int} (FK:s<=t) (h:lvl adj n a s y=true):lvl adj n a t y=true:=by
 induction FK with
 |refl=>exact h
 |step _ ih=>exact zp ih
theorem ny {s:Nat} (hs:s<n) (h:lvl adj n a s b=true) (h0:∀t,t<s->lvl adj n a t b=false):mn adj n a b=s:=by
 have:(List.range n).find? (fun s=>lvl adj n a s b)=some s:=by
  rw [List.find?_range_eq_some]
  exact ⟨h,sU hs,fun j hj=>by simp [h0 j hj]⟩
 unfold mn;rw [this]
theorem wj (h:∀t,t<n->lvl adj n a t b=false):mn adj n a b= -1:=by
 have:(List.range n).find? (fun s=>lvl adj n a s b)=none:=by
  rw [Ir];intro x hx;simp at hx;simp [h x hx]
 unfold mn;rw [this]
theorem least {p:Nat->Bool}:∀{m:Nat},p m=true->∃s,s<=m/\p s=true/\∀t,t<s->p t=false
 |0,h=>⟨0,lI _,h,fun t ht=>absurd ht aa⟩
 |m+1,h=>by
  by_cases hx:∃t,t<=m/\p t=true
  ·obtain ⟨t,ht,hp⟩:=hx;obtain ⟨s,hs,h1,h2⟩:=least hp
   exact ⟨s,aa,h1,h2⟩
  ·refine ⟨m+1,lI _,h,fun t ht=>?_⟩
   cases hp:p t
   ·rfl
   ·exact absurd ⟨t,aa,hp⟩ hx
theorem LA (adj:Int->Int->Bool) (n:Nat) (a b:Int): -1<=mn adj n a b/\mn adj n a b<=n:=by
 unfold mn;split
 ·rename_i s h;have:=Iu h;simp at this;omega
 ·omega
theorem Se {s:Nat} (h:mn adj n a b=s):s<n/\lvl adj n a s b=true/\∀t,t<s->lvl adj n a t b=false:=by
 by_cases hx:∃t,t<n/\lvl adj n a t b=true
 ·obtain ⟨t,ht,hp⟩:=hx;obtain ⟨u,hu,h1,h2⟩:=least (p:=fun t=>lvl adj n a t b) hp;have e:=ny (aa:u<n) h1 h2;rw [e] at h;have:u=s:=aa
  subst this
  exact ⟨aa,h1,h2⟩
 ·have e:=wj (adj:=adj) (n:=n) (a:=a) (b:=b) (fun t ht=>by
   cases hp:lvl adj n a t b
   ·rfl
   ·exact absurd ⟨t,ht,hp⟩ hx)
  omega
theorem On (hn:0<n) (ha:a=b):mn adj n a b=0:=by
 subst ha
 exact ny (s:=0) hn (by simp [lvl]) (fun t ht=>absurd ht (Nat.not_lt_zero t))
theorem pK {i:Nat} (hi:i<n):∀{s:Nat} {j:Nat},j<n->(lvl adj n (i:Int) (s+1) (j:Int)=true ↔ lvl adj n (i:Int) s (j:Int)=true\/∃k:Nat,k<n/\adj (i:Int) (k:Int)=true/\lvl adj n (k:Int) s (j:Int)=true)
 |0,j,hj=>by
  rw [fG];constructor
  ·rintro (h|⟨x,hx,h1,h2⟩)
   ·exact .inl h
   ·simp [lvl] at h1;have:x=i:=aa
    subst this
    exact .inr ⟨j,hj,h2,by simp [lvl]⟩
  ·rintro (h|⟨k,hk,h1,h2⟩)
   ·exact .inl h
   ·simp [lvl] at h2;have:k=j:=aa
    subst this
    exact .inr ⟨i,hi,by simp [lvl],h1⟩
 |s+1,j,hj=>by
  rw [fG];constructor
  ·rintro (h|⟨x,hx,h1,h2⟩)
   ·exact .inl h
   ·rcases (pK hi hx).1 h1 with h|⟨k,hk,h3,h4⟩
    ·exact .inl (fG.2 (.inr ⟨x,hx,h,h2⟩))
    ·exact .inr ⟨k,hk,h3,fG.2 (.inr ⟨x,hx,h4,h2⟩)⟩
  ·rintro (h|⟨k,hk,h1,h2⟩)
   ·exact .inl h
   ·rcases fG.1 h2 with h|⟨x,hx,h3,h4⟩
    ·exact .inl ((pK hi hj).2 (.inr ⟨k,hk,h1,h⟩))
    ·exact .inr ⟨x,hx,(pK hi hx).2 (.inr ⟨k,hk,h1,h3⟩),h4⟩
theorem Oo {i j d:Nat} (hi:i<n) (hj:j<n) (h:mn adj n (i:Int) (j:Int)=((d+1:Nat):Int)):∃k:Nat,k<n/\adj (i:Int) (k:Int)=true/\mn adj n (k:Int) (j:Int)=(d:Int):=by
 obtain ⟨h1,h2,h3⟩:=Se h;rcases (pK hi hj).1 h2 with h4|⟨k,hk,h4,h5⟩
 ·rw [h3 d aa] at h4
  cases h4
 ·refine ⟨k,hk,h4,ny aa h5 (fun t ht=>?_)⟩
  cases hp:lvl adj n (k:Int) t (j:Int)
  ·rfl
  ·have:=(pK hi hj).2 (.inr ⟨k,hk,h4,hp⟩);rw [h3 (t+1) aa] at this
   cases this
theorem Hb {α:Type} {p q:α->Bool}:∀{l:List α},(∀x∈l,p x=true->q x=true)->(∃x∈l,q x=true/\p x=false)->l.countP p<l.countP q
 |[],_,⟨_,h,_⟩=>dV
 |y::l,hm,⟨x,hx,hq,hp⟩=>by
  have hle:l.countP p<=l.countP q:=List.countP_mono_left (fun z hz=>hm z (by simp [hz]));rcases qR.1 hx with rfl|hx
  ·rw [Ni (by simp [hp]),Il hq];omega
  ·have ih:=Hb (fun z hz=>hm z (by simp [hz])) ⟨x,hx,hq,hp⟩
   cases h:p y
   ·rw [Ni aW];have:=List.countP_le_length (p:=q) (l:=l)
    cases h':q y
    ·rw [Ni (by simp [h'])];exact ih
    ·rw [Il h'];omega
   ·rw [Il h,Il (hm y ag h)];omega
theorem VW {s:Nat} {y:Int} (h:lvl adj n a (s+1+1) y=true) (h0:lvl adj n a (s+1) y=false):∃x:Nat,x<n/\lvl adj n a (s+1) (x:Int)=true/\lvl adj n a s (x:Int)=false:=by
 rcases fG.1 h with h1|⟨x,hx,h1,h2⟩
 ·rw [h0] at h1;cases h1
 ·refine ⟨x,hx,h1,?_⟩
  cases hp:lvl adj n a s (x:Int)
  ·rfl
  ·rw [fG.2 (.inr ⟨x,hx,hp,h2⟩)] at h0;cases h0
theorem Qt:∀{s:Nat} {y:Int},lvl adj n a (s+1) y=true->lvl adj n a s y=false->∀u,u<s->∃x:Nat,x<n/\lvl adj n a (u+1) (x:Int)=true/\lvl adj n a u (x:Int)=false
 |0,_,_,_,u,hu=>absurd hu aa
 |s+1,y,h,h0,u,hu=>by
  obtain ⟨x,hx,h1,h2⟩:=VW h h0
  by_cases e:u=s
  ·subst e;exact ⟨x,hx,h1,h2⟩
  ·exact Qt h1 h2 u aa
theorem Sf {i t:Nat} (hi:i<n) (h:∀u,u<t->∃x:Nat,x<n/\lvl adj n (i:Int) (u+1) (x:Int)=true/\lvl adj n (i:Int) u (x:Int)=false):t+1<=(List.range n).countP fun x:Nat=>lvl adj n (i:Int) t (x:Int):=by
 induction t with
 |zero=>
  have:0<(List.range n).countP fun x:Nat=>lvl adj n (i:Int) 0 (x:Int):=List.countP_pos_iff.2 ⟨i,sU hi,by simp [lvl]⟩
  omega
 |succ t ih=>
  have h1:=ih (fun u hu=>h u aa);obtain ⟨x,hx,h2,h3⟩:=h t aa;have:=Hb (l:=List.range n) (p:=fun x:Nat=>lvl adj n (i:Int) t (x:Int)) (q:=fun x:Nat=>lvl adj n (i:Int) (t+1) (x:Int)) (fun z _ hz=>zp hz) ⟨x,sU hx,h2,h3⟩;omega
theorem aeM {i t y:Nat} (hi:i<n) (hy:y<n) (h:lvl adj n (i:Int) t (y:Int)=true) (h0:∀u,u<t->lvl adj n (i:Int) u (y:Int)=false):t<n:=by
 cases t with
 |zero=>omega
 |succ t=>
  have h1:=Qt h (h0 t aa);have h2:∀u,u<t+1->∃x:Nat,x<n/\lvl adj n (i:Int) (u+1) (x:Int)=true/\lvl adj n (i:Int) u (x:Int)=false:=fun u hu=>by
   by_cases e:u=t
   ·subst e;exact ⟨y,hy,h,h0 u aa⟩
   ·exact h1 u aa
  have h3:=Sf hi h2;have h4:=List.countP_le_length (p:=fun x:Nat=>lvl adj n (i:Int) (t+1) (x:Int)) (l:=List.range n);rw [Nt] at h4;omega
end
section
variable (adj:Int->Int->Bool) (n:Nat)
def AB (s x y:Nat) (R:Nat->Int):Nat->Int:=fun z=>if z=y/\R x=(s:Int)/\R y<0/\adj (x:Int) (y:Int)=true then (s:Int)+1 else R z
def pY (s x:Nat) (R:Nat->Int):Nat->(Nat->Int)
 |0=>R
 |y+1=>AB adj s x y (pY s x R y)
def pX (s:Nat) (R:Nat->Int):Nat->(Nat->Int)
 |0=>R
 |x+1=>pY adj s x (pX s R x) n
def pS (a:Nat):Nat->(Nat->Int)
 |0=>fun z=>if z=a then 0 else -1
 |s+1=>pX adj n s (pS a s) n
end
section
variable {adj:Int->Int->Bool} {n:Nat}
def Q (adj:Int->Int->Bool) (n s:Nat) (R0:Nat->Int) (x y:Nat) (R:Nat->Int):Prop:=
 ∀z,z<n->(0<=R0 z->R z=R0 z)/\(R0 z<0->(R z=(s:Int)+1/\∃x':Nat,x'<n/\R0 x'=(s:Int)/\adj (x':Int) (z:Int)=true)\/(R z=R0 z/\∀x':Nat,x'<x\/(x'=x/\z<y)->¬(R0 x'=(s:Int)/\adj (x':Int) (z:Int)=true)))
theorem Q.cell {s x y:Nat} {R0 R:Nat->Int} (hx:x<n) (hy:y<n) (h:Q adj n s R0 x y R):Q adj n s R0 x (y+1) (AB adj s x y R):=by
 intro z hz;have hRx:R x=(s:Int) ↔ R0 x=(s:Int):=by
  rcases Int.lt_or_le (R0 x) 0 with na|Jh
  ·rcases (h x hx).2 na with ⟨e,_⟩|⟨e,_⟩<;>omega
  ·rw [(h x hx).1 Jh]
 have hRy:R y<0->R0 y<0/\R y=R0 y:=fun bh=>by
  rcases Int.lt_or_le (R0 y) 0 with na|Jh
  ·rcases (h y hy).2 na with ⟨e,_⟩|⟨e,_⟩
   ·omega
   ·exact ⟨na,e⟩
  ·have:=(h y hy).1 Jh;omega
 unfold AB
 by_cases hc:z=y/\R x=(s:Int)/\R y<0/\adj (x:Int) (y:Int)=true
 ·rw [aX hc];obtain ⟨rfl,h1,h2,h3⟩:=hc;have h4:=hRy h2
  exact ⟨fun h0=>aa,fun _=> .inl ⟨rfl,x,hx,hRx.1 h1,h3⟩⟩
 ·rw [aK hc];refine ⟨(h z hz).1,fun na=>?_⟩;rcases (h z hz).2 na with h1|⟨h1,h2⟩
  ·exact .inl h1
  ·refine .inr ⟨h1,fun x' rF=>?_⟩
   by_cases e:x'=x/\z=y
   ·obtain ⟨rfl,rfl⟩:=e;rintro ⟨h5,h6⟩
    exact hc ⟨rfl,hRx.2 h5,aa,h6⟩
   ·refine h2 x' ?_;omega
theorem Q.row {s x:Nat} {R0 R:Nat->Int} (hx:x<n) (h:Q adj n s R0 x 0 R):∀y,y<=n->Q adj n s R0 x y (pY adj s x R y)
 |0,_=>h
 |y+1,hy=>(Q.row hx h y aa).cell hx aa
theorem Q.next {s x:Nat} {R0 R:Nat->Int} (h:Q adj n s R0 x n R):Q adj n s R0 (x+1) 0 R:=by
 intro z hz;refine ⟨(h z hz).1,fun na=>?_⟩;rcases (h z hz).2 na with h1|⟨h1,h2⟩
 ·exact .inl h1
 ·exact .inr ⟨h1,fun x' rF=>h2 x' aa⟩
theorem Q.start (adj:Int->Int->Bool) (n s:Nat) (R0:Nat->Int):Q adj n s R0 0 0 R0:=fun z _=>⟨fun _=>rfl,fun _=> .inr ⟨rfl,fun x' rF=>aa⟩⟩
theorem Q.all {s:Nat} (R0:Nat->Int):∀x,x<=n->Q adj n s R0 x 0 (pX adj n s R0 x)
 |0,_=>Q.start _ _ _ _
 |x+1,hx=>((Q.all R0 x aa).row aa n (lI _)).next
def ZB (adj:Int->Int->Bool) (n:Nat) (a:Int) (s:Nat) (R:Nat->Int):Prop:=
 ∀z,z<n->(R z= -1/\lvl adj n a s (z:Int)=false)\/∃t:Nat,t<=s/\R z=(t:Int)/\lvl adj n a t (z:Int)=true/\∀u,u<t->lvl adj n a u (z:Int)=false
theorem ZB.start (adj:Int->Int->Bool) (n a:Nat):ZB adj n (a:Int) 0 (pS adj n a 0):=by
 intro z hz;unfold pS
 by_cases e:z=a
 ·rw [aX e]
  exact .inr ⟨0,lI _,rfl,by simp [lvl,e],fun u hu=>absurd hu aa⟩
 ·rw [aK e]
  exact .inl ⟨rfl,by simp [lvl];omega⟩
theorem ZB.step {a:Int} {s:Nat} {R:Nat->Int} (h:ZB adj n a s R):ZB adj n a (s+1) (pX adj n s R n):=by
 have hQ:=Q.all (adj:=adj) (s:=s) R n (lI n);have hval:∀x,x<n->(R x=(s:Int) ↔ lvl adj n a s (x:Int)=true/\∀u,u<s->lvl adj n a u (x:Int)=false):=fun x hx=>by
  rcases h x hx with ⟨e,h1⟩|⟨t,ht,e,h1,h2⟩
  ·exact ⟨fun h'=>aa,fun h'=>by rw [h'.1] at h1;cases h1⟩
  ·constructor
   ·intro h';have:t=s:=aa
    subst this
    exact ⟨h1,h2⟩
   ·intro h';have:t=s:=by
     rcases pA t s with bh|tS
     ·rw [h'.2 t bh] at h1;cases h1
     ·omega
    omega
 intro z hz;rcases h z hz with ⟨e,h1⟩|⟨t,ht,e,h1,h2⟩
 ·rcases (hQ z hz).2 aa with ⟨h3,x,hx,h4,h5⟩|⟨h3,h4⟩
  ·refine .inr ⟨s+1,lI _,by rw [h3];omega,fG.2 (.inr ⟨x,hx,((hval x hx).1 h4).1,h5⟩),fun u hu=>?_⟩
   cases hp:lvl adj n a u (z:Int)
   ·rfl
   ·rw [Dx (aa:u<=s) hp] at h1;cases h1
  ·refine .inl ⟨by rw [h3,e],?_⟩
   cases hp:lvl adj n a (s+1) (z:Int)
   ·rfl
   ·rcases fG.1 hp with h5|⟨x,hx,h5,h6⟩
    ·rw [h1] at h5;cases h5
    ·refine absurd ⟨(hval x hx).2 ⟨h5,fun u hu=>?_⟩,h6⟩ (h4 x (.inl hx))
     cases hq:lvl adj n a u (x:Int)
     ·rfl
     ·rw [Dx (aa:u+1<=s) (fG.2 (.inr ⟨x,hx,hq,h6⟩))] at h1;cases h1
 ·refine .inr ⟨t,aa,?_,h1,h2⟩;rw [(hQ z hz).1 aa,e]
theorem ZB.all (adj:Int->Int->Bool) (n a:Nat):∀s,ZB adj n (a:Int) s (pS adj n a s)
 |0=>ZB.start adj n a
 |s+1=>(ZB.all adj n a s).step
theorem amo {a b:Nat} (ha:a<n) (hb:b<n):pS adj n a n b=mn adj n (a:Int) (b:Int):=by
 rcases ZB.all adj n a n b hb with ⟨e,h1⟩|⟨t,ht,e,h1,h2⟩
 ·rw [e,wj];intro t ht
  cases hp:lvl adj n (a:Int) t (b:Int)
  ·rfl
  ·rw [Dx (aa:t<=n) hp] at h1;cases h1
 ·rw [e,ny (aeM ha hb h1 h2) h1 h2]
theorem LB {s x y:Nat} {R:Nat->Int} (h:∀z, -1<=R z/\R z<=5) (hs:s<=4) (z:Nat): -1<=AB adj s x y R z/\AB adj s x y R z<=5:=by
 unfold AB;split
 ·omega
 ·exact h z
theorem LC {s x:Nat} {R:Nat->Int} (h:∀z, -1<=R z/\R z<=5) (hs:s<=4):∀y z, -1<=pY adj s x R y z/\pY adj s x R y z<=5
 |0,z=>h z
 |y+1,z=>LB (LC h hs y) hs z
theorem LD {s:Nat} {R:Nat->Int} (h:∀z, -1<=R z/\R z<=5) (hs:s<=4):∀x z, -1<=pX adj n s R x z/\pX adj n s R x z<=5
 |0,z=>h z
 |x+1,z=>LC (LD h hs x) hs n z
theorem VX (adj:Int->Int->Bool) (n a:Nat):∀s,s<=4->∀z, -1<=pS adj n a s z/\pS adj n a s z<=5
 |0,_,z=>by unfold pS;split<;>omega
 |s+1,hs,z=>LD (VX adj n a s aa) aa n z
end
section
variable (adj:Int->Int->Bool) (n:Nat)
def rK (m:Int) (l:List Int):Nat->List Int
 |0=>l
 |k+1=>if (adj m (k:Int) && !(fC (rK m l k) (k:Int)))=true then rK m l k++[(k:Int)] else rK m l k
def rI (met:List Int):Nat->List Int
 |0=>met
 |i+1=>rK adj (met.getD i 0) (rI met i) n
def rS (a:Int):Nat->List Int
 |0=>[a]
 |s+1=>rI adj n (rS a s) (rS a s).length
end
section
variable {adj:Int->Int->Bool} {n:Nat}
theorem LF {l:List Int} {y:Int}:fC l y=true ↔ y∈l:=by unfold fC;simp
theorem VY {m:Int} {l:List Int} {y:Int}:∀k,y∈rK adj m l k ↔ y∈l\/∃j:Nat,j<k/\y=(j:Int)/\adj m (j:Int)=true
 |0=>by simp [rK]
 |k+1=>by
  have ih:=VY (m:=m) (l:=l) (y:=y) k;unfold rK;split
  ·rename_i hc;simp at hc;rw [mM,ih];constructor
   ·rintro ((h|⟨j,h1,h2⟩)|h)
    ·exact .inl h
    ·exact .inr ⟨j,aa,h2⟩
    ·simp at h;exact .inr ⟨k,aa,h,hc.1⟩
   ·rintro (h|⟨j,h1,h2,h3⟩)
    ·exact .inl (.inl h)
    ·by_cases e:j=k
     ·subst e;exact .inr fp
     ·exact .inl (.inr ⟨j,aa,h2,h3⟩)
  ·rename_i hc;rw [ih];constructor
   ·rintro (h|⟨j,h1,h2⟩)
    ·exact .inl h
    ·exact .inr ⟨j,aa,h2⟩
   ·rintro (h|⟨j,h1,h2,h3⟩)
    ·exact .inl h
    ·by_cases e:j=k
     ·subst e;subst h2
      cases hh:fC (rK adj m l j) (j:Int)
      ·rw [h3,hh] at hc;simp at hc
      ·exact ih.1 (LF.1 hh)
     ·exact .inr ⟨j,aa,h2,h3⟩
theorem VZ {met:List Int} {y:Int}:∀i,i<=met.length->(y∈rI adj n met i ↔ y∈met\/∃i':Nat,i'<i/\∃j:Nat,j<n/\y=(j:Int)/\adj (met.getD i' 0) (j:Int)=true)
 |0,_=>by simp [rI]
 |i+1,hi=>by
  rw [rI,VY,VZ i aa];constructor
  ·rintro ((h|⟨i',h1,h2⟩)|h)
   ·exact .inl h
   ·exact .inr ⟨i',aa,h2⟩
   ·exact .inr ⟨i,aa,h⟩
  ·rintro (h|⟨i',h1,h2⟩)
   ·exact .inl (.inl h)
   ·by_cases e:i'=i
    ·subst e;exact .inr h2
    ·exact .inl (.inr ⟨i',aa,h2⟩)
theorem aeN {met:List Int} {y:Int}:y∈rI adj n met met.length ↔ y∈met\/∃m∈met,∃j:Nat,j<n/\y=(j:Int)/\adj m (j:Int)=true:=by
 rw [VZ _ (lI _)];constructor
 ·rintro (h|⟨i,hi,h⟩)
  ·exact .inl h
  ·refine .inr ⟨met.getD i 0,?_,h⟩;rw [lP,lB hi]
   exact BU hi
 ·rintro (h|⟨m,hm,h⟩)
  ·exact .inl h
  ·obtain ⟨i,hi,rfl⟩:=Nl hm;refine .inr ⟨i,hi,?_⟩;rw [lP,lB hi]
   exact h
theorem Ji {a:Nat} (ha:a<n):∀s {y:Int},y∈rS adj n (a:Int) s ↔ ∃j:Nat,j<n/\y=(j:Int)/\lvl adj n (a:Int) s (j:Int)=true
 |0,y=>by
  unfold rS;constructor
  ·intro h;simp at h
   exact ⟨a,ha,h,by simp [lvl]⟩
  ·rintro ⟨j,hj,h1,h2⟩;simp [lvl] at h2;simp [h1,h2]
 |s+1,y=>by
  rw [rS,aeN,Ji ha s];constructor
  ·rintro (⟨j,hj,h1,h2⟩|⟨m,hm,j,hj,h1,h2⟩)
   ·exact ⟨j,hj,h1,zp h2⟩
   ·obtain ⟨x,hx,rfl,h3⟩:=(Ji ha s).1 hm
    exact ⟨j,hj,h1,fG.2 (.inr ⟨x,hx,h3,h2⟩)⟩
  ·rintro ⟨j,hj,h1,h2⟩;rcases fG.1 h2 with h3|⟨x,hx,h3,h4⟩
   ·exact .inl ⟨j,hj,h1,h3⟩
   ·exact .inr ⟨(x:Int),(Ji ha s).2 ⟨x,hx,rfl,h3⟩,j,hj,h1,h4⟩
theorem aeO {a b:Nat} (ha:a<n) (hb:b<n) (s:Nat):fC (rS adj n (a:Int) s) (b:Int)=lvl adj n (a:Int) s (b:Int):=by
 rw [Ca,LF,Ji ha s];constructor
 ·rintro ⟨j,hj,h1,h2⟩;rwa [h1]
 ·intro h
  exact ⟨b,hb,rfl,h⟩
theorem Ot {m:Int} {l:List Int}:∀k,(rK adj m l k).length<=l.length+k
 |0=>by simp [rK]
 |k+1=>by
  have:=Ot (m:=m) (l:=l) k;unfold rK;split
  ·simp;omega
  ·omega
theorem Ou {met:List Int}:∀i,(rI adj n met i).length<=met.length+i*n
 |0=>by simp [rI]
 |i+1=>by
  have h1:=Ou (met:=met) i;have h2:=Ot (adj:=adj) (m:=met.getD i 0) (l:=rI adj n met i) n;rw [rI,yN];omega
theorem Wa (hn:n<=4) (a:Int):∀s,(rS adj n a s).length<=5 ^ s
 |0=>by simp [rS]
 |s+1=>by
  have h1:=Wa hn a s;have h2:=Ou (adj:=adj) (n:=n) (met:=rS adj n a s) (rS adj n a s).length;have h3:(rS adj n a s).length*n<=(rS adj n a s).length*4:=Nat.mul_le_mul_left _ hn;rw [rS,Nat.pow_succ];omega
theorem Wc (hn:n<=4) (a:Int) {s:Nat} (hs:s<=4):(rS adj n a s).length<=625:=by
 have h1:=Wa (adj:=adj) hn a s;have h2:5 ^ s<=5 ^ 4:=zN aa hs;omega
theorem Wd {met:List Int} (hm:met.length<=625) (hn:n<=4) {i:Nat} (hi:i<=met.length):(rI adj n met i).length<=3125:=by
 have h1:=Ou (adj:=adj) (n:=n) (met:=met) i;have h2:i*n<=625*4:=Im aa hn;omega
end
end eN
def rq (es:List Ed) (a b:Int):Bool:=fJ es a b||fJ es b a
def gd (x:Gr) (a b:Int):Int:=if 1<=x.n/\x.n<=4/\0<=a/\a<x.n/\0<=b/\b<x.n then eN.mn (rq x.es) x.n.toNat a b else -1
theorem LH {x:Gr} {a b:Int} (h:¬(1<=x.n/\x.n<=4/\0<=a/\a<x.n/\0<=b/\b<x.n)):gd x a b= -1:=aK h
theorem Jj {x:Gr} {a b:Int} {n:Nat} (h:x.n=n) (h1:1<=n) (h2:n<=4) (h3:0<=a) (h4:a<n) (h5:0<=b) (h6:b<n):gd x a b=eN.mn (rq x.es) n a b:=by
 unfold gd;rw [aX aa,h];rfl
theorem pL (x:Gr) (a b:Int): -1<=gd x a b/\gd x a b<=4:=by
 unfold gd;split
 ·have:=eN.LA (rq x.es) x.n.toNat a b;omega
 ·omega
end Go.Proofs.YtiajdbllccmokaaGreatDoor
