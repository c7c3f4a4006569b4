import Derived.Test.YtodhjgngkkcjgaaGreatDoorXk
import Derived.Test.YtodhjgngkkcjgaaGreatDoorXl
namespace Go.Proofs.YtodhjgngkkcjgaaGreatDoor
open Go.ChangeShapes Go.WideShapes Go.ChangeAt Go.RowKit Go.Deep Go.Proofs.Tryz
set_option linter.unusedVariables false
set_option linter.unusedSimpArgs false
set_option maxRecDepth 100000
set_option maxHeartbeats 16000000
theorem Iq {P:Prop} (h:P:=by
 refine o1 6 fun K hK=>?_
 go_simp;refine (HMz.u _).mono ?_;rintro e uz ⟨⟨bm,rfl⟩,hy⟩;have Rs:=hY (tH.u.ext hy);clear hy;refine ov hK ⟨(Rs.u).1.cell 0,(Rs.u).2.1.cell 0,(Rs.u).2.1.cell 1,(Rs.u).2.1.cell 2,(Rs.u).2.1.cell 3⟩ fun aEQ=>?_
 refine tq 7 ?_;refine tq 8 ?_;refine tq 9 ?_;refine o1 10 fun K hK=>?_
 obtain ⟨⟨q0,q1,q2,q3⟩,f0,f1,f2,f3⟩:=aB Rs.u.2.2.2.1;go_simp;have E0:=hY (Rs.u.put mz);clear q0 q1 q2 q3 f0 f1 f2 f3;refine ov hK ⟨(E0.u).1.cell 0,(E0.u).2.1.cell 0,(E0.u).2.1.cell 1,(E0.u).2.1.cell 2,(E0.u).2.1.cell 3⟩ fun aEQ=>?_
 refine dn ?_;generalize ((((uz.setCell (aA q 0) (iI mz.n)).setCell (aA q 1) (iI mz.x)).setCell (aA q 2) (iI mz.z)).setCell (aA q 3) (iI mz.p))=Wz at*
 clear Om tH Rs HIz HMz;go_wp2;go_roundw
 case rel=>exact ⟨k+1,by first|rfl|rw [et],aa,by rw [HN.u,HEx.u,HEz.u];exact E0⟩
 case measure=>simp [intOf];omega):P:=h
theorem Ir {P:Prop} (h:P:=by
 refine o1 6 fun K hK=>?_
 go_simp;refine (HMz.u _).mono ?_;rintro e uz ⟨⟨bm,rfl⟩,hy⟩;have Rs:=hY (tH.u.ext hy);clear hy;refine ov hK ⟨(Rs.u).1.cell 0,(Rs.u).2.1.cell 0,(Rs.u).2.1.cell 1,(Rs.u).2.1.cell 2,(Rs.u).2.1.cell 3⟩ fun aEQ=>?_
 refine tq 7 ?_;refine tq 8 ?_;refine tq 9 ?_;refine o1 10 fun K hK=>?_
 obtain ⟨⟨q0,q1,q2,q3⟩,f0,f1,f2,f3⟩:=aB Rs.u.2.2.2.1;go_simp;have E1:=hY (Rs.u.put mz);clear q0 q1 q2 q3 f0 f1 f2 f3;refine ov hK ⟨(E1.u).1.cell 0,(E1.u).2.1.cell 0,(E1.u).2.1.cell 1,(E1.u).2.1.cell 2,(E1.u).2.1.cell 3⟩ fun aEQ=>?_
 refine dn ?_;generalize ((((uz.setCell (aA q 0) (iI mz.n)).setCell (aA q 1) (iI mz.x)).setCell (aA q 2) (iI mz.z)).setCell (aA q 3) (iI mz.p))=Wz at*
 clear Om tH Rs HIz HMz;go_wp2;go_roundw
 case rel=>exact ⟨k+1,by first|rfl|rw [et],aa,by rw [HN.u,HEx.u,HEz.u];exact E1⟩
 case measure=>simp [intOf];omega):P:=h
theorem sB (p:Pa) (g:Gt) (w:World):Calls prog 203 #[p.val,g.val] w fun e w'=>Ro p g e/\Ext w w':=by
 go_enter func203,ntmps203;go_wp2_with fail;refine (cU p _).mono ?_;rintro e w1 ⟨rfl,aK⟩;have mC:Hid (au w1 (w.heap.size+2) 251 zO):=(au.newAt (b:=w.heap.size+2) ag).ext aK;have uE:Hid (au w1 w.heap.size 251 (jF p)):=(((au.new w _ _).alloc _).alloc _).ext aK;have HG1:Hid (au w1 (w.heap.size+1) 39 (gA g)):=((au.newAt (b:=w.heap.size+1) ag).alloc _).ext aK;have cH:Hid (Ext w w1):=Ext.trans aw aK;have pR:w.heap.size+3<=w1.heap.size:=iq
 clear aK
 cases hv:iO p
 ·have HN:Hid (uT p g=false):=rq
  clear hv;obtain ⟨⟨c0,c1,c2,c3⟩,z0,z1,z2,z3⟩:=aB mC.u;go_wp2;have wh:Hid (au (bR _ (w.heap.size+2) (iI 0) (iI 0) (iI 0) (iI 0)) (w.heap.size+2) 251 zO):=mC.u.bR _ _ _ _;refine bJ (v:=.tuple #[P0.val,.bool false]) ?_ rfl ?_
  rotate_left
  ·exact ⟨Hs HN.u rfl,aW (g:=w.heap.size+2) cH.u aa _ _ _ _⟩
  ·exact aR rfl _ _ _ _ _ _ _ rfl rfl wh.u Bq rfl iY
 have HV:=hY hv;clear hv;obtain ⟨⟨g0,g1,g2,g3⟩,-⟩:=aB HG1.u;obtain ⟨⟨p0,p1,p2,p3⟩,-⟩:=aB uE.u;go_wp2_with fail;refine (bn g p.n _).mono ?_;rintro e w2 ⟨rfl,bz⟩;have jN:=hY (mC.u.ext bz);have Ez:=hY (uE.u.ext bz);have HG2:=hY (HG1.u.ext bz);have eK:=hY (cH.u.trans bz);have qw:w.heap.size+3<=w2.heap.size:=oM bz.size
 clear bz mC uE HG1 cH g0 g1 g2 g3 p0 p1 p2 p3 pR
 cases hv:vg g p.n
 ·have HN:Hid (uT p g=false):=rq
  clear hv;obtain ⟨⟨c0,c1,c2,c3⟩,z0,z1,z2,z3⟩:=aB jN.u;go_wp2;have wh:Hid (au (bR _ (w.heap.size+2) (iI 0) (iI 0) (iI 0) (iI 0)) (w.heap.size+2) 251 zO):=jN.u.bR _ _ _ _;refine bJ (v:=.tuple #[P0.val,.bool false]) ?_ rfl ?_
  rotate_left
  ·exact ⟨Hs HN.u rfl,aW (g:=w.heap.size+2) eK.u aa _ _ _ _⟩
  ·exact aR rfl _ _ _ _ _ _ _ rfl rfl wh.u Bq rfl iY
 have HVG:=hY hv;clear hv;obtain ⟨⟨g0,g1,g2,g3⟩,-⟩:=aB HG2.u;go_wp2_with fail;refine (oz g _).mono ?_;rintro e w3 ⟨rfl,bO⟩;have Mp:=hY (jN.u.ext bO);have LQ:=hY (Ez.u.ext bO);have HG3:=hY (HG2.u.ext bO);have fD:=hY (eK.u.trans bO);have CQ:w.heap.size+3<=w3.heap.size:=oM bO.size
 clear bO jN Ez HG2 eK g0 g1 g2 g3 qw
 cases hv:cL g
 ·have HN:Hid (uT p g=false):=rq
  clear hv;obtain ⟨⟨c0,c1,c2,c3⟩,z0,z1,z2,z3⟩:=aB Mp.u;go_wp2;have wh:Hid (au (bR _ (w.heap.size+2) (iI 0) (iI 0) (iI 0) (iI 0)) (w.heap.size+2) 251 zO):=Mp.u.bR _ _ _ _;refine bJ (v:=.tuple #[P0.val,.bool false]) ?_ rfl ?_
  rotate_left
  ·exact ⟨Hs HN.u rfl,aW (g:=w.heap.size+2) fD.u aa _ _ _ _⟩
  ·exact aR rfl _ _ _ _ _ _ _ rfl rfl wh.u Bq rfl iY
 have HC:=hY hv;have Ln:Hid (uT p g=true):=by unfold Hid uT;rw [HV.u,HVG.u,HC.u];rfl
 clear hv;have hnb:=NX.1 HV.u;obtain ⟨jX,zn⟩:=hnb.1;clear hnb;obtain ⟨⟨p0,p1,p2,p3⟩,-⟩:=aB LQ.u;obtain ⟨q,hq⟩:=ey (w3.heap.size);go_upto_region 4 with fail;rw [<-hq];have HW:Hid (CjW w (w3.alloc (cO #[iI p.n,iI 0,iI 0,iI p.p] 251)) p g q ⟨p.n,0,0,p.p⟩):=
  ⟨LQ.u.alloc _,HG3.u.alloc _,Mp.u.alloc _,au.newAt hq,fD.u.alloc _,by rw [hq];exact CQ⟩
 clear LQ HG3 Mp fD CQ p0 p1 p2 p3;generalize w3.alloc (cO #[iI p.n,iI 0,iI 0,iI p.p] 251)=W0 at*
 clear hq;go_wp2
 go_loopw [7] (fun iv wr=>∃k:Nat,iv=iI k/\(k:Int)<=p.n/\Hid (CjW w wr p g q (cjN p g k))) (fun i _=>4 - (intOf i).toNat)
 case atStart=>exact ⟨0,rfl,aa,HW⟩
 case round=>
  obtain ⟨k,rfl,hk,HO⟩:=hrel;clear HW;have hp0:=HO.u.1.ck 0
  by_cases ba:(k:Int)<p.n
  ·have lu:(0:Int)<=(k:Int):=aa
   have Qt:(k:Int)<=3:=aa
   have HN:=hY (aci p g k);have HB:=hY (ao3 HVG.u);obtain ⟨r,hr⟩:=ex (cjN p g k);rw [hr] at HO HN;clear hr;have hku:IntKind.u64.wrap (k:Int)=(k:Int):=IntWalk.u64_in _ aa;have et:=wA k aa
   cases hbx:GJ p.x k
   ·have hwx:(bits .and .i64 (p.x / 2 ^ k) 1==1)=false:=hbx;have HEx:Hid (cjX p g k r=r):=akC hbx;clear hbx;obtain ⟨⟨p0,p1,p2,p3⟩,-⟩:=aB HO.u.1;go_upto_region 9 with fail;clear p0 p1 p2 p3 hwx
    cases NJ:GJ p.z k
    ·have hwz:(bits .and .i64 (p.z / 2 ^ k) 1==1)=false:=NJ;have HEz:Hid (cjZ p g k r=r):=acj NJ;clear NJ;obtain ⟨⟨p0,p1,p2,p3⟩,-⟩:=aB HO.u.1;go_wp2;go_roundw
     case rel=>exact ⟨k+1,by first|rfl|rw [et],aa,by rw [HN.u,HEx.u,HEz.u];exact HO⟩
     case measure=>simp [intOf];omega
    ·have hwz:(bits .and .i64 (p.z / 2 ^ k) 1==1)=true:=NJ;obtain ⟨⟨p0,p1,p2,p3⟩,-⟩:=aB HO.u.1;go_upto_region 10 with fail;clear p0 p1 p2 p3 hwz;obtain ⟨iz,hiz⟩:=ex (lW p.n g k true);have HIz:Hid (∀w',Calls prog 218 #[iI p.n,.agg (gA g),iI (k:Int),.bool true] w' fun e w''=>e=.returned (.agg (jF iz))/\Ext w' w''):=fun w'=>yZ
     obtain ⟨mz,hmz⟩:=ex (mulR r iz);have HMz:Hid (∀w',Calls prog 217 #[.agg (jF r),.agg (jF iz)] w' fun e w''=>(∃b,e=.returned (.tuple #[.agg (jF mz),.bool b]))/\Ext w' w''):=fun w'=>by
      refine (dF r iz w').mono ?_;rintro e w'' ⟨he,hx⟩
      exact ⟨⟨iO r && iO iz && r.n==iz.n,by rw [<-hmz];exact he⟩,hx⟩
     have HEz:Hid (cjZ p g k r=mz):=zd
     clear hiz hmz NJ;have Om:=hY (HO.u.ext (xZ _).drew);refine dt (S:=fun W'=>W'.cell? (aA w.z 0)=some (iI p.n)/\(W'.cell? (aA (w.z+1) 0)=some (iI g.k)/\W'.cell? (aA (w.z+1) 1)=some (iI g.a)/\W'.cell? (aA (w.z+1) 2)=some (iI g.b)/\W'.cell? (aA (w.z+1) 3)=some (iI g.c))) af ⟨(HO.u.ext (xZ _).drew).1.cell 0,(HO.u.ext (xZ _).drew).2.1.cell 0,(HO.u.ext (xZ _).drew).2.1.cell 1,(HO.u.ext (xZ _).drew).2.1.cell 2,(HO.u.ext (xZ _).drew).2.1.cell 3⟩ (fun aEQ=>?_);refine tq 1 ?_;refine tq 2 ?_;refine tq 3 ?_;refine tq 4 ?_;refine o2 0 5 (fun K hK=>?_) fun K hK=>?_
     ·obtain ⟨⟨q0,q1,q2,q3⟩,-⟩:=aB Om.u.2.2.2.1;go_simp;refine ov hK ⟨(Om.u).1.cell 0,(Om.u).2.1.cell 0,(Om.u).2.1.cell 1,(Om.u).2.1.cell 2,(Om.u).2.1.cell 3⟩ fun aEQ=>?_
      clear q0 q1 q2 q3;refine o1 5 fun K hK=>?_
      go_simp;refine (HIz.u _).mono ?_;rintro e vz ⟨rfl,hy⟩;have tH:=hY (Om.u.ext hy);clear hy;refine ov hK ⟨(tH.u).1.cell 0,(tH.u).2.1.cell 0,(tH.u).2.1.cell 1,(tH.u).2.1.cell 2,(tH.u).2.1.cell 3⟩ fun aEQ=>?_
      exact Iq
     ·go_simp;refine (HIz.u _).mono ?_;rintro e vz ⟨rfl,hy⟩;have tH:=hY (Om.u.ext hy);clear hy;refine ov hK ⟨(tH.u).1.cell 0,(tH.u).2.1.cell 0,(tH.u).2.1.cell 1,(tH.u).2.1.cell 2,(tH.u).2.1.cell 3⟩ fun aEQ=>?_
      refine o1 0 fun K hK=>?_
      obtain ⟨⟨q0,q1,q2,q3⟩,-⟩:=aB tH.u.2.2.2.1;go_simp;refine ov hK ⟨(tH.u).1.cell 0,(tH.u).2.1.cell 0,(tH.u).2.1.cell 1,(tH.u).2.1.cell 2,(tH.u).2.1.cell 3⟩ fun aEQ=>?_
      clear q0 q1 q2 q3
      exact Iq
   ·have hwx:(bits .and .i64 (p.x / 2 ^ k) 1==1)=true:=hbx;obtain ⟨⟨p0,p1,p2,p3⟩,-⟩:=aB HO.u.1;go_upto_region 8 with fail;clear p0 p1 p2 p3 hwx;obtain ⟨ix,hix⟩:=ex (lW p.n g k false);have HIx:Hid (∀w',Calls prog 218 #[iI p.n,.agg (gA g),iI (k:Int),.bool false] w' fun e w''=>e=.returned (.agg (jF ix))/\Ext w' w''):=fun w'=>by rw [<-hix];exact qI g p.n k false w' lu Qt HB.u.1.1 HB.u.1.2 HB.u.2.1.1 HB.u.2.1.2 HC.u HB.u.2.2
    obtain ⟨mx,hmx⟩:=ex (mulR r ix);have HMx:Hid (∀w',Calls prog 217 #[.agg (jF r),.agg (jF ix)] w' fun e w''=>(∃b,e=.returned (.tuple #[.agg (jF mx),.bool b]))/\Ext w' w''):=fun w'=>by
     refine (dF r ix w').mono ?_;rintro e w'' ⟨he,hx⟩
     exact ⟨⟨iO r && iO ix && r.n==ix.n,by rw [<-hmx];exact he⟩,hx⟩
    have HEx:Hid (cjX p g k r=mx):=by unfold Hid;rw [agY hbx,<-hmx,<-hix];rfl
    clear hix hmx hbx;have Dx0:=hY (HO.u.ext (xZ _).drew);refine dt (S:=fun W'=>W'.cell? (aA w.z 0)=some (iI p.n)/\(W'.cell? (aA (w.z+1) 0)=some (iI g.k)/\W'.cell? (aA (w.z+1) 1)=some (iI g.a)/\W'.cell? (aA (w.z+1) 2)=some (iI g.b)/\W'.cell? (aA (w.z+1) 3)=some (iI g.c))) af ⟨(HO.u.ext (xZ _).drew).1.cell 0,(HO.u.ext (xZ _).drew).2.1.cell 0,(HO.u.ext (xZ _).drew).2.1.cell 1,(HO.u.ext (xZ _).drew).2.1.cell 2,(HO.u.ext (xZ _).drew).2.1.cell 3⟩ (fun aEQ=>?_);refine tq 1 ?_;refine tq 2 ?_;refine tq 3 ?_;refine tq 4 ?_;refine o2 0 5 (fun K hK=>?ax) fun K hK=>?bx
    case' ax=>
     obtain ⟨⟨q0,q1,q2,q3⟩,-⟩:=aB Dx0.u.2.2.2.1;go_simp;refine ov hK ⟨(Dx0.u).1.cell 0,(Dx0.u).2.1.cell 0,(Dx0.u).2.1.cell 1,(Dx0.u).2.1.cell 2,(Dx0.u).2.1.cell 3⟩ fun aEQ=>?_
     clear q0 q1 q2 q3;refine o1 5 fun K hK=>?_
     go_simp;refine (HIx.u _).mono ?_;rintro e vx ⟨rfl,hy⟩;have On:=hY (Dx0.u.ext hy);clear hy;refine ov hK ⟨(On.u).1.cell 0,(On.u).2.1.cell 0,(On.u).2.1.cell 1,(On.u).2.1.cell 2,(On.u).2.1.cell 3⟩ fun aEQ=>?_
    case' bx=>
     go_simp;refine (HIx.u _).mono ?_;rintro e vx ⟨rfl,hy⟩;have On:=hY (Dx0.u.ext hy);clear hy;refine ov hK ⟨(On.u).1.cell 0,(On.u).2.1.cell 0,(On.u).2.1.cell 1,(On.u).2.1.cell 2,(On.u).2.1.cell 3⟩ fun aEQ=>?_
     refine o1 0 fun K hK=>?_
     obtain ⟨⟨q0,q1,q2,q3⟩,-⟩:=aB On.u.2.2.2.1;go_simp;refine ov hK ⟨(On.u).1.cell 0,(On.u).2.1.cell 0,(On.u).2.1.cell 1,(On.u).2.1.cell 2,(On.u).2.1.cell 3⟩ fun aEQ=>?_
     clear q0 q1 q2 q3
    all_goals
     refine o1 6 fun K hK=>?_
     go_simp;refine (HMx.u _).mono ?_;rintro e ux ⟨⟨bm,rfl⟩,hy⟩;have Dx2:=hY (On.u.ext hy);clear hy;refine ov hK ⟨(Dx2.u).1.cell 0,(Dx2.u).2.1.cell 0,(Dx2.u).2.1.cell 1,(Dx2.u).2.1.cell 2,(Dx2.u).2.1.cell 3⟩ fun aEQ=>?_
     refine tq 7 ?_;refine tq 8 ?_;refine tq 9 ?_;refine o1 10 fun K hK=>?_
     obtain ⟨⟨q0,q1,q2,q3⟩,f0,f1,f2,f3⟩:=aB Dx2.u.2.2.2.1;go_simp;have EX:=hY (Dx2.u.put mx);clear q0 q1 q2 q3 f0 f1 f2 f3;refine ov hK ⟨(EX.u).1.cell 0,(EX.u).2.1.cell 0,(EX.u).2.1.cell 1,(EX.u).2.1.cell 2,(EX.u).2.1.cell 3⟩ fun aEQ=>?_
     refine dn ?_;generalize ((((ux.setCell (aA q 0) (iI mx.n)).setCell (aA q 1) (iI mx.x)).setCell (aA q 2) (iI mx.z)).setCell (aA q 3) (iI mx.p))=Wx at*
     clear Dx0 On Dx2 HIx HMx;go_upto_region 9 with fail
     cases NJ:GJ p.z k
     ·have hwz:(bits .and .i64 (p.z / 2 ^ k) 1==1)=false:=NJ;have HEz:Hid (cjZ p g k mx=mx):=acj NJ;clear NJ;obtain ⟨⟨p0,p1,p2,p3⟩,-⟩:=aB EX.u.1;go_wp2;go_roundw
      case rel=>exact ⟨k+1,by first|rfl|rw [et],aa,by rw [HN.u,HEx.u,HEz.u];exact EX⟩
      case measure=>simp [intOf];omega
     ·have hwz:(bits .and .i64 (p.z / 2 ^ k) 1==1)=true:=NJ;obtain ⟨⟨p0,p1,p2,p3⟩,-⟩:=aB EX.u.1;go_upto_region 10 with fail;clear p0 p1 p2 p3 hwz;obtain ⟨iz,hiz⟩:=ex (lW p.n g k true);have HIz:Hid (∀w',Calls prog 218 #[iI p.n,.agg (gA g),iI (k:Int),.bool true] w' fun e w''=>e=.returned (.agg (jF iz))/\Ext w' w''):=fun w'=>yZ
      obtain ⟨mz,hmz⟩:=ex (mulR mx iz);have HMz:Hid (∀w',Calls prog 217 #[.agg (jF mx),.agg (jF iz)] w' fun e w''=>(∃b,e=.returned (.tuple #[.agg (jF mz),.bool b]))/\Ext w' w''):=fun w'=>by
       refine (dF mx iz w').mono ?_;rintro e w'' ⟨he,hx⟩
       exact ⟨⟨iO mx && iO iz && mx.n==iz.n,by rw [<-hmz];exact he⟩,hx⟩
      have HEz:Hid (cjZ p g k mx=mz):=zd
      clear hiz hmz NJ;have Om:=hY (EX.u.ext (xZ _).drew);refine dt (S:=fun W'=>W'.cell? (aA w.z 0)=some (iI p.n)/\(W'.cell? (aA (w.z+1) 0)=some (iI g.k)/\W'.cell? (aA (w.z+1) 1)=some (iI g.a)/\W'.cell? (aA (w.z+1) 2)=some (iI g.b)/\W'.cell? (aA (w.z+1) 3)=some (iI g.c))) af ⟨(EX.u.ext (xZ _).drew).1.cell 0,(EX.u.ext (xZ _).drew).2.1.cell 0,(EX.u.ext (xZ _).drew).2.1.cell 1,(EX.u.ext (xZ _).drew).2.1.cell 2,(EX.u.ext (xZ _).drew).2.1.cell 3⟩ (fun aEQ=>?_);refine tq 1 ?_;refine tq 2 ?_;refine tq 3 ?_;refine tq 4 ?_;refine o2 0 5 (fun K hK=>?_) fun K hK=>?_
      ·obtain ⟨⟨q0,q1,q2,q3⟩,-⟩:=aB Om.u.2.2.2.1;go_simp;refine ov hK ⟨(Om.u).1.cell 0,(Om.u).2.1.cell 0,(Om.u).2.1.cell 1,(Om.u).2.1.cell 2,(Om.u).2.1.cell 3⟩ fun aEQ=>?_
       clear q0 q1 q2 q3;refine o1 5 fun K hK=>?_
       go_simp;refine (HIz.u _).mono ?_;rintro e vz ⟨rfl,hy⟩;have tH:=hY (Om.u.ext hy);clear hy;refine ov hK ⟨(tH.u).1.cell 0,(tH.u).2.1.cell 0,(tH.u).2.1.cell 1,(tH.u).2.1.cell 2,(tH.u).2.1.cell 3⟩ fun aEQ=>?_
       exact Ir
      ·go_simp;refine (HIz.u _).mono ?_;rintro e vz ⟨rfl,hy⟩;have tH:=hY (Om.u.ext hy);clear hy;refine ov hK ⟨(tH.u).1.cell 0,(tH.u).2.1.cell 0,(tH.u).2.1.cell 1,(tH.u).2.1.cell 2,(tH.u).2.1.cell 3⟩ fun aEQ=>?_
       refine o1 0 fun K hK=>?_
       obtain ⟨⟨q0,q1,q2,q3⟩,-⟩:=aB tH.u.2.2.2.1;go_simp;refine ov hK ⟨(tH.u).1.cell 0,(tH.u).2.1.cell 0,(tH.u).2.1.cell 1,(tH.u).2.1.cell 2,(tH.u).2.1.cell 3⟩ fun aEQ=>?_
       clear q0 q1 q2 q3
       exact Ir
  ·have HR:Hid (cjN p g p.n.toNat=cjN p g k):=by unfold Hid;rw [show p.n.toNat=k by omega]
   obtain ⟨r,hr⟩:=ex (cjN p g k);rw [hr] at HO HR;clear hr;obtain ⟨⟨c0,c1,c2,c3⟩,z0,z1,z2,z3⟩:=aB HO.u.2.2.1;obtain ⟨⟨r0,r1,r2,r3⟩,-⟩:=aB HO.u.2.2.2.1;go_wp2;have wh:Hid (au (bR wr (w.heap.size+2) (iI r.n) (iI r.x) (iI r.z) (iI r.p)) (w.heap.size+2) 251 (jF r)):=HO.u.2.2.1.bR _ _ _ _;refine bJ (v:=.tuple #[r.val,.bool true]) ?_ rfl ?_
   rotate_left
   ·exact ⟨YS Ln.u HR.u rfl,aW (g:=w.heap.size+2) HO.u.2.2.2.2.1 aa _ _ _ _⟩
   ·exact aR rfl _ _ _ _ _ _ _ rfl rfl wh.u Bq rfl iY
namespace fr
section
variable (adj:Int->Int->Bool) (n:Nat)
def lvl (a:Int):Nat->Int->Bool
 |0,y=>y==a
 |s+1,y=>lvl a s y||(List.range n).any fun x=>lvl a s (x:Int) && adj (x:Int) y
def oC (a b:Int):Int:=match (List.range n).find? fun s=>lvl adj n a s b with
 |some s=>(s:Int)
 |none=> -1
end
section
variable {adj:Int->Int->Bool} {n:Nat} {a b:Int}
theorem gI {s:Nat} {y:Int}:lvl adj n a (s+1) y=true ↔ lvl adj n a s y=true\/∃x:Nat,x<n/\lvl adj n a s (x:Int)=true/\adj (x:Int) y=true:=by
 rw [lvl,Nw,CD];simp
theorem Db {s:Nat} {y:Int} (h:lvl adj n a s y=true):lvl adj n a (s+1) y=true:=gI.2 (.inl h)
theorem Iu {s t:Nat} {y:Int} (KT:s<=t) (h:lvl adj n a s y=true):lvl adj n a t y=true:=by
 induction KT with
 |refl=>exact h
 |step _ ih=>exact Db ih
theorem pT {s:Nat} (hs:s<n) (h:lvl adj n a s b=true) (h0:∀t,t<s->lvl adj n a t b=false):oC adj n a b=s:=by
 have:(List.range n).find? (fun s=>lvl adj n a s b)=some s:=by
  rw [List.find?_range_eq_some]
  exact ⟨h,sU hs,fun j hj=>by simp [h0 j hj]⟩
 unfold oC;rw [this]
theorem zX (h:∀t,t<n->lvl adj n a t b=false):oC adj n a b= -1:=by
 have:(List.range n).find? (fun s=>lvl adj n a s b)=none:=by
  rw [Ns];intro x hx;simp at hx;simp [h x hx]
 unfold oC;rw [this]
theorem least {p:Nat->Bool}:∀{m:Nat},p m=true->∃s,s<=m/\p s=true/\∀t,t<s->p t=false
 |0,h=>⟨0,lI _,h,fun t ht=>absurd ht aa⟩
 |m+1,h=>by
  by_cases hx:∃t,t<=m/\p t=true
  ·obtain ⟨t,ht,hp⟩:=hx;obtain ⟨s,hs,h1,h2⟩:=least hp
   exact ⟨s,aa,h1,h2⟩
  ·refine ⟨m+1,lI _,h,fun t ht=>?_⟩
   cases hp:p t
   ·rfl
   ·exact absurd ⟨t,aa,hp⟩ hx
theorem Ru (adj:Int->Int->Bool) (n:Nat) (a b:Int): -1<=oC adj n a b/\oC adj n a b<=n:=by
 unfold oC;split
 ·rename_i s h;have:=Tv h;simp at this;omega
 ·omega
theorem Zf {s:Nat} (h:oC adj n a b=s):s<n/\lvl adj n a s b=true/\∀t,t<s->lvl adj n a t b=false:=by
 by_cases hx:∃t,t<n/\lvl adj n a t b=true
 ·obtain ⟨t,ht,hp⟩:=hx;obtain ⟨u,hu,h1,h2⟩:=least (p:=fun t=>lvl adj n a t b) hp;have e:=pT (aa:u<n) h1 h2;rw [e] at h;have:u=s:=aa
  subst this
  exact ⟨aa,h1,h2⟩
 ·have e:=zX (adj:=adj) (n:=n) (a:=a) (b:=b) (fun t ht=>by
   cases hp:lvl adj n a t b
   ·rfl
   ·exact absurd ⟨t,ht,hp⟩ hx)
  omega
theorem UF (hn:0<n) (ha:a=b):oC adj n a b=0:=by
 subst ha
 exact pT (s:=0) hn (by simp [lvl]) (fun t ht=>absurd ht (Nat.not_lt_zero t))
theorem sC {i:Nat} (hi:i<n):∀{s:Nat} {j:Nat},j<n->(lvl adj n (i:Int) (s+1) (j:Int)=true ↔ lvl adj n (i:Int) s (j:Int)=true\/∃k:Nat,k<n/\adj (i:Int) (k:Int)=true/\lvl adj n (k:Int) s (j:Int)=true)
 |0,j,hj=>by
  rw [gI];constructor
  ·rintro (h|⟨x,hx,h1,h2⟩)
   ·exact .inl h
   ·simp [lvl] at h1;have:x=i:=aa
    subst this
    exact .inr ⟨j,hj,h2,by simp [lvl]⟩
  ·rintro (h|⟨k,hk,h1,h2⟩)
   ·exact .inl h
   ·simp [lvl] at h2;have:k=j:=aa
    subst this
    exact .inr ⟨i,hi,by simp [lvl],h1⟩
 |s+1,j,hj=>by
  rw [gI];constructor
  ·rintro (h|⟨x,hx,h1,h2⟩)
   ·exact .inl h
   ·rcases (sC hi hx).1 h1 with h|⟨k,hk,h3,h4⟩
    ·exact .inl (gI.2 (.inr ⟨x,hx,h,h2⟩))
    ·exact .inr ⟨k,hk,h3,gI.2 (.inr ⟨x,hx,h4,h2⟩)⟩
  ·rintro (h|⟨k,hk,h1,h2⟩)
   ·exact .inl h
   ·rcases gI.1 h2 with h|⟨x,hx,h3,h4⟩
    ·exact .inl ((sC hi hj).2 (.inr ⟨k,hk,h1,h⟩))
    ·exact .inr ⟨x,hx,(sC hi hx).2 (.inr ⟨k,hk,h1,h3⟩),h4⟩
theorem UG {i j d:Nat} (hi:i<n) (hj:j<n) (h:oC adj n (i:Int) (j:Int)=((d+1:Nat):Int)):∃k:Nat,k<n/\adj (i:Int) (k:Int)=true/\oC adj n (k:Int) (j:Int)=(d:Int):=by
 obtain ⟨h1,h2,h3⟩:=Zf h;rcases (sC hi hj).1 h2 with h4|⟨k,hk,h4,h5⟩
 ·rw [h3 d aa] at h4
  cases h4
 ·refine ⟨k,hk,h4,pT aa h5 (fun t ht=>?_)⟩
  cases hp:lvl adj n (k:Int) t (j:Int)
  ·rfl
  ·have:=(sC hi hj).2 (.inr ⟨k,hk,h4,hp⟩);rw [h3 (t+1) aa] at this
   cases this
theorem Mt {α:Type} {p q:α->Bool}:∀{l:List α},(∀x∈l,p x=true->q x=true)->(∃x∈l,q x=true/\p x=false)->l.countP p<l.countP q
 |[],_,⟨_,h,_⟩=>dX
 |y::l,hm,⟨x,hx,hq,hp⟩=>by
  have hle:l.countP p<=l.countP q:=List.countP_mono_left (fun z hz=>hm z (by simp [hz]));rcases jw.1 hx with rfl|hx
  ·rw [Tx (by simp [hp]),Nj hq];omega
  ·have ih:=Mt (fun z hz=>hm z (by simp [hz])) ⟨x,hx,hq,hp⟩
   cases h:p y
   ·rw [Tx aZ];have:=List.countP_le_length (p:=q) (l:=l)
    cases h':q y
    ·rw [Tx (by simp [h'])];exact ih
    ·rw [Nj h'];omega
   ·rw [Nj h,Nj (hm y ag h)];omega
theorem acL {s:Nat} {y:Int} (h:lvl adj n a (s+1+1) y=true) (h0:lvl adj n a (s+1) y=false):∃x:Nat,x<n/\lvl adj n a (s+1) (x:Int)=true/\lvl adj n a s (x:Int)=false:=by
 rcases gI.1 h with h1|⟨x,hx,h1,h2⟩
 ·rw [h0] at h1;cases h1
 ·refine ⟨x,hx,h1,?_⟩
  cases hp:lvl adj n a s (x:Int)
  ·rfl
  ·rw [gI.2 (.inr ⟨x,hx,hp,h2⟩)] at h0;cases h0
theorem WB:∀{s:Nat} {y:Int},lvl adj n a (s+1) y=true->lvl adj n a s y=false->∀u,u<s->∃x:Nat,x<n/\lvl adj n a (u+1) (x:Int)=true/\lvl adj n a u (x:Int)=false
 |0,_,_,_,u,hu=>absurd hu aa
 |s+1,y,h,h0,u,hu=>by
  obtain ⟨x,hx,h1,h2⟩:=acL h h0
  by_cases e:u=s
  ·subst e;exact ⟨x,hx,h1,h2⟩
  ·exact WB h1 h2 u aa
theorem Zg {i t:Nat} (hi:i<n) (h:∀u,u<t->∃x:Nat,x<n/\lvl adj n (i:Int) (u+1) (x:Int)=true/\lvl adj n (i:Int) u (x:Int)=false):t+1<=(List.range n).countP fun x:Nat=>lvl adj n (i:Int) t (x:Int):=by
 induction t with
 |zero=>
  have:0<(List.range n).countP fun x:Nat=>lvl adj n (i:Int) 0 (x:Int):=List.countP_pos_iff.2 ⟨i,sU hi,by simp [lvl]⟩
  omega
 |succ t ih=>
  have h1:=ih (fun u hu=>h u aa);obtain ⟨x,hx,h2,h3⟩:=h t aa;have:=Mt (l:=List.range n) (p:=fun x:Nat=>lvl adj n (i:Int) t (x:Int)) (q:=fun x:Nat=>lvl adj n (i:Int) (t+1) (x:Int)) (fun z _ hz=>Db hz) ⟨x,sU hx,h2,h3⟩;omega
theorem akT {i t y:Nat} (hi:i<n) (hy:y<n) (h:lvl adj n (i:Int) t (y:Int)=true) (h0:∀u,u<t->lvl adj n (i:Int) u (y:Int)=false):t<n:=by
 cases t with
 |zero=>omega
 |succ t=>
  have h1:=WB h (h0 t aa);have h2:∀u,u<t+1->∃x:Nat,x<n/\lvl adj n (i:Int) (u+1) (x:Int)=true/\lvl adj n (i:Int) u (x:Int)=false:=fun u hu=>by
   by_cases e:u=t
   ·subst e;exact ⟨y,hy,h,h0 u aa⟩
   ·exact h1 u aa
  have h3:=Zg hi h2;have h4:=List.countP_le_length (p:=fun x:Nat=>lvl adj n (i:Int) (t+1) (x:Int)) (l:=List.range n);rw [TK] at h4;omega
end
section
variable (adj:Int->Int->Bool) (n:Nat)
def Ee (s x y:Nat) (R:Nat->Int):Nat->Int:=fun z=>if z=y/\R x=(s:Int)/\R y<0/\adj (x:Int) (y:Int)=true then (s:Int)+1 else R z
def pY (s x:Nat) (R:Nat->Int):Nat->(Nat->Int)
 |0=>R
 |y+1=>Ee adj s x y (pY s x R y)
def pX (s:Nat) (R:Nat->Int):Nat->(Nat->Int)
 |0=>R
 |x+1=>pY adj s x (pX s R x) n
def pS (a:Nat):Nat->(Nat->Int)
 |0=>fun z=>if z=a then 0 else -1
 |s+1=>pX adj n s (pS a s) n
end
section
variable {adj:Int->Int->Bool} {n:Nat}
def Q (adj:Int->Int->Bool) (n s:Nat) (R0:Nat->Int) (x y:Nat) (R:Nat->Int):Prop:=
 ∀z,z<n->(0<=R0 z->R z=R0 z)/\(R0 z<0->(R z=(s:Int)+1/\∃x':Nat,x'<n/\R0 x'=(s:Int)/\adj (x':Int) (z:Int)=true)\/(R z=R0 z/\∀x':Nat,x'<x\/(x'=x/\z<y)->¬(R0 x'=(s:Int)/\adj (x':Int) (z:Int)=true)))
theorem Q.cell {s x y:Nat} {R0 R:Nat->Int} (hx:x<n) (hy:y<n) (h:Q adj n s R0 x y R):Q adj n s R0 x (y+1) (Ee adj s x y R):=by
 intro z hz;have hRx:R x=(s:Int) ↔ R0 x=(s:Int):=by
  rcases Int.lt_or_le (R0 x) 0 with pH|Oo
  ·rcases (h x hx).2 pH with ⟨e,_⟩|⟨e,_⟩<;>omega
  ·rw [(h x hx).1 Oo]
 have hRy:R y<0->R0 y<0/\R y=R0 y:=fun ba=>by
  rcases Int.lt_or_le (R0 y) 0 with pH|Oo
  ·rcases (h y hy).2 pH with ⟨e,_⟩|⟨e,_⟩
   ·omega
   ·exact ⟨pH,e⟩
  ·have:=(h y hy).1 Oo;omega
 unfold Ee
 by_cases hc:z=y/\R x=(s:Int)/\R y<0/\adj (x:Int) (y:Int)=true
 ·rw [aY hc];obtain ⟨rfl,h1,h2,h3⟩:=hc;have h4:=hRy h2
  exact ⟨fun h0=>aa,fun _=> .inl ⟨rfl,x,hx,hRx.1 h1,h3⟩⟩
 ·rw [aM hc];refine ⟨(h z hz).1,fun pH=>?_⟩;rcases (h z hz).2 pH with h1|⟨h1,h2⟩
  ·exact .inl h1
  ·refine .inr ⟨h1,fun x' sr=>?_⟩
   by_cases e:x'=x/\z=y
   ·obtain ⟨rfl,rfl⟩:=e;rintro ⟨h5,h6⟩
    exact hc ⟨rfl,hRx.2 h5,aa,h6⟩
   ·refine h2 x' ?_;omega
theorem Q.row {s x:Nat} {R0 R:Nat->Int} (hx:x<n) (h:Q adj n s R0 x 0 R):∀y,y<=n->Q adj n s R0 x y (pY adj s x R y)
 |0,_=>h
 |y+1,hy=>(Q.row hx h y aa).cell hx aa
theorem Q.next {s x:Nat} {R0 R:Nat->Int} (h:Q adj n s R0 x n R):Q adj n s R0 (x+1) 0 R:=by
 intro z hz;refine ⟨(h z hz).1,fun pH=>?_⟩;rcases (h z hz).2 pH with h1|⟨h1,h2⟩
 ·exact .inl h1
 ·exact .inr ⟨h1,fun x' sr=>h2 x' aa⟩
theorem Q.start (adj:Int->Int->Bool) (n s:Nat) (R0:Nat->Int):Q adj n s R0 0 0 R0:=fun z _=>⟨fun _=>rfl,fun _=> .inr ⟨rfl,fun x' sr=>aa⟩⟩
theorem Q.all {s:Nat} (R0:Nat->Int):∀x,x<=n->Q adj n s R0 x 0 (pX adj n s R0 x)
 |0,_=>Q.start _ _ _ _
 |x+1,hx=>((Q.all R0 x aa).row aa n (lI _)).next
def Far (adj:Int->Int->Bool) (n:Nat) (a:Int) (s:Nat) (R:Nat->Int):Prop:=
 ∀z,z<n->(R z= -1/\lvl adj n a s (z:Int)=false)\/∃t:Nat,t<=s/\R z=(t:Int)/\lvl adj n a t (z:Int)=true/\∀u,u<t->lvl adj n a u (z:Int)=false
theorem Far.start (adj:Int->Int->Bool) (n a:Nat):Far adj n (a:Int) 0 (pS adj n a 0):=by
 intro z hz;unfold pS
 by_cases e:z=a
 ·rw [aY e]
  exact .inr ⟨0,lI _,rfl,by simp [lvl,e],fun u hu=>absurd hu aa⟩
 ·rw [aM e]
  exact .inl ⟨rfl,by simp [lvl];omega⟩
theorem Far.step {a:Int} {s:Nat} {R:Nat->Int} (h:Far adj n a s R):Far adj n a (s+1) (pX adj n s R n):=by
 have hQ:=Q.all (adj:=adj) (s:=s) R n (lI n);have hval:∀x,x<n->(R x=(s:Int) ↔ lvl adj n a s (x:Int)=true/\∀u,u<s->lvl adj n a u (x:Int)=false):=fun x hx=>by
  rcases h x hx with ⟨e,h1⟩|⟨t,ht,e,h1,h2⟩
  ·exact ⟨fun h'=>aa,fun h'=>by rw [h'.1] at h1;cases h1⟩
  ·constructor
   ·intro h';have:t=s:=aa
    subst this
    exact ⟨h1,h2⟩
   ·intro h';have:t=s:=by
     rcases od t s with ba|uU
     ·rw [h'.2 t ba] at h1;cases h1
     ·omega
    omega
 intro z hz;rcases h z hz with ⟨e,h1⟩|⟨t,ht,e,h1,h2⟩
 ·rcases (hQ z hz).2 aa with ⟨h3,x,hx,h4,h5⟩|⟨h3,h4⟩
  ·refine .inr ⟨s+1,lI _,by rw [h3];omega,gI.2 (.inr ⟨x,hx,((hval x hx).1 h4).1,h5⟩),fun u hu=>?_⟩
   cases hp:lvl adj n a u (z:Int)
   ·rfl
   ·rw [Iu (aa:u<=s) hp] at h1;cases h1
  ·refine .inl ⟨by rw [h3,e],?_⟩
   cases hp:lvl adj n a (s+1) (z:Int)
   ·rfl
   ·rcases gI.1 hp with h5|⟨x,hx,h5,h6⟩
    ·rw [h1] at h5;cases h5
    ·refine absurd ⟨(hval x hx).2 ⟨h5,fun u hu=>?_⟩,h6⟩ (h4 x (.inl hx))
     cases hq:lvl adj n a u (x:Int)
     ·rfl
     ·rw [Iu (aa:u+1<=s) (gI.2 (.inr ⟨x,hx,hq,h6⟩))] at h1;cases h1
 ·refine .inr ⟨t,aa,?_,h1,h2⟩;rw [(hQ z hz).1 aa,e]
theorem Far.all (adj:Int->Int->Bool) (n a:Nat):∀s,Far adj n (a:Int) s (pS adj n a s)
 |0=>Far.start adj n a
 |s+1=>(Far.all adj n a s).step
theorem asl {a b:Nat} (ha:a<n) (hb:b<n):pS adj n a n b=oC adj n (a:Int) (b:Int):=by
 rcases Far.all adj n a n b hb with ⟨e,h1⟩|⟨t,ht,e,h1,h2⟩
 ·rw [e,zX];intro t ht
  cases hp:lvl adj n (a:Int) t (b:Int)
  ·rfl
  ·rw [Iu (aa:t<=n) hp] at h1;cases h1
 ·rw [e,pT (akT ha hb h1 h2) h1 h2]
theorem Rv {s x y:Nat} {R:Nat->Int} (h:∀z, -1<=R z/\R z<=5) (hs:s<=4) (z:Nat): -1<=Ee adj s x y R z/\Ee adj s x y R z<=5:=by
 unfold Ee;split
 ·omega
 ·exact h z
theorem Rw {s x:Nat} {R:Nat->Int} (h:∀z, -1<=R z/\R z<=5) (hs:s<=4):∀y z, -1<=pY adj s x R y z/\pY adj s x R y z<=5
 |0,z=>h z
 |y+1,z=>Rv (Rw h hs y) hs z
theorem Rx {s:Nat} {R:Nat->Int} (h:∀z, -1<=R z/\R z<=5) (hs:s<=4):∀x z, -1<=pX adj n s R x z/\pX adj n s R x z<=5
 |0,z=>h z
 |x+1,z=>Rw (Rx h hs x) hs n z
theorem acM (adj:Int->Int->Bool) (n a:Nat):∀s,s<=4->∀z, -1<=pS adj n a s z/\pS adj n a s z<=5
 |0,_,z=>by unfold pS;split<;>omega
 |s+1,hs,z=>Rx (acM adj n a s aa) aa n z
end
section
variable (adj:Int->Int->Bool) (n:Nat)
def rK (m:Int) (l:List Int):Nat->List Int
 |0=>l
 |k+1=>if (adj m (k:Int) && !(gf (rK m l k) (k:Int)))=true then rK m l k++[(k:Int)] else rK m l k
def rI (met:List Int):Nat->List Int
 |0=>met
 |i+1=>rK adj (met.getD i 0) (rI met i) n
def rS (a:Int):Nat->List Int
 |0=>[a]
 |s+1=>rI adj n (rS a s) (rS a s).length
end
section
variable {adj:Int->Int->Bool} {n:Nat}
theorem Ry {l:List Int} {y:Int}:gf l y=true ↔ y∈l:=by unfold gf;simp
theorem acN {m:Int} {l:List Int} {y:Int}:∀k,y∈rK adj m l k ↔ y∈l\/∃j:Nat,j<k/\y=(j:Int)/\adj m (j:Int)=true
 |0=>by simp [rK]
 |k+1=>by
  have ih:=acN (m:=m) (l:=l) (y:=y) k;unfold rK;split
  ·rename_i hc;simp at hc;rw [iT,ih];constructor
   ·rintro ((h|⟨j,h1,h2⟩)|h)
    ·exact .inl h
    ·exact .inr ⟨j,aa,h2⟩
    ·simp at h;exact .inr ⟨k,aa,h,hc.1⟩
   ·rintro (h|⟨j,h1,h2,h3⟩)
    ·exact .inl (.inl h)
    ·by_cases e:j=k
     ·subst e;exact .inr eY
     ·exact .inl (.inr ⟨j,aa,h2,h3⟩)
  ·rename_i hc;rw [ih];constructor
   ·rintro (h|⟨j,h1,h2⟩)
    ·exact .inl h
    ·exact .inr ⟨j,aa,h2⟩
   ·rintro (h|⟨j,h1,h2,h3⟩)
    ·exact .inl h
    ·by_cases e:j=k
     ·subst e;subst h2
      cases hh:gf (rK adj m l j) (j:Int)
      ·rw [h3,hh] at hc;simp at hc
      ·exact ih.1 (Ry.1 hh)
     ·exact .inr ⟨j,aa,h2,h3⟩
theorem acO {met:List Int} {y:Int}:∀i,i<=met.length->(y∈rI adj n met i ↔ y∈met\/∃i':Nat,i'<i/\∃j:Nat,j<n/\y=(j:Int)/\adj (met.getD i' 0) (j:Int)=true)
 |0,_=>by simp [rI]
 |i+1,hi=>by
  rw [rI,acN,acO i aa];constructor
  ·rintro ((h|⟨i',h1,h2⟩)|h)
   ·exact .inl h
   ·exact .inr ⟨i',aa,h2⟩
   ·exact .inr ⟨i,aa,h⟩
  ·rintro (h|⟨i',h1,h2⟩)
   ·exact .inl (.inl h)
   ·by_cases e:i'=i
    ·subst e;exact .inr h2
    ·exact .inl (.inr ⟨i',aa,h2⟩)
theorem akU {met:List Int} {y:Int}:y∈rI adj n met met.length ↔ y∈met\/∃m∈met,∃j:Nat,j<n/\y=(j:Int)/\adj m (j:Int)=true:=by
 rw [acO _ (lI _)];constructor
 ·rintro (h|⟨i,hi,h⟩)
  ·exact .inl h
  ·refine .inr ⟨met.getD i 0,?_,h⟩;rw [lP,lB hi]
   exact FO hi
 ·rintro (h|⟨m,hm,h⟩)
  ·exact .inl h
  ·obtain ⟨i,hi,rfl⟩:=TC hm;refine .inr ⟨i,hi,?_⟩;rw [lP,lB hi]
   exact h
theorem Ot {a:Nat} (ha:a<n):∀s {y:Int},y∈rS adj n (a:Int) s ↔ ∃j:Nat,j<n/\y=(j:Int)/\lvl adj n (a:Int) s (j:Int)=true
 |0,y=>by
  unfold rS;constructor
  ·intro h;simp at h
   exact ⟨a,ha,h,by simp [lvl]⟩
  ·rintro ⟨j,hj,h1,h2⟩;simp [lvl] at h2;simp [h1,h2]
 |s+1,y=>by
  rw [rS,akU,Ot ha s];constructor
  ·rintro (⟨j,hj,h1,h2⟩|⟨m,hm,j,hj,h1,h2⟩)
   ·exact ⟨j,hj,h1,Db h2⟩
   ·obtain ⟨x,hx,rfl,h3⟩:=(Ot ha s).1 hm
    exact ⟨j,hj,h1,gI.2 (.inr ⟨x,hx,h3,h2⟩)⟩
  ·rintro ⟨j,hj,h1,h2⟩;rcases gI.1 h2 with h3|⟨x,hx,h3,h4⟩
   ·exact .inl ⟨j,hj,h1,h3⟩
   ·exact .inr ⟨(x:Int),(Ot ha s).2 ⟨x,hx,rfl,h3⟩,j,hj,h1,h4⟩
theorem akV {a b:Nat} (ha:a<n) (hb:b<n) (s:Nat):gf (rS adj n (a:Int) s) (b:Int)=lvl adj n (a:Int) s (b:Int):=by
 rw [Nx,Ry,Ot ha s];constructor
 ·rintro ⟨j,hj,h1,h2⟩;rwa [h1]
 ·intro h
  exact ⟨b,hb,rfl,h⟩
theorem UH {m:Int} {l:List Int}:∀k,(rK adj m l k).length<=l.length+k
 |0=>by simp [rK]
 |k+1=>by
  have:=UH (m:=m) (l:=l) k;unfold rK;split
  ·simp;omega
  ·omega
theorem UI {met:List Int}:∀i,(rI adj n met i).length<=met.length+i*n
 |0=>by simp [rI]
 |i+1=>by
  have h1:=UI (met:=met) i;have h2:=UH (adj:=adj) (m:=met.getD i 0) (l:=rI adj n met i) n;rw [rI,vS];omega
theorem acP (hn:n<=4) (a:Int):∀s,(rS adj n a s).length<=5 ^ s
 |0=>by simp [rS]
 |s+1=>by
  have h1:=acP hn a s;have h2:=UI (adj:=adj) (n:=n) (met:=rS adj n a s) (rS adj n a s).length;have h3:(rS adj n a s).length*n<=(rS adj n a s).length*4:=Nat.mul_le_mul_left _ hn;rw [rS,Nat.pow_succ];omega
theorem acQ (hn:n<=4) (a:Int) {s:Nat} (hs:s<=4):(rS adj n a s).length<=625:=by
 have h1:=acP (adj:=adj) hn a s;have h2:5 ^ s<=5 ^ 4:=DB aa hs;omega
theorem acR {met:List Int} (hm:met.length<=625) (hn:n<=4) {i:Nat} (hi:i<=met.length):(rI adj n met i).length<=3125:=by
 have h1:=UI (adj:=adj) (n:=n) (met:=met) i;have h2:i*n<=625*4:=CE aa hn;omega
end
end fr
def uL (es:List Ed) (a b:Int):Bool:=gP es a b||gP es b a
def gd (x:Gr) (a b:Int):Int:=if 1<=x.n/\x.n<=4/\0<=a/\a<x.n/\0<=b/\b<x.n then fr.oC (uL x.es) x.n.toNat a b else -1
theorem Rz {x:Gr} {a b:Int} (h:¬(1<=x.n/\x.n<=4/\0<=a/\a<x.n/\0<=b/\b<x.n)):gd x a b= -1:=aM h
theorem Ou {x:Gr} {a b:Int} {n:Nat} (h:x.n=n) (h1:1<=n) (h2:n<=4) (h3:0<=a) (h4:a<n) (h5:0<=b) (h6:b<n):gd x a b=fr.oC (uL x.es) n a b:=by
 unfold gd;rw [aY aa,h];rfl
theorem sD (x:Gr) (a b:Int): -1<=gd x a b/\gd x a b<=4:=by
 unfold gd;split
 ·have:=fr.Ru (uL x.es) x.n.toNat a b;omega
 ·omega
def okP (p:List Int) (i:Nat) (x:Int):Bool:=decide (0<=x) && decide (x<=(p.length:Int) - 1) && !(gf (p.take i) x)
def qP (p:List Int) (k:Nat):Bool:=(List.range k).all fun i=>okP p i (p.getD i 0)
def perm (p:List Int):Bool:=qP p p.length && (decide (1<=p.length) && decide (p.length<=4))
theorem Iv {p:List Int} {k:Nat} {x:Int} (h:p[k]?=some x):qP p (k+1)=(qP p k && okP p k x):=by
 unfold qP;rw [FR,qG];simp [h]
theorem Fg {p:List Int} {k:Nat} {x:Int} (h:p[k]?=some x) (hx:okP p k x=false):perm p=false:=by
 have hk:=(gu.1 h).1;have:qP p p.length=false:=by
  rw [Qq];intro ha;unfold qP at ha;rw [lO] at ha;have:=ha k fR;rw [lP,h] at this;simp [hx] at this
 simp [perm,this]
theorem RA {p:List Int} (h:p.length<1\/4<p.length):perm p=false:=by
 unfold perm;rcases h with h|h
 ·have e:decide (1<=p.length)=false:=lZ aa;rw [e];simp
 ·have e:decide (p.length<=4)=false:=lZ aa;rw [e];simp
theorem RB {p:List Int} (h:qP p p.length=true) (h1:1<=p.length) (h2:p.length<=4):perm p=true:=by
 simp [perm,h,h1,h2]
theorem WD {p:List Int} {k n:Nat} {x:Int} (hn:p.length=n) (h:x<0\/(n:Int) - 1<x):okP p k x=false:=by
 subst hn;unfold okP;rcases h with h|h
 ·have e:decide (0<=x)=false:=ai
  simp [e]
 ·have e:decide (x<=(p.length:Int) - 1)=false:=ai
  simp [e]
theorem Ov {p:List Int} {k n:Nat} {x:Int} {s:Bool} (hn:p.length=n) (h1:0<=x) (h2:x<=(n:Int) - 1) (hs:gf (p.take k) x=s):okP p k x=!s:=by
 subst hn;unfold okP;rw [hs];simp [h1,h2]
def RC (p:List Int) (k:Nat):Array Value:=#[.bool (gf (p.take k) 0),.bool (gf (p.take k) 1),.bool (gf (p.take k) 2),.bool (gf (p.take k) 3)]
theorem Zh {p:List Int} {k:Nat} {x:Int} (h:p[k]?=some x) (y:Int):gf (p.take (k+1)) y=(gf (p.take k) y||y==x):=by
 unfold gf;rw [aS h];simp [FJ]
 by_cases e:y=x<;>simp [e]
theorem Zi {p:List Int} {k j:Nat} (h:p[k]?=some (j:Int)) (hj:j<4):(RC p k).setIfInBounds j (.bool true)=RC p (k+1):=by
 unfold RC;simp only [Zh h];rcases (aa:j=0\/j=1\/j=2\/j=3) with rfl|rfl|rfl|rfl<;>simp [Array.setIfInBounds]<;>rfl
theorem acS (p:List Int) (k j:Nat) (hj:j<4):(RC p k)[j]?=some (.bool (gf (p.take k) (j:Int))):=by
 rcases (aa:j=0\/j=1\/j=2\/j=3) with rfl|rfl|rfl|rfl<;>rfl
theorem nF {P:Prop} (h:P:=by
 go_wp2;go_ret
 exact ⟨aI HF.u.symm,xx⟩):P:=h
theorem zY {P:Prop} (h:P:=by
 go_wp2;go_ret
 exact ⟨aI HF.u.symm,hx⟩):P:=h
theorem kX (A:OA) (n c:Nat) (p:List Int) (w:World) (h:Rd w w.heap.size 1 A n (aD p)) (hn:n<=2000000000000):
  Calls prog 23 #[.slice A n c] w fun e w'=>e=.returned (.bool (perm p))/\Ext w w':=by
 have hlen:=hY (h.len bG aa);go_enter func23,ntmps23
 by_cases hb:n<1\/4<n
 ·have HF:=hY (RA (p:=p) (by rw [hlen.u];exact hb));have HR:Hid ((n:Int)<1\/(4:Int)<n):=bN
  clear hb;go_wp2_with fail;refine (px _ _ _ _ HR.u).mono ?_;rintro e w1 ⟨rfl,rfl⟩
  exact nF
 have jX:1<=n:=aa
 have zn:n<=4:=aa
 clear hb;go_wp2_with fail;refine (gS _ _ _ _ aa aa).mono ?_;rintro e w1 ⟨rfl,rfl⟩;go_wp2
 go_loopw [13] (fun i wr=>∃k:Nat,k<=n/\i=iI k/\Hid (qP p k=true)/\au wr w.heap.size 68 (RC p k)/\Ext w wr) (fun i _=>n - (intOf i).toNat)
 case atStart=>exact ⟨0,lJ _,rfl,hY (by simp [qP]),au.new _ _ _,xx⟩
 case round=>
  obtain ⟨k,hk,rfl,HQ,hB,hx⟩:=hrel
  by_cases ba:k<n
  ·obtain ⟨b,o,x,rfl,hb,cD,h0⟩:=du (h.ext hx) ba;have HG:=hY cD;clear cD
   by_cases hr:x<0\/(n:Int) - 1<x
   ·have HF:=hY (Fg HG.u (WD hlen.u hr));have HR:=hY hr;clear hr;go_wp2_with fail;refine (px _ _ _ _ HR.u).mono ?_;rintro e w1 ⟨rfl,rfl⟩
    exact zY
   ·obtain ⟨j,rfl⟩:=lD (show 0<=x by omega);have hj:j<n:=aa
    clear hr;have hc:wr.cell? (aA w.z j)=some (.bool (gf (p.take k) (j:Int))):=by rw [hB.cell j,acS _ _ _ aa]
    have hf:wr.frozen? (aA w.z j)=false:=hB.frozen j;have HB:=hY hB;clear hB
    cases hs:gf (p.take k) (j:Int)
    ·rw [hs] at hc;have HN:=hY (Iv HG.u);rw [HQ.u,Ov hlen.u aa aa hs] at HN;go_wp2_with fail;refine (gS _ _ _ _ aa aa).mono ?_;rintro e w1 ⟨rfl,rfl⟩;go_wp2;go_roundw
     case rel=>exact ⟨k+1,aa,az,HN,by rw [<-Zi HG.u aa];exact HB.u.aU j _,hx.setCell (lI _) _⟩
     case measure=>simp [intOf];omega
    ·rw [hs] at hc;have HF:=hY (Fg HG.u (Ov hlen.u aa aa hs));go_wp2_with fail;refine (gS _ _ _ _ aa aa).mono ?_;rintro e w1 ⟨rfl,rfl⟩
     exact zY
  ·obtain rfl:k=n:=aa
   have HF:=hY (RB (p:=p) (by rw [hlen.u];exact HQ.u) bQ bQ)
   exact zY
theorem bU (A:OA) (n c:Nat) (p:List Int) (w:World) (h:Rd w w.heap.size 1 A n (aD p)) (hn:n<=2000000000000) (hc:n<=c):
  Calls prog 25 #[.slice A n c] w fun e w'=>e=.returned (.bool (perm p))/\Ext w w':=by
 have hlen:=hY (h.len bG aa);go_enter func25,ntmps25;go_wp2
 go_loopw [3] (fun i wr=>∃k:Nat,k<=n/\i=iI k/\Hid (qP p k=true)/\∃r,wr=w.drewN r) (fun i _=>n - (intOf i).toNat)
 case atStart=>exact ⟨0,aa,rfl,hY (by simp [qP]),0,rfl⟩
 case round=>
  obtain ⟨k,hk,rfl,HQ,r,rfl⟩:=hrel
  by_cases ba:k<n
  ·obtain ⟨b,o,x,rfl,hb,cD,h0⟩:=du h ba;have HG:=hY cD;clear cD;have hkc:(k:Int)<=(c:Int):=aa
   have KP:decide ((k:Int)<(n:Int))=true:=ai
   by_cases hr:x<0\/(n:Int) - 1<x
   ·have HF:=hY (Fg HG.u (WD hlen.u hr));have HR:=hY hr;clear hr;go_wp2;go_quiet ((go_at_call 26;(with_reducible refine fY (bP _ _ _ _ ?_));exact HR.u))
    exact nF
   ·have HH1:Hid (0<=x):=bN
    have HH2:Hid (x<=(n:Int) - 1):=bN
    clear hr;have hRk:=zJ h (yw ba);rw [qK] at hRk;have HRk:Hid (∀z,Rd (w.drewN z) (w.drewN z).heap.size 1 (some ⟨b,o,none⟩) k (aD (p.take k))):=fun z=>hRk.ext ((xZ w).drewN z)
    clear hRk
    cases hs:gf (p.take k) x
    ·have HN:=hY (Iv HG.u);rw [HQ.u,Ov hlen.u HH1.u HH2.u hs] at HN;go_wp2;go_quiet (first|(go_at_call 26;(with_reducible refine fY (aF _ _ _ _ HH1.u ?_));exact HH2.u)|(go_at_call 47;(with_reducible refine fY (dE _ k c (p.take k) x _ (HRk.u _) ?_));omega));go_wp2;go_roundw
     case rel=>exact ⟨k+1,aa,az,HN,_,rfl⟩
     case measure=>simp [intOf];omega
    ·have HF:=hY (Fg HG.u (Ov hlen.u HH1.u HH2.u hs));go_wp2;go_quiet (first|(go_at_call 26;(with_reducible refine fY (aF _ _ _ _ HH1.u ?_));exact HH2.u)|(go_at_call 47;(with_reducible refine fY (dE _ k c (p.take k) x _ (HRk.u _) ?_));omega))
     exact nF
  ·obtain rfl:k=n:=aa
   by_cases hb:k<1\/4<k
   ·have HF:=hY (RA (p:=p) (by rw [hlen.u];exact hb));have HR:Hid ((k:Int)<1\/(4:Int)<k):=bN
    clear hb;go_wp2_with fail;refine (bP _ _ _ _ HR.u).mono ?_;rintro e w1 ⟨rfl,rfl⟩
    exact nF
   ·have HF:=hY (RB (p:=p) (by rw [hlen.u];exact HQ.u) bQ bQ);go_wp2_with fail;refine (aF _ _ _ _ aa aa).mono ?_;rintro e w1 ⟨rfl,rfl⟩
    exact nF
end Go.Proofs.YtodhjgngkkcjgaaGreatDoor
