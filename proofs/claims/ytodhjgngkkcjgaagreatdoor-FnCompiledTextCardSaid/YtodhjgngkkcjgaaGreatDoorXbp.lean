import Derived.Test.YtodhjgngkkcjgaaGreatDoorXbn
import Derived.Test.YtodhjgngkkcjgaaGreatDoorXbj
namespace Go.Proofs.YtodhjgngkkcjgaaGreatDoor
open Go.ChangeShapes Go.WideShapes Go.ChangeAt Go.RowKit Go.Deep Go.Proofs.Tryz
set_option linter.unusedVariables false
set_option linter.unusedSimpArgs false
set_option maxRecDepth 100000
set_option maxHeartbeats 16000000
def uy (x:Rt) (y:Gr) (mode:Int) (r:Option Cm):Prop:=
 if (Tt x && je y && decide (x.n<=y.n))=true then
  ∃l1 l2,afh y.n (br x.ops) l1/\(match ER y (br l1) (vH y (aE (br l1))) mode with
   |none=>r=none
   |some t=>if iK y t.1=true then afh y.n (jg y t.1) l2/\r=some ⟨y.n,x.bits,if Hx y (aE l2)=true then l2 else jg y t.1,vH y (aE (br l1)),t.2⟩ else r=none)
 else r=none
def aix (w:World) (r:Option Cm) (e:Ending) (w':World):Prop:=match r with
 |none=>e=.returned (.tuple #[.agg jG,.bool false])
 |some z=>∃(A1 A2 A3:OA) (c1 c2 c3 b1:Nat),e=.returned (.tuple #[.agg #[iI z.n,iI z.bits,.slice A1 z.ops.length c1,.slice A2 z.st.length c2,.slice A3 z.fin.length c3],.bool true])/\w'.ownsRow w.heap.size 41 8 (.slice A1 z.ops.length c1) z.ops.length (aJ z.ops)/\
   w'.ownsRow w.heap.size 3 1 (.slice A2 z.st.length c2) z.st.length (aD z.st)/\w'.ownsRow w.heap.size 3 1 (.slice A3 z.fin.length c3) z.fin.length (aD z.fin)/\(∀g,(Value.slice A2 z.st.length c2).ownBlock=some g->g<b1)/\∀g,(Value.slice A3 z.fin.length c3).ownBlock=some g->b1<=g
theorem bM {w:World} {g t:Nat} {a b c d e:Value} (h:au w g t #[a,b,c,d,e]):(w.cell? (aA g 0)=some a/\w.cell? (aA g 1)=some b/\w.cell? (aA g 2)=some c/\w.cell? (aA g 3)=some d/\w.cell? (aA g 4)=some e)/\w.frozen? (aA g 0)=false/\w.frozen? (aA g 1)=false/\w.frozen? (aA g 2)=false/\w.frozen? (aA g 3)=false/\w.frozen? (aA g 4)=false:=
 ⟨⟨h.cell 0,h.cell 1,h.cell 2,h.cell 3,h.cell 4⟩,h.frozen 0,h.frozen 1,h.frozen 2,h.frozen 3,h.frozen 4⟩
def nQ (w:World) (g:Nat) (a b c d e:Value):World:=((((w.setCell (aA g 0) a).setCell (aA g 1) b).setCell (aA g 2) c).setCell (aA g 3) d).setCell (aA g 4) e
theorem au.nQ {w:World} {g t:Nat} {z0 z1 z2 z3 z4:Value} (h:au w g t #[z0,z1,z2,z3,z4]) (a b c d e:Value):au (nQ w g a b c d e) g t #[a,b,c,d,e]:=((((h.aU 0 a).aU 1 b).aU 2 c).aU 3 d).aU 4 e
theorem js {w0 w:World} (h:Ext w0 w) {g:Nat} (hg:w0.heap.size<=g) (a b c d e:Value):Ext w0 (nQ w g a b c d e):=
 ((((h.setCell (p:=(aA g 0)) hg a).setCell (p:=(aA g 1)) hg b).setCell (p:=(aA g 2)) hg c).setCell (p:=(aA g 3)) hg d).setCell (p:=(aA g 4)) hg e
theorem oX {w:World} {B e s n g t:Nat} {v:Value} {xs:List Value} {z0 z1 z2 z3 z4:Value} (h:w.ownsRow B e s v n xs) (h':au w g t #[z0,z1,z2,z3,z4]) (he:e≠t) (a b c d f:Value):(nQ w g a b c d f).ownsRow B e s v n xs:=
 gL (gL (gL (gL (gL h h' he 0 a) (h'.aU 0 a) he 1 b) ((h'.aU 0 a).aU 1 b) he 2 c) (((h'.aU 0 a).aU 1 b).aU 2 c) he 3 d) ((((h'.aU 0 a).aU 1 b).aU 2 c).aU 3 d) he 4 f
theorem PZ (x:Gr) (mode:Int):∀(xs:List Oq) (now:List Int),perm now=true->∀t,sN x mode xs now=some t->t.2.length=now.length
 |[],now,_,t,h=>by simp [sN] at h;subst h;rfl
 |o::r,now,hp,t,h=>by
  unfold sN at h;split at h
  ·split at h
   ·rw [Nk] at h;obtain ⟨t2,h2,rfl⟩:=h;have h3:=XW (x:=x) (mode:=mode) (g:=o.g) hp;rw [PZ x mode r _ h3.1 t2 h2,h3.2]
   ·cases h
  ·split at h
   ·split at h
    ·rw [Nk] at h;obtain ⟨t2,h2,rfl⟩:=h
     exact PZ x mode r now hp t2 h2
    ·cases h
   ·exact PZ x mode r now hp t h
theorem amS {x:Gr} {xs:List Oq} {p:List Int} {mode:Int} {t:List Oq ×List Int} (h:ER x xs p mode=some t):(1<=p.length/\p.length<=4)/\t.2.length=p.length/\(p.length:Int)=x.n:=by
 unfold ER at h;split at h
 ·rename_i hc;rw [lF] at hc;have hl:=hc.1;unfold lay at hl;simp only [lF] at hl;have hp:=hl.1.2;have h9:=PZ x mode xs p hp t h;have h8:=Ch.1 hp
  exact ⟨h8.1,h9,eS.1 hl.2⟩
 ·cases h
theorem ajV {x:Gr} (h:je x=true):1<=x.n/\x.n<=4:=by
 unfold je conn at h;simp only [lF,kh] at h;omega
theorem uy.bd {x:Rt} {y:Gr} {mode:Int} {z:Cm} (h:uy x y mode (some z)):(1<=z.n/\z.n<=4)/\z.ops.length<=40000000000/\z.st.length<=4/\z.fin.length<=4:=by
 unfold uy at h;split at h
 ·rename_i hc;obtain ⟨l1,l2,h1,h2⟩:=h;simp only [lF] at hc;have hv:=(aeT hc.1.1).2;have a1:=xr x.ops;have a2:=Cv h1;have a3:=xr l1
  cases hro:ER y (br l1) (vH y (aE (br l1))) mode with
  |none=>rw [hro] at h2;cases h2
  |some t=>
   rw [hro] at h2;simp only at h2;split at h2
   ·obtain ⟨h3,h4⟩:=h2
    cases h4
    obtain ⟨t1,t2⟩:=t;have b1:=afm hro;have b2:=Yq y t1;have b3:=Cv h3;have b4:=amS hro;have b5:=b4.2.2;have b6:=b4.2.1;have b7:=b4.1;refine ⟨by show 1<=y.n/\y.n<=4;omega,?_,b4.1.2,by show t2.length<=4;have b8:t2.length=(vH y (aE (br l1))).length:=b6;omega⟩;simp only at b2 b3 |-;split<;>omega
   ·cases h2
 ·cases h
structure aiy (w W:World) (x:Rt) (A1:OA) (c1:Nat) (y:Gr) (A2:OA) (le c2:Nat):Prop where
 r:au W w.heap.size 60 #[iI x.n,iI x.Lh,iI x.bits,.slice A1 x.ops.length c1]
 g:au W (w.heap.size+1) 63 #[iI y.n,.slice A2 le c2]
 z:au W (w.heap.size+1+1) 27 jG
 x_:Ext w W
theorem aiy.ext {w W W':World} {x:Rt} {y:Gr} {A1 A2:OA} {c1 c2 le:Nat} (h:aiy w W x A1 c1 y A2 le c2) (hx:Ext W W'):aiy w W' x A1 c1 y A2 le c2:=⟨h.r.ext hx,h.g.ext hx,h.z.ext hx,h.x_.trans hx⟩
theorem aiz (y:Gr) (gs:List Gt) (hn:1<=y.n/\y.n<=4):(vH y gs).length<=4:=by
 have key:∀(ps:List (List Int)) (s:List Int ×Int),s.1.length<=4->(∀p∈ps,p.length<=4)->(ps.foldl (xi y gs) s).1.length<=4:=by
  intro ps
  induction ps with
  |nil=>exact fun s h _=>h
  |cons p ps ih=>
   intro s h hp;refine ih _ ?_ (fun q hq=>hp q (nr _ hq));unfold xi;split
   ·exact hp p (rX ..)
   ·exact h
 refine key _ _ ag (fun p hp=>?_);have h9:=PA _ _ p hp;simp at h9;omega
theorem qu {P:Prop} (h:P:=by
 go_wp2_with fail;refine bJ (v:=.tuple #[.agg jG,.bool false]) ?_ rfl ?_
 rotate_left
 ·exact ⟨⟨none,HV9.u,rfl⟩,fP.u⟩
 ·exact aR rfl _ _ _ _ _ _ _ rfl rfl HZ9.u vQ rfl af):P:=h
theorem yh (A1:OA) (c1:Nat) (x:Rt) (u:Value) (y:Gr) (mode:Int) (w:World) (h1:Rd w w.heap.size 8 A1 x.ops.length (aJ x.ops)) (hn:x.ops.length<=2000000000000) (hu:fB w w.heap.size u y) (hl:y.es.length<=2000000000000):
  Calls prog 56 #[.agg #[iI x.n,iI x.Lh,iI x.bits,.slice A1 x.ops.length c1],u,iI mode] w fun e w'=>(∃r,uy x y mode r/\aix w r e w')/\Ext w w':=by
 have HU:=hY hu;obtain ⟨A2,c2,rfl,hes⟩:=hu;obtain ⟨le,hle⟩:=ex (y.es.length);rw [hle] at HU hes |-;have HLE:=hY hle;have qw:le<=2000000000000:=aa
 have mC:=hY h1;have Bf:Hid (aiy w (((w.alloc (cO #[iI x.n,iI x.Lh,iI x.bits,.slice A1 x.ops.length c1] 60)).alloc (cO #[iI y.n,.slice A2 le c2] 63)).alloc (cO jG 27)) x A1 c1 y A2 le c2):=⟨((au.new w _ _).alloc _).alloc _,(au.newAt ag).alloc _,au.newAt ag,by unfold Ext;exact xx⟩;clear h1 hes hle hl;go_enter func56,ntmps56;go_upto_region 1 with fail;generalize (((w.alloc (cO #[iI x.n,iI x.Lh,iI x.bits,.slice A1 x.ops.length c1] 60)).alloc (cO #[iI y.n,.slice A2 le c2] 63)).alloc (cO jG 27))=W1 at*
 obtain ⟨⟨r0,r1,r2,r3⟩,-⟩:=aB Bf.u.r;have arC:=hY (mC.u.ext Bf.u.x_);go_wp2_with fail;refine (sT A1 c1 x _ arC.u hn).mono ?_;rintro e w2 ⟨rfl,bz⟩;have si:=hY (Bf.u.ext bz);clear Bf arC bz r0 r1 r2 r3;obtain ⟨⟨g0,g1⟩,-⟩:=bu si.u.g
 cases hvr:Tt x
 ·skip;obtain ⟨⟨z0,z1,z2,z3,z4⟩,f0,f1,f2,f3,f4⟩:=bM si.u.z;have HZ9:=hY (si.u.z.nQ (iI 0) (iI 0) (nS) (nS) (nS));have fP:=hY (js si.u.x_ (g:=w.heap.size+1+1) aa (iI 0) (iI 0) (nS) (nS) (nS));have HV9:Hid (uy x y mode none):=by unfold Hid uy;rw [hvr];rfl
  exact qu
 have XN:=hY (lh HU.u si.u.x_);go_wp2_with fail;refine (dO _ y _ XN.u ik).mono ?_;rintro e w3 ⟨rfl,bO⟩;have Dl:=hY (si.u.ext bO);clear si XN bO g0 g1;obtain ⟨⟨g0,g1⟩,-⟩:=bu Dl.u.g;obtain ⟨⟨r0,r1,r2,r3⟩,-⟩:=aB Dl.u.r
 cases mo:je y
 ·skip;obtain ⟨⟨z0,z1,z2,z3,z4⟩,f0,f1,f2,f3,f4⟩:=bM Dl.u.z;have HZ9:=hY (Dl.u.z.nQ (iI 0) (iI 0) (nS) (nS) (nS));have fP:=hY (js Dl.u.x_ (g:=w.heap.size+1+1) aa (iI 0) (iI 0) (nS) (nS) (nS));have HV9:Hid (uy x y mode none):=by unfold Hid uy;rw [hvr,mo];rfl
  exact qu
 by_cases hnn:x.n<=y.n
 rotate_left
 ·have EH:decide (x.n>y.n)=true:=ai
  have KR:decide (y.n<x.n)=true:=ai
  obtain ⟨⟨z0,z1,z2,z3,z4⟩,f0,f1,f2,f3,f4⟩:=bM Dl.u.z;have HZ9:=hY (Dl.u.z.nQ (iI 0) (iI 0) (nS) (nS) (nS));have fP:=hY (js Dl.u.x_ (g:=w.heap.size+1+1) aa (iI 0) (iI 0) (nS) (nS) (nS));have HV9:Hid (uy x y mode none):=by unfold Hid uy;rw [hvr,mo,lZ hnn];rfl
  exact qu
 have EH:decide (x.n>y.n)=false:=ai
 have KR:decide (y.n<x.n)=false:=ai
 have Ln:Hid ((Tt x && je y && decide (x.n<=y.n))=true):=by unfold Hid;rw [hvr,mo,vP hnn];rfl
 have hvb:=aeT hvr;have hyn:1<=y.n/\y.n<=4:=by
  exact ajV mo
 have HB:Hid ((br x.ops).length<=1800/\aV (aE (br x.ops))<=852000):=by have h9:=xr x.ops;unfold Hid;omega
 have arD:Hid (∀(gs:List Gt) (A:OA) (c:Nat) (w':World),gs.length<=200000000000->Ext w w'->Rd w' w'.heap.size 4 A gs.length (aq gs)->Calls prog 85 #[.slice A gs.length c,.agg #[iI y.n,.slice A2 le c2]] w' fun e w''=>(∃u,e=.returned u/\w''.ownsRow w'.heap.size 3 1 u (vH y gs).length (aD (vH y gs)))/\Ext w' w''):=fun gs A c w' hg hx hr=>vA A gs.length c gs _ y w' hr hg (lh HU.u hx) ik hyn.1 hyn.2
 have HEX:Hid (∀(w':World),Ext w w'->∀(A:OA) (n c:Nat) (gs:List Gt),Rd w' w'.heap.size 4 A n (aq gs)->n<=2000000000000->Calls prog 89 #[.slice A n c,.agg #[iI y.n,.slice A2 le c2]] w' fun e w''=>e=.returned (.bool (Hx y gs))/\Ext w' w''):=fun w' hx A n c gs hr hg=>uZ A n c gs _ y w' hr (lh HU.u hx) hg ik
 have azu:=hvb.2;clear hvr mo hnn hvb hyn;obtain ⟨W5,hW5⟩:∃W:World,W=w3:=⟨_,rfl⟩;subst hW5;have HS:=Dl;clear Dl;go_upto_region 3 with fail;clear g0 g1 r0 r1 r2 r3 EH KR;have HK3:Hid (∀w',Ext W5 w'->w'.cell? (aA w.z 3)=some (.slice A1 x.ops.length c1)/\w'.cell? (aA (w.z+1) 0)=some (iI y.n)):=fun w' hx=>⟨(HS.u.r.ext hx).cell 3,(HS.u.g.ext hx).cell 0⟩
 refine dt (S:=(fun w'=>w'.cell? (aA w.z 3)=some (.slice A1 x.ops.length c1)/\w'.cell? (aA (w.z+1) 0)=some (iI y.n))) af (HK3.u _ (xZ W5).drew) (fun aEQ=>?_);refine tq 0 ?_;refine tq 1 ?_;refine tq 3 ?_;refine tq 4 ?_;refine o1 2 fun K hK=>?_
 go_simp;refine (mi A1 _ c1 x.ops _ ((mC.u.ext HS.u.x_).ext (xZ W5).drew) aa).mono ?_;rintro e w6 ⟨v6,rfl,vD,oy⟩;obtain ⟨A6,c6,rfl,hr6⟩:=ak vD;have dL:Hid (Ext W5 w6):=Ext.trans (xZ W5).drew oy;have wH:=hY hr6;have HC6:=hY (oR vD);clear vD hr6 oy;refine ov hK (HK3.u _ dL.u) fun aEQ=>?_
 refine o1 5 fun K hK=>?_
 go_simp;refine (nP A6 _ c6 (br x.ops) y.n _ wH.u (oM HB.u.1) HC6.u (oM HB.u.2)).mono ?_;rintro e w7 ⟨⟨v7,l1,rfl,VC,DY⟩,gG⟩;obtain ⟨A7,c7,rfl,Fq⟩:=ak DY;have fz:Hid (Ext W5 w7):=dL.u.trans gG;have vh:=hY Fq;have Qb:=hY VC;have HBL:Hid (l1.length<=853800/\aV (aE l1)<=852000):=by have h8:=Cv VC;have:=HB.u;unfold Hid;omega
 clear DY Fq gG VC wH HC6;refine ov hK (HK3.u _ fz.u) fun aEQ=>?_
 refine o1 6 fun K hK=>?_
 go_simp;refine (mi A7 _ c7 l1 _ vh.u (oM HBL.u)).mono ?_;rintro e w8 ⟨v8,rfl,ho8,uH⟩;obtain ⟨A8,c8,rfl,hr8⟩:=ak ho8;have HX8:Hid (Ext W5 w8):=fz.u.trans uH;have HR8:=hY hr8;have Sa:Hid ((br l1).length<=12807000/\aV (aE (br l1))<=604920000):=by have h8:=xr l1;have:=HBL.u;unfold Hid;omega
 clear ho8 hr8 uH vh dL fz;refine ov hK (HK3.u _ HX8.u) fun aEQ=>?_
 refine tq 7 ?_;refine dn ?_;have HS8:=hY (HS.u.ext HX8.u);clear aEQ HK3 HS HX8;have HCL:Hid (∀(A:OA) (c:Nat) (w':World),Ext w w'->Rd w' w'.heap.size 4 A (aE (br l1)).length (aq (aE (br l1)))->Calls prog 85 #[.slice A (aE (br l1)).length c,.agg #[iI y.n,.slice A2 le c2]] w' fun e w''=>(∃u,e=.returned u/\w''.ownsRow w'.heap.size 3 1 u (vH y (aE (br l1))).length (aD (vH y (aE (br l1)))))/\Ext w' w''):=fun A c w' hx hr=>arD.u _ A c w' (oN (nO (aE (br l1))) Sa.u) hx hr
 clear arD;go_upto_region 4 with fail;have HK4:Hid (∀w',Ext w8 w'->w'.cell? (aA (w.z+1) 0)=some (iI y.n)/\w'.cell? (aA (w.z+1) 1)=some (.slice A2 le c2)):=fun w' hx=>⟨(HS8.u.g.ext hx).cell 0,(HS8.u.g.ext hx).cell 1⟩
 refine dt (S:=(fun w'=>w'.cell? (aA (w.z+1) 0)=some (iI y.n)/\w'.cell? (aA (w.z+1) 1)=some (.slice A2 le c2))) af (HK4.u _ (xZ w8).drew) (fun aEQ=>?_);refine tq 0 ?_;refine tq 2 ?_;refine o1 1 fun K hK=>?_
 go_simp;refine (mB A8 _ c8 (br l1) _ (HR8.u.ext (xZ w8).drew) (oM Sa.u)).mono ?_;rintro e w9 ⟨v9,rfl,kM,nj⟩;obtain ⟨A9,c9,rfl,Cb⟩:=ak kM;have fP:Hid (Ext w8 w9):=Ext.trans (xZ w8).drew nj;have HR9:=hY Cb;clear kM Cb nj;refine ov hK (HK4.u _ fP.u) fun aEQ=>?_
 refine o1 3 fun K hK=>?_
 go_simp;refine (HCL.u A9 c9 _ (HS8.u.x_.trans fP.u) HR9.u).mono ?_;rintro e wa ⟨⟨va,rfl,hoa⟩,hxa⟩;obtain ⟨Aa,ca,rfl,hra⟩:=ak hoa;have WY:Hid (Ext w8 wa):=fP.u.trans hxa;have HOA:Hid (wa.ownsRow w.heap.size 3 1 (.slice Aa (vH y (aE (br l1))).length ca) (vH y (aE (br l1))).length (aD (vH y (aE (br l1))))):=aC hoa (HS8.u.x_.trans fP.u).size;clear hoa hra hxa HR9 fP;refine ov hK (HK4.u _ WY.u) fun aEQ=>?_
 refine tq 4 ?_;refine dn ?_;have XS:=hY (HS8.u.ext WY.u);have HRA:=hY (HR8.u.ext WY.u);clear aEQ HK4 HS8 WY HR8 HCL;obtain ⟨⟨g0,g1⟩,-⟩:=bu XS.u.g;have XN:=hY (lh HU.u XS.u.x_);have hca:=oR HOA.u;have HPA:=hY (Rd.own HOA.u);obtain ⟨p,hp⟩:=ex (vH y (aE (br l1)));have HPP:=hY hp;have zV:p.length<=2000000000000:=by
  have h9:(vH y (aE (br l1))).length<=4:=aiz y _ (by have h8:=Ln.u;simp only [lF] at h8;exact ajV h8.1.2);rw [hp] at h9;omega
 rw [hp] at hca HPA |-;clear hp;go_wp2_with fail;refine (Co A8 _ c8 (br l1) _ y Aa p.length ca p mode _ HRA.u (oM Sa.u) XN.u ik HPA.u zV hca).mono ?_;rintro e wb ⟨vb1,vb2,b1,rfl,arH,WS,hbw,amT,hxb⟩;obtain ⟨Ar,cr,rfl,hrr⟩:=ak arH;obtain ⟨Ab,cb,rfl,-⟩:=ak amT;have Tr:=hY (XS.u.ext hxb);have HRB:=hY hrr;have PK:=hY amT;have amU:=hY (aj HOA.u hxb);have awO:Hid (w.heap.size<=wa.heap.size):=XS.u.x_.size;have jI:Hid (∀g,(Value.slice Aa (vH y (aE (br l1))).length ca).ownBlock=some g->g<b1):=fun g hg=>qD (HOA.u.lt g hg).2 hbw.1
 have HBW:=hY hbw;clear arH WS amT hxb hrr XS HRA XN HPA hca HOA g0 g1 hbw;obtain ⟨⟨g0,g1⟩,-⟩:=bu Tr.u.g;have XN:=hY (lh HU.u Tr.u.x_)
 cases hro:ER y (br l1) p mode with
 |none=>
  have HRO:Hid (ER y (br l1) (vH y (aE (br l1))) mode=none):=by rw [HPP.u];exact hro
  have afo:Hid (Rd wb wb.heap.size 8 Ar 0 (aJ [])):=by have h9:=HRB.u;rw [hro] at h9;exact h9
  clear hro HRB PK amU;go_wp2_with fail;refine (qi Ar 0 cr [] _ y _ afo.u XN.u aa ik).mono ?_;rintro e wc ⟨vc,rfl,hoc,WA⟩;have HSC:=hY (Tr.u.ext WA);clear hoc WA Tr XN g0 g1 afo;obtain ⟨⟨z0,z1,z2,z3,z4⟩,f0,f1,f2,f3,f4⟩:=bM HSC.u.z;have HZ9:=hY (HSC.u.z.nQ (iI 0) (iI 0) (nS) (nS) (nS));have fP:=hY (js HSC.u.x_ (g:=w.heap.size+1+1) aa (iI 0) (iI 0) (nS) (nS) (nS));have HV9:Hid (uy x y mode none):=by unfold Hid uy;rw [aY Ln.u];refine ⟨l1,[],Qb.u,?_⟩;rw [HRO.u]
  exact qu
 |some t=>
  have HRO:Hid (ER y (br l1) (vH y (aE (br l1))) mode=some t):=by rw [HPP.u];exact hro
  have afo:Hid (Rd wb wb.heap.size 8 Ar t.1.length (aJ t.1)):=by have h9:=HRB.u;rw [hro] at h9;exact h9
  have afq:Hid (wb.ownsRow b1 3 1 (.slice Ab t.2.length cb) t.2.length (aD t.2)):=by have h9:=PK.u;rw [hro] at h9;exact h9
  have HBT:Hid (t.1.length<=128070000/\aV (aE t.1)<=6049200000):=by
   obtain ⟨t1,t2⟩:=t;have h9:=afm hro;have:=Sa.u;unfold Hid;simp only;omega
  clear HRB PK;go_wp2_with fail;refine (qi Ar _ cr t.1 _ y _ afo.u XN.u (oM HBT.u) ik).mono ?_;rintro e wc ⟨vc,rfl,hoc,WA⟩;obtain ⟨Ac,cc,rfl,hrc⟩:=ak hoc;have HSC:=hY (Tr.u.ext WA);have ajW:=hY (aj amU.u WA);have afr:=hY (aj afq.u WA);have afs:=hY (aC hoc Tr.u.x_.size);have YV:=hY (oR hoc);have HBO:Hid ((jg y t.1).length<=1921050000/\aV (aE (jg y t.1))<=30246000000):=by have h9:=Yq y t.1;have:=HBT.u;unfold Hid;omega
  clear hoc WA hrc Tr XN g0 g1 afo amU afq hro
  cases hoo:iK y t.1
  ·skip;obtain ⟨⟨z0,z1,z2,z3,z4⟩,f0,f1,f2,f3,f4⟩:=bM HSC.u.z;have HZ9:=hY (HSC.u.z.nQ (iI 0) (iI 0) (nS) (nS) (nS));have fP:=hY (js HSC.u.x_ (g:=w.heap.size+1+1) aa (iI 0) (iI 0) (nS) (nS) (nS));have HV9:Hid (uy x y mode none):=by unfold Hid uy;rw [aY Ln.u];refine ⟨l1,[],Qb.u,?_⟩;rw [HRO.u];show (if iK y t.1=true then _ else none=none);rw [aM (by simp [hoo])]
   exact qu
  have HOO:=hY hoo;obtain ⟨⟨g0,g1⟩,-⟩:=bu HSC.u.g;have HRC:=hY (Rd.own afs.u);clear hoo;go_wp2_with fail;refine (nP Ac _ cc (jg y t.1) y.n _ HRC.u (oM HBO.u) YV.u (oM HBO.u)).mono ?_;rintro e wd ⟨⟨vd,l2,rfl,VC,hod⟩,hxd⟩;obtain ⟨Ad,cd,rfl,-⟩:=ak hod;have HSD:=hY (HSC.u.ext hxd);have HOD:=hY (aC hod HSC.u.x_.size);have arK:=hY (aj ajW.u hxd);have arL:=hY (aj afs.u hxd);have afq:Hid (wd.ownsRow w.heap.size 3 1 (.slice Ab t.2.length cb) t.2.length (aD t.2)):=aC (aj afr.u hxd) (oN HBW.u.1 awO.u);have HDS:Hid ((∀g,(Value.slice Aa (vH y (aE (br l1))).length ca).ownBlock=some g->g<b1)/\∀g,(Value.slice Ab t.2.length cb).ownBlock=some g->b1<=g):=⟨jI.u,fun g hg=>(afr.u.lt g hg).1⟩;have MR:=hY VC;have HBD:Hid (l2.length<=32167050000/\aV (aE l2)<=30246000000):=by have h9:=Cv VC;have:=HBO.u;unfold Hid;omega
  rw [<-HPP.u];clear VC hod hxd HSC ajW afs afr YV HRC g0 g1;go_upto_region 10 with fail;have HKA:Hid (∀w',Ext wd w'->w'.cell? (aA (w.z+1) 0)=some (iI y.n)/\w'.cell? (aA (w.z+1) 1)=some (.slice A2 le c2)):=fun w' hx=>⟨(HSD.u.g.ext hx).cell 0,(HSD.u.g.ext hx).cell 1⟩
  have HBE:=Cv MR.u;refine dt (S:=(fun w'=>w'.cell? (aA (w.z+1) 0)=some (iI y.n)/\w'.cell? (aA (w.z+1) 1)=some (.slice A2 le c2))) af (HKA.u _ (xZ wd).drew) (fun aEQ=>?_);refine tq 0 ?_;refine tq 2 ?_;refine o1 1 fun K hK=>?_
  go_simp;refine (mB Ad _ cd l2 _ ((Rd.own HOD.u).ext (xZ wd).drew) (oM HBD.u)).mono ?_;rintro e we ⟨ve,rfl,hoe,Tj⟩;obtain ⟨Ae,ce,rfl,hre⟩:=ak hoe;have UT:Hid (Ext wd we):=Ext.trans (xZ wd).drew Tj;have HRE:=hY hre;have alV:Hid ((aE l2).length<=2000000000000):=by have h8:=nO (aE l2);have:=HBD.u;unfold Hid;omega
  clear hoe hre Tj HBE;refine ov hK (HKA.u _ UT.u) fun aEQ=>?_
  refine o1 3 fun K hK=>?_
  go_simp;refine (HEX.u _ (HSD.u.x_.trans UT.u) Ae _ ce (aE l2) HRE.u alV.u).mono ?_;rintro e wf ⟨rfl,hxf⟩;have HXF:Hid (Ext wd wf):=UT.u.trans hxf;clear hxf UT HRE;refine ov hK (HKA.u _ HXF.u) fun aEQ=>?_
  refine tq 4 ?_;refine dn ?_;have Tu:=hY (HSD.u.ext HXF.u);have HOF:=hY (aj HOD.u HXF.u);have arN:=hY (aj arK.u HXF.u);have awR:=hY (aj arL.u HXF.u);have arO:=hY (aj afq.u HXF.u);clear aEQ HKA HSD HOD arK arL afq HXF HEX
  cases hex:Hx y (aE l2)
  ·skip;obtain ⟨⟨z0,z1,z2,z3,z4⟩,f0,f1,f2,f3,f4⟩:=bM Tu.u.z;obtain ⟨⟨g0,g1⟩,-⟩:=bu Tu.u.g;obtain ⟨⟨r0,r1,r2,r3⟩,-⟩:=aB Tu.u.r;have HZ9:=hY (Tu.u.z.nQ (iI y.n) (iI x.bits) (.slice Ac (jg y t.1).length cc) (.slice Aa (vH y (aE (br l1))).length ca) (.slice Ab t.2.length cb));have fP:=hY (js Tu.u.x_ (g:=w.heap.size+1+1) aa (iI y.n) (iI x.bits) (.slice Ac (jg y t.1).length cc) (.slice Aa (vH y (aE (br l1))).length ca) (.slice Ab t.2.length cb));have iD:=hY (oX awR.u Tu.u.z ae (iI y.n) (iI x.bits) (.slice Ac (jg y t.1).length cc) (.slice Aa (vH y (aE (br l1))).length ca) (.slice Ab t.2.length cb));have HP9:=hY (oX arN.u Tu.u.z ae (iI y.n) (iI x.bits) (.slice Ac (jg y t.1).length cc) (.slice Aa (vH y (aE (br l1))).length ca) (.slice Ab t.2.length cb));have HQ9:=hY (oX arO.u Tu.u.z ae (iI y.n) (iI x.bits) (.slice Ac (jg y t.1).length cc) (.slice Aa (vH y (aE (br l1))).length ca) (.slice Ab t.2.length cb));have HV9:Hid (uy x y mode (some ⟨y.n,x.bits,jg y t.1,vH y (aE (br l1)),t.2⟩)):=by
    unfold Hid uy;rw [aY Ln.u];refine ⟨l1,l2,Qb.u,?_⟩;rw [HRO.u];simp only;rw [aY HOO.u]
    exact ⟨MR.u,by rw [aM (by simp [hex])]⟩
   go_wp2_with fail;refine bJ (v:=.tuple #[.agg #[iI y.n,iI x.bits,.slice Ac (jg y t.1).length cc,.slice Aa (vH y (aE (br l1))).length ca,.slice Ab t.2.length cb],.bool true]) ?_ rfl ?_
   rotate_left
   ·exact ⟨⟨some _,HV9.u,Ac,Aa,Ab,cc,ca,cb,b1,rfl,iD.u,HP9.u,HQ9.u,HDS.u.1,HDS.u.2⟩,fP.u⟩
   ·exact aR rfl _ _ _ _ _ _ _ rfl rfl HZ9.u vQ rfl af
  ·skip;obtain ⟨⟨z0,z1,z2,z3,z4⟩,f0,f1,f2,f3,f4⟩:=bM Tu.u.z;obtain ⟨⟨g0,g1⟩,-⟩:=bu Tu.u.g;obtain ⟨⟨r0,r1,r2,r3⟩,-⟩:=aB Tu.u.r;have HZ9:=hY (Tu.u.z.nQ (iI y.n) (iI x.bits) (.slice Ad l2.length cd) (.slice Aa (vH y (aE (br l1))).length ca) (.slice Ab t.2.length cb));have fP:=hY (js Tu.u.x_ (g:=w.heap.size+1+1) aa (iI y.n) (iI x.bits) (.slice Ad l2.length cd) (.slice Aa (vH y (aE (br l1))).length ca) (.slice Ab t.2.length cb));have iD:=hY (oX HOF.u Tu.u.z ae (iI y.n) (iI x.bits) (.slice Ad l2.length cd) (.slice Aa (vH y (aE (br l1))).length ca) (.slice Ab t.2.length cb));have HP9:=hY (oX arN.u Tu.u.z ae (iI y.n) (iI x.bits) (.slice Ad l2.length cd) (.slice Aa (vH y (aE (br l1))).length ca) (.slice Ab t.2.length cb));have HQ9:=hY (oX arO.u Tu.u.z ae (iI y.n) (iI x.bits) (.slice Ad l2.length cd) (.slice Aa (vH y (aE (br l1))).length ca) (.slice Ab t.2.length cb));have HV9:Hid (uy x y mode (some ⟨y.n,x.bits,l2,vH y (aE (br l1)),t.2⟩)):=by
    unfold Hid uy;rw [aY Ln.u];refine ⟨l1,l2,Qb.u,?_⟩;rw [HRO.u];simp only;rw [aY HOO.u]
    exact ⟨MR.u,by rw [aY hex]⟩
   go_wp2_with fail;refine bJ (v:=.tuple #[.agg #[iI y.n,iI x.bits,.slice Ad l2.length cd,.slice Aa (vH y (aE (br l1))).length ca,.slice Ab t.2.length cb],.bool true]) ?_ rfl ?_
   rotate_left
   ·exact ⟨⟨some _,HV9.u,Ad,Aa,Ab,cd,ca,cb,b1,rfl,iD.u,HP9.u,HQ9.u,HDS.u.1,HDS.u.2⟩,fP.u⟩
   ·exact aR rfl _ _ _ _ _ _ _ rfl rfl HZ9.u vQ rfl af
end Go.Proofs.YtodhjgngkkcjgaaGreatDoor
