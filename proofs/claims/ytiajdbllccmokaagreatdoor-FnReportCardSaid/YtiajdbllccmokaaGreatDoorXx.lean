import Derived.Test.YtiajdbllccmokaaGreatDoorXs
import Derived.Test.YtiajdbllccmokaaGreatDoorXo
namespace Go.Proofs.YtiajdbllccmokaaGreatDoor
open Go.ChangeShapes Go.WideShapes Go.ChangeAt Go.RowKit Go.Deep Go.Proofs.Tryz
set_option linter.unusedVariables false
set_option linter.unusedSimpArgs false
set_option maxRecDepth 100000
set_option maxHeartbeats 16000000
structure zu (w W:World) (A:OA) (c:Nat) (p:Pa) (g:Nat) (o:Pa):Prop where
 t:ay W w.heap.size 147 #[iI 1,.slice A 2 c]
 p:ay W (w.heap.size+1) 187 (jF p)
 z:ay W (w.heap.size+1+1) 187 zO
 o:ay W g 187 (jF o)
 x:Ext w W
 le:w.heap.size+1+1<g
theorem zu.ext {w W W':World} {A:OA} {c g:Nat} {p o:Pa} (h:zu w W A c p g o) (hx:Ext W W'):zu w W' A c p g o:=⟨h.t.ext hx,h.p.ext hx,h.z.ext hx,h.o.ext hx,h.x.trans hx,h.le⟩
theorem zu.put {w W:World} {A:OA} {c g:Nat} {p o:Pa} (h:zu w W A c p g o) (q:Pa):zu w (bP W g (iI q.n) (iI q.x) (iI q.z) (iI q.p)) A c p g q:=by
 have hl:=h.le
 exact ⟨dh h.t aa _ _ _ _,dh h.p aa _ _ _ _,dh h.z aa _ _ _ _,h.o.bP _ _ _ _,br h.x aa _ _ _ _,h.le⟩
theorem aoU {p:Pa} (h:gS p=true) (hn:p.n=1):(p.x=0\/p.x=1)/\(p.z=0\/p.z=1):=by
 unfold gS at h;rw [hn] at h;have e:pE 1=1:=rfl;rw [e] at h;simp only [lF,lu] at h;omega
structure QF (w W:World) (A:OA) (c:Nat) (p:Pa):Prop where
 t:ay W w.heap.size 147 #[iI 1,.slice A 2 c]
 p:ay W (w.heap.size+1) 187 (jF p)
 z:ay W (w.heap.size+1+1) 187 zO
 x:Ext w W
theorem QF.ext {w W W':World} {A:OA} {c:Nat} {p:Pa} (h:QF w W A c p) (hx:Ext W W'):QF w W' A c p:=⟨h.t.ext hx,h.p.ext hx,h.z.ext hx,h.x.trans hx⟩
theorem qF {P:Prop} (h:P:=by
 go_wp2;go_roundw
 case rel=>exact .inr ⟨rfl,by rw [HV.u];exact aZ⟩
 case measure=>simp [intOf]):P:=h
theorem Eg {P:Prop} (h:P:=by
 obtain ⟨b',o',r,he,-,hr,x⟩:=fD (h.ext hx) (i:=0) aa;simp only [fW,iO] at he;obtain ⟨rfl,rfl,-⟩:=he
 cases hr
 rw [Iz,qY] at x
 exact x):P:=h
theorem Eh {P:Prop} (h:P:=by
 obtain ⟨b',o',r,he,-,hr,x⟩:=fD (h.ext hx) (i:=1) aa;simp only [fW,iO] at he;obtain ⟨rfl,rfl,-⟩:=he
 cases hr
 exact x):P:=h
theorem tF (A:OA) (c:Nat) (r0 r1 p:Pa) (w:World) (h:Rd w w.heap.size 4 A 2 (aV [r0,r1])) (hc:2<=c) (hv:mB 1 [r0,r1]=true) (hp:gS p=true) (hn:p.n=1):
  Calls prog 167 #[.agg #[iI 1,.slice A 2 c],p.val] w fun e w'=>e=.returned (.tuple #[(lY [r0,r1] p).val,.bool true])/\Ext w w':=by
 obtain ⟨aoV,ajU⟩:=aoU hp hn;have HIV:Hid (∀w',Ext w w'->Calls prog 141 #[.agg #[iI 1,.slice A 2 c]] w' fun e w''=>e=.returned (.bool true)/\Ext w' w''):=fun w' hx=>by
  have h9:=cC A c 1 [r0,r1] w' (h.ext hx) ag hc;rw [hv] at h9
  exact h9
 have HIP:Hid (∀w',Calls prog 155 #[.agg (jF p)] w' fun e w''=>e=.returned (.bool true)/\Ext w' w''):=fun w'=>by
  have h9:=cP p w';rw [hp] at h9
  exact h9
 have HW:Hid (QF w ((((w.alloc (cO #[iI 1,.slice A 2 c] 147)).alloc (cO (jF p) 187)).alloc (cO zO 187))) A c p):=⟨((ay.new w _ _).alloc _).alloc _,(ay.newAt ag).alloc _,ay.newAt ag,by unfold Ext;exact xx⟩;obtain ⟨b,o,r0',rfl,hb,Hh,-⟩:=fD h (i:=0) aa;have QG:Hid (∀w',Ext w w'->w'.cell? (aA b o)=some (iI r0.n)/\w'.cell? (aA b (o+1))=some (iI r0.x)/\w'.cell? (aA b (o+2))=some (iI r0.z)/\w'.cell? (aA b (o+3))=some (iI r0.p)):=fun w' hx=>by
  exact Eg
 have QH:Hid (∀w',Ext w w'->w'.cell? (aA b (o+1*4))=some (iI r1.n)/\w'.cell? (aA b (o+1*4+1))=some (iI r1.x)/\w'.cell? (aA b (o+1*4+2))=some (iI r1.z)/\w'.cell? (aA b (o+1*4+3))=some (iI r1.p)):=fun w' hx=>by
  exact Eh
 have yJ:=hY hn;clear hv hp h Hh hb hn;go_enter func167,ntmps167;go_upto_region 1 with fail;generalize ((w.alloc (cO #[iI 1,.slice (some ⟨b,o,none⟩) 2 c] 147)).alloc (cO (jF p) 187)).alloc (cO zO 187)=W1 at*
 obtain ⟨⟨t0,t1⟩,-⟩:=bt HW.u.t;go_wp2_with fail;refine (HIV.u _ HW.u.x).mono ?_;rintro e w2 ⟨rfl,bH⟩;have TX:=hY (HW.u.ext bH);clear bH t0 t1;obtain ⟨⟨a0,a1,a2,a3⟩,-⟩:=aB TX.u.p;go_wp2_with fail;refine (HIP.u _).mono ?_;rintro e w3 ⟨rfl,bT⟩;have SE:=hY (TX.u.ext bT);clear bT a0 a1 a2 a3 TX HW;obtain ⟨⟨t0,t1⟩,-⟩:=bt SE.u.t;have a0:w3.cell? (aA (w.z+1) 0)=some (iI 1):=SE.u.p.cv 0 yJ.u
 have a3:=SE.u.p.ck 3;go_upto_region 4 with fail;obtain ⟨o0,Ft⟩:∃o0:Pa,o0=⟨1,0,0,p.p⟩:=⟨_,rfl⟩;have nN:=hY Ft;have JD:Hid (zu w (w3.alloc (cO #[iI 1,iI 0,iI 0,iI p.p] 187)) (some ⟨b,o,none⟩) c p w3.heap.size o0):=⟨SE.u.t.alloc _,SE.u.p.alloc _,SE.u.z.alloc _,by rw [Ft];exact ay.new w3 _ _,SE.u.x.alloc _,SE.u.z.lt⟩;clear Ft a0 a3 t0 t1 SE;generalize w3.alloc (cO #[iI 1,iI 0,iI 0,iI p.p] 187)=W4 at*
 generalize w3.heap.size=g at*
 go_wp2
 go_loopw [7] (fun i wr=>(i=iI 0/\Hid (zu w wr (some ⟨b,o,none⟩) c p g o0))\/(i=iI 1/\Hid (zu w wr (some ⟨b,o,none⟩) c p g (lY [r0,r1] p)))) (fun i _=>1 - (intOf i).toNat)
 case atStart=>exact .inl ⟨rfl,JD⟩
 case round=>
  clear JD;rcases hrel with ⟨rfl,aZ⟩|⟨rfl,aZ⟩
  ·skip;rcases aoV with hx|hx
   ·have dk:=hY hx;clear hx;rcases ajU with hz|hz
    ·have WZ:=hY hz;clear hz;have a1:wr.cell? (aA (w.z+1) 1)=some (iI 0):=aZ.u.p.cv 1 dk.u
     have a0:wr.cell? (aA (w.z+1) 0)=some (iI 1):=aZ.u.p.cv 0 yJ.u
     have a2:wr.cell? (aA (w.z+1) 2)=some (iI 0):=aZ.u.p.cv 2 WZ.u
     have HV:Hid (lY [r0,r1] p=o0):=by
      unfold Hid lY;rw [yJ.u,dk.u,WZ.u,<-nN.u];rw [aK ae,aK ae];skip
     exact qF
    ·have WZ:=hY hz;clear hz;have a1:wr.cell? (aA (w.z+1) 1)=some (iI 0):=aZ.u.p.cv 1 dk.u
     have a0:wr.cell? (aA (w.z+1) 0)=some (iI 1):=aZ.u.p.cv 0 yJ.u
     have a2:wr.cell? (aA (w.z+1) 2)=some (iI 1):=aZ.u.p.cv 2 WZ.u
     have ZC:IntKind.i64.wrap 1=1:=ae
     have HS:Hid (∀w',Ext w w'->w'.cell? (aA w.z 1)=some (.slice (some ⟨b,o,none⟩) 2 c)->w'.cell? (aA (w.z+1) 0)=some (iI 1)->w'.cell? (aA w.z 1)=some (.slice (some ⟨b,o,none⟩) 2 c)/\w'.cell? (aA (w.z+1) 0)=some (iI 1)/\(w'.cell? (aA b (o+1*4))=some (iI r1.n)/\w'.cell? (aA b (o+1*4+1))=some (iI r1.x)/\w'.cell? (aA b (o+1*4+2))=some (iI r1.z)/\w'.cell? (aA b (o+1*4+3))=some (iI r1.p))):=fun w' hx e1 e2=>⟨e1,e2,QH.u w' hx⟩
     have ay4:(fun w'=>w'.cell? (aA w.z 1)=some (.slice (some ⟨b,o,none⟩) 2 c)/\w'.cell? (aA (w.z+1) 0)=some (iI 1)/\(w'.cell? (aA b (o+1*4))=some (iI r1.n)/\w'.cell? (aA b (o+1*4+1))=some (iI r1.x)/\w'.cell? (aA b (o+1*4+2))=some (iI r1.z)/\w'.cell? (aA b (o+1*4+3))=some (iI r1.p))) wr.drew:=HS.u _ aZ.u.x.drew (aZ.u.t.drew.cell 1) (aZ.u.p.drew.cv 0 yJ.u);obtain ⟨⟨d0,d1,d2,d3⟩,z0,z1,z2,z3⟩:=aB aZ.u.o;obtain ⟨⟨e0,e1,e2,e3⟩,y0,y1,y2,y3⟩:=aB aZ.u.o.drew;go_upto_region 10 with fail;refine dm (S:=(fun w'=>w'.cell? (aA w.z 1)=some (.slice (some ⟨b,o,none⟩) 2 c)/\w'.cell? (aA (w.z+1) 0)=some (iI 1)/\(w'.cell? (aA b (o+1*4))=some (iI r1.n)/\w'.cell? (aA b (o+1*4+1))=some (iI r1.x)/\w'.cell? (aA b (o+1*4+2))=some (iI r1.z)/\w'.cell? (aA b (o+1*4+3))=some (iI r1.p)))) af (ay4) (fun ay4=>?_);refine tq 1 ?_;refine tq 2 ?_;refine tq 3 ?_;refine tq 4 ?_;refine tq 5 ?_;refine tq 6 ?_;refine tq 7 ?_;refine tq 8 ?_;refine o1 0 fun K hK=>?_
     go_simp;refine ov hK (ay4) fun ay4=>?_
     refine o1 9 fun K hK=>?_
     go_simp;refine (dw o0 r1 _).mono ?_;rintro e w5 ⟨bz,cN⟩;unfold qh at bz;subst bz;have fy:=hY ((aZ.u.ext (xZ wr).drew).ext cN);generalize hmv:(gS o0 && gS r1 && o0.n==r1.n)=mb;clear hmv;obtain ⟨q,hq⟩:=ey (mulR o0 r1);rw [<-hq];have yK:=hY hq;clear hq;refine ov hK (HS.u _ fy.u.x (fy.u.t.cell 1) (fy.u.p.cv 0 yJ.u)) fun ay4=>?_
     refine tq 10 ?_;refine tq 11 ?_;refine tq 12 ?_;obtain ⟨⟨i0,i1,i2,i3⟩,x0,x1,x2,x3⟩:=aB fy.u.o;have jJ:=hY (fy.u.put q);refine o1 13 fun K hK=>?_
     go_simp;refine ov hK (HS.u _ jJ.u.x (jJ.u.t.cell 1) (jJ.u.p.cv 0 yJ.u)) fun ay4=>?_
     refine dn ?_;have eW:Hid (zu w ((((w5.setCell (aA g 0) (iI q.n)).setCell (aA g 1) (iI q.x)).setCell (aA g 2) (iI q.z)).setCell (aA g 3) (iI q.p)) (some ⟨b,o,none⟩) c p g q):=jJ.u;clear aZ fy jJ cN d0 d1 d2 d3 z0 z1 z2 z3 e0 e1 e2 e3 y0 y1 y2 y3 i0 i1 i2 i3 x0 x1 x2 x3 ay4 HS;generalize (((w5.setCell (aA g 0) (iI q.n)).setCell (aA g 1) (iI q.x)).setCell (aA g 2) (iI q.z)).setCell (aA g 3) (iI q.p)=wr3 at*
     have aZ:=eW;clear eW;clear a0 a2 ZC;have HV:Hid (lY [r0,r1] p=q):=by
      unfold Hid lY;rw [yJ.u,dk.u,WZ.u,<-nN.u];rw [aX ae,aK ae];rw [yK.u];rfl
     exact qF
   ·have dk:=hY hx;clear hx;rcases ajU with hz|hz
    ·have WZ:=hY hz;clear hz;have a1:wr.cell? (aA (w.z+1) 1)=some (iI 1):=aZ.u.p.cv 1 dk.u
     have a0:wr.cell? (aA (w.z+1) 0)=some (iI 1):=aZ.u.p.cv 0 yJ.u
     have HS:Hid (∀w',Ext w w'->w'.cell? (aA w.z 1)=some (.slice (some ⟨b,o,none⟩) 2 c)->w'.cell? (aA (w.z+1) 0)=some (iI 1)->w'.cell? (aA w.z 1)=some (.slice (some ⟨b,o,none⟩) 2 c)/\w'.cell? (aA (w.z+1) 0)=some (iI 1)/\(w'.cell? (aA b o)=some (iI r0.n)/\w'.cell? (aA b (o+1))=some (iI r0.x)/\w'.cell? (aA b (o+2))=some (iI r0.z)/\w'.cell? (aA b (o+3))=some (iI r0.p))):=fun w' hx e1 e2=>⟨e1,e2,QG.u w' hx⟩
     have ay4:(fun w'=>w'.cell? (aA w.z 1)=some (.slice (some ⟨b,o,none⟩) 2 c)/\w'.cell? (aA (w.z+1) 0)=some (iI 1)/\(w'.cell? (aA b o)=some (iI r0.n)/\w'.cell? (aA b (o+1))=some (iI r0.x)/\w'.cell? (aA b (o+2))=some (iI r0.z)/\w'.cell? (aA b (o+3))=some (iI r0.p))) wr.drew:=HS.u _ aZ.u.x.drew (aZ.u.t.drew.cell 1) (aZ.u.p.drew.cv 0 yJ.u);obtain ⟨⟨d0,d1,d2,d3⟩,z0,z1,z2,z3⟩:=aB aZ.u.o;obtain ⟨⟨e0,e1,e2,e3⟩,y0,y1,y2,y3⟩:=aB aZ.u.o.drew;go_upto_region 8 with fail;refine dm (S:=(fun w'=>w'.cell? (aA w.z 1)=some (.slice (some ⟨b,o,none⟩) 2 c)/\w'.cell? (aA (w.z+1) 0)=some (iI 1)/\(w'.cell? (aA b o)=some (iI r0.n)/\w'.cell? (aA b (o+1))=some (iI r0.x)/\w'.cell? (aA b (o+2))=some (iI r0.z)/\w'.cell? (aA b (o+3))=some (iI r0.p)))) af (ay4) (fun ay4=>?_);refine tq 1 ?_;refine tq 2 ?_;refine tq 3 ?_;refine tq 4 ?_;refine tq 5 ?_;refine o1 0 fun K hK=>?_
     go_simp;refine ov hK (ay4) fun ay4=>?_
     refine o1 6 fun K hK=>?_
     go_simp;refine (dw o0 r0 _).mono ?_;rintro e w5 ⟨bz,cN⟩;unfold qh at bz;subst bz;have fy:=hY ((aZ.u.ext (xZ wr).drew).ext cN);generalize hmv:(gS o0 && gS r0 && o0.n==r0.n)=mb;clear hmv;obtain ⟨q,hq⟩:=ey (mulR o0 r0);rw [<-hq];have HQ0:=hY hq;clear hq;refine ov hK (HS.u _ fy.u.x (fy.u.t.cell 1) (fy.u.p.cv 0 yJ.u)) fun ay4=>?_
     refine tq 7 ?_;refine tq 8 ?_;refine tq 9 ?_;obtain ⟨⟨i0,i1,i2,i3⟩,x0,x1,x2,x3⟩:=aB fy.u.o;have jJ:=hY (fy.u.put q);refine o1 10 fun K hK=>?_
     go_simp;refine ov hK (HS.u _ jJ.u.x (jJ.u.t.cell 1) (jJ.u.p.cv 0 yJ.u)) fun ay4=>?_
     refine dn ?_;have eW:Hid (zu w ((((w5.setCell (aA g 0) (iI q.n)).setCell (aA g 1) (iI q.x)).setCell (aA g 2) (iI q.z)).setCell (aA g 3) (iI q.p)) (some ⟨b,o,none⟩) c p g q):=jJ.u;clear aZ fy jJ cN d0 d1 d2 d3 z0 z1 z2 z3 e0 e1 e2 e3 y0 y1 y2 y3 i0 i1 i2 i3 x0 x1 x2 x3 ay4 HS;generalize (((w5.setCell (aA g 0) (iI q.n)).setCell (aA g 1) (iI q.x)).setCell (aA g 2) (iI q.z)).setCell (aA g 3) (iI q.p)=wr2 at*
     have aZ:=eW;clear eW;clear a0 a1;obtain ⟨q1,hq1⟩:=ey (q);rw [<-hq1] at aZ HQ0;clear hq1;have a0:wr2.cell? (aA (w.z+1) 0)=some (iI 1):=aZ.u.p.cv 0 yJ.u
     have a2:wr2.cell? (aA (w.z+1) 2)=some (iI 0):=aZ.u.p.cv 2 WZ.u
     have HV:Hid (lY [r0,r1] p=q1):=by
      unfold Hid lY;rw [yJ.u,dk.u,WZ.u,<-nN.u];rw [aK ae,aX ae];rw [HQ0.u];rfl
     exact qF
    ·have WZ:=hY hz;clear hz;have a1:wr.cell? (aA (w.z+1) 1)=some (iI 1):=aZ.u.p.cv 1 dk.u
     have a0:wr.cell? (aA (w.z+1) 0)=some (iI 1):=aZ.u.p.cv 0 yJ.u
     have HS:Hid (∀w',Ext w w'->w'.cell? (aA w.z 1)=some (.slice (some ⟨b,o,none⟩) 2 c)->w'.cell? (aA (w.z+1) 0)=some (iI 1)->w'.cell? (aA w.z 1)=some (.slice (some ⟨b,o,none⟩) 2 c)/\w'.cell? (aA (w.z+1) 0)=some (iI 1)/\(w'.cell? (aA b o)=some (iI r0.n)/\w'.cell? (aA b (o+1))=some (iI r0.x)/\w'.cell? (aA b (o+2))=some (iI r0.z)/\w'.cell? (aA b (o+3))=some (iI r0.p))):=fun w' hx e1 e2=>⟨e1,e2,QG.u w' hx⟩
     have ay4:(fun w'=>w'.cell? (aA w.z 1)=some (.slice (some ⟨b,o,none⟩) 2 c)/\w'.cell? (aA (w.z+1) 0)=some (iI 1)/\(w'.cell? (aA b o)=some (iI r0.n)/\w'.cell? (aA b (o+1))=some (iI r0.x)/\w'.cell? (aA b (o+2))=some (iI r0.z)/\w'.cell? (aA b (o+3))=some (iI r0.p))) wr.drew:=HS.u _ aZ.u.x.drew (aZ.u.t.drew.cell 1) (aZ.u.p.drew.cv 0 yJ.u);obtain ⟨⟨d0,d1,d2,d3⟩,z0,z1,z2,z3⟩:=aB aZ.u.o;obtain ⟨⟨e0,e1,e2,e3⟩,y0,y1,y2,y3⟩:=aB aZ.u.o.drew;go_upto_region 8 with fail;refine dm (S:=(fun w'=>w'.cell? (aA w.z 1)=some (.slice (some ⟨b,o,none⟩) 2 c)/\w'.cell? (aA (w.z+1) 0)=some (iI 1)/\(w'.cell? (aA b o)=some (iI r0.n)/\w'.cell? (aA b (o+1))=some (iI r0.x)/\w'.cell? (aA b (o+2))=some (iI r0.z)/\w'.cell? (aA b (o+3))=some (iI r0.p)))) af (ay4) (fun ay4=>?_);refine tq 1 ?_;refine tq 2 ?_;refine tq 3 ?_;refine tq 4 ?_;refine tq 5 ?_;refine o1 0 fun K hK=>?_
     go_simp;refine ov hK (ay4) fun ay4=>?_
     refine o1 6 fun K hK=>?_
     go_simp;refine (dw o0 r0 _).mono ?_;rintro e w5 ⟨bz,cN⟩;unfold qh at bz;subst bz;have fy:=hY ((aZ.u.ext (xZ wr).drew).ext cN);generalize hmv:(gS o0 && gS r0 && o0.n==r0.n)=mb;clear hmv;obtain ⟨q,hq⟩:=ey (mulR o0 r0);rw [<-hq];have HQ0:=hY hq;clear hq;refine ov hK (HS.u _ fy.u.x (fy.u.t.cell 1) (fy.u.p.cv 0 yJ.u)) fun ay4=>?_
     refine tq 7 ?_;refine tq 8 ?_;refine tq 9 ?_;obtain ⟨⟨i0,i1,i2,i3⟩,x0,x1,x2,x3⟩:=aB fy.u.o;have jJ:=hY (fy.u.put q);refine o1 10 fun K hK=>?_
     go_simp;refine ov hK (HS.u _ jJ.u.x (jJ.u.t.cell 1) (jJ.u.p.cv 0 yJ.u)) fun ay4=>?_
     refine dn ?_;have eW:Hid (zu w ((((w5.setCell (aA g 0) (iI q.n)).setCell (aA g 1) (iI q.x)).setCell (aA g 2) (iI q.z)).setCell (aA g 3) (iI q.p)) (some ⟨b,o,none⟩) c p g q):=jJ.u;clear aZ fy jJ cN d0 d1 d2 d3 z0 z1 z2 z3 e0 e1 e2 e3 y0 y1 y2 y3 i0 i1 i2 i3 x0 x1 x2 x3 ay4 HS;generalize (((w5.setCell (aA g 0) (iI q.n)).setCell (aA g 1) (iI q.x)).setCell (aA g 2) (iI q.z)).setCell (aA g 3) (iI q.p)=wr2 at*
     have aZ:=eW;clear eW;clear a0 a1;obtain ⟨q1,hq1⟩:=ey (q);rw [<-hq1] at aZ HQ0;clear hq1;have a0:wr2.cell? (aA (w.z+1) 0)=some (iI 1):=aZ.u.p.cv 0 yJ.u
     have a2:wr2.cell? (aA (w.z+1) 2)=some (iI 1):=aZ.u.p.cv 2 WZ.u
     have ZC:IntKind.i64.wrap 1=1:=ae
     have HS:Hid (∀w',Ext w w'->w'.cell? (aA w.z 1)=some (.slice (some ⟨b,o,none⟩) 2 c)->w'.cell? (aA (w.z+1) 0)=some (iI 1)->w'.cell? (aA w.z 1)=some (.slice (some ⟨b,o,none⟩) 2 c)/\w'.cell? (aA (w.z+1) 0)=some (iI 1)/\(w'.cell? (aA b (o+1*4))=some (iI r1.n)/\w'.cell? (aA b (o+1*4+1))=some (iI r1.x)/\w'.cell? (aA b (o+1*4+2))=some (iI r1.z)/\w'.cell? (aA b (o+1*4+3))=some (iI r1.p))):=fun w' hx e1 e2=>⟨e1,e2,QH.u w' hx⟩
     have ay4:(fun w'=>w'.cell? (aA w.z 1)=some (.slice (some ⟨b,o,none⟩) 2 c)/\w'.cell? (aA (w.z+1) 0)=some (iI 1)/\(w'.cell? (aA b (o+1*4))=some (iI r1.n)/\w'.cell? (aA b (o+1*4+1))=some (iI r1.x)/\w'.cell? (aA b (o+1*4+2))=some (iI r1.z)/\w'.cell? (aA b (o+1*4+3))=some (iI r1.p))) wr2.drew:=HS.u _ aZ.u.x.drew (aZ.u.t.drew.cell 1) (aZ.u.p.drew.cv 0 yJ.u);obtain ⟨⟨d0,d1,d2,d3⟩,z0,z1,z2,z3⟩:=aB aZ.u.o;obtain ⟨⟨e0,e1,e2,e3⟩,y0,y1,y2,y3⟩:=aB aZ.u.o.drew;go_upto_region 10 with fail;refine dm (S:=(fun w'=>w'.cell? (aA w.z 1)=some (.slice (some ⟨b,o,none⟩) 2 c)/\w'.cell? (aA (w.z+1) 0)=some (iI 1)/\(w'.cell? (aA b (o+1*4))=some (iI r1.n)/\w'.cell? (aA b (o+1*4+1))=some (iI r1.x)/\w'.cell? (aA b (o+1*4+2))=some (iI r1.z)/\w'.cell? (aA b (o+1*4+3))=some (iI r1.p)))) af (ay4) (fun ay4=>?_);refine tq 1 ?_;refine tq 2 ?_;refine tq 3 ?_;refine tq 4 ?_;refine tq 5 ?_;refine tq 6 ?_;refine tq 7 ?_;refine tq 8 ?_;refine o1 0 fun K hK=>?_
     go_simp;refine ov hK (ay4) fun ay4=>?_
     refine o1 9 fun K hK=>?_
     go_simp;refine (dw q1 r1 _).mono ?_;rintro e w5 ⟨bz,cN⟩;unfold qh at bz;subst bz;have fy:=hY ((aZ.u.ext (xZ wr2).drew).ext cN);generalize hmv:(gS q1 && gS r1 && q1.n==r1.n)=mb;clear hmv;obtain ⟨q,hq⟩:=ey (mulR q1 r1);rw [<-hq];have yK:=hY hq;clear hq;refine ov hK (HS.u _ fy.u.x (fy.u.t.cell 1) (fy.u.p.cv 0 yJ.u)) fun ay4=>?_
     refine tq 10 ?_;refine tq 11 ?_;refine tq 12 ?_;obtain ⟨⟨i0,i1,i2,i3⟩,x0,x1,x2,x3⟩:=aB fy.u.o;have jJ:=hY (fy.u.put q);refine o1 13 fun K hK=>?_
     go_simp;refine ov hK (HS.u _ jJ.u.x (jJ.u.t.cell 1) (jJ.u.p.cv 0 yJ.u)) fun ay4=>?_
     refine dn ?_;have eW:Hid (zu w ((((w5.setCell (aA g 0) (iI q.n)).setCell (aA g 1) (iI q.x)).setCell (aA g 2) (iI q.z)).setCell (aA g 3) (iI q.p)) (some ⟨b,o,none⟩) c p g q):=jJ.u;clear aZ fy jJ cN d0 d1 d2 d3 z0 z1 z2 z3 e0 e1 e2 e3 y0 y1 y2 y3 i0 i1 i2 i3 x0 x1 x2 x3 ay4 HS;generalize (((w5.setCell (aA g 0) (iI q.n)).setCell (aA g 1) (iI q.x)).setCell (aA g 2) (iI q.z)).setCell (aA g 3) (iI q.p)=wr3 at*
     have aZ:=eW;clear eW;clear a0 a2 ZC;have HV:Hid (lY [r0,r1] p=q):=by
      unfold Hid lY;rw [yJ.u,dk.u,WZ.u,<-nN.u];rw [aX ae,aX ae];rw [yK.u,HQ0.u];rfl
     exact qF
  ·have a0:wr.cell? (aA (w.z+1) 0)=some (iI 1):=aZ.u.p.cv 0 yJ.u
   obtain ⟨q,hq⟩:=ey (lY [r0,r1] p);rw [<-hq] at aZ;have HQ:=hY hq;clear hq;obtain ⟨⟨d0,d1,d2,d3⟩,-⟩:=aB aZ.u.o;obtain ⟨⟨e0,e1,e2,e3⟩,y0,y1,y2,y3⟩:=aB aZ.u.z;have BC:=hY (aZ.u.z.bP (iI q.n) (iI q.x) (iI q.z) (iI q.p));have mJ:=hY (br (g:=w.heap.size+1+1) aZ.u.x aa (iI q.n) (iI q.x) (iI q.z) (iI q.p));go_wp2;refine bR (v:=.tuple #[.agg (jF q),.bool true]) ?_ rfl ?_
   rotate_left
   ·exact ⟨by rw [<-HQ.u],mJ.u⟩
   ·exact bF rfl _ _ _ _ _ _ _ rfl rfl BC.u underlying187 rfl af
theorem ue {w:World} {B e size n c:Nat} {A:OA} {xs:List Value} (h:w.ownsRow B e size (.slice A n c) n xs):n<=c:=by
 rcases h.2 with ⟨h0,rfl⟩|⟨g,cap,cur,hv,_,_,KG,_⟩
 ·omega
 ·injection hv with _ _ h3;omega
theorem Hp {w:World} {B:Nat} {ops:Array Oper} {rest:List Oper} {o:Oper} {a:Act} {Q:Exit->Act->World->Prop} (fx:o.guard=none) (s x:Operand)
  (ho:aO o s x 145) (v:Value) (n:Nat) (xs:List Pa) (hs:a.eval s=v)
  (bc:w.ownsRow B 187 4 v n (aV xs)) (hB:B<=w.heap.size) (y:Pa) (e:TypeId) (b:Nat) (hx:a.eval x=.slice (some ⟨b,0,none⟩) 1 1) (qc:b=w.heap.size) (hn:n<=1800000000000)
  (h:∀A' c' w',w'.ownsRow B 187 4 (.slice A' (n+1) c') (n+1) (aV (xs++[y]))->w.grownBy w' v.ownBlock->wpList prog ops Q rest (a.put o.dst (.slice A' (n+1) c')) w'):
  wpList prog ops Q (o::rest) a (w.alloc (cO (jF y) e)):=by
 subst qc;have mH:=pI hB;refine zg (w0:={w with heap:=w.heap.extract 0 B}) fx s x ho v n xs hs dR ((Du hB).alloc _) _ 1 1 [y] hx (eh w _ e 4 _ ez ez) aa ?_;intro v' w' h1 h2 h3 h4;rw [mH] at h1;obtain ⟨A',c',rfl,_⟩:=au h1
 exact h A' c' w' h1 (yP (GY ((xZ w).alloc _) _) h3)
structure Bd (w W:World) (A:OA) (c:Nat) (B:OA) (d:Nat) (g:Nat) (X:OA) (k cx:Nat) (rows:List Pa):Prop where
 a:ay W w.heap.size 147 #[iI 1,.slice A 2 c]
 b:ay W (w.heap.size+1) 147 #[iI 1,.slice B 2 d]
 z:ay W (w.heap.size+1+1) 147 jC
 o:ay W g 147 #[iI 1,.slice X k cx]
 r:W.ownsRow (g+1) 187 4 (.slice X k cx) k (aV rows)
 x:Ext w W
 le:w.heap.size+1+1<g
section
variable {w W W':World} {A B X X':OA} {c d g k cx cx':Nat} {rows:List Pa} {y:Pa}
theorem Bd.ext (h:Bd w W A c B d g X k cx rows) (hx:Ext W W'):Bd w W' A c B d g X k cx rows:=⟨h.a.ext hx,h.b.ext hx,h.z.ext hx,h.o.ext hx,aq h.r hx,h.x.trans hx,h.le⟩
theorem Bd.app (h:Bd w W A c B d g X k cx rows) (ho:W'.ownsRow (g+1) 187 4 (.slice X' (k+1) cx') (k+1) (aV (rows++[y]))) (hg:W.grownBy W' (Value.slice X k cx).ownBlock):
  ay W' g 147 #[iI 1,.slice X k cx]/\Bd w (W'.setCell (aA g 1) (.slice X' (k+1) cx')) A c B d g X' (k+1) cx' (rows++[y]):=by
 have hl:=h.le;have hne:∀j,(Value.slice X k cx).ownBlock=some j->g<j:=fun j hj=>oM ((h.r.lt j hj).1)
 have hb:=h.o.grown hg (fun j hj=>oM (hne j hj));refine ⟨hb,(h.a.grown hg (fun j hj=>oM (hne j hj))).bX (p:=(aA g 1)) (by show w.heap.size≠g;omega) _,(h.b.grown hg (fun j hj=>oM (hne j hj))).bX (p:=(aA g 1)) (by show w.heap.size+1≠g;omega) _,(h.z.grown hg (fun j hj=>oM (hne j hj))).bX (p:=(aA g 1)) (by show w.heap.size+1+1≠g;omega) _,hb.ba 1 _,bk ho (p:=(aA g 1)) (uH g) _,(h.x.grown hg (fun j hj=>oM (hne j hj))).setCell (p:=(aA g 1)) (by show w.heap.size<=g;omega) _,h.le⟩
end
theorem Ei {P:Prop} (h:P:=by
 refine o1 11 fun K hK=>?_
 obtain ⟨⟨q0,q1,q2,q3⟩,f0,f1,f2,f3⟩:=aB dL.u;go_simp;have eQ:Hid (Ext wr ((((w6.setCell (aA s 0) (iI q.n)).setCell (aA s 1) (iI q.x)).setCell (aA s 2) (iI q.z)).setCell (aA s 3) (iI q.p))):=br (g:=s) dG.u sx _ _ _ _;have lX:Hid (ay ((((w6.setCell (aA s 0) (iI q.n)).setCell (aA s 1) (iI q.x)).setCell (aA s 2) (iI q.z)).setCell (aA s 3) (iI q.p)) s 187 (jF q)):=dL.u.bP _ _ _ _;refine ov hK (HK.u _ eQ.u) fun ay4=>?_
 refine tq 12 ?_;refine dn ?_;clear q0 q1 q2 q3 f0 f1 f2 f3 ay4;generalize (((w6.setCell (aA s 0) (iI q.n)).setCell (aA s 1) (iI q.x)).setCell (aA s 2) (iI q.z)).setCell (aA s 3) (iI q.p)=w7 at*
 have eW:=hY (aZ.u.ext eQ.u);clear HK dG dL eQ;obtain ⟨⟨q0,q1,q2,q3⟩,-⟩:=aB lX.u;obtain ⟨⟨t0,t1⟩,-⟩:=bt eW.u.o;go_wp2_with (at_builtin;refine Hp (B:=g+1) rfl _ _ rfl _ _ _ rfl eW.u.r (oM eW.u.o.lt) q _ _ rfl rfl aa ?_;intro X9 c9 w9 h1 h2;have HA:=hY (eW.u.app h1 h2);have k1:w9.cell? (aA g 1)=some (.slice X 1 cx):=HA.u.1.cell 1;have f1:w9.frozen? (aA g 1)=false:=HA.u.1.frozen 1;clear h1 h2)
 have eH:Hid (Bd w (w9.setCell (aA g 1) (.slice X9 (1+1) c9)) (some ⟨b,o,none⟩) c B d g X9 (1+1) c9 ([lY [b0,b1] a0]++[lY [b0,b1] a1])):=by rw [<-HQ.u];exact HA.u.2
 clear k1 f1 HA;go_roundw
 case rel=>exact .inr (.inr ⟨rfl,X9,c9,eH⟩)
 case measure=>simp [intOf]):P:=h
theorem Ej {P:Prop} (h:P:=by
 refine o1 11 fun K hK=>?_
 obtain ⟨⟨q0,q1,q2,q3⟩,f0,f1,f2,f3⟩:=aB dL.u;go_simp;have eQ:Hid (Ext wr ((((w6.setCell (aA s 0) (iI q.n)).setCell (aA s 1) (iI q.x)).setCell (aA s 2) (iI q.z)).setCell (aA s 3) (iI q.p))):=br (g:=s) dG.u sx _ _ _ _;have lX:Hid (ay ((((w6.setCell (aA s 0) (iI q.n)).setCell (aA s 1) (iI q.x)).setCell (aA s 2) (iI q.z)).setCell (aA s 3) (iI q.p)) s 187 (jF q)):=dL.u.bP _ _ _ _;refine ov hK (HK.u _ eQ.u) fun ay4=>?_
 refine tq 12 ?_;refine dn ?_;clear q0 q1 q2 q3 f0 f1 f2 f3 ay4;generalize (((w6.setCell (aA s 0) (iI q.n)).setCell (aA s 1) (iI q.x)).setCell (aA s 2) (iI q.z)).setCell (aA s 3) (iI q.p)=w7 at*
 have eW:=hY (aZ.u.ext eQ.u);clear HK dG dL eQ;obtain ⟨⟨q0,q1,q2,q3⟩,-⟩:=aB lX.u;obtain ⟨⟨t0,t1⟩,-⟩:=bt eW.u.o;go_wp2_with (at_builtin;refine Hp (B:=g+1) rfl _ _ rfl _ _ _ rfl eW.u.r (oM eW.u.o.lt) q _ _ rfl rfl aa ?_;intro X9 c9 w9 h1 h2;have HA:=hY (eW.u.app h1 h2);have k1:w9.cell? (aA g 1)=some (.slice X 0 cx):=HA.u.1.cell 1;have f1:w9.frozen? (aA g 1)=false:=HA.u.1.frozen 1;clear h1 h2)
 have eH:Hid (Bd w (w9.setCell (aA g 1) (.slice X9 (0+1) c9)) (some ⟨b,o,none⟩) c B d g X9 (0+1) c9 ([]++[lY [b0,b1] a0])):=by rw [<-HQ.u];exact HA.u.2
 clear k1 f1 HA;go_roundw
 case rel=>exact .inr (.inl ⟨rfl,X9,c9,eH⟩)
 case measure=>simp [intOf]):P:=h
theorem nD (A B:OA) (c d:Nat) (a0 a1 b0 b1:Pa) (w:World) (h:Rd w w.heap.size 4 A 2 (aV [a0,a1])) (h':Rd w w.heap.size 4 B 2 (aV [b0,b1])) (hd:2<=d) (hv:mB 1 [b0,b1]=true)
  (VV:gS a0=true) (ND:a0.n=1) (hp1:gS a1=true) (nM:a1.n=1):
  Calls prog 164 #[.agg #[iI 1,.slice A 2 c],.agg #[iI 1,.slice B 2 d]] w fun e w'=>(∃v,e=.returned v/\jX 1 (Hd [a0,a1] [b0,b1]) v w')/\Ext w w':=by
 have Xa:Hid (∀w',Ext w w'->Calls prog 167 #[.agg #[iI 1,.slice B 2 d],.agg (jF a0)] w' fun e w''=>e=.returned (.tuple #[(lY [b0,b1] a0).val,.bool true])/\Ext w' w''):=fun w' hx=>tF B d b0 b1 a0 w' (h'.ext hx) hd hv VV ND
 have Xb:Hid (∀w',Ext w w'->Calls prog 167 #[.agg #[iI 1,.slice B 2 d],.agg (jF a1)] w' fun e w''=>e=.returned (.tuple #[(lY [b0,b1] a1).val,.bool true])/\Ext w' w''):=fun w' hx=>tF B d b0 b1 a1 w' (h'.ext hx) hd hv hp1 nM
 obtain ⟨b,o,r0',rfl,hb,Hh,-⟩:=fD h (i:=0) aa;have QG:Hid (∀w',Ext w w'->w'.cell? (aA b o)=some (iI a0.n)/\w'.cell? (aA b (o+1))=some (iI a0.x)/\w'.cell? (aA b (o+2))=some (iI a0.z)/\w'.cell? (aA b (o+3))=some (iI a0.p)):=fun w' hx=>by
  exact Eg
 have QH:Hid (∀w',Ext w w'->w'.cell? (aA b (o+1*4))=some (iI a1.n)/\w'.cell? (aA b (o+1*4+1))=some (iI a1.x)/\w'.cell? (aA b (o+1*4+2))=some (iI a1.z)/\w'.cell? (aA b (o+1*4+3))=some (iI a1.p)):=fun w' hx=>by
  exact Eh
 clear hv VV hp1 ND nM h h' Hh hb;have JD:Hid (Bd w ((((w.alloc (cO #[iI 1,.slice (some ⟨b,o,none⟩) 2 c] 147)).alloc (cO #[iI 1,.slice B 2 d] 147)).alloc (cO jC 147)).alloc (cO #[iI 1,nS] 147)) (some ⟨b,o,none⟩) c B d (w.heap.size+1+1+1) none 0 0 []):=
  ⟨(((ay.new w _ _).alloc _).alloc _).alloc _,((ay.newAt ag).alloc _).alloc _,(ay.newAt ag).alloc _,ay.newAt ag,⟨ag,.inl ⟨rfl,rfl⟩⟩,by unfold Ext;exact xx,aa⟩
 go_enter func164,ntmps164;go_upto_region 2 with fail;generalize (((w.alloc (cO #[iI 1,.slice (some ⟨b,o,none⟩) 2 c] 147)).alloc (cO #[iI 1,.slice B 2 d] 147)).alloc (cO jC 147)).alloc (cO #[iI 1,nS] 147)=W1 at*
 obtain ⟨g,hgg⟩:=ex (w.heap.size+1+1+1);rw [hgg] at JD |-;clear hgg;go_wp2
 go_loopw [6] (fun i wr=>(i=iI 0/\∃(X:OA) (cx:Nat),Hid (Bd w wr (some ⟨b,o,none⟩) c B d g X 0 cx []))\/(i=iI 1/\∃(X:OA) (cx:Nat),Hid (Bd w wr (some ⟨b,o,none⟩) c B d g X 1 cx [lY [b0,b1] a0]))\/(i=iI 2/\∃(X:OA) (cx:Nat),Hid (Bd w wr (some ⟨b,o,none⟩) c B d g X 2 cx [lY [b0,b1] a0,lY [b0,b1] a1]))) (fun i _=>2 - (intOf i).toNat)
 case atStart=>exact .inl ⟨rfl,none,0,JD⟩
 case round=>
  clear JD;rcases hrel with ⟨rfl,X,cx,aZ⟩|⟨rfl,X,cx,aZ⟩|⟨rfl,X,cx,aZ⟩
  ·skip;have HK:Hid (∀w',Ext wr w'->w'.cell? (aA w.z 1)=some (.slice (some ⟨b,o,none⟩) 2 c)/\(w'.cell? (aA (w.z+1) 0)=some (iI 1)/\w'.cell? (aA (w.z+1) 1)=some (.slice B 2 d))/\(w'.cell? (aA b o)=some (iI a0.n)/\w'.cell? (aA b (o+1))=some (iI a0.x)/\w'.cell? (aA b (o+2))=some (iI a0.z)/\w'.cell? (aA b (o+3))=some (iI a0.p))):=fun w' hx=>⟨(aZ.u.a.ext hx).cell 1,⟨(aZ.u.b.ext hx).cell 0,(aZ.u.b.ext hx).cell 1⟩,QG.u w' (aZ.u.x.trans hx)⟩
   obtain ⟨q,hq⟩:=ey (lY [b0,b1] a0);rw [<-hq] at Xa;have HQ:=hY hq;clear hq;go_upto_region 5 with fail;refine dm (S:=(fun w'=>w'.cell? (aA w.z 1)=some (.slice (some ⟨b,o,none⟩) 2 c)/\(w'.cell? (aA (w.z+1) 0)=some (iI 1)/\w'.cell? (aA (w.z+1) 1)=some (.slice B 2 d))/\(w'.cell? (aA b o)=some (iI a0.n)/\w'.cell? (aA b (o+1))=some (iI a0.x)/\w'.cell? (aA b (o+2))=some (iI a0.z)/\w'.cell? (aA b (o+3))=some (iI a0.p)))) af (HK.u _ (xZ wr).drew) (fun ay4=>?_);refine tq 0 ?_;refine tq 1 ?_;refine tq 2 ?_;refine tq 3 ?_;refine tq 4 ?_;refine tq 5 ?_;refine o2 6 10 (fun K hK=>?_) fun K hK=>?_
   ·skip;go_simp;refine (Xa.u _ (aZ.u.x.trans ((xZ wr).drew))).mono ?_;rintro e w5 ⟨rfl,bK⟩;have kM:Hid (Ext wr w5):=Ext.trans (xZ wr).drew bK;refine ov hK (HK.u _ kM.u) fun ay4=>?_
    refine tq 7 ?_;refine tq 8 ?_;refine tq 9 ?_;refine o1 10 fun K hK=>?_
    go_simp;have dG:Hid (Ext wr (w5.alloc (cO zO 187))):=kM.u.alloc _;have dL:Hid (ay (w5.alloc (cO zO 187)) w5.heap.size 187 zO):=ay.new _ _ _;have sx:wr.heap.size<=w5.heap.size:=kM.u.size;refine ov hK (HK.u _ dG.u) fun ay4=>?_
    clear bK;generalize w5.alloc (cO zO 187)=w6 at*
    generalize Xc:w5.heap.size=s at*
    clear Xc kM
    exact Ej
   ·skip;go_simp;refine ov hK (HK.u _ (((xZ wr).alloc _).drew)) fun ay4=>?_
    refine o1 6 fun K hK=>?_
    go_simp;refine (Xa.u _ (aZ.u.x.trans (((xZ wr).alloc (cO zO 187)).drew))).mono ?_;rintro e w5 ⟨rfl,bK⟩;have dG:Hid (Ext wr w5):=Ext.trans ((xZ wr).alloc (cO zO 187)).drew bK;have dL:Hid (ay w5 wr.heap.size 187 zO):=((ay.new wr 187 zO).ext (xZ _).drew).ext bK;have sx:wr.heap.size<=wr.heap.size:=lI _;refine ov hK (HK.u _ dG.u) fun ay4=>?_
    clear bK;refine tq 7 ?_;refine tq 8 ?_;refine tq 9 ?_;have FB:∃s,s=wr.heap.size:=⟨_,rfl⟩;obtain ⟨s,hs⟩:=FB;rw [<-hs] at dL sx |-;replace sx:wr.heap.size<=s:=aa
    clear hs;have JE:∃w6,w6=w5:=⟨_,rfl⟩;obtain ⟨w6,rfl⟩:=JE
    exact Ej
  ·skip;have HK:Hid (∀w',Ext wr w'->w'.cell? (aA w.z 1)=some (.slice (some ⟨b,o,none⟩) 2 c)/\(w'.cell? (aA (w.z+1) 0)=some (iI 1)/\w'.cell? (aA (w.z+1) 1)=some (.slice B 2 d))/\(w'.cell? (aA b (o+1*4))=some (iI a1.n)/\w'.cell? (aA b (o+1*4+1))=some (iI a1.x)/\w'.cell? (aA b (o+1*4+2))=some (iI a1.z)/\w'.cell? (aA b (o+1*4+3))=some (iI a1.p))):=fun w' hx=>⟨(aZ.u.a.ext hx).cell 1,⟨(aZ.u.b.ext hx).cell 0,(aZ.u.b.ext hx).cell 1⟩,QH.u w' (aZ.u.x.trans hx)⟩
   obtain ⟨q,hq⟩:=ey (lY [b0,b1] a1);rw [<-hq] at Xb;have HQ:=hY hq;clear hq;go_upto_region 5 with fail;refine dm (S:=(fun w'=>w'.cell? (aA w.z 1)=some (.slice (some ⟨b,o,none⟩) 2 c)/\(w'.cell? (aA (w.z+1) 0)=some (iI 1)/\w'.cell? (aA (w.z+1) 1)=some (.slice B 2 d))/\(w'.cell? (aA b (o+1*4))=some (iI a1.n)/\w'.cell? (aA b (o+1*4+1))=some (iI a1.x)/\w'.cell? (aA b (o+1*4+2))=some (iI a1.z)/\w'.cell? (aA b (o+1*4+3))=some (iI a1.p)))) af (HK.u _ (xZ wr).drew) (fun ay4=>?_);refine tq 0 ?_;refine tq 1 ?_;refine tq 2 ?_;refine tq 3 ?_;refine tq 4 ?_;refine tq 5 ?_;refine o2 6 10 (fun K hK=>?_) fun K hK=>?_
   ·skip;go_simp;refine (Xb.u _ (aZ.u.x.trans ((xZ wr).drew))).mono ?_;rintro e w5 ⟨rfl,bK⟩;have kM:Hid (Ext wr w5):=Ext.trans (xZ wr).drew bK;refine ov hK (HK.u _ kM.u) fun ay4=>?_
    refine tq 7 ?_;refine tq 8 ?_;refine tq 9 ?_;refine o1 10 fun K hK=>?_
    go_simp;have dG:Hid (Ext wr (w5.alloc (cO zO 187))):=kM.u.alloc _;have dL:Hid (ay (w5.alloc (cO zO 187)) w5.heap.size 187 zO):=ay.new _ _ _;have sx:wr.heap.size<=w5.heap.size:=kM.u.size;refine ov hK (HK.u _ dG.u) fun ay4=>?_
    clear bK;generalize w5.alloc (cO zO 187)=w6 at*
    generalize Xc:w5.heap.size=s at*
    clear Xc kM
    exact Ei
   ·skip;go_simp;refine ov hK (HK.u _ (((xZ wr).alloc _).drew)) fun ay4=>?_
    refine o1 6 fun K hK=>?_
    go_simp;refine (Xb.u _ (aZ.u.x.trans (((xZ wr).alloc (cO zO 187)).drew))).mono ?_;rintro e w5 ⟨rfl,bK⟩;have dG:Hid (Ext wr w5):=Ext.trans ((xZ wr).alloc (cO zO 187)).drew bK;have dL:Hid (ay w5 wr.heap.size 187 zO):=((ay.new wr 187 zO).ext (xZ _).drew).ext bK;have sx:wr.heap.size<=wr.heap.size:=lI _;refine ov hK (HK.u _ dG.u) fun ay4=>?_
    clear bK;refine tq 7 ?_;refine tq 8 ?_;refine tq 9 ?_;have FB:∃s,s=wr.heap.size:=⟨_,rfl⟩;obtain ⟨s,hs⟩:=FB;rw [<-hs] at dL sx |-;replace sx:wr.heap.size<=s:=aa
    clear hs;have JE:∃w6,w6=w5:=⟨_,rfl⟩;obtain ⟨w6,rfl⟩:=JE
    exact Ei
  ·obtain ⟨⟨t0,t1⟩,-⟩:=bt aZ.u.o;obtain ⟨⟨d0,d1⟩,z0,z1⟩:=bt aZ.u.z;have hle:=aZ.u.le;have BC:=hY (aZ.u.z.dN (iI 1) (.slice X 2 cx));have mJ:=hY (dH (g:=w.heap.size+1+1) aZ.u.x aa (iI 1) (.slice X 2 cx));have TY:Hid (Rd (dN wr (w.heap.size+1+1) (iI 1) (.slice X 2 cx)) (dN wr (w.heap.size+1+1) (iI 1) (.slice X 2 cx)).heap.size 4 X 2 (aV [lY [b0,b1] a0,lY [b0,b1] a1])):=by
    unfold Hid;rw [kx]
    exact qw (Rd.own aZ.u.r) aZ.u.z _ _
   have hcx:=ue aZ.u.r;go_wp2;refine bR (v:=.agg #[iI 1,.slice X 2 cx]) ?_ rfl ?_
   rotate_left
   ·exact ⟨⟨_,rfl,X,cx,rfl,TY.u,hcx⟩,mJ.u⟩
   ·exact nU rfl _ _ (w.heap.size+1+1) 147 _ (0,0) _ af BC.u underlying147 rfl af
end Go.Proofs.YtiajdbllccmokaaGreatDoor
