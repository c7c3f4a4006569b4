import Derived.Test.YtodhjgngkkcjgaaGreatDoorXr
import Derived.Test.YtodhjgngkkcjgaaGreatDoorXq
namespace Go.Proofs.YtodhjgngkkcjgaaGreatDoor
open Go.ChangeShapes Go.WideShapes Go.ChangeAt Go.RowKit Go.Deep Go.Proofs.Tryz
set_option linter.unusedVariables false
set_option linter.unusedSimpArgs false
set_option maxRecDepth 100000
set_option maxHeartbeats 16000000
theorem nI (A:OA) (c:Nat) (gs:List Gt) (w:World) (h:Rd w w.heap.size 4 A gs.length (aq gs)) (hl:gs.length<=2000000000000):
  Calls prog 224 #[.slice A gs.length c] w fun e w'=>pV 1 (zZ 1 gs) e w'/\Ext w w':=by
 have HB:Hid (au (w.alloc (cO jC 207)) w.heap.size 207 jC):=au.new w _ _;have HX:Hid (Ext w (w.alloc (cO jC 207))):=(xZ w).alloc _;go_enter func224,ntmps224;go_wp2_with fail;refine (kB A c 1 gs _ (h.ext HX.u) hl).mono ?_;rintro e w1 ⟨bD,aK⟩;have hx:=HX.u.trans aK;obtain ⟨⟨a0,a1⟩,z0,z1⟩:=bu (HB.u.ext aK)
 cases ht:zZ 1 gs with
 |none=>
  obtain rfl:=Ah ht bD;have dv:=hY ((HB.u.ext aK).eh (iI 0) (nS));have eK:=hY (dK (g:=w.heap.size) hx (lI _) (iI 0) (nS));have HT:=hY ht;clear ht bD hx aK;go_wp2;refine bJ (v:=.tuple #[.agg jC,.bool false]) ?_ rfl ?_
  rotate_left
  ·exact ⟨wK HT.u rfl,eK.u⟩
  ·exact aR rfl _ _ _ _ _ _ _ rfl rfl dv.u yv rfl af
 |some rs=>
  obtain ⟨B,d,rfl,hr,hc⟩:=ko ht rfl bD;have dv:=hY ((HB.u.ext aK).eh (iI 1) (.slice B rs.length d));have eK:=hY (dK (g:=w.heap.size) hx (lI _) (iI 1) (.slice B rs.length d));have jN:Hid (Rd (eh w1 w.heap.size (iI 1) (.slice B rs.length d)) (eh w1 w.heap.size (iI 1) (.slice B rs.length d)).heap.size 4 B rs.length (aX rs)):=by rw [mE];exact tI hr (HB.u.ext aK) _ _
  have HC:=hY hc;have HT:=hY ht;clear ht bD hx aK hr hc;go_wp2;refine bJ (v:=.tuple #[.agg #[iI 1,.slice B rs.length d],.bool true]) ?_ rfl ?_
  rotate_left
  ·exact ⟨Ef HT.u rfl ⟨B,d,rfl,jN.u,HC.u⟩,eK.u⟩
  ·exact aR rfl _ _ _ _ _ _ _ rfl rfl dv.u yv rfl af
structure Di (w W:World) (A:OA) (c:Nat) (p:Pa) (g:Nat) (o:Pa):Prop where
 t:au W w.heap.size 207 #[iI 1,.slice A 2 c]
 p:au W (w.heap.size+1) 251 (jF p)
 z:au W (w.heap.size+1+1) 251 zO
 o:au W g 251 (jF o)
 x:Ext w W
 le:w.heap.size+1+1<g
theorem Di.ext {w W W':World} {A:OA} {c g:Nat} {p o:Pa} (h:Di w W A c p g o) (hx:Ext W W'):Di w W' A c p g o:=⟨h.t.ext hx,h.p.ext hx,h.z.ext hx,h.o.ext hx,h.x.trans hx,h.le⟩
theorem Di.put {w W:World} {A:OA} {c g:Nat} {p o:Pa} (h:Di w W A c p g o) (q:Pa):Di w (bR W g (iI q.n) (iI q.x) (iI q.z) (iI q.p)) A c p g q:=by
 have hl:=h.le
 exact ⟨ed h.t aa _ _ _ _,ed h.p aa _ _ _ _,ed h.z aa _ _ _ _,h.o.bR _ _ _ _,aW h.x aa _ _ _ _,h.le⟩
theorem auW {p:Pa} (h:iO p=true) (hn:p.n=1):(p.x=0\/p.x=1)/\(p.z=0\/p.z=1):=by
 unfold iO at h;rw [hn] at h;have e:sx 1=1:=rfl;rw [e] at h;simp only [lF,kh] at h;omega
structure Xp (w W:World) (A:OA) (c:Nat) (p:Pa):Prop where
 t:au W w.heap.size 207 #[iI 1,.slice A 2 c]
 p:au W (w.heap.size+1) 251 (jF p)
 z:au W (w.heap.size+1+1) 251 zO
 x:Ext w W
theorem Xp.ext {w W W':World} {A:OA} {c:Nat} {p:Pa} (h:Xp w W A c p) (hx:Ext W W'):Xp w W' A c p:=⟨h.t.ext hx,h.p.ext hx,h.z.ext hx,h.x.trans hx⟩
theorem tS {P:Prop} (h:P:=by
 go_wp2;go_roundw
 case rel=>exact .inr ⟨rfl,by rw [HV.u];exact bf⟩
 case measure=>simp [intOf]):P:=h
theorem Jm {P:Prop} (h:P:=by
 obtain ⟨b',o',r,he,-,hr,x⟩:=gD (h.ext hx) (i:=0) aa;simp only [iG,jR] at he;obtain ⟨rfl,rfl,-⟩:=he
 cases hr
 rw [ND,oh] at x
 exact x):P:=h
theorem Jn {P:Prop} (h:P:=by
 obtain ⟨b',o',r,he,-,hr,x⟩:=gD (h.ext hx) (i:=1) aa;simp only [iG,jR] at he;obtain ⟨rfl,rfl,-⟩:=he
 cases hr
 exact x):P:=h
theorem Jo {P:Prop} (h:P:=by
 have h9:=dp A c 1 [r0,r1] w' (h.ext hx) ag hc;rw [hv] at h9
 exact h9):P:=h
theorem wT (A:OA) (c:Nat) (r0 r1 p:Pa) (w:World) (h:Rd w w.heap.size 4 A 2 (aX [r0,r1])) (hc:2<=c) (hv:oO 1 [r0,r1]=true) (hp:iO p=true) (hn:p.n=1):
  Calls prog 228 #[.agg #[iI 1,.slice A 2 c],p.val] w fun e w'=>e=.returned (.tuple #[(nX [r0,r1] p).val,.bool true])/\Ext w w':=by
 obtain ⟨auX,apJ⟩:=auW hp hn;have HIV:Hid (∀w',Ext w w'->Calls prog 202 #[.agg #[iI 1,.slice A 2 c]] w' fun e w''=>e=.returned (.bool true)/\Ext w' w''):=fun w' hx=>by
  exact Jo
 have HIP:Hid (∀w',Calls prog 216 #[.agg (jF p)] w' fun e w''=>e=.returned (.bool true)/\Ext w' w''):=fun w'=>by
  have h9:=cU p w';rw [hp] at h9
  exact h9
 have HW:Hid (Xp w ((((w.alloc (cO #[iI 1,.slice A 2 c] 207)).alloc (cO (jF p) 251)).alloc (cO zO 251))) A c p):=⟨((au.new w _ _).alloc _).alloc _,(au.newAt ag).alloc _,au.newAt ag,by unfold Ext;exact xx⟩;obtain ⟨b,o,r0',rfl,hb,MC,-⟩:=gD h (i:=0) aa;have Xq:Hid (∀w',Ext w w'->w'.cell? (aA b o)=some (iI r0.n)/\w'.cell? (aA b (o+1))=some (iI r0.x)/\w'.cell? (aA b (o+2))=some (iI r0.z)/\w'.cell? (aA b (o+3))=some (iI r0.p)):=fun w' hx=>by
  exact Jm
 have Xr:Hid (∀w',Ext w w'->w'.cell? (aA b (o+1*4))=some (iI r1.n)/\w'.cell? (aA b (o+1*4+1))=some (iI r1.x)/\w'.cell? (aA b (o+1*4+2))=some (iI r1.z)/\w'.cell? (aA b (o+1*4+3))=some (iI r1.p)):=fun w' hx=>by
  exact Jn
 have CB:=hY hn;clear hv hp h MC hb hn;go_enter func228,ntmps228;go_upto_region 1 with fail;generalize ((w.alloc (cO #[iI 1,.slice (some ⟨b,o,none⟩) 2 c] 207)).alloc (cO (jF p) 251)).alloc (cO zO 251)=W1 at*
 obtain ⟨⟨t0,t1⟩,-⟩:=bu HW.u.t;go_wp2_with fail;refine (HIV.u _ HW.u.x).mono ?_;rintro e w2 ⟨rfl,bz⟩;have HW2:=hY (HW.u.ext bz);clear bz t0 t1;obtain ⟨⟨a0,a1,a2,a3⟩,-⟩:=aB HW2.u.p;go_wp2_with fail;refine (HIP.u _).mono ?_;rintro e w3 ⟨rfl,bO⟩;have ZM:=hY (HW2.u.ext bO);clear bO a0 a1 a2 a3 HW2 HW;obtain ⟨⟨t0,t1⟩,-⟩:=bu ZM.u.t;have a0:w3.cell? (aA (w.z+1) 0)=some (iI 1):=ZM.u.p.cv 0 CB.u
 have a3:=ZM.u.p.ck 3;go_upto_region 4 with fail;obtain ⟨o0,KU⟩:∃o0:Pa,o0=⟨1,0,0,p.p⟩:=⟨_,rfl⟩;have qx:=hY KU;have Pb:Hid (Di w (w3.alloc (cO #[iI 1,iI 0,iI 0,iI p.p] 251)) (some ⟨b,o,none⟩) c p w3.heap.size o0):=⟨ZM.u.t.alloc _,ZM.u.p.alloc _,ZM.u.z.alloc _,by rw [KU];exact au.new w3 _ _,ZM.u.x.alloc _,ZM.u.z.lt⟩;clear KU a0 a3 t0 t1 ZM;generalize w3.alloc (cO #[iI 1,iI 0,iI 0,iI p.p] 251)=W4 at*
 generalize w3.heap.size=g at*
 go_wp2
 go_loopw [7] (fun i wr=>(i=iI 0/\Hid (Di w wr (some ⟨b,o,none⟩) c p g o0))\/(i=iI 1/\Hid (Di w wr (some ⟨b,o,none⟩) c p g (nX [r0,r1] p)))) (fun i _=>1 - (intOf i).toNat)
 case atStart=>exact .inl ⟨rfl,Pb⟩
 case round=>
  clear Pb;rcases hrel with ⟨rfl,bf⟩|⟨rfl,bf⟩
  ·skip;rcases auX with hx|hx
   ·have cH:=hY hx;clear hx;rcases apJ with hz|hz
    ·have Ce:=hY hz;clear hz;have a1:wr.cell? (aA (w.z+1) 1)=some (iI 0):=bf.u.p.cv 1 cH.u
     have a0:wr.cell? (aA (w.z+1) 0)=some (iI 1):=bf.u.p.cv 0 CB.u
     have a2:wr.cell? (aA (w.z+1) 2)=some (iI 0):=bf.u.p.cv 2 Ce.u
     have HV:Hid (nX [r0,r1] p=o0):=by
      unfold Hid nX;rw [CB.u,cH.u,Ce.u,<-qx.u];rw [aM ae,aM ae];skip
     exact tS
    ·have Ce:=hY hz;clear hz;have a1:wr.cell? (aA (w.z+1) 1)=some (iI 0):=bf.u.p.cv 1 cH.u
     have a0:wr.cell? (aA (w.z+1) 0)=some (iI 1):=bf.u.p.cv 0 CB.u
     have a2:wr.cell? (aA (w.z+1) 2)=some (iI 1):=bf.u.p.cv 2 Ce.u
     have hw1:IntKind.i64.wrap 1=1:=ae
     have HS:Hid (∀w',Ext w w'->w'.cell? (aA w.z 1)=some (.slice (some ⟨b,o,none⟩) 2 c)->w'.cell? (aA (w.z+1) 0)=some (iI 1)->w'.cell? (aA w.z 1)=some (.slice (some ⟨b,o,none⟩) 2 c)/\w'.cell? (aA (w.z+1) 0)=some (iI 1)/\(w'.cell? (aA b (o+1*4))=some (iI r1.n)/\w'.cell? (aA b (o+1*4+1))=some (iI r1.x)/\w'.cell? (aA b (o+1*4+2))=some (iI r1.z)/\w'.cell? (aA b (o+1*4+3))=some (iI r1.p))):=fun w' hx e1 e2=>⟨e1,e2,Xr.u w' hx⟩
     have aEQ:(fun w'=>w'.cell? (aA w.z 1)=some (.slice (some ⟨b,o,none⟩) 2 c)/\w'.cell? (aA (w.z+1) 0)=some (iI 1)/\(w'.cell? (aA b (o+1*4))=some (iI r1.n)/\w'.cell? (aA b (o+1*4+1))=some (iI r1.x)/\w'.cell? (aA b (o+1*4+2))=some (iI r1.z)/\w'.cell? (aA b (o+1*4+3))=some (iI r1.p))) wr.drew:=HS.u _ bf.u.x.drew (bf.u.t.drew.cell 1) (bf.u.p.drew.cv 0 CB.u);obtain ⟨⟨d0,d1,d2,d3⟩,z0,z1,z2,z3⟩:=aB bf.u.o;obtain ⟨⟨e0,e1,e2,e3⟩,y0,y1,y2,y3⟩:=aB bf.u.o.drew;go_upto_region 10 with fail;refine dt (S:=(fun w'=>w'.cell? (aA w.z 1)=some (.slice (some ⟨b,o,none⟩) 2 c)/\w'.cell? (aA (w.z+1) 0)=some (iI 1)/\(w'.cell? (aA b (o+1*4))=some (iI r1.n)/\w'.cell? (aA b (o+1*4+1))=some (iI r1.x)/\w'.cell? (aA b (o+1*4+2))=some (iI r1.z)/\w'.cell? (aA b (o+1*4+3))=some (iI r1.p)))) af (aEQ) (fun aEQ=>?_);refine tq 1 ?_;refine tq 2 ?_;refine tq 3 ?_;refine tq 4 ?_;refine tq 5 ?_;refine tq 6 ?_;refine tq 7 ?_;refine tq 8 ?_;refine o1 0 fun K hK=>?_
     go_simp;refine ov hK (aEQ) fun aEQ=>?_
     refine o1 9 fun K hK=>?_
     go_simp;refine (dF o0 r1 _).mono ?_;rintro e w5 ⟨bD,cI⟩;unfold tz at bD;subst bD;have gv:=hY ((bf.u.ext (xZ wr).drew).ext cI);generalize hmv:(iO o0 && iO r1 && o0.n==r1.n)=mb;clear hmv;obtain ⟨q,hq⟩:=ey (mulR o0 r1);rw [<-hq];have Dj:=hY hq;clear hq;refine ov hK (HS.u _ gv.u.x (gv.u.t.cell 1) (gv.u.p.cv 0 CB.u)) fun aEQ=>?_
     refine tq 10 ?_;refine tq 11 ?_;refine tq 12 ?_;obtain ⟨⟨i0,i1,i2,i3⟩,x0,x1,x2,x3⟩:=aB gv.u.o;have kK:=hY (gv.u.put q);refine o1 13 fun K hK=>?_
     go_simp;refine ov hK (HS.u _ kK.u.x (kK.u.t.cell 1) (kK.u.p.cv 0 CB.u)) fun aEQ=>?_
     refine dn ?_;have fG:Hid (Di w ((((w5.setCell (aA g 0) (iI q.n)).setCell (aA g 1) (iI q.x)).setCell (aA g 2) (iI q.z)).setCell (aA g 3) (iI q.p)) (some ⟨b,o,none⟩) c p g q):=kK.u;clear bf gv kK cI d0 d1 d2 d3 z0 z1 z2 z3 e0 e1 e2 e3 y0 y1 y2 y3 i0 i1 i2 i3 x0 x1 x2 x3 aEQ HS;generalize (((w5.setCell (aA g 0) (iI q.n)).setCell (aA g 1) (iI q.x)).setCell (aA g 2) (iI q.z)).setCell (aA g 3) (iI q.p)=wr3 at*
     have bf:=fG;clear fG;clear a0 a2 hw1;have HV:Hid (nX [r0,r1] p=q):=by
      unfold Hid nX;rw [CB.u,cH.u,Ce.u,<-qx.u];rw [aY ae,aM ae];rw [Dj.u];rfl
     exact tS
   ·have cH:=hY hx;clear hx;rcases apJ with hz|hz
    ·have Ce:=hY hz;clear hz;have a1:wr.cell? (aA (w.z+1) 1)=some (iI 1):=bf.u.p.cv 1 cH.u
     have a0:wr.cell? (aA (w.z+1) 0)=some (iI 1):=bf.u.p.cv 0 CB.u
     have HS:Hid (∀w',Ext w w'->w'.cell? (aA w.z 1)=some (.slice (some ⟨b,o,none⟩) 2 c)->w'.cell? (aA (w.z+1) 0)=some (iI 1)->w'.cell? (aA w.z 1)=some (.slice (some ⟨b,o,none⟩) 2 c)/\w'.cell? (aA (w.z+1) 0)=some (iI 1)/\(w'.cell? (aA b o)=some (iI r0.n)/\w'.cell? (aA b (o+1))=some (iI r0.x)/\w'.cell? (aA b (o+2))=some (iI r0.z)/\w'.cell? (aA b (o+3))=some (iI r0.p))):=fun w' hx e1 e2=>⟨e1,e2,Xq.u w' hx⟩
     have aEQ:(fun w'=>w'.cell? (aA w.z 1)=some (.slice (some ⟨b,o,none⟩) 2 c)/\w'.cell? (aA (w.z+1) 0)=some (iI 1)/\(w'.cell? (aA b o)=some (iI r0.n)/\w'.cell? (aA b (o+1))=some (iI r0.x)/\w'.cell? (aA b (o+2))=some (iI r0.z)/\w'.cell? (aA b (o+3))=some (iI r0.p))) wr.drew:=HS.u _ bf.u.x.drew (bf.u.t.drew.cell 1) (bf.u.p.drew.cv 0 CB.u);obtain ⟨⟨d0,d1,d2,d3⟩,z0,z1,z2,z3⟩:=aB bf.u.o;obtain ⟨⟨e0,e1,e2,e3⟩,y0,y1,y2,y3⟩:=aB bf.u.o.drew;go_upto_region 8 with fail;refine dt (S:=(fun w'=>w'.cell? (aA w.z 1)=some (.slice (some ⟨b,o,none⟩) 2 c)/\w'.cell? (aA (w.z+1) 0)=some (iI 1)/\(w'.cell? (aA b o)=some (iI r0.n)/\w'.cell? (aA b (o+1))=some (iI r0.x)/\w'.cell? (aA b (o+2))=some (iI r0.z)/\w'.cell? (aA b (o+3))=some (iI r0.p)))) af (aEQ) (fun aEQ=>?_);refine tq 1 ?_;refine tq 2 ?_;refine tq 3 ?_;refine tq 4 ?_;refine tq 5 ?_;refine o1 0 fun K hK=>?_
     go_simp;refine ov hK (aEQ) fun aEQ=>?_
     refine o1 6 fun K hK=>?_
     go_simp;refine (dF o0 r0 _).mono ?_;rintro e w5 ⟨bD,cI⟩;unfold tz at bD;subst bD;have gv:=hY ((bf.u.ext (xZ wr).drew).ext cI);generalize hmv:(iO o0 && iO r0 && o0.n==r0.n)=mb;clear hmv;obtain ⟨q,hq⟩:=ey (mulR o0 r0);rw [<-hq];have HQ0:=hY hq;clear hq;refine ov hK (HS.u _ gv.u.x (gv.u.t.cell 1) (gv.u.p.cv 0 CB.u)) fun aEQ=>?_
     refine tq 7 ?_;refine tq 8 ?_;refine tq 9 ?_;obtain ⟨⟨i0,i1,i2,i3⟩,x0,x1,x2,x3⟩:=aB gv.u.o;have kK:=hY (gv.u.put q);refine o1 10 fun K hK=>?_
     go_simp;refine ov hK (HS.u _ kK.u.x (kK.u.t.cell 1) (kK.u.p.cv 0 CB.u)) fun aEQ=>?_
     refine dn ?_;have fG:Hid (Di w ((((w5.setCell (aA g 0) (iI q.n)).setCell (aA g 1) (iI q.x)).setCell (aA g 2) (iI q.z)).setCell (aA g 3) (iI q.p)) (some ⟨b,o,none⟩) c p g q):=kK.u;clear bf gv kK cI d0 d1 d2 d3 z0 z1 z2 z3 e0 e1 e2 e3 y0 y1 y2 y3 i0 i1 i2 i3 x0 x1 x2 x3 aEQ HS;generalize (((w5.setCell (aA g 0) (iI q.n)).setCell (aA g 1) (iI q.x)).setCell (aA g 2) (iI q.z)).setCell (aA g 3) (iI q.p)=wr2 at*
     have bf:=fG;clear fG;clear a0 a1;obtain ⟨q1,hq1⟩:=ey (q);rw [<-hq1] at bf HQ0;clear hq1;have a0:wr2.cell? (aA (w.z+1) 0)=some (iI 1):=bf.u.p.cv 0 CB.u
     have a2:wr2.cell? (aA (w.z+1) 2)=some (iI 0):=bf.u.p.cv 2 Ce.u
     have HV:Hid (nX [r0,r1] p=q1):=by
      unfold Hid nX;rw [CB.u,cH.u,Ce.u,<-qx.u];rw [aM ae,aY ae];rw [HQ0.u];rfl
     exact tS
    ·have Ce:=hY hz;clear hz;have a1:wr.cell? (aA (w.z+1) 1)=some (iI 1):=bf.u.p.cv 1 cH.u
     have a0:wr.cell? (aA (w.z+1) 0)=some (iI 1):=bf.u.p.cv 0 CB.u
     have HS:Hid (∀w',Ext w w'->w'.cell? (aA w.z 1)=some (.slice (some ⟨b,o,none⟩) 2 c)->w'.cell? (aA (w.z+1) 0)=some (iI 1)->w'.cell? (aA w.z 1)=some (.slice (some ⟨b,o,none⟩) 2 c)/\w'.cell? (aA (w.z+1) 0)=some (iI 1)/\(w'.cell? (aA b o)=some (iI r0.n)/\w'.cell? (aA b (o+1))=some (iI r0.x)/\w'.cell? (aA b (o+2))=some (iI r0.z)/\w'.cell? (aA b (o+3))=some (iI r0.p))):=fun w' hx e1 e2=>⟨e1,e2,Xq.u w' hx⟩
     have aEQ:(fun w'=>w'.cell? (aA w.z 1)=some (.slice (some ⟨b,o,none⟩) 2 c)/\w'.cell? (aA (w.z+1) 0)=some (iI 1)/\(w'.cell? (aA b o)=some (iI r0.n)/\w'.cell? (aA b (o+1))=some (iI r0.x)/\w'.cell? (aA b (o+2))=some (iI r0.z)/\w'.cell? (aA b (o+3))=some (iI r0.p))) wr.drew:=HS.u _ bf.u.x.drew (bf.u.t.drew.cell 1) (bf.u.p.drew.cv 0 CB.u);obtain ⟨⟨d0,d1,d2,d3⟩,z0,z1,z2,z3⟩:=aB bf.u.o;obtain ⟨⟨e0,e1,e2,e3⟩,y0,y1,y2,y3⟩:=aB bf.u.o.drew;go_upto_region 8 with fail;refine dt (S:=(fun w'=>w'.cell? (aA w.z 1)=some (.slice (some ⟨b,o,none⟩) 2 c)/\w'.cell? (aA (w.z+1) 0)=some (iI 1)/\(w'.cell? (aA b o)=some (iI r0.n)/\w'.cell? (aA b (o+1))=some (iI r0.x)/\w'.cell? (aA b (o+2))=some (iI r0.z)/\w'.cell? (aA b (o+3))=some (iI r0.p)))) af (aEQ) (fun aEQ=>?_);refine tq 1 ?_;refine tq 2 ?_;refine tq 3 ?_;refine tq 4 ?_;refine tq 5 ?_;refine o1 0 fun K hK=>?_
     go_simp;refine ov hK (aEQ) fun aEQ=>?_
     refine o1 6 fun K hK=>?_
     go_simp;refine (dF o0 r0 _).mono ?_;rintro e w5 ⟨bD,cI⟩;unfold tz at bD;subst bD;have gv:=hY ((bf.u.ext (xZ wr).drew).ext cI);generalize hmv:(iO o0 && iO r0 && o0.n==r0.n)=mb;clear hmv;obtain ⟨q,hq⟩:=ey (mulR o0 r0);rw [<-hq];have HQ0:=hY hq;clear hq;refine ov hK (HS.u _ gv.u.x (gv.u.t.cell 1) (gv.u.p.cv 0 CB.u)) fun aEQ=>?_
     refine tq 7 ?_;refine tq 8 ?_;refine tq 9 ?_;obtain ⟨⟨i0,i1,i2,i3⟩,x0,x1,x2,x3⟩:=aB gv.u.o;have kK:=hY (gv.u.put q);refine o1 10 fun K hK=>?_
     go_simp;refine ov hK (HS.u _ kK.u.x (kK.u.t.cell 1) (kK.u.p.cv 0 CB.u)) fun aEQ=>?_
     refine dn ?_;have fG:Hid (Di w ((((w5.setCell (aA g 0) (iI q.n)).setCell (aA g 1) (iI q.x)).setCell (aA g 2) (iI q.z)).setCell (aA g 3) (iI q.p)) (some ⟨b,o,none⟩) c p g q):=kK.u;clear bf gv kK cI d0 d1 d2 d3 z0 z1 z2 z3 e0 e1 e2 e3 y0 y1 y2 y3 i0 i1 i2 i3 x0 x1 x2 x3 aEQ HS;generalize (((w5.setCell (aA g 0) (iI q.n)).setCell (aA g 1) (iI q.x)).setCell (aA g 2) (iI q.z)).setCell (aA g 3) (iI q.p)=wr2 at*
     have bf:=fG;clear fG;clear a0 a1;obtain ⟨q1,hq1⟩:=ey (q);rw [<-hq1] at bf HQ0;clear hq1;have a0:wr2.cell? (aA (w.z+1) 0)=some (iI 1):=bf.u.p.cv 0 CB.u
     have a2:wr2.cell? (aA (w.z+1) 2)=some (iI 1):=bf.u.p.cv 2 Ce.u
     have hw1:IntKind.i64.wrap 1=1:=ae
     have HS:Hid (∀w',Ext w w'->w'.cell? (aA w.z 1)=some (.slice (some ⟨b,o,none⟩) 2 c)->w'.cell? (aA (w.z+1) 0)=some (iI 1)->w'.cell? (aA w.z 1)=some (.slice (some ⟨b,o,none⟩) 2 c)/\w'.cell? (aA (w.z+1) 0)=some (iI 1)/\(w'.cell? (aA b (o+1*4))=some (iI r1.n)/\w'.cell? (aA b (o+1*4+1))=some (iI r1.x)/\w'.cell? (aA b (o+1*4+2))=some (iI r1.z)/\w'.cell? (aA b (o+1*4+3))=some (iI r1.p))):=fun w' hx e1 e2=>⟨e1,e2,Xr.u w' hx⟩
     have aEQ:(fun w'=>w'.cell? (aA w.z 1)=some (.slice (some ⟨b,o,none⟩) 2 c)/\w'.cell? (aA (w.z+1) 0)=some (iI 1)/\(w'.cell? (aA b (o+1*4))=some (iI r1.n)/\w'.cell? (aA b (o+1*4+1))=some (iI r1.x)/\w'.cell? (aA b (o+1*4+2))=some (iI r1.z)/\w'.cell? (aA b (o+1*4+3))=some (iI r1.p))) wr2.drew:=HS.u _ bf.u.x.drew (bf.u.t.drew.cell 1) (bf.u.p.drew.cv 0 CB.u);obtain ⟨⟨d0,d1,d2,d3⟩,z0,z1,z2,z3⟩:=aB bf.u.o;obtain ⟨⟨e0,e1,e2,e3⟩,y0,y1,y2,y3⟩:=aB bf.u.o.drew;go_upto_region 10 with fail;refine dt (S:=(fun w'=>w'.cell? (aA w.z 1)=some (.slice (some ⟨b,o,none⟩) 2 c)/\w'.cell? (aA (w.z+1) 0)=some (iI 1)/\(w'.cell? (aA b (o+1*4))=some (iI r1.n)/\w'.cell? (aA b (o+1*4+1))=some (iI r1.x)/\w'.cell? (aA b (o+1*4+2))=some (iI r1.z)/\w'.cell? (aA b (o+1*4+3))=some (iI r1.p)))) af (aEQ) (fun aEQ=>?_);refine tq 1 ?_;refine tq 2 ?_;refine tq 3 ?_;refine tq 4 ?_;refine tq 5 ?_;refine tq 6 ?_;refine tq 7 ?_;refine tq 8 ?_;refine o1 0 fun K hK=>?_
     go_simp;refine ov hK (aEQ) fun aEQ=>?_
     refine o1 9 fun K hK=>?_
     go_simp;refine (dF q1 r1 _).mono ?_;rintro e w5 ⟨bD,cI⟩;unfold tz at bD;subst bD;have gv:=hY ((bf.u.ext (xZ wr2).drew).ext cI);generalize hmv:(iO q1 && iO r1 && q1.n==r1.n)=mb;clear hmv;obtain ⟨q,hq⟩:=ey (mulR q1 r1);rw [<-hq];have Dj:=hY hq;clear hq;refine ov hK (HS.u _ gv.u.x (gv.u.t.cell 1) (gv.u.p.cv 0 CB.u)) fun aEQ=>?_
     refine tq 10 ?_;refine tq 11 ?_;refine tq 12 ?_;obtain ⟨⟨i0,i1,i2,i3⟩,x0,x1,x2,x3⟩:=aB gv.u.o;have kK:=hY (gv.u.put q);refine o1 13 fun K hK=>?_
     go_simp;refine ov hK (HS.u _ kK.u.x (kK.u.t.cell 1) (kK.u.p.cv 0 CB.u)) fun aEQ=>?_
     refine dn ?_;have fG:Hid (Di w ((((w5.setCell (aA g 0) (iI q.n)).setCell (aA g 1) (iI q.x)).setCell (aA g 2) (iI q.z)).setCell (aA g 3) (iI q.p)) (some ⟨b,o,none⟩) c p g q):=kK.u;clear bf gv kK cI d0 d1 d2 d3 z0 z1 z2 z3 e0 e1 e2 e3 y0 y1 y2 y3 i0 i1 i2 i3 x0 x1 x2 x3 aEQ HS;generalize (((w5.setCell (aA g 0) (iI q.n)).setCell (aA g 1) (iI q.x)).setCell (aA g 2) (iI q.z)).setCell (aA g 3) (iI q.p)=wr3 at*
     have bf:=fG;clear fG;clear a0 a2 hw1;have HV:Hid (nX [r0,r1] p=q):=by
      unfold Hid nX;rw [CB.u,cH.u,Ce.u,<-qx.u];rw [aY ae,aY ae];rw [Dj.u,HQ0.u];rfl
     exact tS
  ·have a0:wr.cell? (aA (w.z+1) 0)=some (iI 1):=bf.u.p.cv 0 CB.u
   obtain ⟨q,hq⟩:=ey (nX [r0,r1] p);rw [<-hq] at bf;have HQ:=hY hq;clear hq;obtain ⟨⟨d0,d1,d2,d3⟩,-⟩:=aB bf.u.o;obtain ⟨⟨e0,e1,e2,e3⟩,y0,y1,y2,y3⟩:=aB bf.u.z;have Fm:=hY (bf.u.z.bR (iI q.n) (iI q.x) (iI q.z) (iI q.p));have fP:=hY (aW (g:=w.heap.size+1+1) bf.u.x aa (iI q.n) (iI q.x) (iI q.z) (iI q.p));go_wp2;refine bJ (v:=.tuple #[.agg (jF q),.bool true]) ?_ rfl ?_
   rotate_left
   ·exact ⟨by rw [<-HQ.u],fP.u⟩
   ·exact aR rfl _ _ _ _ _ _ _ rfl rfl Fm.u Bq rfl af
theorem AF {P:Prop} (h:P:=by
 go_wp2;go_ret
 exact ⟨eB HV.u.symm,eK.u⟩):P:=h
theorem ya (A:OA) (c:Nat) (r0 r1:Pa) (w:World) (h:Rd w w.heap.size 4 A 2 (aX [r0,r1])) (hc:2<=c) (hv:oO 1 [r0,r1]=true):
  Calls prog 223 #[.agg #[iI 1,.slice A 2 c]] w fun e w'=>e=.returned (iI (nY [r0,r1]))/\Ext w w':=by
 have cH:Hid (Ext w (w.alloc (cO #[iI 1,.slice A 2 c] 207))):=(xZ w).alloc _;have jI:Hid (au (w.alloc (cO #[iI 1,.slice A 2 c] 207)) w.heap.size 207 #[iI 1,.slice A 2 c]):=au.new w _ _;have HIV:Hid (∀w',Ext w w'->Calls prog 202 #[.agg #[iI 1,.slice A 2 c]] w' fun e w''=>e=.returned (.bool true)/\Ext w' w''):=fun w' hx=>by
  exact Jo
 have HR:=hY h;clear hv h;go_enter func223,ntmps223;go_upto_region 1 with fail;generalize w.alloc (cO #[iI 1,.slice A 2 c] 207)=W1 at*
 obtain ⟨⟨t0,t1⟩,-⟩:=bu jI.u;go_wp2_with fail;refine (HIV.u _ cH.u).mono ?_;rintro e w2 ⟨rfl,bz⟩;have eK:=hY (cH.u.trans bz);have dv:=hY (jI.u.ext bz);clear bz t0 t1;obtain ⟨⟨t0,t1⟩,-⟩:=bu dv.u;obtain ⟨b,o,r,rfl,-,kG,-,x1,-⟩:=gD (HR.u.ext eK.u) (i:=1) aa
 cases kG
 obtain ⟨b',o',r',he,-,MC,-,x0,-⟩:=gD (HR.u.ext eK.u) (i:=0) aa;simp only [iG,jR] at he;obtain ⟨rfl,rfl,-⟩:=he
 cases MC
 rw [ND,oh] at x0
 cases e1:(r1.x==0)
 ·cases e0:(r0.x==0)
  ·have HV:Hid (nY [r0,r1]=2):=by
    unfold Hid nY;rw [aM (by show ¬r1.x=0;simpa using e1),aM (by show ¬r0.x=0;simpa using e0)]
   exact AF
  ·have HV:Hid (nY [r0,r1]=1):=by
    unfold Hid nY;rw [aM (by show ¬r1.x=0;simpa using e1),aY (by show r0.x=0;simpa using e0)]
   exact AF
 ·have HV:Hid (nY [r0,r1]=0):=by
   unfold Hid nY;rw [aY (by show r1.x=0;simpa using e1)]
  exact AF
theorem xK {w:World} {B e size n c:Nat} {A:OA} {xs:List Value} (h:w.ownsRow B e size (.slice A n c) n xs):n<=c:=by
 rcases h.2 with ⟨h0,rfl⟩|⟨g,cap,cur,hv,_,_,LR,_⟩
 ·omega
 ·injection hv with _ _ h3;omega
theorem MI {w:World} {B:Nat} {ops:Array Oper} {rest:List Oper} {o:Oper} {a:Act} {Q:Exit->Act->World->Prop} (fX:o.guard=none) (s x:Operand)
  (ho:aO o s x 205) (v:Value) (n:Nat) (xs:List Pa) (hs:a.eval s=v)
  (bj:w.ownsRow B 251 4 v n (aX xs)) (hB:B<=w.heap.size) (y:Pa) (e:TypeId) (b:Nat) (hx:a.eval x=.slice (some ⟨b,0,none⟩) 1 1) (sg:b=w.heap.size) (hn:n<=1800000000000)
  (h:∀A' c' w',w'.ownsRow B 251 4 (.slice A' (n+1) c') (n+1) (aX (xs++[y]))->w.grownBy w' v.ownBlock->wpList prog ops Q rest (a.put o.dst (.slice A' (n+1) c')) w'):
  wpList prog ops Q (o::rest) a (w.alloc (cO (jF y) e)):=by
 subst sg;have mW:=sG hB;refine CO (w0:={w with heap:=w.heap.extract 0 B}) fX s x ho v n xs hs dT ((ID hB).alloc _) _ 1 1 [y] hx (dZ w _ e 4 _ eV eV) aa ?_;intro v' w' h1 h2 h3 h4;rw [mW] at h1;obtain ⟨A',c',rfl,_⟩:=ak h1
 exact h A' c' w' h1 (FP (Mz ((xZ w).alloc _) _) h3)
structure EL (w W:World) (A:OA) (c:Nat) (B:OA) (d:Nat) (g:Nat) (X:OA) (k cx:Nat) (rows:List Pa):Prop where
 a:au W w.heap.size 207 #[iI 1,.slice A 2 c]
 b:au W (w.heap.size+1) 207 #[iI 1,.slice B 2 d]
 z:au W (w.heap.size+1+1) 207 jC
 o:au W g 207 #[iI 1,.slice X k cx]
 r:W.ownsRow (g+1) 251 4 (.slice X k cx) k (aX rows)
 x:Ext w W
 le:w.heap.size+1+1<g
section
variable {w W W':World} {A B X X':OA} {c d g k cx cx':Nat} {rows:List Pa} {y:Pa}
theorem EL.ext (h:EL w W A c B d g X k cx rows) (hx:Ext W W'):EL w W' A c B d g X k cx rows:=⟨h.a.ext hx,h.b.ext hx,h.z.ext hx,h.o.ext hx,aj h.r hx,h.x.trans hx,h.le⟩
theorem EL.app (h:EL w W A c B d g X k cx rows) (ho:W'.ownsRow (g+1) 251 4 (.slice X' (k+1) cx') (k+1) (aX (rows++[y]))) (hg:W.grownBy W' (Value.slice X k cx).ownBlock):
  au W' g 207 #[iI 1,.slice X k cx]/\EL w (W'.setCell (aA g 1) (.slice X' (k+1) cx')) A c B d g X' (k+1) cx' (rows++[y]):=by
 have hl:=h.le;have hne:∀j,(Value.slice X k cx).ownBlock=some j->g<j:=fun j hj=>oM ((h.r.lt j hj).1)
 have hb:=h.o.grown hg (fun j hj=>oM (hne j hj));refine ⟨hb,(h.a.grown hg (fun j hj=>oM (hne j hj))).cB (p:=(aA g 1)) (by show w.heap.size≠g;omega) _,(h.b.grown hg (fun j hj=>oM (hne j hj))).cB (p:=(aA g 1)) (by show w.heap.size+1≠g;omega) _,(h.z.grown hg (fun j hj=>oM (hne j hj))).cB (p:=(aA g 1)) (by show w.heap.size+1+1≠g;omega) _,hb.aU 1 _,bo ho (p:=(aA g 1)) (yq g) _,(h.x.grown hg (fun j hj=>oM (hne j hj))).setCell (p:=(aA g 1)) (by show w.heap.size<=g;omega) _,h.le⟩
end
theorem Jp {P:Prop} (h:P:=by
 refine o1 11 fun K hK=>?_
 obtain ⟨⟨q0,q1,q2,q3⟩,f0,f1,f2,f3⟩:=aB dP.u;go_simp;have fz:Hid (Ext wr ((((w6.setCell (aA s 0) (iI q.n)).setCell (aA s 1) (iI q.x)).setCell (aA s 2) (iI q.z)).setCell (aA s 3) (iI q.p))):=aW (g:=s) dL.u vE _ _ _ _;have nZ:Hid (au ((((w6.setCell (aA s 0) (iI q.n)).setCell (aA s 1) (iI q.x)).setCell (aA s 2) (iI q.z)).setCell (aA s 3) (iI q.p)) s 251 (jF q)):=dP.u.bR _ _ _ _;refine ov hK (HK.u _ fz.u) fun aEQ=>?_
 refine tq 12 ?_;refine dn ?_;clear q0 q1 q2 q3 f0 f1 f2 f3 aEQ;generalize (((w6.setCell (aA s 0) (iI q.n)).setCell (aA s 1) (iI q.x)).setCell (aA s 2) (iI q.z)).setCell (aA s 3) (iI q.p)=w7 at*
 have fG:=hY (bf.u.ext fz.u);clear HK dL dP fz;obtain ⟨⟨q0,q1,q2,q3⟩,-⟩:=aB nZ.u;obtain ⟨⟨t0,t1⟩,-⟩:=bu fG.u.o;go_wp2_with (at_builtin;refine MI (B:=g+1) rfl _ _ rfl _ _ _ rfl fG.u.r (oM fG.u.o.lt) q _ _ rfl rfl aa ?_;intro X9 c9 w9 h1 h2;have HA:=hY (fG.u.app h1 h2);have k1:w9.cell? (aA g 1)=some (.slice X 1 cx):=HA.u.1.cell 1;have f1:w9.frozen? (aA g 1)=false:=HA.u.1.frozen 1;clear h1 h2)
 have fh:Hid (EL w (w9.setCell (aA g 1) (.slice X9 (1+1) c9)) (some ⟨b,o,none⟩) c B d g X9 (1+1) c9 ([nX [b0,b1] a0]++[nX [b0,b1] a1])):=by rw [<-HQ.u];exact HA.u.2
 clear k1 f1 HA;go_roundw
 case rel=>exact .inr (.inr ⟨rfl,X9,c9,fh⟩)
 case measure=>simp [intOf]):P:=h
theorem Jq {P:Prop} (h:P:=by
 refine o1 11 fun K hK=>?_
 obtain ⟨⟨q0,q1,q2,q3⟩,f0,f1,f2,f3⟩:=aB dP.u;go_simp;have fz:Hid (Ext wr ((((w6.setCell (aA s 0) (iI q.n)).setCell (aA s 1) (iI q.x)).setCell (aA s 2) (iI q.z)).setCell (aA s 3) (iI q.p))):=aW (g:=s) dL.u vE _ _ _ _;have nZ:Hid (au ((((w6.setCell (aA s 0) (iI q.n)).setCell (aA s 1) (iI q.x)).setCell (aA s 2) (iI q.z)).setCell (aA s 3) (iI q.p)) s 251 (jF q)):=dP.u.bR _ _ _ _;refine ov hK (HK.u _ fz.u) fun aEQ=>?_
 refine tq 12 ?_;refine dn ?_;clear q0 q1 q2 q3 f0 f1 f2 f3 aEQ;generalize (((w6.setCell (aA s 0) (iI q.n)).setCell (aA s 1) (iI q.x)).setCell (aA s 2) (iI q.z)).setCell (aA s 3) (iI q.p)=w7 at*
 have fG:=hY (bf.u.ext fz.u);clear HK dL dP fz;obtain ⟨⟨q0,q1,q2,q3⟩,-⟩:=aB nZ.u;obtain ⟨⟨t0,t1⟩,-⟩:=bu fG.u.o;go_wp2_with (at_builtin;refine MI (B:=g+1) rfl _ _ rfl _ _ _ rfl fG.u.r (oM fG.u.o.lt) q _ _ rfl rfl aa ?_;intro X9 c9 w9 h1 h2;have HA:=hY (fG.u.app h1 h2);have k1:w9.cell? (aA g 1)=some (.slice X 0 cx):=HA.u.1.cell 1;have f1:w9.frozen? (aA g 1)=false:=HA.u.1.frozen 1;clear h1 h2)
 have fh:Hid (EL w (w9.setCell (aA g 1) (.slice X9 (0+1) c9)) (some ⟨b,o,none⟩) c B d g X9 (0+1) c9 ([]++[nX [b0,b1] a0])):=by rw [<-HQ.u];exact HA.u.2
 clear k1 f1 HA;go_roundw
 case rel=>exact .inr (.inl ⟨rfl,X9,c9,fh⟩)
 case measure=>simp [intOf]):P:=h
theorem qf (A B:OA) (c d:Nat) (a0 a1 b0 b1:Pa) (w:World) (h:Rd w w.heap.size 4 A 2 (aX [a0,a1])) (h':Rd w w.heap.size 4 B 2 (aX [b0,b1])) (hd:2<=d) (hv:oO 1 [b0,b1]=true)
  (hp0:iO a0=true) (Tk:a0.n=1) (xW:iO a1=true) (jX:a1.n=1):
  Calls prog 225 #[.agg #[iI 1,.slice A 2 c],.agg #[iI 1,.slice B 2 d]] w fun e w'=>(∃v,e=.returned v/\kY 1 (Mv [a0,a1] [b0,b1]) v w')/\Ext w w':=by
 have adD:Hid (∀w',Ext w w'->Calls prog 228 #[.agg #[iI 1,.slice B 2 d],.agg (jF a0)] w' fun e w''=>e=.returned (.tuple #[(nX [b0,b1] a0).val,.bool true])/\Ext w' w''):=fun w' hx=>wT B d b0 b1 a0 w' (h'.ext hx) hd hv hp0 Tk
 have adE:Hid (∀w',Ext w w'->Calls prog 228 #[.agg #[iI 1,.slice B 2 d],.agg (jF a1)] w' fun e w''=>e=.returned (.tuple #[(nX [b0,b1] a1).val,.bool true])/\Ext w' w''):=fun w' hx=>wT B d b0 b1 a1 w' (h'.ext hx) hd hv xW jX
 obtain ⟨b,o,r0',rfl,hb,MC,-⟩:=gD h (i:=0) aa;have Xq:Hid (∀w',Ext w w'->w'.cell? (aA b o)=some (iI a0.n)/\w'.cell? (aA b (o+1))=some (iI a0.x)/\w'.cell? (aA b (o+2))=some (iI a0.z)/\w'.cell? (aA b (o+3))=some (iI a0.p)):=fun w' hx=>by
  exact Jm
 have Xr:Hid (∀w',Ext w w'->w'.cell? (aA b (o+1*4))=some (iI a1.n)/\w'.cell? (aA b (o+1*4+1))=some (iI a1.x)/\w'.cell? (aA b (o+1*4+2))=some (iI a1.z)/\w'.cell? (aA b (o+1*4+3))=some (iI a1.p)):=fun w' hx=>by
  exact Jn
 clear hv hp0 xW Tk jX h h' MC hb;have Pb:Hid (EL w ((((w.alloc (cO #[iI 1,.slice (some ⟨b,o,none⟩) 2 c] 207)).alloc (cO #[iI 1,.slice B 2 d] 207)).alloc (cO jC 207)).alloc (cO #[iI 1,nS] 207)) (some ⟨b,o,none⟩) c B d (w.heap.size+1+1+1) none 0 0 []):=
  ⟨(((au.new w _ _).alloc _).alloc _).alloc _,((au.newAt ag).alloc _).alloc _,(au.newAt ag).alloc _,au.newAt ag,⟨ag,.inl ⟨rfl,rfl⟩⟩,by unfold Ext;exact xx,aa⟩
 go_enter func225,ntmps225;go_upto_region 2 with fail;generalize (((w.alloc (cO #[iI 1,.slice (some ⟨b,o,none⟩) 2 c] 207)).alloc (cO #[iI 1,.slice B 2 d] 207)).alloc (cO jC 207)).alloc (cO #[iI 1,nS] 207)=W1 at*
 obtain ⟨g,Ql⟩:=ex (w.heap.size+1+1+1);rw [Ql] at Pb |-;clear Ql;go_wp2
 go_loopw [6] (fun i wr=>(i=iI 0/\∃(X:OA) (cx:Nat),Hid (EL w wr (some ⟨b,o,none⟩) c B d g X 0 cx []))\/(i=iI 1/\∃(X:OA) (cx:Nat),Hid (EL w wr (some ⟨b,o,none⟩) c B d g X 1 cx [nX [b0,b1] a0]))\/(i=iI 2/\∃(X:OA) (cx:Nat),Hid (EL w wr (some ⟨b,o,none⟩) c B d g X 2 cx [nX [b0,b1] a0,nX [b0,b1] a1]))) (fun i _=>2 - (intOf i).toNat)
 case atStart=>exact .inl ⟨rfl,none,0,Pb⟩
 case round=>
  clear Pb;rcases hrel with ⟨rfl,X,cx,bf⟩|⟨rfl,X,cx,bf⟩|⟨rfl,X,cx,bf⟩
  ·skip;have HK:Hid (∀w',Ext wr w'->w'.cell? (aA w.z 1)=some (.slice (some ⟨b,o,none⟩) 2 c)/\(w'.cell? (aA (w.z+1) 0)=some (iI 1)/\w'.cell? (aA (w.z+1) 1)=some (.slice B 2 d))/\(w'.cell? (aA b o)=some (iI a0.n)/\w'.cell? (aA b (o+1))=some (iI a0.x)/\w'.cell? (aA b (o+2))=some (iI a0.z)/\w'.cell? (aA b (o+3))=some (iI a0.p))):=fun w' hx=>⟨(bf.u.a.ext hx).cell 1,⟨(bf.u.b.ext hx).cell 0,(bf.u.b.ext hx).cell 1⟩,Xq.u w' (bf.u.x.trans hx)⟩
   obtain ⟨q,hq⟩:=ey (nX [b0,b1] a0);rw [<-hq] at adD;have HQ:=hY hq;clear hq;go_upto_region 5 with fail;refine dt (S:=(fun w'=>w'.cell? (aA w.z 1)=some (.slice (some ⟨b,o,none⟩) 2 c)/\(w'.cell? (aA (w.z+1) 0)=some (iI 1)/\w'.cell? (aA (w.z+1) 1)=some (.slice B 2 d))/\(w'.cell? (aA b o)=some (iI a0.n)/\w'.cell? (aA b (o+1))=some (iI a0.x)/\w'.cell? (aA b (o+2))=some (iI a0.z)/\w'.cell? (aA b (o+3))=some (iI a0.p)))) af (HK.u _ (xZ wr).drew) (fun aEQ=>?_);refine tq 0 ?_;refine tq 1 ?_;refine tq 2 ?_;refine tq 3 ?_;refine tq 4 ?_;refine tq 5 ?_;refine o2 6 10 (fun K hK=>?_) fun K hK=>?_
   ·skip;go_simp;refine (adD.u _ (bf.u.x.trans ((xZ wr).drew))).mono ?_;rintro e w5 ⟨rfl,cf⟩;have nh:Hid (Ext wr w5):=Ext.trans (xZ wr).drew cf;refine ov hK (HK.u _ nh.u) fun aEQ=>?_
    refine tq 7 ?_;refine tq 8 ?_;refine tq 9 ?_;refine o1 10 fun K hK=>?_
    go_simp;have dL:Hid (Ext wr (w5.alloc (cO zO 251))):=nh.u.alloc _;have dP:Hid (au (w5.alloc (cO zO 251)) w5.heap.size 251 zO):=au.new _ _ _;have vE:wr.heap.size<=w5.heap.size:=nh.u.size;refine ov hK (HK.u _ dL.u) fun aEQ=>?_
    clear cf;generalize w5.alloc (cO zO 251)=w6 at*
    generalize US:w5.heap.size=s at*
    clear US nh
    exact Jq
   ·skip;go_simp;refine ov hK (HK.u _ (((xZ wr).alloc _).drew)) fun aEQ=>?_
    refine o1 6 fun K hK=>?_
    go_simp;refine (adD.u _ (bf.u.x.trans (((xZ wr).alloc (cO zO 251)).drew))).mono ?_;rintro e w5 ⟨rfl,cf⟩;have dL:Hid (Ext wr w5):=Ext.trans ((xZ wr).alloc (cO zO 251)).drew cf;have dP:Hid (au w5 wr.heap.size 251 zO):=((au.new wr 251 zO).ext (xZ _).drew).ext cf;have vE:wr.heap.size<=wr.heap.size:=lI _;refine ov hK (HK.u _ dL.u) fun aEQ=>?_
    clear cf;refine tq 7 ?_;refine tq 8 ?_;refine tq 9 ?_;have Ec:∃s,s=wr.heap.size:=⟨_,rfl⟩;obtain ⟨s,hs⟩:=Ec;rw [<-hs] at dP vE |-;replace vE:wr.heap.size<=s:=aa
    clear hs;have Pc:∃w6,w6=w5:=⟨_,rfl⟩;obtain ⟨w6,rfl⟩:=Pc
    exact Jq
  ·skip;have HK:Hid (∀w',Ext wr w'->w'.cell? (aA w.z 1)=some (.slice (some ⟨b,o,none⟩) 2 c)/\(w'.cell? (aA (w.z+1) 0)=some (iI 1)/\w'.cell? (aA (w.z+1) 1)=some (.slice B 2 d))/\(w'.cell? (aA b (o+1*4))=some (iI a1.n)/\w'.cell? (aA b (o+1*4+1))=some (iI a1.x)/\w'.cell? (aA b (o+1*4+2))=some (iI a1.z)/\w'.cell? (aA b (o+1*4+3))=some (iI a1.p))):=fun w' hx=>⟨(bf.u.a.ext hx).cell 1,⟨(bf.u.b.ext hx).cell 0,(bf.u.b.ext hx).cell 1⟩,Xr.u w' (bf.u.x.trans hx)⟩
   obtain ⟨q,hq⟩:=ey (nX [b0,b1] a1);rw [<-hq] at adE;have HQ:=hY hq;clear hq;go_upto_region 5 with fail;refine dt (S:=(fun w'=>w'.cell? (aA w.z 1)=some (.slice (some ⟨b,o,none⟩) 2 c)/\(w'.cell? (aA (w.z+1) 0)=some (iI 1)/\w'.cell? (aA (w.z+1) 1)=some (.slice B 2 d))/\(w'.cell? (aA b (o+1*4))=some (iI a1.n)/\w'.cell? (aA b (o+1*4+1))=some (iI a1.x)/\w'.cell? (aA b (o+1*4+2))=some (iI a1.z)/\w'.cell? (aA b (o+1*4+3))=some (iI a1.p)))) af (HK.u _ (xZ wr).drew) (fun aEQ=>?_);refine tq 0 ?_;refine tq 1 ?_;refine tq 2 ?_;refine tq 3 ?_;refine tq 4 ?_;refine tq 5 ?_;refine o2 6 10 (fun K hK=>?_) fun K hK=>?_
   ·skip;go_simp;refine (adE.u _ (bf.u.x.trans ((xZ wr).drew))).mono ?_;rintro e w5 ⟨rfl,cf⟩;have nh:Hid (Ext wr w5):=Ext.trans (xZ wr).drew cf;refine ov hK (HK.u _ nh.u) fun aEQ=>?_
    refine tq 7 ?_;refine tq 8 ?_;refine tq 9 ?_;refine o1 10 fun K hK=>?_
    go_simp;have dL:Hid (Ext wr (w5.alloc (cO zO 251))):=nh.u.alloc _;have dP:Hid (au (w5.alloc (cO zO 251)) w5.heap.size 251 zO):=au.new _ _ _;have vE:wr.heap.size<=w5.heap.size:=nh.u.size;refine ov hK (HK.u _ dL.u) fun aEQ=>?_
    clear cf;generalize w5.alloc (cO zO 251)=w6 at*
    generalize US:w5.heap.size=s at*
    clear US nh
    exact Jp
   ·skip;go_simp;refine ov hK (HK.u _ (((xZ wr).alloc _).drew)) fun aEQ=>?_
    refine o1 6 fun K hK=>?_
    go_simp;refine (adE.u _ (bf.u.x.trans (((xZ wr).alloc (cO zO 251)).drew))).mono ?_;rintro e w5 ⟨rfl,cf⟩;have dL:Hid (Ext wr w5):=Ext.trans ((xZ wr).alloc (cO zO 251)).drew cf;have dP:Hid (au w5 wr.heap.size 251 zO):=((au.new wr 251 zO).ext (xZ _).drew).ext cf;have vE:wr.heap.size<=wr.heap.size:=lI _;refine ov hK (HK.u _ dL.u) fun aEQ=>?_
    clear cf;refine tq 7 ?_;refine tq 8 ?_;refine tq 9 ?_;have Ec:∃s,s=wr.heap.size:=⟨_,rfl⟩;obtain ⟨s,hs⟩:=Ec;rw [<-hs] at dP vE |-;replace vE:wr.heap.size<=s:=aa
    clear hs;have Pc:∃w6,w6=w5:=⟨_,rfl⟩;obtain ⟨w6,rfl⟩:=Pc
    exact Jp
  ·obtain ⟨⟨t0,t1⟩,-⟩:=bu bf.u.o;obtain ⟨⟨d0,d1⟩,z0,z1⟩:=bu bf.u.z;have hle:=bf.u.le;have Fm:=hY (bf.u.z.eh (iI 1) (.slice X 2 cx));have fP:=hY (dK (g:=w.heap.size+1+1) bf.u.x aa (iI 1) (.slice X 2 cx));have HR9:Hid (Rd (eh wr (w.heap.size+1+1) (iI 1) (.slice X 2 cx)) (eh wr (w.heap.size+1+1) (iI 1) (.slice X 2 cx)).heap.size 4 X 2 (aX [nX [b0,b1] a0,nX [b0,b1] a1])):=by
    unfold Hid;rw [mE]
    exact tI (Rd.own bf.u.r) bf.u.z _ _
   have hcx:=xK bf.u.r;go_wp2;refine bJ (v:=.agg #[iI 1,.slice X 2 cx]) ?_ rfl ?_
   rotate_left
   ·exact ⟨⟨_,rfl,X,cx,rfl,HR9.u,hcx⟩,fP.u⟩
   ·exact pc rfl _ _ (w.heap.size+1+1) 207 _ (0,0) _ af Fm.u yv rfl af
end Go.Proofs.YtodhjgngkkcjgaaGreatDoor
