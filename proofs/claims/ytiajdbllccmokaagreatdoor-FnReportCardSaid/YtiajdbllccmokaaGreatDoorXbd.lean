import Derived.Test.YtiajdbllccmokaaGreatDoorXbb
import Derived.Test.YtiajdbllccmokaaGreatDoorXba
import Derived.Test.YtiajdbllccmokaaGreatDoorXz
namespace Go.Proofs.YtiajdbllccmokaaGreatDoor
open Go.ChangeShapes Go.WideShapes Go.ChangeAt Go.RowKit Go.Deep Go.Proofs.Tryz
set_option linter.unusedVariables false
set_option linter.unusedSimpArgs false
set_option maxRecDepth 100000
set_option maxHeartbeats 16000000
theorem cV {w:World} {g t:Nat} {a b c:Value} (h:ay w g t #[a,b,c]):(w.cell? (aA g 0)=some a/\w.cell? (aA g 1)=some b/\w.cell? (aA g 2)=some c)/\w.frozen? (aA g 0)=false/\w.frozen? (aA g 1)=false/\w.frozen? (aA g 2)=false:=
 ⟨⟨h.cell 0,h.cell 1,h.cell 2⟩,h.frozen 0,h.frozen 1,h.frozen 2⟩
def lh (w:World) (g:Nat) (a b c:Value):World:=((w.setCell (aA g 0) a).setCell (aA g 1) b).setCell (aA g 2) c
theorem ay.lh {w:World} {g t:Nat} {z0 z1 z2:Value} (h:ay w g t #[z0,z1,z2]) (a b c:Value):ay (lh w g a b c) g t #[a,b,c]:=((h.ba 0 a).ba 1 b).ba 2 c
theorem jd {w0 w:World} (h:Ext w0 w) {g:Nat} (hg:w0.heap.size<=g) (a b c:Value):Ext w0 (lh w g a b c):=
 ((h.setCell (p:=(aA g 0)) hg a).setCell (p:=(aA g 1)) hg b).setCell (p:=(aA g 2)) hg c
theorem je {w:World} {g k t:Nat} {cs:Array Value} (h:ay w k t cs) (hg:k≠g) (a b c:Value):ay (lh w g a b c) k t cs:=
 ((h.bX (p:=(aA g 0)) hg a).bX (p:=(aA g 1)) hg b).bX (p:=(aA g 2)) hg c
theorem gy (W:World) (q:Nat) (a b c:Value):(lh W q a b c).heap.size=W.heap.size:=by simp [lh]
theorem jZ {w:World} {B e s n g t:Nat} {v:Value} {xs:List Value} {a0 a1 a2:Value} (h:w.ownsRow B e s v n xs) (h':ay w g t #[a0,a1,a2]) (he:e≠t) (a b c:Value):(lh w g a b c).ownsRow B e s v n xs:=by
 have hne:=jr h h' he;refine h.kept (row:=some g) ?_ (Or.inr hne);refine ⟨rfl,rfl,rfl,by simp [lh],fun k hk iG=>?_⟩;have hkg:k≠g:=fun e=>iG (by rw [e])
 unfold lh;rw [xz _ _ _ _ (sU hkg),xz _ _ _ _ (sU hkg),xz _ _ _ _ (sU hkg)]
theorem kO {W:World} {q t n B:Nat} {z0 z1 z2:Value} {A:OA} {xs:List Value} (h:Rd W B 4 A n xs) (hb:ay W q t #[z0,z1,z2]) (a b c:Value):Rd (lh W q a b c) B 4 A n xs:=by
 refine ⟨h.1,fun hn=>?_⟩;obtain ⟨b',o,e,rb,hc⟩:=h.2 hn;refine ⟨b',o,e,rb,fun j u hu=>?_⟩;have hne:b'≠q:=by
  rintro rfl;have hlen:=h.1;have h3:=hc 3 _ (lB aa);rw [hb.cell] at h3;rw [zL ag] at h3
  cases h3
 have e1:(lh W q a b c).heap[b']?=W.heap[b']?:=((mO _ ⟨q,2,none⟩ c b' hne).trans (mO _ ⟨q,1,none⟩ b b' hne)).trans (mO _ ⟨q,0,none⟩ a b' hne)
 exact (sD (a:=⟨b',o+j,none⟩) e1).trans (hc j u hu)
def Hu (w:World) (B:Nat) (v:Value) (s:Nf):Prop:=∃(Y:OA) (cy:Nat) (A:OA) (c:Nat),v=.agg #[.slice Y s.sy.length cy,iI 1,.slice A 2 c]/\
 w.ownsRow B 3 1 (.slice Y s.sy.length cy) s.sy.length (aG s.sy)/\Rd w w.heap.size 4 A 2 (aV s.cl)/\2<=c
theorem Hu.at_ {w:World} {B:Nat} {v:Value} {s:Nf} (h:Hu w B v s):Ez w v s:=by
 obtain ⟨Y,cy,A,c,h1,h2,h3,h4⟩:=h
 exact ⟨Y,cy,A,c,h1,Rd.own h2,h3,ue h2,h4⟩
theorem Mm (v:Value) (s:Nf) (w:World) (h:Ez w v s) (hn:s.sy.length<=1800000000000):
  Calls prog 149 #[v] w fun e w'=>(∃v',e=.returned v'/\Hu w' w.heap.size v' s)/\Ext w w':=by
 obtain ⟨Y,cy,A,c,rfl,FE,Gd,QP,sg⟩:=h;obtain ⟨sy,cl⟩:=s;simp only at FE Gd QP hn |-;obtain ⟨n,vA⟩:=ex (sy.length);rw [vA] at FE QP hn;have HN:=hY vA;have HY:=hY FE;have HA:=hY Gd;have eG:Hid (ay ((w.alloc (cO #[.slice Y n cy,iI 1,.slice A 2 c] 168)).alloc (cO jD 168)) w.heap.size 168 #[.slice Y n cy,iI 1,.slice A 2 c]):=(ay.new w _ _).alloc _;have ie:Hid (ay ((w.alloc (cO #[.slice Y n cy,iI 1,.slice A 2 c] 168)).alloc (cO jD 168)) (w.heap.size+1) 168 jD):=ay.newAt ag;have dk:Hid (Ext w ((w.alloc (cO #[.slice Y n cy,iI 1,.slice A 2 c] 168)).alloc (cO jD 168))):=kB
 rw [vA];clear FE Gd vA;go_enter func149,ntmps149;go_upto_region 1 with fail;generalize (w.alloc (cO #[.slice Y n cy,iI 1,.slice A 2 c] 168)).alloc (cO jD 168)=W1 at*
 refine dm (S:=(fun w'=>w'.cell? (aA w.z 0)=some (.slice Y n cy)/\w'.cell? (aA w.z 1)=some (iI 1)/\w'.cell? (aA w.z 2)=some (.slice A 2 c))) af ((cV (eG.u.ext ((xZ W1).drew))).1) (fun ay4=>?_);refine tq 1 ?_;refine tq 2 ?_;refine tq 4 ?_;refine tq 5 ?_;refine o1 0 fun K hK=>?_
 go_simp;refine ov hK ((cV (eG.u.ext (((xZ W1).alloc (cO #[] 3)).drew))).1) fun ay4=>?_
 refine o1 3 fun K hK=>?_
 refine kU (w0:=W1) ah _ _ ah _ 0 [] ah (aq (aJ W1 W1 3 1 (xZ _)) (xZ _).drew) (((xZ W1).alloc (cO #[] 3)).drew) Y n cy sy ah (HY.u.ext (dk.u.trans (((xZ W1).alloc (cO #[] 3)).drew))) aa ?_;intro v9 w9 t1 t2 t3 t4;rw [lM,lN] at t1;obtain ⟨Y9,c9,rfl,-⟩:=au t1;refine ov hK ((cV (eG.u.ext (t2))).1) fun ay4=>?_
 refine o1 6 fun K hK=>?_
 go_simp;refine (AI A 2 c 1 cl _ (HA.u.ext (dk.u.trans (t2))) aa).mono ?_;rintro e w5 ⟨⟨A5,c5,rfl,jM⟩,cN⟩;have pW:=t2.trans cN;have hYE:=aq t1 cN;have hTE:=jM;refine ov hK ((cV (eG.u.ext (pW))).1) fun ay4=>?_
 have JE:∃WE,WE=w5:=⟨_,rfl⟩;obtain ⟨WE,rfl⟩:=JE;obtain ⟨⟨z0,z1,z2⟩,f0,f1,f2⟩:=cV (ie.u.ext pW);have lX:=hY ((ie.u.ext pW).lh (.slice Y9 n c9) (iI 1) (.slice A5 2 c5));have eQ:=hY (jd (g:=w.heap.size+1) (dk.u.trans pW) aa (.slice Y9 n c9) (iI 1) (.slice A5 2 c5));have fF:=hY (lQ (jZ hYE (ie.u.ext pW) ae (.slice Y9 n c9) (iI 1) (.slice A5 2 c5)) (kO (Rd.own hTE) (ie.u.ext pW) (.slice Y9 n c9) (iI 1) (.slice A5 2 c5)));have hcE:=ue hTE;have BL:Hid ((fun w'=>w'.cell? (aA w.z 0)=some (.slice Y n cy)/\w'.cell? (aA w.z 1)=some (iI 1)/\w'.cell? (aA w.z 2)=some (.slice A 2 c)) (lh WE (w.heap.size+1) (.slice Y9 n c9) (iI 1) (.slice A5 2 c5))):=(cV (je (eG.u.ext pW) aa _ _ _)).1;refine tq 7 ?_;refine o1 8 fun K hK=>?_
 go_simp;refine ov hK (BL.u) fun ay4=>?_
 refine dn ?_;clear ay4 BL;go_wp2;refine bR (v:=.agg #[.slice Y9 n c9,iI 1,.slice A5 2 c5]) ?_ rfl ?_
 rotate_left
 ·refine ⟨⟨_,rfl,Y9,c9,A5,c5,?_,?_,?_,hcE⟩,eQ.u⟩
  ·rw [HN.u]
  ·show World.ownsRow _ _ _ _ (.slice Y9 sy.length c9) sy.length (aG sy);rw [HN.u]
   exact aC fF.u.1 dk.u.size
  ·have h9:=fF.u.2;have pq:=gy WE (w.heap.size+1) (.slice Y9 n c9) (iI 1) (.slice A5 2 c5);rw [<-pq] at h9
   exact h9
 ·exact nU rfl _ _ (w.heap.size+1) 168 _ (0,0) _ af lX.u underlying168 rfl af
theorem XH {t:List Pa} (h:vD t=true):vD (Hd (ky (gG (dI (lZ t)))) t)=true:=He (f:=fun t=>vD (Hd (ky (gG (dI (lZ t)))) t)) af h
theorem akp {k:Int} (hk:0<=k/\k<=2):k=0\/k=1\/k=2:=aa
theorem XI {k:Int} (hk:0<=k/\k<=2):wk 1 (gG (dI k))=some (ky (gG (dI k)))/\vD (ky (gG (dI k)))=true:=by
 rcases akp hk with rfl|rfl|rfl<;>exact ⟨af,af⟩
theorem abG {k:Int} (hk:0<=k/\k<=2):wk 1 (dI k++[gz 5])=some (ky (dI k++[gz 5]))/\vD (ky (dI k++[gz 5]))=true:=by
 rcases akp hk with rfl|rfl|rfl<;>exact ⟨af,af⟩
theorem abH {t:List Pa} (h:((Hd (ky (gG (dI (lZ t)))) t).getD 1 P0).p=2) (ht:vD t=true):fa 1 (Hd (ky (gG (dI (lZ t)))) t) (gz 5)=some (Kr t):=by
 obtain ⟨u,hu,-⟩:=pM (XH ht) (k:=5) aa;unfold Kr;rw [aX h,hu];rfl
theorem afK {t:List Pa} (h:¬((Hd (ky (gG (dI (lZ t)))) t).getD 1 P0).p=2):Kr t=Hd (ky (gG (dI (lZ t)))) t:=by unfold Kr;rw [aK h]
theorem XJ (gs:List Gt):(gG gs).length=gs.length:=by unfold gG;simp
theorem XK {w:World} {B n k:Nat} {A:OA} {xs:List Int} (h:Rd w B 1 A n (aG xs)) (hk:k<=n):Rd w B 1 A k (aG (xs.take k)):=by
 have hl:=h.len bO aa;refine ⟨by rw [fB bO,lT];omega,fun h0=>?_⟩;obtain ⟨b,o,e,hb,hc⟩:=h.2 aa;refine ⟨b,o,e,hb,fun j u hu=>hc j u ?_⟩;have e1:aG xs=aG (xs.take k)++aG (xs.drop k):=by unfold aG;rw [<-lR,qW]
 rw [e1,sB (gU.1 hu).1]
 exact hu
theorem QV {w:World} {g t:Nat} {k:Int} (h:ay w g t #[iI k]):Rd w w.heap.size 1 (some ⟨g,0,none⟩) 1 (aG [k]):=by
 refine ⟨iV,fun _=>⟨g,0,rfl,h.lt,fun j u hu=>?_⟩⟩;rw [h.cell];simpa [xF] using hu
structure Mn (w W:World) (Y:OA) (n cy:Nat) (A:OA) (c g:Nat) (D:OA) (cd:Nat) (ds:List Pa):Prop where
 b:ay W w.heap.size 168 #[.slice Y n cy,iI 1,.slice A 2 c]
 z:ay W (w.heap.size+1) 168 jD
 d:ay W g 147 #[iI 1,.slice D 2 cd]
 r:Rd W W.heap.size 4 D 2 (aV ds)
 cd_:2<=cd
 x:Ext w W
 le:w.heap.size+1<g
theorem Mn.ext {w W W':World} {Y A D:OA} {n cy c g cd:Nat} {ds:List Pa} (h:Mn w W Y n cy A c g D cd ds) (hx:Ext W W'):Mn w W' Y n cy A c g D cd ds:=
 ⟨h.b.ext hx,h.z.ext hx,h.d.ext hx,h.r.ext hx,h.cd_,h.x.trans hx,h.le⟩
theorem Mn.put {w W W':World} {Y A D D':OA} {n cy c g cd cd':Nat} {ds ds':List Pa} (h:Mn w W Y n cy A c g D cd ds) (hx:Ext W W') (hr:Rd W' W'.heap.size 4 D' 2 (aV ds')) (hc:2<=cd'):Mn w (dN W' g (iI 1) (.slice D' 2 cd')) Y n cy A c g D' cd' ds':=by
 have hl:=h.le;have hd:=h.d.ext hx;refine ⟨((h.b.ext hx).bX (p:=(aA g 0)) (by show w.heap.size≠g;omega) _).bX (p:=(aA g 1)) (by show w.heap.size≠g;omega) _,((h.z.ext hx).bX (p:=(aA g 0)) (by show w.heap.size+1≠g;omega) _).bX (p:=(aA g 1)) (by show w.heap.size+1≠g;omega) _,hd.dN _ _,?_,hc,dH (g:=g) (h.x.trans hx) aa _ _,h.le⟩;rw [kx]
 exact qw hr hd _ _
theorem akq {P:Prop} (h:P:=by
 obtain ⟨⟨z0,z1,z2⟩,f0,f1,f2⟩:=cV (aZ.u.z.ext pW);have lX:=hY ((aZ.u.z.ext pW).lh (.slice Y9 (n+1) c9) (iI 1) (.slice D 2 cd));have eQ:=hY (jd (g:=w.heap.size+1) (aZ.u.x.trans pW) aa (.slice Y9 (n+1) c9) (iI 1) (.slice D 2 cd));have fF:=hY (lQ (jZ hYE (aZ.u.z.ext pW) ae (.slice Y9 (n+1) c9) (iI 1) (.slice D 2 cd)) (kO (aZ.u.r.ext pW) (aZ.u.z.ext pW) (.slice Y9 (n+1) c9) (iI 1) (.slice D 2 cd)));have BL:Hid ((fun w'=>(w'.cell? (aA w.z 0)=some (.slice Y n cy))/\(w'.cell? (aA g6 0)=some (iI 1)/\w'.cell? (aA g6 1)=some (.slice D 2 cd))) (lh WE (w.heap.size+1) (.slice Y9 (n+1) c9) (iI 1) (.slice D 2 cd))):=⟨(je (aZ.u.b.ext pW) aa _ _ _).cell 0,(je (aZ.u.d.ext pW) (oM aZ.u.le) _ _ _).cell 0,(je (aZ.u.d.ext pW) (oM aZ.u.le) _ _ _).cell 1⟩;refine tq 8 ?_;refine o1 9 fun K hK=>?_
 go_simp;refine ov hK (BL.u) fun ay4=>?_
 refine dn ?_;clear ay4 BL;go_wp2;refine bR (v:=.agg #[.slice Y9 (n+1) c9,iI 1,.slice D 2 cd]) ?_ rfl ?_
 rotate_left
 ·rw [HV.u];refine ⟨⟨_,rfl,Y9,c9,D,cd,?_,?_,?_,aZ.u.cd_⟩,eQ.u⟩
  ·show _=Value.agg #[.slice Y9 (sy++[k]).length c9,_,_];rw [lA,HN.u];rfl
  ·show World.ownsRow _ _ _ _ (.slice Y9 (sy++[k]).length c9) (sy++[k]).length (aG (sy++[k]));rw [lA,HN.u]
   exact aC fF.u.1 aZ.u.x.size
  ·have h9:=fF.u.2;have pq:=gy WE (w.heap.size+1) (.slice Y9 (n+1) c9) (iI 1) (.slice D 2 cd);rw [<-pq] at h9
   exact h9
 ·exact nU rfl _ _ (w.heap.size+1) 168 _ (0,0) _ af lX.u underlying168 rfl af):P:=h
theorem EG {P:Prop} (h:P:=by
 intro v9 w9 u1 u2 u3 u4;obtain ⟨Y9,c9,rfl,-⟩:=au u1;have pW:=u2;have hYE:=u1;refine ov hK (⟨(aZ.u.b.ext (pW)).cell 0,(aZ.u.d.ext (pW)).cell 0,(aZ.u.d.ext (pW)).cell 1⟩) fun ay4=>?_
 have JE:∃WE,WE=w9:=⟨_,rfl⟩;obtain ⟨WE,rfl⟩:=JE
 exact akq):P:=h
theorem akr {P:Prop} (h:P:=by
 go_upto_region 10 with fail;have ay4:(fun w'=>(w'.cell? (aA w.z 0)=some (.slice Y n cy))/\(w'.cell? (aA g6 0)=some (iI 1)/\w'.cell? (aA g6 1)=some (.slice D 2 cd))) WC.drew:=⟨(aZ.u.b.ext ((xZ WC).drew)).cell 0,(aZ.u.d.ext ((xZ WC).drew)).cell 0,(aZ.u.d.ext ((xZ WC).drew)).cell 1⟩;refine dm (S:=(fun w'=>(w'.cell? (aA w.z 0)=some (.slice Y n cy))/\(w'.cell? (aA g6 0)=some (iI 1)/\w'.cell? (aA g6 1)=some (.slice D 2 cd)))) af (ay4) (fun ay4=>?_);refine tq 1 ?_;refine tq 2 ?_;refine tq 4 ?_;refine tq 7 ?_;refine o2 0 5 (fun K hK=>?_) fun K hK=>?_
 ·skip;go_simp;refine ov hK (⟨(aZ.u.b.ext (((xZ WC).alloc (cO #[] 3)).drew)).cell 0,(aZ.u.d.ext (((xZ WC).alloc (cO #[] 3)).drew)).cell 0,(aZ.u.d.ext (((xZ WC).alloc (cO #[] 3)).drew)).cell 1⟩) fun ay4=>?_
  refine o2 3 5 (fun K hK=>?_) fun K hK=>?_
  ·skip;refine kU (w0:=WC) ah _ _ ah _ 0 [] ah (aq (aJ WC WC 3 1 (xZ _)) (xZ _).drew) (((xZ WC).alloc (cO #[] 3)).drew) Y n cy sy ah (HY.u.ext (aZ.u.x.trans (((xZ WC).alloc (cO #[] 3)).drew))) aa ?_;intro v8 w8 t1 t2 t3 t4;rw [lM,lN] at t1;obtain ⟨Y8,c8,rfl,-⟩:=au t1;refine ov hK (⟨(aZ.u.b.ext (t2)).cell 0,(aZ.u.d.ext (t2)).cell 0,(aZ.u.d.ext (t2)).cell 1⟩) fun ay4=>?_
   refine o1 5 fun K hK=>?_
   go_simp;refine ov hK (⟨(aZ.u.b.ext (t2.alloc (cO #[iI k] 3))).cell 0,(aZ.u.d.ext (t2.alloc (cO #[iI k] 3))).cell 0,(aZ.u.d.ext (t2.alloc (cO #[iI k] 3))).cell 1⟩) fun ay4=>?_
   refine o1 6 fun K hK=>?_
   refine kU (w0:=WC) ah _ _ ah _ n sy ah (t1.alloc (cO #[iI k] 3)) (t2.alloc (cO #[iI k] 3)) _ 1 1 [k] ah (eh w8 _ _ 1 _ ah ah) aa ?_
   exact EG
  ·skip;go_simp;have vS:ay (((WC.alloc (cO #[] 3)).alloc (cO #[iI k] 3)).drew) (WC.heap.size+1) 3 #[iI k]:=ay.drew (ay.newAt (bQ WC (cO #[] 3)).symm);have hO0:(((WC.alloc (cO #[] 3)).alloc (cO #[iI k] 3)).drew).ownsRow WC.heap.size 3 1 (.slice (some ⟨WC.heap.size,0,none⟩) 0 0) 0 []:=aq ((aJ WC WC 3 1 (xZ _)).alloc (cO #[iI k] 3)) (xZ _).drew;refine ov hK (⟨(aZ.u.b.ext ((((xZ WC).alloc (cO #[] 3)).alloc (cO #[iI k] 3)).drew)).cell 0,(aZ.u.d.ext ((((xZ WC).alloc (cO #[] 3)).alloc (cO #[iI k] 3)).drew)).cell 0,(aZ.u.d.ext ((((xZ WC).alloc (cO #[] 3)).alloc (cO #[iI k] 3)).drew)).cell 1⟩) fun ay4=>?_
   refine o1 3 fun K hK=>?_
   refine kU (w0:=WC) ah _ _ ah _ 0 [] ah (hO0) ((((xZ WC).alloc (cO #[] 3)).alloc (cO #[iI k] 3)).drew) Y n cy sy ah (HY.u.ext (aZ.u.x.trans ((((xZ WC).alloc (cO #[] 3)).alloc (cO #[iI k] 3)).drew))) aa ?_;intro v8 w8 t1 t2 t3 t4;rw [lM,lN] at t1;obtain ⟨Y8,c8,rfl,-⟩:=au t1;refine ov hK (⟨(aZ.u.b.ext (t2)).cell 0,(aZ.u.d.ext (t2)).cell 0,(aZ.u.d.ext (t2)).cell 1⟩) fun ay4=>?_
   have zk:=vS.grown t3 (fun g hg e=>by rw [show (Value.slice (some ⟨WC.heap.size,0,none⟩) 0 0).ownBlock=some WC.heap.size from rfl] at hg;injection hg with hg;omega);refine o1 6 fun K hK=>?_
   refine kU (w0:=WC) ah _ _ ah _ n sy ah (t1) (t2) _ 1 1 [k] ah (QV zk) aa ?_
   exact EG
 ·skip;go_simp;refine ov hK (⟨(aZ.u.b.ext (((xZ WC).alloc (cO #[iI k] 3)).drew)).cell 0,(aZ.u.d.ext (((xZ WC).alloc (cO #[iI k] 3)).drew)).cell 0,(aZ.u.d.ext (((xZ WC).alloc (cO #[iI k] 3)).drew)).cell 1⟩) fun ay4=>?_
  refine o1 0 fun K hK=>?_
  go_simp;have vS:ay (((WC.alloc (cO #[iI k] 3)).alloc (cO #[] 3)).drew) WC.heap.size 3 #[iI k]:=ay.drew ((ay.new WC _ _).alloc (cO #[] 3));have hO0:(((WC.alloc (cO #[iI k] 3)).alloc (cO #[] 3)).drew).ownsRow WC.heap.size 3 1 (.slice (some ⟨WC.heap.size+1,0,none⟩) 0 0) 0 []:=by
   have h9:=aJ WC (WC.alloc (cO #[iI k] 3)) 3 1 ((xZ WC).alloc _);rw [bQ] at h9
   exact aq h9 (xZ _).drew
  refine ov hK (⟨(aZ.u.b.ext ((((xZ WC).alloc (cO #[iI k] 3)).alloc (cO #[] 3)).drew)).cell 0,(aZ.u.d.ext ((((xZ WC).alloc (cO #[iI k] 3)).alloc (cO #[] 3)).drew)).cell 0,(aZ.u.d.ext ((((xZ WC).alloc (cO #[iI k] 3)).alloc (cO #[] 3)).drew)).cell 1⟩) fun ay4=>?_
  refine o1 3 fun K hK=>?_
  refine kU (w0:=WC) ah _ _ ah _ 0 [] ah (hO0) ((((xZ WC).alloc (cO #[iI k] 3)).alloc (cO #[] 3)).drew) Y n cy sy ah (HY.u.ext (aZ.u.x.trans ((((xZ WC).alloc (cO #[iI k] 3)).alloc (cO #[] 3)).drew))) aa ?_;intro v8 w8 t1 t2 t3 t4;rw [lM,lN] at t1;obtain ⟨Y8,c8,rfl,-⟩:=au t1;refine ov hK (⟨(aZ.u.b.ext (t2)).cell 0,(aZ.u.d.ext (t2)).cell 0,(aZ.u.d.ext (t2)).cell 1⟩) fun ay4=>?_
  have zk:=vS.grown t3 (fun g hg e=>by rw [show (Value.slice (some ⟨WC.heap.size+1,0,none⟩) 0 0).ownBlock=some (WC.heap.size+1) from rfl] at hg;injection hg with hg;omega);refine o1 6 fun K hK=>?_
  refine kU (w0:=WC) ah _ _ ah _ n sy ah (t1) (t2) _ 1 1 [k] ah (QV zk) aa ?_;intro v9 w9 u1 u2 u3 u4;obtain ⟨Y9,c9,rfl,-⟩:=au u1;have pW:=u2;have hYE:=u1;refine ov hK (⟨(aZ.u.b.ext (pW)).cell 0,(aZ.u.d.ext (pW)).cell 0,(aZ.u.d.ext (pW)).cell 1⟩) fun ay4=>?_
  have JE:∃WE,WE=w9:=⟨_,rfl⟩;obtain ⟨WE,rfl⟩:=JE
  exact akq):P:=h
theorem aks {P:Prop} (h:P:=by
 obtain ⟨⟨b0,b1,b2⟩,-⟩:=cV aZ.u.b;have hwn:IntKind.i64.wrap ((n:Int) - 1)=(n:Int) - 1:=lH _ aa;have akt:wrap64 ((n:Int) - 1)=(n:Int) - 1:=bo
 by_cases rE:k=0
 ·have akb:(k==0)=true:=by rw [rE];rfl
  have HK0:=hY rE;clear rE
  by_cases ND:0<n
  ·have tS:(0:Int)<=(n:Int) - 1:=aa
   skip;obtain ⟨n',nM⟩:∃n',n=n'+1:=⟨n - 1,aa⟩;clear hwn akt tS;have hwn:IntKind.i64.wrap ((n:Int) - 1)=(n':Int):=oV
   have akt:wrap64 ((n:Int) - 1)=(n':Int):=bo
   have hln:(n':Int)<(n:Int):=aa
   have HN1:=hY nM;obtain ⟨bb,oo,m,rfl,-,hm,m0⟩:=eT (HY.u.ext aZ.u.x) (i:=n') aa;clear nM;have hmb:=(Xu HVS.u hm).1;have hml:sy.getLastD 0=m:=by rw [Nh,List.getLast?_eq_getElem?,HN.u,HN1.u,Nat.add_sub_cancel,hm];rfl
   have HV:Hid (LL ⟨sy,cl⟩=⟨sy.take n',Hd (ky (dI m++[gz 5])) (Kr cl)⟩):=by
    unfold Hid LL;rw [aX (by show lZ cl=0/\0<sy.length;rw [HN.u];exact ⟨py.u.symm.trans HK0.u,ND⟩)];simp only [HN.u,HN1.u,Nat.add_sub_cancel,hml]
   obtain ⟨htm,him⟩:=abG hmb;have HTM:=hY htm;have aww:=tu m;have HWT:Hid (∀(A4:OA) (c4:Nat) (w':World),Rd w' w'.heap.size 4 A4 ((dI m).length+1) (ak (dI m++[gz 5]))->Calls prog 163 #[.slice A4 ((dI m).length+1) c4] w' fun e w''=>nz 1 (wk 1 (dI m++[gz 5])) e w''/\Ext w' w''):=fun A4 c4 w' hr=>by
    have hal:(dI m++[gz 5]).length=(dI m).length+1:=by rw [lA];rfl
    rw [<-hal] at hr |-
    exact lg A4 c4 _ w' hr aa
   have FO:(ky (dI m++[gz 5])).length=2:=(gL _ him).2;have HBH:Hid (∀(B:OA) (d:Nat) (w':World),Ext WC w'->Rd w' w'.heap.size 4 B 2 (aV (ky (dI m++[gz 5])))->Calls prog 164 #[.agg #[iI 1,.slice B 2 d],.agg #[iI 1,.slice D 2 cd]] w' fun e w''=>(∃v,e=.returned v/\jX 1 (Hd (ky (dI m++[gz 5])) (Kr cl)) v w'')/\Ext w' w''):=fun B d w' hx hr=>by
    have zh:=Bx Mo.u;obtain ⟨r0,r1,e1,-⟩:=oz zh;have hv:=(gL _ zh).1;obtain ⟨p0,p1,e2,v0,n0,v1,n1⟩:=oz him;have mg:=aZ.u.r.ext hx;rw [e1] at mg hv |-;rw [e2] at hr |-
    exact nD B _ d cd p0 p1 r0 r1 w' hr mg aZ.u.cd_ hv v0 n0 v1 n1
   clear hm hml htm him;go_wp2_with fail;refine (ek m _).mono ?_;rintro e w3 ⟨⟨v3,rfl,jm⟩,bT⟩;obtain ⟨A3,c3,rfl,-⟩:=au jm;go_wp2_with fail;refine (aM (w0:=w3) 5 0 _ (xZ _)).mono ?_;rintro e w4 ⟨rfl,fe⟩;have nB:=hY (lQ (aq jm fe) (bT.trans fe));clear jm bT fe;go_wp2_with (at_builtin;refine er (w0:=WC) rfl _ _ rfl _ _ _ rfl nB.u.1 nB.u.2 (gz 5) _ _ rfl rfl aa ?_;intro v6 w6 h1 h2 h3 h4;obtain ⟨A6,c6,rfl,Mp⟩:=au h1;have km:=hY (lQ Mp h2);clear h1 h2 h3 h4 Mp)
   refine (HWT.u A6 c6 _ km.u.1).mono ?_;rintro e w7 ⟨bz,gJ⟩;obtain ⟨B8,d8,rfl,BB,hd7⟩:=jq HTM.u FO bz;have HX8:Hid (Ext WC (w7.alloc (cO #[iI 1,.slice B8 2 d8] 147))):=(km.u.2.trans gJ).alloc _;have Mb:=hY (ay.new w7 147 #[iI 1,.slice B8 2 d8]);have HR8:=hY (BB.ext ((xZ w7).alloc (cO #[iI 1,.slice B8 2 d8] 147)));have eH:=hY (aZ.u.ext HX8.u);have apq:Hid (w7.heap.size≠w.heap.size+1):=by have h1:=(aZ.u.z.ext (km.u.2.trans gJ)).lt;unfold Hid;omega
   clear bz BB gJ km nB FO HWT HTM m0 b0 b1 b2;go_upto_region 9 with fail;generalize hg8:w7.heap.size=g8 at*
   generalize w7.alloc (cO #[iI 1,.slice B8 2 d8] 147)=W9 at*
   clear hg8;have KG:(n':Int)<=(cy:Int):=oM HN1.u
   have HTK:=hY (XK HY.u (show n'<=n by omega));have htl:(sy.take n').length=n':=by rw [lT,HN.u];omega
   have HTL:=hY htl;clear htl;have ay4:(fun w'=>w'.cell? (aA w.z 0)=some (.slice (some ⟨bb,oo,none⟩) n cy)/\(w'.cell? (aA g6 0)=some (iI 1)/\w'.cell? (aA g6 1)=some (.slice D 2 cd))/\(w'.cell? (aA g8 0)=some (iI 1)/\w'.cell? (aA g8 1)=some (.slice B8 2 d8))) W9.drew:=⟨(eH.u.b.ext ((xZ W9).drew)).cell 0,⟨(eH.u.d.ext ((xZ W9).drew)).cell 0,(eH.u.d.ext ((xZ W9).drew)).cell 1⟩,(Mb.u.ext ((xZ W9).drew)).cell 0,(Mb.u.ext ((xZ W9).drew)).cell 1⟩;refine dm (S:=(fun w'=>w'.cell? (aA w.z 0)=some (.slice (some ⟨bb,oo,none⟩) n cy)/\(w'.cell? (aA g6 0)=some (iI 1)/\w'.cell? (aA g6 1)=some (.slice D 2 cd))/\(w'.cell? (aA g8 0)=some (iI 1)/\w'.cell? (aA g8 1)=some (.slice B8 2 d8)))) af (ay4) (fun ay4=>?_);refine tq 1 ?_;refine tq 2 ?_;refine tq 3 ?_;refine tq 4 ?_;refine tq 6 ?_;refine tq 7 ?_;refine o1 0 fun K hK=>?_
   go_simp;refine ov hK (⟨(eH.u.b.ext (((xZ W9).alloc (cO #[] 3)).drew)).cell 0,⟨(eH.u.d.ext (((xZ W9).alloc (cO #[] 3)).drew)).cell 0,(eH.u.d.ext (((xZ W9).alloc (cO #[] 3)).drew)).cell 1⟩,(Mb.u.ext (((xZ W9).alloc (cO #[] 3)).drew)).cell 0,(Mb.u.ext (((xZ W9).alloc (cO #[] 3)).drew)).cell 1⟩) fun ay4=>?_
   refine o1 5 fun K hK=>?_
   refine kU (w0:=W9) ah _ _ ah _ 0 [] ah (aq (aJ W9 W9 3 1 (xZ _)) (xZ _).drew) (((xZ W9).alloc (cO #[] 3)).drew) _ n' _ (sy.take n') ah (HTK.u.ext ((aZ.u.x.trans HX8.u).trans (((xZ W9).alloc (cO #[] 3)).drew))) aa ?_;intro v10 pd t1 t2 t3 t4;rw [lM,lN] at t1;obtain ⟨Y9,c9,rfl,-⟩:=au t1;refine ov hK (⟨(eH.u.b.ext (t2)).cell 0,⟨(eH.u.d.ext (t2)).cell 0,(eH.u.d.ext (t2)).cell 1⟩,(Mb.u.ext (t2)).cell 0,(Mb.u.ext (t2)).cell 1⟩) fun ay4=>?_
   refine o1 8 fun K hK=>?_
   go_simp;refine (HBH.u B8 d8 _ (HX8.u.trans t2) (HR8.u.ext t2)).mono ?_;rintro e w11 ⟨⟨v11,rfl,D9,cd9,rfl,akx,aky⟩,akz⟩;have apr:(Hd (ky (dI m++[gz 5])) (Kr cl)).length=2:=rfl;rw [apr] at akx aky |-;have pW:=t2.trans akz;have hYE:=aq t1 akz;refine ov hK (⟨(eH.u.b.ext (pW)).cell 0,⟨(eH.u.d.ext (pW)).cell 0,(eH.u.d.ext (pW)).cell 1⟩,(Mb.u.ext (pW)).cell 0,(Mb.u.ext (pW)).cell 1⟩) fun ay4=>?_
   obtain ⟨⟨z0,z1,z2⟩,f0,f1,f2⟩:=cV (eH.u.z.ext pW);have lX:=hY ((eH.u.z.ext pW).lh (.slice Y9 n' c9) (iI 1) (.slice D9 2 cd9));have eQ:=hY (jd (g:=w.heap.size+1) (eH.u.x.trans pW) aa (.slice Y9 n' c9) (iI 1) (.slice D9 2 cd9));have fF:=hY (lQ (jZ hYE (eH.u.z.ext pW) ae (.slice Y9 n' c9) (iI 1) (.slice D9 2 cd9)) (kO akx (eH.u.z.ext pW) (.slice Y9 n' c9) (iI 1) (.slice D9 2 cd9)));have akA:g8≠w.heap.size+1:=apq.u;have BL:Hid ((fun w'=>w'.cell? (aA w.z 0)=some (.slice (some ⟨bb,oo,none⟩) n cy)/\(w'.cell? (aA g6 0)=some (iI 1)/\w'.cell? (aA g6 1)=some (.slice D 2 cd))/\(w'.cell? (aA g8 0)=some (iI 1)/\w'.cell? (aA g8 1)=some (.slice B8 2 d8))) (lh w11 (w.heap.size+1) (.slice Y9 n' c9) (iI 1) (.slice D9 2 cd9))):=⟨(je (eH.u.b.ext pW) aa _ _ _).cell 0,⟨(je (eH.u.d.ext pW) (oM eH.u.le) _ _ _).cell 0,(je (eH.u.d.ext pW) (oM eH.u.le) _ _ _).cell 1⟩,(je (Mb.u.ext pW) akA _ _ _).cell 0,(je (Mb.u.ext pW) akA _ _ _).cell 1⟩;refine tq 9 ?_;refine o1 10 fun K hK=>?_
   go_simp;refine ov hK (BL.u) fun ay4=>?_
   refine dn ?_;clear ay4 BL;go_wp2;refine bR (v:=.agg #[.slice Y9 n' c9,iI 1,.slice D9 2 cd9]) ?_ rfl ?_
   rotate_left
   ·rw [HV.u];refine ⟨⟨_,rfl,Y9,c9,D9,cd9,?_,?_,?_,aky⟩,eQ.u⟩
    ·show _=Value.agg #[.slice Y9 (sy.take n').length c9,_,_];rw [HTL.u]
    ·show World.ownsRow _ _ _ _ (.slice Y9 (sy.take n').length c9) (sy.take n').length (aG (sy.take n'));rw [HTL.u]
     exact aC fF.u.1 eH.u.x.size
    ·have h9:=fF.u.2;have pq:=gy w11 (w.heap.size+1) (.slice Y9 n' c9) (iI 1) (.slice D9 2 cd9);rw [<-pq] at h9
     exact h9
   ·exact nU rfl _ _ (w.heap.size+1) 168 _ (0,0) _ af lX.u underlying168 rfl af
  ·have bh:(n:Int) - 1<0:=aa
   have tS:¬((0:Int)<=(n:Int) - 1):=aa
   have HV:Hid (LL ⟨sy,cl⟩=⟨sy++[k],Kr cl⟩):=by
    unfold Hid LL;rw [aK (by show ¬(lZ cl=0/\0<sy.length);rw [HN.u];exact fun hh=>ND hh.2),<-py.u]
   exact akr
 ·have akb:(k==0)=false:=sU rE
  have HV:Hid (LL ⟨sy,cl⟩=⟨sy++[k],Kr cl⟩):=by
   unfold Hid LL;rw [aK (by show ¬(lZ cl=0/\0<sy.length);rw [<-py.u];exact fun hh=>rE hh.1),<-py.u]
  exact akr):P:=h
theorem akB {P:Prop} (h:P:=by
 refine o1 2 fun K hK=>?_
 go_simp;refine (WD.u _ tA).mono ?_;rintro e pd ⟨bz,wR⟩;obtain ⟨D,cd,rfl,akC,akD⟩:=jq rfl HDL.u bz;refine ov hK (trivial) fun ay4=>?_
 refine tq 3 ?_;refine tq 4 ?_;refine tq 5 ?_;obtain ⟨⟨q0,q1⟩,f0,f1⟩:=bt (aZ.u.d.ext (tA.trans wR));refine o1 6 fun K hK=>?_
 go_simp;refine ov hK (trivial) fun ay4=>?_
 refine dn ?_;have kg:Hid (Mn w ((pd.setCell (aA g6 0) (iI 1)).setCell (aA g6 1) (.slice D 2 cd)) Y n cy A c g6 D cd (Kr cl)):=aZ.u.put (tA.trans wR) akC akD;clear aZ tA wR bz akC akD q0 q1 f0 f1 ay4 WD t0 t1 t2 t3 e2;generalize (pd.setCell (aA g6 0) (iI 1)).setCell (aA g6 1) (.slice D 2 cd)=WC at*
 have aZ:=kg;clear kg;go_upto_region 6 with fail
 exact aks):P:=h
theorem Mq (v:Value) (s:Nf) (w:World) (h:Ez w v s) (hn:s.sy.length<=1600000000000) (hc:vD s.cl=true) (hy:Ow s.sy=true):
  Calls prog 150 #[v] w fun e w'=>(∃v',e=.returned v'/\Hu w' w.heap.size v' (LL s))/\Ext w w':=by
 obtain ⟨Y,cy,A,c,rfl,FE,Gd,QP,sg⟩:=h;obtain ⟨sy,cl⟩:=s;simp only at FE Gd QP hn hc hy |-;obtain ⟨n,vA⟩:=ex (sy.length);rw [vA] at FE QP hn |-;have HN:=hY vA;have HY:=hY FE;have HA:=hY Gd;have Mo:=hY hc;have HVS:=hY hy;have hkb:=Qz cl;obtain ⟨k,hk⟩:=ey (lZ cl);have py:=hY hk;rw [<-hk] at hkb;obtain ⟨htb,afL⟩:=XI hkb;have HTB:=hY htb;have xj:Hid (vD (Hd (ky (gG (dI k))) cl)=true):=by rw [hk];exact XH hc
 have HCI:Hid (∀w',Ext w w'->Calls prog 162 #[.agg #[iI 1,.slice A 2 c]] w' fun e w''=>e=.returned (iI k)/\Ext w' w''):=fun w' hx=>by
  obtain ⟨r0,r1,e1,-⟩:=oz hc;have hv:=(gL _ hc).1;rw [hk];have hr:=Gd.ext hx;rw [e1] at hr hv |-
  exact uu A c r0 r1 w' hr sg hv
 have HBH:Hid (∀(B:OA) (d:Nat) (w':World),Ext w w'->Rd w' w'.heap.size 4 B 2 (aV (ky (gG (dI k))))->Calls prog 164 #[.agg #[iI 1,.slice B 2 d],.agg #[iI 1,.slice A 2 c]] w' fun e w''=>(∃v,e=.returned v/\jX 1 (Hd (ky (gG (dI k))) cl) v w'')/\Ext w' w''):=fun B d w' hx hr=>by
  obtain ⟨r0,r1,e1,-⟩:=oz hc;have hv:=(gL _ hc).1;obtain ⟨p0,p1,e2,v0,n0,v1,n1⟩:=oz afL;have mg:=Gd.ext hx;rw [e1] at mg hv |-;rw [e2] at hr |-
  exact nD B A d c p0 p1 r0 r1 w' hr mg sg hv v0 n0 v1 n1
 have HWT:Hid (∀(A4:OA) (c4:Nat) (w':World),Rd w' w'.heap.size 4 A4 (dI k).length (ak (gG (dI k)))->Calls prog 163 #[.slice A4 (dI k).length c4] w' fun e w''=>nz 1 (wk 1 (gG (dI k))) e w''/\Ext w' w''):=fun A4 c4 w' hr=>by
  have hal:=XJ (dI k);have hcl:=tu k;rw [<-hal] at hr |-
  exact lg A4 c4 (gG (dI k)) w' hr aa
 have FO:(ky (gG (dI k))).length=2:=(gL _ afL).2;have eG:Hid (ay ((w.alloc (cO #[.slice Y n cy,iI 1,.slice A 2 c] 168)).alloc (cO jD 168)) w.heap.size 168 #[.slice Y n cy,iI 1,.slice A 2 c]):=(ay.new w _ _).alloc _;have ie:Hid (ay ((w.alloc (cO #[.slice Y n cy,iI 1,.slice A 2 c] 168)).alloc (cO jD 168)) (w.heap.size+1) 168 jD):=ay.newAt ag;have dk:Hid (Ext w ((w.alloc (cO #[.slice Y n cy,iI 1,.slice A 2 c] 168)).alloc (cO jD 168))):=kB
 have hcl:=tu k;clear FE Gd vA hc hy htb afL hk;go_enter func150,ntmps150;go_upto_region 1 with fail;generalize ((w.alloc (cO #[.slice Y n cy,iI 1,.slice A 2 c] 168)).alloc (cO jD 168))=W1 at*
 obtain ⟨⟨b0,b1,b2⟩,-⟩:=cV eG.u;go_wp2_with fail;refine (HCI.u _ dk.u).mono ?_;rintro e w2 ⟨rfl,bH⟩;go_wp2_with fail;refine (ek k _).mono ?_;rintro e w3 ⟨⟨v3,rfl,jm⟩,bT⟩;obtain ⟨A3,c3,rfl,Qo⟩:=au jm;go_wp2_with fail;refine (sS A3 _ c3 (dI k) _ Qo aa).mono ?_;rintro e w4 ⟨v4,rfl,rk,fe⟩;obtain ⟨A4,c4,rfl,RM⟩:=au rk;go_wp2_with fail;refine (HWT.u A4 c4 _ RM).mono ?_;rintro e w5 ⟨bz,cN⟩;obtain ⟨B5,d5,rfl,Fx,hd5⟩:=jq HTB.u FO bz;have akE:Ext W1 w5:=((bH.trans bT).trans fe).trans cN;have dG:Hid (Ext W1 (w5.alloc (cO #[iI 1,.slice B5 2 d5] 147))):=akE.alloc _;have FC:=hY (ay.new w5 147 #[iI 1,.slice B5 2 d5]);have Ay:=hY (Fx.ext ((xZ w5).alloc (cO #[iI 1,.slice B5 2 d5] 147)));clear bz Qo jm RM rk Fx bH bT fe cN akE b0 b1 b2;go_upto_region 3 with fail;generalize Bm:w5.heap.size=g4 at*
 generalize w5.alloc (cO #[iI 1,.slice B5 2 d5] 147)=W6 at*
 clear Bm;obtain ⟨⟨b0,b1,b2⟩,-⟩:=cV (eG.u.ext dG.u);obtain ⟨⟨t0,t1⟩,-⟩:=bt FC.u;go_wp2_with fail;refine (HBH.u B5 d5 _ (dk.u.trans dG.u) Ay.u).mono ?_;rintro e w7 ⟨⟨v7,rfl,D,cd,rfl,hrD,hcd⟩,gJ⟩;obtain ⟨d0,hd0⟩:=ey (Hd (ky (gG (dI k))) cl);have NC:(Hd (ky (gG (dI k))) cl).length=2:=rfl;rw [NC] at hrD hcd |-;rw [<-hd0] at hrD xj;have XL:=hY hd0;have aZ:Hid (Mn w (w7.alloc (cO #[iI 1,.slice D 2 cd] 147)) Y n cy A c w7.heap.size D cd d0):=
  ⟨(eG.u.ext (dG.u.trans gJ)).alloc _,(ie.u.ext (dG.u.trans gJ)).alloc _,ay.new w7 _ _,hrD.ext ((xZ _).alloc _),hcd,((dk.u.trans dG.u).trans gJ).alloc _,oM ((ie.u.ext (dG.u.trans gJ)).lt)⟩
 clear hd0 NC hrD hcd gJ b0 b1 b2 t0 t1 dG FC Ay;go_upto_region 4 with fail;generalize Lf:w7.heap.size=g6 at*
 generalize w7.alloc (cO #[iI 1,.slice D 2 cd] 147)=W8 at*
 clear Lf;obtain ⟨b,o,x,rfl,-,aS,-,-,-,x3⟩:=fD aZ.u.r (i:=1) aa;have hxg:d0.getD 1 P0=x:=by rw [lP,aS];rfl
 have HXG:=hY hxg;clear aS hxg;obtain ⟨⟨t0,t1⟩,-⟩:=bt aZ.u.d
 cases e2:(x.p==2)
 ·have ZQ:Kr cl=d0:=by
   rw [afK,XL.u,py.u];rw [<-py.u,<-XL.u,HXG.u];simpa using e2
  rw [<-ZQ] at aZ;go_upto_region 6 with fail;have hw8:∃WC,WC=W8:=⟨_,rfl⟩;obtain ⟨WC,rfl⟩:=hw8;clear ZQ e2 t0 t1 x3 HTB HCI HBH HWT;generalize (some ⟨b,o,none⟩:OA)=D at*
  exact aks
 ·have ZQ:fa 1 d0 (gz 5)=some (Kr cl):=by
   have h9:=abH (t:=cl) (by rw [<-py.u,<-XL.u,HXG.u];simpa using e2) Mo.u;rw [<-py.u,<-XL.u] at h9
   exact h9
  have NC:(Kr cl).length=2:=(gL _ (Bx Mo.u)).2;have WD:Hid (∀w',Ext W8 w'->Calls prog 128 #[.agg #[iI 1,.slice (some ⟨b,o,none⟩) 2 cd],.agg #[iI 5,iI 0,iI 0,iI 0]] w' fun e w''=>nz 1 (some (Kr cl)) e w''/\Ext w' w''):=fun w' hx=>by
   obtain ⟨p0,p1,e3,-⟩:=oz xj.u;have hr:=aZ.u.r.ext hx;rw [<-ZQ];rw [e3] at hr |-
   exact eV _ cd 1 [p0,p1] (gz 5) w' hr ag aZ.u.cd_
  have HDL:=hY NC;clear ZQ NC HTB HCI HBH HWT;go_upto_region 5 with fail;clear x3;obtain ⟨⟨t2,t3⟩,-⟩:=bt aZ.u.d.drew;refine dm (S:=(fun _=>True)) af (trivial) (fun ay4=>?_);refine o2 0 1 (fun K hK=>?_) fun K hK=>?_
  ·skip;go_simp;refine ov hK (trivial) fun ay4=>?_
   refine o1 1 fun K hK=>?_
   go_simp;refine (aM (w0:=W8) 5 0 _ (xZ W8).drew).mono ?_;rintro e w9 ⟨rfl,tA⟩;refine ov hK (trivial) fun ay4=>?_
   exact akB
  ·skip;go_simp;refine (aM (w0:=W8) 5 0 _ (xZ W8).drew).mono ?_;rintro e w9 ⟨rfl,tA⟩;obtain ⟨⟨t4,t5⟩,-⟩:=bt (aZ.u.d.ext tA);refine ov hK (trivial) fun ay4=>?_
   refine o1 0 fun K hK=>?_
   go_simp;refine ov hK (trivial) fun ay4=>?_
   clear t4 t5
   exact akB
theorem mE (w:World):Calls prog 135 #[] w fun e w'=>(∃v,e=.returned v/\Hu w' w.heap.size v nf0)/\Ext w w':=by
 have HB:Hid (ay (w.alloc (cO jD 168)) w.heap.size 168 jD):=ay.new w _ _;have HX:Hid (Ext w (w.alloc (cO jD 168))):=(xZ w).alloc _;go_enter func135,ntmps135;go_wp2_with fail;refine (fw 1 _ aa aa).mono ?_;rintro e w1 ⟨⟨v,rfl,A,c,rfl,hr,hc⟩,aS⟩;have hl:(RE (1:Int).toNat).length=2:=rfl;rw [hl] at hr hc |-;obtain ⟨⟨z0,z1,z2⟩,f0,f1,f2⟩:=cV (HB.u.ext aS);have BC:=hY ((HB.u.ext aS).lh (nS) (iI 1) (.slice A 2 c));have mJ:=hY (jd (g:=w.heap.size) (HX.u.trans aS) (lI _) (nS) (iI 1) (.slice A 2 c));have TY:=hY (kO hr (HB.u.ext aS) (nS) (iI 1) (.slice A 2 c));clear hr aS hl;go_wp2;refine bR (v:=.agg #[nS,iI 1,.slice A 2 c]) ?_ rfl ?_
 rotate_left
 ·refine ⟨⟨_,rfl,none,0,A,c,rfl,⟨rfl,.inl ⟨rfl,rfl⟩⟩,?_,hc⟩,mJ.u⟩;have h9:=TY.u;have pq:=gy w1 w.heap.size (nS) (iI 1) (.slice A 2 c);rw [<-pq] at h9
  exact h9
 ·exact nU rfl _ _ w.heap.size 168 _ (0,0) _ af BC.u underlying168 rfl af
end Go.Proofs.YtiajdbllccmokaaGreatDoor
