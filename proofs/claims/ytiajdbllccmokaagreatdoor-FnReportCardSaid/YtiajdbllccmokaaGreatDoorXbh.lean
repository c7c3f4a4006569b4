import Derived.Test.YtiajdbllccmokaaGreatDoorXbd
import Derived.Test.YtiajdbllccmokaaGreatDoorXbe
namespace Go.Proofs.YtiajdbllccmokaaGreatDoor
open Go.ChangeShapes Go.WideShapes Go.ChangeAt Go.RowKit Go.Deep Go.Proofs.Tryz
set_option linter.unusedVariables false
set_option linter.unusedSimpArgs false
set_option maxRecDepth 100000
set_option maxHeartbeats 16000000
theorem fI {w:World} {B e s n g t:Nat} {v:Value} {xs:List Value} {cs:Array Value} (h:w.ownsRow B e s v n xs) (h':ay w g t cs) (he:e≠t) (i:Nat) (u:Value):(w.setCell (aA g i) u).ownsRow B e s v n xs:=
 h.kept (row:=some g) ⟨rfl,rfl,rfl,ag,fun k _ hk=>xz w ⟨g,i,none⟩ k u (fun e=>hk (by simp [e]))⟩ (Or.inr (jr h h' he))
theorem QZ {W:World} {q t n B:Nat} {z0 z1 z2:Value} {A:OA} {xs:List Value} (h:Rd W B 4 A n xs) (hb:ay W q t #[z0,z1,z2]) (i:Nat) (u:Value):Rd (W.setCell (aA q i) u) B 4 A n xs:=by
 refine ⟨h.1,fun hn=>?_⟩;obtain ⟨b',o,e,rb,hc⟩:=h.2 hn;refine ⟨b',o,e,rb,fun j v hu=>?_⟩;have hne:b'≠q:=by
  rintro rfl;have hlen:=h.1;have h3:=hc 3 _ (lB aa);rw [hb.cell] at h3;rw [zL ag] at h3
  cases h3
 exact (sD (a:=⟨b',o+j,none⟩) (mO _ ⟨q,i,none⟩ u b' hne)).trans (hc j v hu)
structure JT (w W:World) (Y:OA) (n cy:Nat) (A:OA) (c:Nat) (k:Int) (g:Nat) (Y6:OA) (c6:Nat) (A6:OA) (d6:Nat) (sy:List Int) (cl:List Pa):Prop where
 b:ay W w.heap.size 168 #[.slice Y n cy,iI 1,.slice A 2 c]
 gt:ay W (w.heap.size+1) 54 #[iI k,iI 0,iI 0,iI 0]
 z:ay W (w.heap.size+1+1) 168 jD
 o:ay W g 168 #[.slice Y6 n c6,iI 1,.slice A6 2 d6]
 ry:W.ownsRow w.heap.size 3 1 (.slice Y6 n c6) n (aG sy)
 ra:Rd W W.heap.size 4 A6 2 (aV cl)
 da:2<=d6
 x:Ext w W
 le:w.heap.size+1+1<g
section
variable {w W W':World} {Y A Y6 A6 A9:OA} {n cy c g c6 d6 d9:Nat} {k:Int} {sy:List Int} {cl cl':List Pa}
theorem JT.ext (h:JT w W Y n cy A c k g Y6 c6 A6 d6 sy cl) (hx:Ext W W'):JT w W' Y n cy A c k g Y6 c6 A6 d6 sy cl:=
 ⟨h.b.ext hx,h.gt.ext hx,h.z.ext hx,h.o.ext hx,aq h.ry hx,h.ra.ext hx,h.da,h.x.trans hx,h.le⟩
theorem JT.put (h:JT w W Y n cy A c k g Y6 c6 A6 d6 sy cl) (hx:Ext W W') (hr:Rd W' W'.heap.size 4 A9 2 (aV cl')) (hc:2<=d9):JT w ((W'.setCell (aA g 1) (iI 1)).setCell (aA g 2) (.slice A9 2 d9)) Y n cy A c k g Y6 c6 A9 d9 sy cl':=by
 have hl:=h.le;have h1:=h.ext hx;have o1:=h1.o.ba 1 (iI 1);refine ⟨(h1.b.bX (p:=(aA g 1)) (by show w.heap.size≠g;omega) _).bX (p:=(aA g 2)) (by show w.heap.size≠g;omega) _,(h1.gt.bX (p:=(aA g 1)) (by show w.heap.size+1≠g;omega) _).bX (p:=(aA g 2)) (by show w.heap.size+1≠g;omega) _,(h1.z.bX (p:=(aA g 1)) (by show w.heap.size+1+1≠g;omega) _).bX (p:=(aA g 2)) (by show w.heap.size+1+1≠g;omega) _,o1.ba 2 (.slice A9 2 d9),fI (fI h1.ry h1.o ae 1 _) o1 ae 2 _,?_,hc,(h1.x.setCell (p:=(aA g 1)) (by show w.heap.size<=g;omega) _).setCell (p:=(aA g 2)) (by show w.heap.size<=g;omega) _,h.le⟩;have h9:=QZ (QZ hr h1.o 1 (iI 1)) o1 2 (.slice A9 2 d9);have hs:((W'.setCell (aA g 1) (iI 1)).setCell (aA g 2) (.slice A9 2 d9)).heap.size=W'.heap.size:=ag
 rw [hs]
 exact h9
end
def Hy (e:Ending) (w w':World) (s:Nf):Prop:=∃v,e=.returned (.tuple #[v,.bool true])/\Hu w' w.heap.size v s
theorem ap0 (s:Nf):FA s 7=LL s:=by unfold FA;rw [aX rfl]
theorem ap1 (s:Nf):FA s 8=LL ⟨s.sy,(fa 1 s.cl (gz 6)).getD []⟩:=by unfold FA;rw [aK ae,aX rfl]
theorem ap2 (s:Nf) {k:Int} (h7:k≠7) (h8:k≠8):FA s k=⟨s.sy,(fa 1 s.cl (gz k)).getD []⟩:=by unfold FA;rw [aK h7,aK h8]
theorem vg1 {k:Int} (h:1<=k/\k<=8):vg (gz k) 1=true:=by
 rcases (show k=1\/k=2\/k=3\/k=4\/k=5\/k=6\/k=7\/k=8 by omega) with rfl|rfl|rfl|rfl|rfl|rfl|rfl|rfl<;>kernel_rfl
theorem ma (v:Value) (s:Nf) (k:Int) (w:World) (h:Ez w v s) (hn:s.sy.length<=1600000000000) (hc:vD s.cl=true) (hy:Ow s.sy=true) (hk:1<=k/\k<=8):
  Calls prog 136 #[v,.agg #[iI k,iI 0,iI 0,iI 0]] w fun e w'=>Hy e w w' (FA s k)/\Ext w w':=by
 have Ya:=hY h;obtain ⟨Y,cy,A,c,rfl,FE,Gd,QP,sg⟩:=h;obtain ⟨sy,cl⟩:=s;simp only at FE Gd QP hn hc hy;have Mo:=hY hc;have HVS:=hY hy;have BH:=vg1 hk;have HIV:Hid (∀w',Calls prog 72 #[.agg #[iI k,iI 0,iI 0,iI 0],iI 1] w' fun e w''=>e=.returned (.bool true)/\Ext w' w''):=fun w'=>by
  have h9:=bj (gz k) 1 w';rw [BH] at h9
  exact h9
 have WD:Hid (∀(j:Int) (w':World),1<=j/\j<=6->Ext w w'->Calls prog 128 #[.agg #[iI 1,.slice A 2 c],.agg #[iI j,iI 0,iI 0,iI 0]] w' fun e w''=>(∃(A9:OA) (d9:Nat),e=.returned (.tuple #[.agg #[iI 1,.slice A9 2 d9],.bool true])/\Rd w'' w''.heap.size 4 A9 2 (aV ((fa 1 cl (gz j)).getD []))/\2<=d9)/\Ext w' w''):=fun j w' hj hx=>by
  obtain ⟨u,hu,hui⟩:=pM hc hj;obtain ⟨p0,p1,e3,-⟩:=oz hc;have hr:=Gd.ext hx;have oF:=(gL _ hui).2;rw [hu];rw [e3] at hr hu;refine (eV A c 1 [p0,p1] (gz j) w' hr ag sg).mono ?_;rintro e w2 ⟨bz,bH⟩
  exact ⟨jq hu oF bz,bH⟩
 obtain ⟨n,vA⟩:=ex (sy.length);have HN:=hY vA;rw [vA] at FE QP hn;have Yb:(⟨sy,cl⟩:Nf).sy.length=n:=vA;have eG:Hid (ay (((w.alloc (cO #[.slice Y n cy,iI 1,.slice A 2 c] 168)).alloc (cO #[iI k,iI 0,iI 0,iI 0] 54)).alloc (cO jD 168)) w.heap.size 168 #[.slice Y n cy,iI 1,.slice A 2 c]):=((ay.new w _ _).alloc _).alloc _;have ie:Hid (ay (((w.alloc (cO #[.slice Y n cy,iI 1,.slice A 2 c] 168)).alloc (cO #[iI k,iI 0,iI 0,iI 0] 54)).alloc (cO jD 168)) (w.heap.size+1) 54 #[iI k,iI 0,iI 0,iI 0]):=(ay.newAt ag).alloc _;have fV:Hid (ay (((w.alloc (cO #[.slice Y n cy,iI 1,.slice A 2 c] 168)).alloc (cO #[iI k,iI 0,iI 0,iI 0] 54)).alloc (cO jD 168)) (w.heap.size+1+1) 168 jD):=ay.newAt ag;have dk:Hid (Ext w (((w.alloc (cO #[.slice Y n cy,iI 1,.slice A 2 c] 168)).alloc (cO #[iI k,iI 0,iI 0,iI 0] 54)).alloc (cO jD 168))):=kB
 rw [Yb] at Ya |-;clear FE Gd hc hy BH vA Yb;go_enter func136,ntmps136;go_upto_region 1 with fail;generalize (((w.alloc (cO #[.slice Y n cy,iI 1,.slice A 2 c] 168)).alloc (cO #[iI k,iI 0,iI 0,iI 0] 54)).alloc (cO jD 168))=W1 at*
 obtain ⟨⟨b0,b1,b2⟩,-⟩:=cV eG.u;go_wp2_with fail;refine (Mm _ ⟨sy,cl⟩ _ (Ya.u.ext dk.u) (by show sy.length<=_;rw [HN.u];omega)).mono ?_;rintro e w3 ⟨⟨v3,rfl,Y6,c6,A6,d6,rfl,px,Mp,hd6⟩,bT⟩;have hs3:W1.heap.size<=w3.heap.size:=bT.size;have akU:(⟨sy,cl⟩:Nf).sy.length=n:=HN.u;rw [akU] at px |-;have aZ:Hid (JT w (w3.alloc (cO #[.slice Y6 n c6,iI 1,.slice A6 2 d6] 168)) Y n cy A c k w3.heap.size Y6 c6 A6 d6 sy cl):=
  ⟨(eG.u.ext bT).alloc _,(ie.u.ext bT).alloc _,(fV.u.ext bT).alloc _,ay.new w3 _ _,(aC px dk.u.size).alloc _,Mp.ext ((xZ _).alloc _),hd6,(dk.u.trans bT).alloc _,(fV.u.ext bT).lt⟩
 clear b0 b1 b2 bT px Mp hd6 akU hs3 eG ie fV;go_upto_region 2 with fail;generalize Lf:w3.heap.size=g6 at*
 generalize w3.alloc (cO #[.slice Y6 n c6,iI 1,.slice A6 2 d6] 168)=W4 at*
 clear Lf;obtain ⟨⟨b0,b1,b2⟩,-⟩:=cV aZ.u.b;go_wp2_with fail;refine (hZ _ ⟨sy,cl⟩ _ (Ya.u.ext aZ.u.x) (by show sy.length<=_;rw [HN.u];omega) Mo.u HVS.u).mono ?_;rintro e w5 ⟨rfl,cN⟩;have fy:=hY (aZ.u.ext cN);clear aZ cN b0 b1 b2;obtain ⟨⟨g0,g1,g2,g3⟩,-⟩:=aB fy.u.gt;go_wp2_with fail;refine (HIV.u _).mono ?_;rintro e w6 ⟨rfl,mC⟩;have aZ:=hY (fy.u.ext mC);clear fy mC g0 g1 g2 g3;obtain ⟨⟨g0,g1,g2,g3⟩,-⟩:=aB aZ.u.gt
 by_cases h7:k=7
 ·subst h7;have HV:Hid (FA ⟨sy,cl⟩ 7=LL ⟨sy,cl⟩):=ap0 _;obtain ⟨⟨b0,b1,b2⟩,-⟩:=cV aZ.u.b;go_wp2_with fail;refine (Mq _ ⟨sy,cl⟩ _ (Ya.u.ext aZ.u.x) (by show sy.length<=_;rw [HN.u];omega) Mo.u HVS.u).mono ?_;rintro e w7 ⟨⟨v7,rfl,Y9,c9,A9,d9,rfl,AZ,xr,AU⟩,gJ⟩;have eW:=hY (aZ.u.ext gJ);obtain ⟨l9,TM⟩:=ey ((LL ⟨sy,cl⟩).sy.length);rw [<-TM] at AZ |-;have ZJ:=hY TM;clear gJ TM b0 b1 b2 g0 g1 g2 g3;obtain ⟨⟨z0,z1,z2⟩,f0,f1,f2⟩:=cV (eW.u.z);have BC:=hY ((eW.u.z).lh (.slice Y9 l9 c9) (iI 1) (.slice A9 2 d9));have mJ:=hY (jd (g:=w.heap.size+1+1) (eW.u.x) aa (.slice Y9 l9 c9) (iI 1) (.slice A9 2 d9));have kN:=hY (lQ (jZ (aC AZ aZ.u.x.size) (eW.u.z) ae (.slice Y9 l9 c9) (iI 1) (.slice A9 2 d9)) (kO (xr) (eW.u.z) (.slice Y9 l9 c9) (iI 1) (.slice A9 2 d9)));have Yc:=AU;go_wp2;refine bR (v:=.tuple #[.agg #[.slice Y9 l9 c9,iI 1,.slice A9 2 d9],.bool true]) ?_ rfl ?_
  rotate_left
  ·rw [HV.u];refine ⟨⟨_,rfl,Y9,c9,A9,d9,(by rw [<-ZJ.u]),?_,?_,Yc⟩,mJ.u⟩
   ·rw [<-ZJ.u]
    exact kN.u.1
   ·have h9:=kN.u.2;have pq:=gy w7 (w.heap.size+1+1) (.slice Y9 l9 c9) (iI 1) (.slice A9 2 d9);rw [<-pq] at h9
    exact h9
  ·exact bF rfl _ _ _ _ _ _ _ rfl rfl BC.u underlying168 rfl af
 have e7:(k==7)=false:=sU h7
 by_cases h8:k=8
 ·subst h8;have HV:Hid (FA ⟨sy,cl⟩ 8=LL ⟨sy,(fa 1 cl (gz 6)).getD []⟩):=ap1 _;obtain ⟨cl',abV⟩:=ey ((fa 1 cl (gz 6)).getD []);have HCL:=hY abV;have ap4:Hid (vD cl'=true):=by
   obtain ⟨u,hu,hui⟩:=pM Mo.u (k:=6) aa;unfold Hid;rw [abV,hu]
   exact hui
  rw [<-abV] at HV;clear abV;go_upto_region 8 with fail;have ay4:(fun w'=>w'.cell? (aA w.z 1)=some (iI 1)/\w'.cell? (aA w.z 2)=some (.slice A 2 c)) w6.drew:=⟨aZ.u.b.drew.cell 1,aZ.u.b.drew.cell 2⟩;refine dm (S:=(fun w'=>w'.cell? (aA w.z 1)=some (iI 1)/\w'.cell? (aA w.z 2)=some (.slice A 2 c))) af (ay4) (fun ay4=>?_);refine tq 0 ?_;refine tq 1 ?_;refine o1 2 fun K hK=>?_
  go_simp;refine (aM (w0:=w6) 6 0 _ (xZ w6).drew).mono ?_;rintro e w9 ⟨rfl,tA⟩;refine ov hK (⟨(aZ.u.b.ext (tA)).cell 1,(aZ.u.b.ext (tA)).cell 2⟩) fun ay4=>?_
  refine o1 3 fun K hK=>?_
  go_simp;refine (WD.u 6 _ aa (aZ.u.x.trans tA)).mono ?_;rintro e w7 ⟨⟨A9,d9,rfl,xr,AU⟩,akV⟩;rw [<-HCL.u] at xr;have gJ:Ext w6 w7:=tA.trans akV;refine ov hK (⟨(aZ.u.b.ext (gJ)).cell 1,(aZ.u.b.ext (gJ)).cell 2⟩) fun ay4=>?_
  refine tq 4 ?_;refine tq 5 ?_;refine tq 6 ?_;refine tq 7 ?_;obtain ⟨⟨q0,q1,q2⟩,f0,f1,f2⟩:=cV (aZ.u.o.ext gJ);have kg:Hid (JT w ((w7.setCell (aA g6 1) (iI 1)).setCell (aA g6 2) (.slice A9 2 d9)) Y n cy A c 8 g6 Y6 c6 A9 d9 sy cl'):=aZ.u.put gJ xr AU;refine o1 8 fun K hK=>?_
  go_simp;refine ov hK (⟨kg.u.b.cell 1,kg.u.b.cell 2⟩) fun ay4=>?_
  refine dn ?_;clear aZ tA akV gJ xr AU q0 q1 q2 f0 f1 f2 ay4 g0 g1 g2 g3;generalize (w7.setCell (aA g6 1) (iI 1)).setCell (aA g6 2) (.slice A9 2 d9)=W8 at*
  obtain ⟨⟨o0,o1,o2⟩,-⟩:=cV kg.u.o;have HNA:Hid (Ez W8 (.agg #[.slice Y6 n c6,iI 1,.slice A9 2 d9]) ⟨sy,cl'⟩):=⟨Y6,c6,A9,d9,by show _=Value.agg #[.slice Y6 sy.length c6,_,_];rw [HN.u],by show Rd _ _ 1 Y6 sy.length (aG sy);rw [HN.u];exact Rd.own kg.u.ry,kg.u.ra,by show sy.length<=c6;rw [HN.u];exact ue kg.u.ry,kg.u.da⟩;go_wp2_with fail;refine (Mq _ ⟨sy,cl'⟩ _ HNA.u (by show sy.length<=_;rw [HN.u];omega) ap4.u HVS.u).mono ?_;rintro e pd ⟨⟨v7,rfl,Y9,c9,Hz,d10,rfl,AZ,xr,AU⟩,wR⟩;have eW:=hY (kg.u.ext wR);obtain ⟨l9,TM⟩:=ey ((LL ⟨sy,cl'⟩).sy.length);rw [<-TM] at AZ |-;have ZJ:=hY TM;clear wR TM o0 o1 o2;obtain ⟨⟨z0,z1,z2⟩,f0,f1,f2⟩:=cV (eW.u.z);have BC:=hY ((eW.u.z).lh (.slice Y9 l9 c9) (iI 1) (.slice Hz 2 d10));have mJ:=hY (jd (g:=w.heap.size+1+1) (eW.u.x) aa (.slice Y9 l9 c9) (iI 1) (.slice Hz 2 d10));have kN:=hY (lQ (jZ (aC AZ kg.u.x.size) (eW.u.z) ae (.slice Y9 l9 c9) (iI 1) (.slice Hz 2 d10)) (kO (xr) (eW.u.z) (.slice Y9 l9 c9) (iI 1) (.slice Hz 2 d10)));have Yc:=AU;go_wp2;refine bR (v:=.tuple #[.agg #[.slice Y9 l9 c9,iI 1,.slice Hz 2 d10],.bool true]) ?_ rfl ?_
  rotate_left
  ·rw [HV.u];refine ⟨⟨_,rfl,Y9,c9,Hz,d10,(by rw [<-ZJ.u]),?_,?_,Yc⟩,mJ.u⟩
   ·rw [<-ZJ.u]
    exact kN.u.1
   ·have h9:=kN.u.2;have pq:=gy pd (w.heap.size+1+1) (.slice Y9 l9 c9) (iI 1) (.slice Hz 2 d10);rw [<-pq] at h9
    exact h9
  ·exact bF rfl _ _ _ _ _ _ _ rfl rfl BC.u underlying168 rfl af
 ·have e8:(k==8)=false:=sU h8
  have HV:Hid (FA ⟨sy,cl⟩ k=⟨sy,(fa 1 cl (gz k)).getD []⟩):=ap2 _ h7 h8;have hk6:1<=k/\k<=6:=aa
  clear h7 h8;obtain ⟨⟨b0,b1,b2⟩,-⟩:=cV aZ.u.b;go_wp2_with fail;refine (WD.u k _ hk6 aZ.u.x).mono ?_;rintro e w7 ⟨⟨A9,d9,rfl,xr,AU⟩,gJ⟩;obtain ⟨⟨q0,q1,q2⟩,f0,f1,f2⟩:=cV (aZ.u.o.ext gJ);have kg:Hid (JT w ((w7.setCell (aA g6 1) (iI 1)).setCell (aA g6 2) (.slice A9 2 d9)) Y n cy A c k g6 Y6 c6 A9 d9 sy ((fa 1 cl (gz k)).getD [])):=aZ.u.put gJ xr AU;go_upto_region 11 with fail;clear aZ gJ xr AU q0 q1 q2 f0 f1 f2 g0 g1 g2 g3 b0 b1 b2;generalize (w7.setCell (aA g6 1) (iI 1)).setCell (aA g6 2) (.slice A9 2 d9)=W8 at*
  obtain ⟨⟨o0,o1,o2⟩,-⟩:=cV kg.u.o;obtain ⟨⟨z0,z1,z2⟩,f0,f1,f2⟩:=cV (kg.u.z);have BC:=hY ((kg.u.z).lh (.slice Y6 n c6) (iI 1) (.slice A9 2 d9));have mJ:=hY (jd (g:=w.heap.size+1+1) (kg.u.x) aa (.slice Y6 n c6) (iI 1) (.slice A9 2 d9));have kN:=hY (lQ (jZ (kg.u.ry) (kg.u.z) ae (.slice Y6 n c6) (iI 1) (.slice A9 2 d9)) (kO (kg.u.ra) (kg.u.z) (.slice Y6 n c6) (iI 1) (.slice A9 2 d9)));have Yc:=kg.u.da;go_wp2;refine bR (v:=.tuple #[.agg #[.slice Y6 n c6,iI 1,.slice A9 2 d9],.bool true]) ?_ rfl ?_
  rotate_left
  ·rw [HV.u];refine ⟨⟨_,rfl,Y6,c6,A9,d9,(by show _=Value.agg #[.slice Y6 sy.length c6,_,_];rw [HN.u]),?_,?_,Yc⟩,mJ.u⟩
   ·show World.ownsRow _ _ _ _ (.slice Y6 sy.length c6) sy.length (aG sy);rw [HN.u]
    exact kN.u.1
   ·have h9:=kN.u.2;have pq:=gy W8 (w.heap.size+1+1) (.slice Y6 n c6) (iI 1) (.slice A9 2 d9);rw [<-pq] at h9
    exact h9
  ·exact bF rfl _ _ _ _ _ _ _ rfl rfl BC.u underlying168 rfl af
structure ER (w0 W:World) (g:Nat) (Y:OA) (c:Nat) (A:OA) (d:Nat) (s:Nf):Prop where
 z:ay W w0.heap.size 168 jD
 b:ay W g 168 #[.slice Y s.sy.length c,iI 1,.slice A 2 d]
 ry:W.ownsRow w0.heap.size 3 1 (.slice Y s.sy.length c) s.sy.length (aG s.sy)
 ra:Rd W W.heap.size 4 A 2 (aV s.cl)
 da:2<=d
 x:Ext w0 W
 le:w0.heap.size<g
section
variable {w0 W W':World} {g:Nat} {Y A Y' A':OA} {c d c' d':Nat} {s s':Nf}
theorem ER.ext (h:ER w0 W g Y c A d s) (hx:Ext W W'):ER w0 W' g Y c A d s:=⟨h.z.ext hx,h.b.ext hx,aq h.ry hx,h.ra.ext hx,h.da,h.x.trans hx,h.le⟩
theorem ER.at_ (h:ER w0 W g Y c A d s):Ez W (.agg #[.slice Y s.sy.length c,iI 1,.slice A 2 d]) s:=⟨Y,c,A,d,rfl,Rd.own h.ry,h.ra,ue h.ry,h.da⟩
theorem ER.step (h:ER w0 W g Y c A d s) (hx:Ext W W') (h1:W'.ownsRow W.heap.size 3 1 (.slice Y' s'.sy.length c') s'.sy.length (aG s'.sy)) (h2:Rd W' W'.heap.size 4 A' 2 (aV s'.cl)) (h3:2<=d'):
  ER w0 (lh W' g (.slice Y' s'.sy.length c') (iI 1) (.slice A' 2 d')) g Y' c' A' d' s':=by
 have hl:=h.le;have hb:=h.b.ext hx
 exact ⟨je (h.z.ext hx) aa _ _ _,hb.lh _ _ _,jZ (aC h1 h.x.size) hb ae _ _ _,by rw [gy];exact kO h2 hb _ _ _,h3,jd (h.x.trans hx) aa _ _ _,h.le⟩
end
theorem ES {P:Prop} (h:P:=by
 refine o1 10 fun K hK=>?_
 obtain ⟨⟨q0,q1,q2⟩,f0,f1,f2⟩:=cV dL.u;go_simp;have eQ:Hid (Ext wr (((w6.setCell (aA s 0) (.slice Y9 l9 c9)).setCell (aA s 1) (iI 1)).setCell (aA s 2) (.slice A9 2 d9))):=jd (g:=s) dG.u sx _ _ _;have lX:Hid (ay (((w6.setCell (aA s 0) (.slice Y9 l9 c9)).setCell (aA s 1) (iI 1)).setCell (aA s 2) (.slice A9 2 d9)) s 168 #[.slice Y9 l9 c9,iI 1,.slice A9 2 d9]):=dL.u.lh _ _ _;refine ov hK (HK.u _ eQ.u) fun ay4=>?_
 refine tq 11 ?_;refine dn ?_;clear q0 q1 q2 f0 f1 f2 ay4
 have rO:Hid ((((w6.setCell (aA s 0) (.slice Y9 l9 c9)).setCell (aA s 1) (iI 1)).setCell (aA s 2) (.slice A9 2 d9)).ownsRow wr.heap.size 3 1 (.slice Y9 l9 c9) l9 (aG (FA nf kk).sy)/\Rd (((w6.setCell (aA s 0) (.slice Y9 l9 c9)).setCell (aA s 1) (iI 1)).setCell (aA s 2) (.slice A9 2 d9)) (((w6.setCell (aA s 0) (.slice Y9 l9 c9)).setCell (aA s 1) (iI 1)).setCell (aA s 2) (.slice A9 2 d9)).heap.size 4 A9 2 (aV (FA nf kk).cl)):=⟨jZ rp.u.1 dL.u ae (.slice Y9 l9 c9) (iI 1) (.slice A9 2 d9),by
  have h9:=kO rp.u.2.1 dL.u (.slice Y9 l9 c9) (iI 1) (.slice A9 2 d9);have pq:=gy w6 s (.slice Y9 l9 c9) (iI 1) (.slice A9 2 d9);rw [<-pq] at h9
  exact h9⟩
 have AU:=rp.u.2.2;clear rp dL dG;generalize ((w6.setCell (aA s 0) (.slice Y9 l9 c9)).setCell (aA s 1) (iI 1)).setCell (aA s 2) (.slice A9 2 d9)=w7 at*
 have afo:Hid (ER w (lh w7 w1.heap.size (.slice Y9 l9 c9) (iI 1) (.slice A9 2 d9)) w1.heap.size Y9 c9 A9 d9 (FA nf kk)):=by
  have h9:=aZ.u.step (s':=FA nf kk) (Y':=Y9) (c':=c9) (A':=A9) (d':=d9) eQ.u (by rw [ZJ.u];exact rO.u.1) rO.u.2 AU;rw [ZJ.u] at h9
  exact h9
 obtain ⟨⟨e0,e1,e2⟩,f0,f1,f2⟩:=cV (afT.u.ext eQ.u);obtain ⟨⟨s0,s1,s2⟩,-⟩:=cV lX.u;clear lX eQ rO HK QK;go_wp2;go_roundw
 case rel=>exact ⟨k+1,FA nf kk,Y9,c9,A9,d9,oM bS.u,by first|rfl|rw [dP.u.1]|rw [dP.u.2],rA,afo⟩
 case measure=>simp [intOf,dP.u.2];have:=bS.u;omega):P:=h
theorem nJ (B:OA) (n c0:Nat) (ks:List Int) (w:World) (h:Rd w w.heap.size 4 B n (ak (ks.map gz))) (hn:n<=1200000000000) (hks:∀k∈ks,1<=k/\k<=8):
  Calls prog 124 #[.slice B n c0] w fun e w'=>Hy e w w' (wu ks)/\Ext w w':=by
 have dB:Hid (ks.length=n):=by have h9:=h.len Gt.aE aa;rw [jk] at h9;exact h9
 have HR:=hY h;have HKS:=hY hks;clear h hks;go_enter func124,ntmps124;go_wp2_with fail;refine (mE _).mono ?_;rintro e w1 ⟨⟨v1,rfl,Y,c,A,d,rfl,eF,pD,Ba⟩,aS⟩;have MW:nf0.sy.length=0:=rfl;have aZ:Hid (ER w (w1.alloc (cO #[.slice Y nf0.sy.length c,iI 1,.slice A 2 d] 168)) w1.heap.size Y c A d nf0):=
  ⟨(ay.ext (ay.new w _ _) aS).alloc _,ay.new w1 _ _,(aC eF ag).alloc _,pD.ext ((xZ _).alloc _),Ba,(((xZ w).alloc _).trans aS).alloc _,by have:=aS.size;simp at this;omega⟩
 have HS0:Hid (nf0=wu (ks.take 0)):=rfl;clear eF pD Ba aS MW;go_upto_region 2 with fail;generalize UM:nf0=s0 at*
 clear UM;generalize w1.alloc (cO #[.slice Y s0.sy.length c,iI 1,.slice A 2 d] 168)=W1 at*
 go_wp2
 go_loopw [5] (fun i wr=>∃(k:Nat) (nf:Nf) (Y:OA) (c:Nat) (A:OA) (d:Nat),k<=n/\i=iI k/\Hid (nf=wu (ks.take k))/\Hid (ER w wr w1.heap.size Y c A d nf)) (fun i _=>n - (intOf i).toNat)
 case atStart=>exact ⟨0,s0,Y,c,A,d,lJ _,rfl,HS0,aZ⟩
 case round=>
  clear aZ HS0;obtain ⟨k,nf,Y,c,A,d,hk,rfl,HS,aZ⟩:=hrel
  by_cases bh:k<n
  ·skip;obtain ⟨b,o,x,rfl,-,hx,-⟩:=bE (HR.u.ext aZ.u.x) bh;obtain ⟨kk,OC,MS⟩:∃kk,ks[k]?=some kk/\x=gz kk:=by
    rw [sF] at hx
    cases h9:ks[k]? with
    |none=>rw [h9] at hx;cases hx
    |some kk=>rw [h9] at hx;cases hx;exact ⟨kk,rfl,rfl⟩
   subst MS;have tG:=hY hx;have bS:=hY bh;have uo:k<=ks.length:=oM dB.u
   have qz:=By HKS.u k uo;rw [<-HS.u] at qz;have hk8:=HKS.u kk (lG OC);have rA:Hid (FA nf kk=wu (ks.take (k+1))):=by unfold Hid;rw [aL OC,Hf,<-HS.u]
   have dP:=hY (wC k aa);obtain ⟨l,hl⟩:=ex (nf.sy.length);have Bn:=hY hl;obtain ⟨l9,TM⟩:=ex ((FA nf kk).sy.length);have ZJ:=hY TM;have hlk:=qz.l;have afT:=hY aZ.u.b;rw [hl] at afT;have HK:Hid (∀w',Ext wr w'->(w'.cell? (aA w1.z 0)=some (.slice Y l c)/\w'.cell? (aA w1.z 1)=some (iI 1)/\w'.cell? (aA w1.z 2)=some (.slice A 2 d))/\(w'.cell? (aA b (o+k*4))=some (iI kk)/\w'.cell? (aA b (o+k*4+1))=some (iI 0)/\w'.cell? (aA b (o+k*4+2))=some (iI 0)/\w'.cell? (aA b (o+k*4+3))=some (iI 0))):=fun w' hx=>by
    obtain ⟨b2,o2,g2,he,-,jL,x0,x1,x2,x3⟩:=bE (HR.u.ext (aZ.u.x.trans hx)) bS.u;simp only [fW,iO] at he;obtain ⟨rfl,rfl,-⟩:=he;rw [tG.u] at jL;obtain rfl:=nT jL
    exact ⟨(cV (afT.u.ext hx)).1,x0,x1,x2,x3⟩
   have QK:Hid (∀w',Ext wr w'->Calls prog 136 #[.agg #[.slice Y l c,iI 1,.slice A 2 d],.agg #[iI kk,iI 0,iI 0,iI 0]] w' fun e w''=>Hy e w' w'' (FA nf kk)/\Ext w' w''):=fun w' hx=>by
    have h9:=aZ.u.at_.ext hx;rw [Bn.u] at h9
    exact ma _ nf kk w' h9 (by rw [Bn.u];omega) qz.c qz.y hk8
   clear hx OC qz hk8 hl TM uo hlk;go_upto_region 5 with fail;refine dm (S:=(fun w'=>(w'.cell? (aA w1.z 0)=some (.slice Y l c)/\w'.cell? (aA w1.z 1)=some (iI 1)/\w'.cell? (aA w1.z 2)=some (.slice A 2 d))/\(w'.cell? (aA b (o+k*4))=some (iI kk)/\w'.cell? (aA b (o+k*4+1))=some (iI 0)/\w'.cell? (aA b (o+k*4+2))=some (iI 0)/\w'.cell? (aA b (o+k*4+3))=some (iI 0)))) af (HK.u _ (xZ wr).drew) (fun ay4=>?_);refine tq 0 ?_;refine tq 1 ?_;refine tq 2 ?_;refine tq 3 ?_;refine tq 4 ?_;refine o2 5 9 (fun K hK=>?_) fun K hK=>?_
   ·skip;go_simp;refine (QK.u _ ((xZ wr).drew)).mono ?_;rintro e w5 ⟨bz,bK⟩;unfold Hy at bz;obtain ⟨v,rfl,Y9,c9,A9,d9,rfl,eF,pD,Ba⟩:=bz;rw [ZJ.u] at eF |-;have kM:Hid (Ext wr w5):=Ext.trans (xZ wr).drew bK;refine ov hK (HK.u _ kM.u) fun ay4=>?_
    refine tq 6 ?_;refine tq 7 ?_;refine tq 8 ?_;refine o1 9 fun K hK=>?_
    go_simp;have dG:Hid (Ext wr (w5.alloc (cO jD 168))):=kM.u.alloc _;have dL:Hid (ay (w5.alloc (cO jD 168)) w5.heap.size 168 jD):=ay.new _ _ _;have sx:wr.heap.size<=w5.heap.size:=kM.u.size;have rp:=hY (lQ ((aC (base':=wr.heap.size) eF (lI _)).alloc (cO jD 168)) (lQ (pD.ext ((xZ w5).alloc (cO jD 168))) Ba));clear eF pD;refine ov hK (HK.u _ dG.u) fun ay4=>?_
    clear bK;generalize w5.alloc (cO jD 168)=w6 at*
    generalize Xc:w5.heap.size=s at*
    clear Xc kM
    exact ES
   ·skip;go_simp;refine ov hK (HK.u _ (((xZ wr).alloc _).drew)) fun ay4=>?_
    refine o1 5 fun K hK=>?_
    go_simp;refine (QK.u _ (((xZ wr).alloc (cO jD 168)).drew)).mono ?_;rintro e w5 ⟨bz,bK⟩;unfold Hy at bz;obtain ⟨v,rfl,Y9,c9,A9,d9,rfl,eF,pD,Ba⟩:=bz;rw [ZJ.u] at eF |-;have dG:Hid (Ext wr w5):=Ext.trans ((xZ wr).alloc (cO jD 168)).drew bK;have dL:Hid (ay w5 wr.heap.size 168 jD):=((ay.new wr 168 jD).ext (xZ _).drew).ext bK;have sx:wr.heap.size<=wr.heap.size:=lI _;have rp:=hY (lQ (aC (base':=wr.heap.size) eF ((xZ wr).alloc (cO jD 168)).drew.size) (lQ pD Ba));clear eF pD;refine ov hK (HK.u _ dG.u) fun ay4=>?_
    clear bK;refine tq 6 ?_;refine tq 7 ?_;refine tq 8 ?_;have FB:∃s,s=wr.heap.size:=⟨_,rfl⟩;obtain ⟨s,hs⟩:=FB;rw [<-hs] at dL sx |-;replace sx:wr.heap.size<=s:=aa
    clear hs;have JE:∃w6,w6=w5:=⟨_,rfl⟩;obtain ⟨w6,rfl⟩:=JE
    exact ES
  ·have jT:k=n:=aa
   subst jT;have HV:Hid (wu ks=nf):=by unfold Hid;rw [HS.u,lE gh]
   obtain ⟨l,hl⟩:=ex (nf.sy.length);have Bn:=hY hl;have hb:=aZ.u.b;rw [hl] at hb;obtain ⟨⟨b0,b1,b2⟩,-⟩:=cV hb;obtain ⟨⟨d0,d1,d2⟩,z0,z1,z2⟩:=cV aZ.u.z;have FC:=hY (aZ.u.z.lh (.slice Y l c) (iI 1) (.slice A 2 d));have Br:=hY (jd aZ.u.x (lI _) (.slice Y l c) (iI 1) (.slice A 2 d));have nB:=hY (lQ (jZ aZ.u.ry aZ.u.z ae (.slice Y l c) (iI 1) (.slice A 2 d)) (kO aZ.u.ra aZ.u.z (.slice Y l c) (iI 1) (.slice A 2 d)));have hda:=aZ.u.da;clear hb hl;go_wp2;refine bR (v:=.tuple #[.agg #[.slice Y l c,iI 1,.slice A 2 d],.bool true]) ?_ rfl ?_
   rotate_left
   ·rw [HV.u];refine ⟨⟨_,rfl,Y,c,A,d,(by rw [Bn.u]),nB.u.1,?_,hda⟩,Br.u⟩;have h9:=nB.u.2;have pq:=gy wr w.heap.size (.slice Y l c) (iI 1) (.slice A 2 d);rw [<-pq] at h9
    exact h9
   ·exact bF rfl _ _ _ _ _ _ _ rfl rfl FC.u underlying168 rfl af
def Mz (p:OA ×Nat):List Value:=[iI 1,.slice p.1 2 p.2]
theorem zD (p:OA ×Nat):(Mz p).length=2:=rfl
abbrev pn (ps:List (OA ×Nat)):List Value:=ps.flatMap Mz
def tM (w:World) (ps:List (OA ×Nat)) (ts:List (List Pa)):Prop:=ps.length=ts.length/\∀(j:Nat) (t:List Pa),ts[j]?=some t->∃(A:OA) (c:Nat),ps[j]?=some (A,c)/\Rd w w.heap.size 4 A 2 (aV t)/\2<=c/\t.length=2
theorem tM.ext {w w':World} {ps:List (OA ×Nat)} {ts:List (List Pa)} (h:tM w ps ts) (hx:Ext w w'):tM w' ps ts:=⟨h.1,fun j t hj=>by
 obtain ⟨A,c,h1,h2,h3⟩:=h.2 j t hj
 exact ⟨A,c,h1,h2.ext hx,h3⟩⟩
def uA (ts:List (List Pa)) (t:List Pa):Nat->Nat->Int
 |0,_=> -1
 |f+1,k=>match ts[k]? with
  |none=> -1
  |some u=>if qx u t=true then (k:Int) else uA ts t f (k+1)
def ET (ts:List (List Pa)) (t:List Pa):Int:=uA ts t ts.length 0
theorem yy {ts:List (List Pa)} {t u:List Pa} {f k:Nat} (h:ts[k]?=some u) (he:qx u t=true):uA ts t (f+1) k=(k:Int):=by
 show (match ts[k]? with|none=> -1|some u=>if qx u t=true then (k:Int) else uA ts t f (k+1))=_;rw [h]
 exact aX he
theorem ug {ts:List (List Pa)} {t u:List Pa} {f k:Nat} (h:ts[k]?=some u) (he:qx u t=false):uA ts t (f+1) k=uA ts t f (k+1):=by
 show (match ts[k]? with|none=> -1|some u=>if qx u t=true then (k:Int) else uA ts t f (k+1))=_;rw [h]
 exact aK (by simp [he])
theorem tN (X:OA) (n cx:Nat) (ps:List (OA ×Nat)) (ts:List (List Pa)) (A:OA) (c:Nat) (t:List Pa) (w:World) (h:Rd w w.heap.size 2 X n (pn ps)) (hT:tM w ps ts) (hn:n<=1000) (ht:Rd w w.heap.size 4 A 2 (aV t)) (hc:2<=c) (hl:t.length=2):
  Calls prog 152 #[.slice X n cx,.agg #[iI 1,.slice A 2 c]] w fun e w'=>e=.returned (iI (ET ts t))/\Ext w w':=by
 have xq:=h.len zD aa;have HPT:Hid (ts.length=n):=by rw [<-hT.1];exact xq
 have HR:=hY h;have HT:=hY hT;have HA:=hY ht;have HL:=hY hl;have dk:Hid (Ext w (w.alloc (cO #[iI 1,.slice A 2 c] 147))):=(xZ w).alloc _;have ie:Hid (ay (w.alloc (cO #[iI 1,.slice A 2 c] 147)) w.heap.size 147 #[iI 1,.slice A 2 c]):=ay.new w _ _;clear h hT ht hl xq;go_enter func152,ntmps152;go_upto_region 1 with fail;generalize w.alloc (cO #[iI 1,.slice A 2 c] 147)=W1 at*
 go_wp2
 go_loopw [5] (fun i wr=>∃k:Nat,k<=n/\i=iI k/\Hid (Ext W1 wr)/\Hid (ET ts t=uA ts t (n - k) k)) (fun i _=>n - (intOf i).toNat)
 case atStart=>exact ⟨0,lJ _,rfl,xZ _,by unfold Hid ET;rw [HPT.u];rfl⟩
 case round=>
  obtain ⟨k,hk,rfl,SX,HQ⟩:=hrel
  by_cases bh:k<n
  ·have hx:=dk.u.trans SX.u;obtain ⟨b,o,p,rfl,-,hp,JU⟩:=jO zD aa (HR.u.ext hx) bh;have hu:ts[k]?=some (ts[k]'(by rw [HPT.u];exact bh)):=lB _;generalize ts[k]'(by rw [HPT.u];exact bh)=u at hu;obtain ⟨Au,cu,hpu,hru,ZI,hul⟩:=HT.u.2 k u hu;rw [hp] at hpu
   cases hpu
   have x0:wr.cell? (aA b (o+k*2))=some (iI 1):=JU 0 _ rfl;have x1:wr.cell? (aA b (o+k*2+1))=some (.slice Au 2 cu):=JU 1 _ rfl;have HEQ:Hid (∀w',Ext wr w'->Calls prog 165 #[.agg #[iI 1,.slice Au 2 cu],.agg #[iI 1,.slice A 2 c]] w' fun e w''=>e=.returned (.bool (qx u t))/\Ext w' w''):=fun w' rF=>by
    have h1:=(hru.ext hx).ext rF;have h2:=(HA.u.ext hx).ext rF;have h9:=rL Au A cu c 1 1 u t w' (by rw [hul];exact h1) (by rw [HL.u];exact h2) aa iU;rw [hul,HL.u] at h9
    exact h9
   have HU:=hY hu;have bS:=hY bh;have dP:=hY (wC k aa);obtain ⟨⟨t0,t1⟩,-⟩:=bt (ie.u.ext SX.u);clear hu hp JU hru ZI hul hx;go_wp2;go_still_tail 5,af;change wpList _ _ _ _ _ wr.drew;go_wp2_with fail;refine (HEQ.u _ (xZ wr).drew).mono ?_;rintro e w5 ⟨rfl,cN⟩;have iN:Hid (Ext W1 w5):=SX.u.trans ((xZ wr).drew.trans cN);clear cN x0 x1 t0 t1
   cases he:qx u t
   ·have mr:Hid (ET ts t=uA ts t (n - (k+1)) (k+1)):=by
     unfold Hid;rw [HQ.u,show n - k=n - (k+1)+1 by have:=bS.u;omega]
     exact ug HU.u he
    go_wp2;go_roundw
    case rel=>exact ⟨k+1,oM bS.u,by first|rfl|rw [dP.u.1]|rw [dP.u.2],iN,mr⟩
    case measure=>simp [intOf,dP.u.2];have:=bS.u;omega
   ·have HV:Hid (ET ts t=(k:Int)):=by
     unfold Hid;rw [HQ.u,show n - k=n - (k+1)+1 by have:=bS.u;omega]
     exact yy HU.u he
    go_wp2;go_ret
    exact ⟨dZ HV.u.symm,dk.u.trans iN.u⟩
  ·have jT:k=n:=aa
   subst jT;have HV:Hid (ET ts t= -1):=by
    unfold Hid;rw [HQ.u,yV];rfl
   go_wp2;go_ret
   exact ⟨dZ HV.u.symm,dk.u.trans SX.u⟩
theorem Yd:(prog.info? 147).map (fun i=>(i.zero,i.size,i.bytes))=some (some (.agg jC),2,32):=af
theorem Tm (ps:List (OA ×Nat)):∀u∈pn ps,u.oneCell'=true:=by
 intro u hu;obtain ⟨x,_,hx⟩:=sH.1 hu;simp [Mz] at hx;rcases hx with rfl|rfl<;>rfl
theorem afU {w0 w:World} {ops:Array Oper} {rest:List Oper} {o:Oper} {a:Act} {Q:Exit->Act->World->Prop} (fx:o.guard=none) (s x:Operand)
  (ho:aO o s x 200) (v:Value) (n:Nat) (ps:List (OA ×Nat)) (hs:a.eval s=v)
  (bc:w.ownsRow w0.heap.size 147 2 v n (pn ps)) (cH:Ext w0 w) (p:OA ×Nat) (e:TypeId) (b:Nat) (hx:a.eval x=.slice (some ⟨b,0,none⟩) 1 1) (qc:b=w.heap.size) (hn:n<=1800000000000)
  (h:∀v' w',w'.ownsRow w0.heap.size 147 2 v' (n+1) (pn (ps++[p]))->Ext w0 w'->(w.alloc (cO #[iI 1,.slice p.1 2 p.2] e)).grownBy w' v.ownBlock->(v'.ownBlock=v.ownBlock\/v'.ownBlock=some (w.heap.size+1))->wpList prog ops Q rest (a.put o.dst v') w'):wpList prog ops Q (o::rest) a (w.alloc (cO #[iI 1,.slice p.1 2 p.2] e)):=by
 subst qc;obtain ⟨i0,hi,eX,gX,jK⟩:=iF Yd;refine eL fx s x _ ho 147 i0 _ 2 32 underlying200 hi eX gX jK rfl ae ae v n _ hs (bc.alloc _) (cH.alloc _) _ 1 1 (pn [p]) hx (eh w _ e 2 _ (by simp [Mz]) (by simp [Mz])) (Tm [p]) aa (fun v' w' h1 h2 h3 h4=>?_)
 exact h v' w' (by unfold pn;rw [lR];exact h1) h2 h3 (sU h4)
def Tne (ps:List (OA ×Nat)) (v:Value):Prop:=∀p∈ps,∀b o,p.1=some ⟨b,o,none⟩->v.ownBlock≠some b
theorem Rd.Ye {w w':World} {B size n:Nat} {A:OA} {xs:List Value} {row:Option Nat} (h:Rd w w.heap.size size A n xs) (hg:w.grownBy w' row) (hne:∀b o,A=some ⟨b,o,none⟩->row≠some b):Rd w' w'.heap.size size A n xs:=
 ⟨h.1,fun hn=>by
  obtain ⟨b,o,e,hb,hc⟩:=h.2 hn;have ap8:=hg.block b hb (fun e1=>hne b o e e1.symm)
  exact ⟨b,o,e,sC hb hg.size,fun j u hu=>(sD (a:=⟨b,o+j,none⟩) ap8).trans (hc j u hu)⟩⟩
theorem tM.grown {w w':World} {ps:List (OA ×Nat)} {ts:List (List Pa)} {v:Value} (h:tM w ps ts) (hg:w.grownBy w' v.ownBlock) (hne:Tne ps v):tM w' ps ts:=⟨h.1,fun j t hj=>by
 obtain ⟨A,c,h1,h2,h3⟩:=h.2 j t hj
 exact ⟨A,c,h1,Rd.Ye (B:=0) h2 hg (fun b o e=>hne (A,c) (lG h1) b o e),h3⟩⟩
theorem tM.snoc {w:World} {ps:List (OA ×Nat)} {ts:List (List Pa)} {A:OA} {c:Nat} {t:List Pa} (h:tM w ps ts) (h2:Rd w w.heap.size 4 A 2 (aV t)) (h3:2<=c) (h4:t.length=2):tM w (ps++[(A,c)]) (ts++[t]):=by
 refine ⟨by rw [lA,lA,h.1];rfl,fun j u hj=>?_⟩
 by_cases KD:j<ts.length
 ·rw [sB KD] at hj;obtain ⟨A',c',e1,e2⟩:=h.2 j u hj
  exact ⟨A',c',uL,e2⟩
 ·rw [yL aa] at hj;have FY:j - ts.length=0:=by
   have:=(gU.1 hj).1;simp at this;omega
  rw [FY] at hj;simp at hj;subst hj;refine ⟨A,c,?_,h2,h3,h4⟩;rw [yL (by rw [h.1];omega),h.1,FY];rfl
theorem Ra (ts:List (List Pa)) (t:List Pa):∀f k:Nat,uA ts t f k= -1\/((k:Int)<=uA ts t f k/\uA ts t f k<(ts.length:Int))
 |0,k=> .inl rfl
 |f+1,k=>by
  cases hu:ts[k]? with
  |none=>
   left;show (match ts[k]? with|none=> -1|some u=>if qx u t=true then (k:Int) else uA ts t f (k+1))=_;rw [hu]
  |some u=>
   cases he:qx u t
   ·rw [ug hu he];rcases Ra ts t f (k+1) with h|h
    ·exact .inl h
    ·right;omega
   ·rw [yy hu he];right;have:=(gU.1 hu).1;omega
theorem Yf (ts:List (List Pa)) (t:List Pa):ET ts t= -1\/(0<=ET ts t/\ET ts t<(ts.length:Int)):=by
 rcases Ra ts t ts.length 0 with h|h
 ·exact .inl h
 ·right;unfold ET;omega
theorem MA {ts:List (List Pa)} {t:List Pa}:∀{f k:Nat},k+f=ts.length->(0<=uA ts t f k ↔ ((ts.drop k).any fun u=>qx u t)=true)
 |0,k,h=>by
  rw [uD aa];show (0:Int)<= -1 ↔ _;simp
 |f+1,k,h=>by
  have hk:k<ts.length:=aa
  have hu:ts[k]?=some ts[k]:=lB hk;rw [xv hk,List.any_cons]
  cases he:qx ts[k] t
  ·rw [ug hu he,iC]
   exact MA aa
  ·rw [yy hu he,kh];simp
theorem JV (ts:List (List Pa)) (t:List Pa):0<=ET ts t ↔ (ts.any fun u=>qx u t)=true:=by
 have h:=MA (ts:=ts) (t:=t) (f:=ts.length) (k:=0) aa;rw [xE] at h
 exact h
theorem MB {i k:Nat} (hk:k<6):jI (6*i+k+1)=pg (jI (6*i+k)) i ((k:Int)+1):=by
 show pg (jI (6*i+k)) ((6*i+k) / 6) (((6*i+k) % 6:Nat)+1)=_;rw [show (6*i+k) / 6=i by omega,show (6*i+k) % 6=k by omega]
theorem Yg {s:List (List Gt ×List Pa)} {i:Nat} {k:Int} {p:List Gt ×List Pa} {u:List Pa} (hp:s[i]?=some p) (hu:fa 1 p.2 (gz k)=some u) (h:0<=ET (s.map (·.2)) u):pg s i k=s:=by
 rw [JV,List.any_map] at h;unfold pg;rw [hp];simp only [hu];rw [aX]
 exact h
theorem Yh {s:List (List Gt ×List Pa)} {i:Nat} {k:Int} {p:List Gt ×List Pa} {u:List Pa} (hp:s[i]?=some p) (hu:fa 1 p.2 (gz k)=some u) (h:ET (s.map (·.2)) u<0):pg s i k=s++[(p.1++[gz k],u)]:=by
 have h1:¬((s.map (·.2)).any fun v=>qx v u)=true:=fun hh=>by have:=(JV _ _).2 hh;omega
 rw [List.any_map] at h1;unfold pg;rw [hp];simp only [hu];rw [aK]
 exact h1
theorem afV {j:Nat} (hj:j<=144) {m:Nat} {p:List Gt ×List Pa} (h:(jI j)[m]?=some p):vD p.2=true/\p.1.length<=3:=by
 have hm:p∈Ov:=(Jk hj).subset (lG h);have h1:Ov.all (fun p=>vD p.2 && decide (p.1.length<=3))=true:=af
 have h2:=kc.1 h1 p hm;rw [lF,lu] at h2
 exact h2
end Go.Proofs.YtiajdbllccmokaaGreatDoor
