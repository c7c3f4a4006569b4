import Derived.Test.YtodhjgngkkcjgaaGreatDoorXz
import Derived.Test.YtodhjgngkkcjgaaGreatDoorXba
namespace Go.Proofs.YtodhjgngkkcjgaaGreatDoor
open Go.ChangeShapes Go.WideShapes Go.ChangeAt Go.RowKit Go.Deep Go.Proofs.Tryz
set_option linter.unusedVariables false
set_option linter.unusedSimpArgs false
set_option maxRecDepth 100000
set_option maxHeartbeats 16000000
theorem gL {w:World} {B e s n g t:Nat} {v:Value} {xs:List Value} {cs:Array Value} (h:w.ownsRow B e s v n xs) (h':au w g t cs) (he:e≠t) (i:Nat) (u:Value):(w.setCell (aA g i) u).ownsRow B e s v n xs:=
 h.kept (row:=some g) ⟨rfl,rfl,rfl,ag,fun k _ hk=>Bo w ⟨g,i,none⟩ k u (fun e=>hk (by simp [e]))⟩ (Or.inr (kr h h' he))
theorem XP {W:World} {q t n B:Nat} {z0 z1 z2:Value} {A:OA} {xs:List Value} (h:Rd W B 4 A n xs) (hb:au W q t #[z0,z1,z2]) (i:Nat) (u:Value):Rd (W.setCell (aA q i) u) B 4 A n xs:=by
 refine ⟨h.1,fun hn=>?_⟩;obtain ⟨b',o,e,rJ,hc⟩:=h.2 hn;refine ⟨b',o,e,rJ,fun j v hu=>?_⟩;have hne:b'≠q:=by
  rintro rfl;have hlen:=h.1;have h3:=hc 3 _ (lB aa);rw [hb.cell] at h3;rw [yk ag] at h3
  cases h3
 exact (uB (a:=⟨b',o+j,none⟩) (pa _ ⟨q,i,none⟩ u b' hne)).trans (hc j v hu)
structure Pm (w W:World) (Y:OA) (n cy:Nat) (A:OA) (c:Nat) (k:Int) (g:Nat) (Y6:OA) (c6:Nat) (A6:OA) (d6:Nat) (sy:List Int) (cl:List Pa):Prop where
 b:au W w.heap.size 234 #[.slice Y n cy,iI 1,.slice A 2 c]
 gt:au W (w.heap.size+1) 39 #[iI k,iI 0,iI 0,iI 0]
 z:au W (w.heap.size+1+1) 234 jD
 o:au W g 234 #[.slice Y6 n c6,iI 1,.slice A6 2 d6]
 ry:W.ownsRow w.heap.size 3 1 (.slice Y6 n c6) n (aD sy)
 ra:Rd W W.heap.size 4 A6 2 (aX cl)
 da:2<=d6
 x:Ext w W
 le:w.heap.size+1+1<g
section
variable {w W W':World} {Y A Y6 A6 A9:OA} {n cy c g c6 d6 d9:Nat} {k:Int} {sy:List Int} {cl cl':List Pa}
theorem Pm.ext (h:Pm w W Y n cy A c k g Y6 c6 A6 d6 sy cl) (hx:Ext W W'):Pm w W' Y n cy A c k g Y6 c6 A6 d6 sy cl:=
 ⟨h.b.ext hx,h.gt.ext hx,h.z.ext hx,h.o.ext hx,aj h.ry hx,h.ra.ext hx,h.da,h.x.trans hx,h.le⟩
theorem Pm.put (h:Pm w W Y n cy A c k g Y6 c6 A6 d6 sy cl) (hx:Ext W W') (hr:Rd W' W'.heap.size 4 A9 2 (aX cl')) (hc:2<=d9):Pm w ((W'.setCell (aA g 1) (iI 1)).setCell (aA g 2) (.slice A9 2 d9)) Y n cy A c k g Y6 c6 A9 d9 sy cl':=by
 have hl:=h.le;have h1:=h.ext hx;have o1:=h1.o.aU 1 (iI 1);refine ⟨(h1.b.cB (p:=(aA g 1)) (by show w.heap.size≠g;omega) _).cB (p:=(aA g 2)) (by show w.heap.size≠g;omega) _,(h1.gt.cB (p:=(aA g 1)) (by show w.heap.size+1≠g;omega) _).cB (p:=(aA g 2)) (by show w.heap.size+1≠g;omega) _,(h1.z.cB (p:=(aA g 1)) (by show w.heap.size+1+1≠g;omega) _).cB (p:=(aA g 2)) (by show w.heap.size+1+1≠g;omega) _,o1.aU 2 (.slice A9 2 d9),gL (gL h1.ry h1.o ae 1 _) o1 ae 2 _,?_,hc,(h1.x.setCell (p:=(aA g 1)) (by show w.heap.size<=g;omega) _).setCell (p:=(aA g 2)) (by show w.heap.size<=g;omega) _,h.le⟩;have h9:=XP (XP hr h1.o 1 (iI 1)) o1 2 (.slice A9 2 d9);have hs:((W'.setCell (aA g 1) (iI 1)).setCell (aA g 2) (.slice A9 2 d9)).heap.size=W'.heap.size:=ag
 rw [hs]
 exact h9
end
def MP (e:Ending) (w w':World) (s:Nf):Prop:=∃v,e=.returned (.tuple #[v,.bool true])/\ML w' w.heap.size v s
theorem avt (s:Nf):La s 7=RE s:=by unfold La;rw [aY rfl]
theorem avu (s:Nf):La s 8=RE ⟨s.sy,(fL 1 s.cl (gz 6)).getD []⟩:=by unfold La;rw [aM ae,aY rfl]
theorem avv (s:Nf) {k:Int} (h7:k≠7) (h8:k≠8):La s k=⟨s.sy,(fL 1 s.cl (gz k)).getD []⟩:=by unfold La;rw [aM h7,aM h8]
theorem vg1 {k:Int} (h:1<=k/\k<=8):vg (gz k) 1=true:=by
 rcases (show k=1\/k=2\/k=3\/k=4\/k=5\/k=6\/k=7\/k=8 by omega) with rfl|rfl|rfl|rfl|rfl|rfl|rfl|rfl<;>kernel_rfl
theorem ob (v:Value) (s:Nf) (k:Int) (w:World) (h:Jz w v s) (hn:s.sy.length<=1600000000000) (hc:zw s.cl=true) (hy:UJ s.sy=true) (hk:1<=k/\k<=8):
  Calls prog 197 #[v,.agg #[iI k,iI 0,iI 0,iI 0]] w fun e w'=>MP e w w' (La s k)/\Ext w w':=by
 have HNF:=hY h;obtain ⟨Y,cy,A,c,rfl,Lb,Lz,XJ,sW⟩:=h;obtain ⟨sy,cl⟩:=s;simp only at Lb Lz XJ hn hc hy;have Sg:=hY hc;have HVS:=hY hy;have mo:=vg1 hk;have HIV:Hid (∀w',Calls prog 67 #[.agg #[iI k,iI 0,iI 0,iI 0],iI 1] w' fun e w''=>e=.returned (.bool true)/\Ext w' w''):=fun w'=>by
  have h9:=bn (gz k) 1 w';rw [mo] at h9
  exact h9
 have HTG:Hid (∀(j:Int) (w':World),1<=j/\j<=6->Ext w w'->Calls prog 189 #[.agg #[iI 1,.slice A 2 c],.agg #[iI j,iI 0,iI 0,iI 0]] w' fun e w''=>(∃(A9:OA) (d9:Nat),e=.returned (.tuple #[.agg #[iI 1,.slice A9 2 d9],.bool true])/\Rd w'' w''.heap.size 4 A9 2 (aX ((fL 1 cl (gz j)).getD []))/\2<=d9)/\Ext w' w''):=fun j w' hj hx=>by
  obtain ⟨u,hu,hui⟩:=sF hc hj;obtain ⟨p0,p1,e3,-⟩:=qY hc;have hr:=Lz.ext hx;have qw:=(iJ _ hui).2;rw [hu];rw [e3] at hr hu;refine (fF A c 1 [p0,p1] (gz j) w' hr ag sW).mono ?_;rintro e w2 ⟨bD,bz⟩
  exact ⟨ko hu qw bD,bz⟩
 obtain ⟨n,Bk⟩:=ex (sy.length);have HN:=hY Bk;rw [Bk] at Lb XJ hn;have aea:(⟨sy,cl⟩:Nf).sy.length=n:=Bk;have bW:Hid (au (((w.alloc (cO #[.slice Y n cy,iI 1,.slice A 2 c] 234)).alloc (cO #[iI k,iI 0,iI 0,iI 0] 39)).alloc (cO jD 234)) w.heap.size 234 #[.slice Y n cy,iI 1,.slice A 2 c]):=((au.new w _ _).alloc _).alloc _;have jI:Hid (au (((w.alloc (cO #[.slice Y n cy,iI 1,.slice A 2 c] 234)).alloc (cO #[iI k,iI 0,iI 0,iI 0] 39)).alloc (cO jD 234)) (w.heap.size+1) 39 #[iI k,iI 0,iI 0,iI 0]):=(au.newAt ag).alloc _;have dv:Hid (au (((w.alloc (cO #[.slice Y n cy,iI 1,.slice A 2 c] 234)).alloc (cO #[iI k,iI 0,iI 0,iI 0] 39)).alloc (cO jD 234)) (w.heap.size+1+1) 234 jD):=au.newAt ag;have cH:Hid (Ext w (((w.alloc (cO #[.slice Y n cy,iI 1,.slice A 2 c] 234)).alloc (cO #[iI k,iI 0,iI 0,iI 0] 39)).alloc (cO jD 234))):=mN
 rw [aea] at HNF |-;clear Lb Lz hc hy mo Bk aea;go_enter func197,ntmps197;go_upto_region 1 with fail;generalize (((w.alloc (cO #[.slice Y n cy,iI 1,.slice A 2 c] 234)).alloc (cO #[iI k,iI 0,iI 0,iI 0] 39)).alloc (cO jD 234))=W1 at*
 obtain ⟨⟨b0,b1,b2⟩,-⟩:=cX bW.u;go_wp2_with fail;refine (Se _ ⟨sy,cl⟩ _ (HNF.u.ext cH.u) (by show sy.length<=_;rw [HN.u];omega)).mono ?_;rintro e w3 ⟨⟨v3,rfl,Y6,c6,A6,d6,rfl,vD,hr6,hd6⟩,bO⟩;have hs3:W1.heap.size<=w3.heap.size:=bO.size;have aqr:(⟨sy,cl⟩:Nf).sy.length=n:=HN.u;rw [aqr] at vD |-;have bf:Hid (Pm w (w3.alloc (cO #[.slice Y6 n c6,iI 1,.slice A6 2 d6] 234)) Y n cy A c k w3.heap.size Y6 c6 A6 d6 sy cl):=
  ⟨(bW.u.ext bO).alloc _,(jI.u.ext bO).alloc _,(dv.u.ext bO).alloc _,au.new w3 _ _,(aC vD cH.u.size).alloc _,hr6.ext ((xZ _).alloc _),hd6,(cH.u.trans bO).alloc _,(dv.u.ext bO).lt⟩
 clear b0 b1 b2 bO vD hr6 hd6 aqr hs3 bW jI dv;go_upto_region 2 with fail;generalize QW:w3.heap.size=g6 at*
 generalize w3.alloc (cO #[.slice Y6 n c6,iI 1,.slice A6 2 d6] 234)=W4 at*
 clear QW;obtain ⟨⟨b0,b1,b2⟩,-⟩:=cX bf.u.b;go_wp2_with fail;refine (jh _ ⟨sy,cl⟩ _ (HNF.u.ext bf.u.x) (by show sy.length<=_;rw [HN.u];omega) Sg.u HVS.u).mono ?_;rintro e w5 ⟨rfl,cI⟩;have gv:=hY (bf.u.ext cI);clear bf cI b0 b1 b2;obtain ⟨⟨g0,g1,g2,g3⟩,-⟩:=aB gv.u.gt;go_wp2_with fail;refine (HIV.u _).mono ?_;rintro e w6 ⟨rfl,oy⟩;have bf:=hY (gv.u.ext oy);clear gv oy g0 g1 g2 g3;obtain ⟨⟨g0,g1,g2,g3⟩,-⟩:=aB bf.u.gt
 by_cases h7:k=7
 ·subst h7;have HV:Hid (La ⟨sy,cl⟩ 7=RE ⟨sy,cl⟩):=avt _;obtain ⟨⟨b0,b1,b2⟩,-⟩:=cX bf.u.b;go_wp2_with fail;refine (Sh _ ⟨sy,cl⟩ _ (HNF.u.ext bf.u.x) (by show sy.length<=_;rw [HN.u];omega) Sg.u HVS.u).mono ?_;rintro e w7 ⟨⟨v7,rfl,Y9,c9,A9,d9,rfl,kM,Cb,EC⟩,gG⟩;have fG:=hY (bf.u.ext gG);obtain ⟨l9,hl9⟩:=ey ((RE ⟨sy,cl⟩).sy.length);rw [<-hl9] at kM |-;have HL9:=hY hl9;clear gG hl9 b0 b1 b2 g0 g1 g2 g3;obtain ⟨⟨z0,z1,z2⟩,f0,f1,f2⟩:=cX (fG.u.z);have Fm:=hY ((fG.u.z).nJ (.slice Y9 l9 c9) (iI 1) (.slice A9 2 d9));have fP:=hY (kc (g:=w.heap.size+1+1) (fG.u.x) aa (.slice Y9 l9 c9) (iI 1) (.slice A9 2 d9));have iD:=hY (lQ (lg (aC kM bf.u.x.size) (fG.u.z) ae (.slice Y9 l9 c9) (iI 1) (.slice A9 2 d9)) (nk (Cb) (fG.u.z) (.slice Y9 l9 c9) (iI 1) (.slice A9 2 d9)));have aeb:=EC;go_wp2;refine bJ (v:=.tuple #[.agg #[.slice Y9 l9 c9,iI 1,.slice A9 2 d9],.bool true]) ?_ rfl ?_
  rotate_left
  ·rw [HV.u];refine ⟨⟨_,rfl,Y9,c9,A9,d9,(by rw [<-HL9.u]),?_,?_,aeb⟩,fP.u⟩
   ·rw [<-HL9.u]
    exact iD.u.1
   ·have h9:=iD.u.2;have jm:=iA w7 (w.heap.size+1+1) (.slice Y9 l9 c9) (iI 1) (.slice A9 2 d9);rw [<-jm] at h9
    exact h9
  ·exact aR rfl _ _ _ _ _ _ _ rfl rfl Fm.u DK rfl af
 have e7:(k==7)=false:=sU h7
 by_cases h8:k=8
 ·subst h8;have HV:Hid (La ⟨sy,cl⟩ 8=RE ⟨sy,(fL 1 cl (gz 6)).getD []⟩):=avu _;obtain ⟨cl',ahW⟩:=ey ((fL 1 cl (gz 6)).getD []);have HCL:=hY ahW;have avx:Hid (zw cl'=true):=by
   obtain ⟨u,hu,hui⟩:=sF Sg.u (k:=6) aa;unfold Hid;rw [ahW,hu]
   exact hui
  rw [<-ahW] at HV;clear ahW;go_upto_region 8 with fail;have aEQ:(fun w'=>w'.cell? (aA w.z 1)=some (iI 1)/\w'.cell? (aA w.z 2)=some (.slice A 2 c)) w6.drew:=⟨bf.u.b.drew.cell 1,bf.u.b.drew.cell 2⟩;refine dt (S:=(fun w'=>w'.cell? (aA w.z 1)=some (iI 1)/\w'.cell? (aA w.z 2)=some (.slice A 2 c))) af (aEQ) (fun aEQ=>?_);refine tq 0 ?_;refine tq 1 ?_;refine o1 2 fun K hK=>?_
  go_simp;refine (aP (w0:=w6) 6 0 _ (xZ w6).drew).mono ?_;rintro e w9 ⟨rfl,nj⟩;refine ov hK (⟨(bf.u.b.ext (nj)).cell 1,(bf.u.b.ext (nj)).cell 2⟩) fun aEQ=>?_
  refine o1 3 fun K hK=>?_
  go_simp;refine (HTG.u 6 _ aa (bf.u.x.trans nj)).mono ?_;rintro e w7 ⟨⟨A9,d9,rfl,Cb,EC⟩,aqs⟩;rw [<-HCL.u] at Cb;have gG:Ext w6 w7:=nj.trans aqs;refine ov hK (⟨(bf.u.b.ext (gG)).cell 1,(bf.u.b.ext (gG)).cell 2⟩) fun aEQ=>?_
  refine tq 4 ?_;refine tq 5 ?_;refine tq 6 ?_;refine tq 7 ?_;obtain ⟨⟨q0,q1,q2⟩,f0,f1,f2⟩:=cX (bf.u.o.ext gG);have lY:Hid (Pm w ((w7.setCell (aA g6 1) (iI 1)).setCell (aA g6 2) (.slice A9 2 d9)) Y n cy A c 8 g6 Y6 c6 A9 d9 sy cl'):=bf.u.put gG Cb EC;refine o1 8 fun K hK=>?_
  go_simp;refine ov hK (⟨lY.u.b.cell 1,lY.u.b.cell 2⟩) fun aEQ=>?_
  refine dn ?_;clear bf nj aqs gG Cb EC q0 q1 q2 f0 f1 f2 aEQ g0 g1 g2 g3;generalize (w7.setCell (aA g6 1) (iI 1)).setCell (aA g6 2) (.slice A9 2 d9)=W8 at*
  obtain ⟨⟨o0,o1,o2⟩,-⟩:=cX lY.u.o;have HNA:Hid (Jz W8 (.agg #[.slice Y6 n c6,iI 1,.slice A9 2 d9]) ⟨sy,cl'⟩):=⟨Y6,c6,A9,d9,by show _=Value.agg #[.slice Y6 sy.length c6,_,_];rw [HN.u],by show Rd _ _ 1 Y6 sy.length (aD sy);rw [HN.u];exact Rd.own lY.u.ry,lY.u.ra,by show sy.length<=c6;rw [HN.u];exact xK lY.u.ry,lY.u.da⟩;go_wp2_with fail;refine (Sh _ ⟨sy,cl'⟩ _ HNA.u (by show sy.length<=_;rw [HN.u];omega) avx.u HVS.u).mono ?_;rintro e qO ⟨⟨v7,rfl,Y9,c9,MQ,d10,rfl,kM,Cb,EC⟩,wX⟩;have fG:=hY (lY.u.ext wX);obtain ⟨l9,hl9⟩:=ey ((RE ⟨sy,cl'⟩).sy.length);rw [<-hl9] at kM |-;have HL9:=hY hl9;clear wX hl9 o0 o1 o2;obtain ⟨⟨z0,z1,z2⟩,f0,f1,f2⟩:=cX (fG.u.z);have Fm:=hY ((fG.u.z).nJ (.slice Y9 l9 c9) (iI 1) (.slice MQ 2 d10));have fP:=hY (kc (g:=w.heap.size+1+1) (fG.u.x) aa (.slice Y9 l9 c9) (iI 1) (.slice MQ 2 d10));have iD:=hY (lQ (lg (aC kM lY.u.x.size) (fG.u.z) ae (.slice Y9 l9 c9) (iI 1) (.slice MQ 2 d10)) (nk (Cb) (fG.u.z) (.slice Y9 l9 c9) (iI 1) (.slice MQ 2 d10)));have aeb:=EC;go_wp2;refine bJ (v:=.tuple #[.agg #[.slice Y9 l9 c9,iI 1,.slice MQ 2 d10],.bool true]) ?_ rfl ?_
  rotate_left
  ·rw [HV.u];refine ⟨⟨_,rfl,Y9,c9,MQ,d10,(by rw [<-HL9.u]),?_,?_,aeb⟩,fP.u⟩
   ·rw [<-HL9.u]
    exact iD.u.1
   ·have h9:=iD.u.2;have jm:=iA qO (w.heap.size+1+1) (.slice Y9 l9 c9) (iI 1) (.slice MQ 2 d10);rw [<-jm] at h9
    exact h9
  ·exact aR rfl _ _ _ _ _ _ _ rfl rfl Fm.u DK rfl af
 ·have e8:(k==8)=false:=sU h8
  have HV:Hid (La ⟨sy,cl⟩ k=⟨sy,(fL 1 cl (gz k)).getD []⟩):=avv _ h7 h8;have hk6:1<=k/\k<=6:=aa
  clear h7 h8;obtain ⟨⟨b0,b1,b2⟩,-⟩:=cX bf.u.b;go_wp2_with fail;refine (HTG.u k _ hk6 bf.u.x).mono ?_;rintro e w7 ⟨⟨A9,d9,rfl,Cb,EC⟩,gG⟩;obtain ⟨⟨q0,q1,q2⟩,f0,f1,f2⟩:=cX (bf.u.o.ext gG);have lY:Hid (Pm w ((w7.setCell (aA g6 1) (iI 1)).setCell (aA g6 2) (.slice A9 2 d9)) Y n cy A c k g6 Y6 c6 A9 d9 sy ((fL 1 cl (gz k)).getD [])):=bf.u.put gG Cb EC;go_upto_region 11 with fail;clear bf gG Cb EC q0 q1 q2 f0 f1 f2 g0 g1 g2 g3 b0 b1 b2;generalize (w7.setCell (aA g6 1) (iI 1)).setCell (aA g6 2) (.slice A9 2 d9)=W8 at*
  obtain ⟨⟨o0,o1,o2⟩,-⟩:=cX lY.u.o;obtain ⟨⟨z0,z1,z2⟩,f0,f1,f2⟩:=cX (lY.u.z);have Fm:=hY ((lY.u.z).nJ (.slice Y6 n c6) (iI 1) (.slice A9 2 d9));have fP:=hY (kc (g:=w.heap.size+1+1) (lY.u.x) aa (.slice Y6 n c6) (iI 1) (.slice A9 2 d9));have iD:=hY (lQ (lg (lY.u.ry) (lY.u.z) ae (.slice Y6 n c6) (iI 1) (.slice A9 2 d9)) (nk (lY.u.ra) (lY.u.z) (.slice Y6 n c6) (iI 1) (.slice A9 2 d9)));have aeb:=lY.u.da;go_wp2;refine bJ (v:=.tuple #[.agg #[.slice Y6 n c6,iI 1,.slice A9 2 d9],.bool true]) ?_ rfl ?_
  rotate_left
  ·rw [HV.u];refine ⟨⟨_,rfl,Y6,c6,A9,d9,(by show _=Value.agg #[.slice Y6 sy.length c6,_,_];rw [HN.u]),?_,?_,aeb⟩,fP.u⟩
   ·show World.ownsRow _ _ _ _ (.slice Y6 sy.length c6) sy.length (aD sy);rw [HN.u]
    exact iD.u.1
   ·have h9:=iD.u.2;have jm:=iA W8 (w.heap.size+1+1) (.slice Y6 n c6) (iI 1) (.slice A9 2 d9);rw [<-jm] at h9
    exact h9
  ·exact aR rfl _ _ _ _ _ _ _ rfl rfl Fm.u DK rfl af
structure JO (w0 W:World) (g:Nat) (Y:OA) (c:Nat) (A:OA) (d:Nat) (s:Nf):Prop where
 z:au W w0.heap.size 234 jD
 b:au W g 234 #[.slice Y s.sy.length c,iI 1,.slice A 2 d]
 ry:W.ownsRow w0.heap.size 3 1 (.slice Y s.sy.length c) s.sy.length (aD s.sy)
 ra:Rd W W.heap.size 4 A 2 (aX s.cl)
 da:2<=d
 x:Ext w0 W
 le:w0.heap.size<g
section
variable {w0 W W':World} {g:Nat} {Y A Y' A':OA} {c d c' d':Nat} {s s':Nf}
theorem JO.ext (h:JO w0 W g Y c A d s) (hx:Ext W W'):JO w0 W' g Y c A d s:=⟨h.z.ext hx,h.b.ext hx,aj h.ry hx,h.ra.ext hx,h.da,h.x.trans hx,h.le⟩
theorem JO.at_ (h:JO w0 W g Y c A d s):Jz W (.agg #[.slice Y s.sy.length c,iI 1,.slice A 2 d]) s:=⟨Y,c,A,d,rfl,Rd.own h.ry,h.ra,xK h.ry,h.da⟩
theorem JO.step (h:JO w0 W g Y c A d s) (hx:Ext W W') (h1:W'.ownsRow W.heap.size 3 1 (.slice Y' s'.sy.length c') s'.sy.length (aD s'.sy)) (h2:Rd W' W'.heap.size 4 A' 2 (aX s'.cl)) (h3:2<=d'):
  JO w0 (nJ W' g (.slice Y' s'.sy.length c') (iI 1) (.slice A' 2 d')) g Y' c' A' d' s':=by
 have hl:=h.le;have hb:=h.b.ext hx
 exact ⟨kd (h.z.ext hx) aa _ _ _,hb.nJ _ _ _,lg (aC h1 h.x.size) hb ae _ _ _,by rw [iA];exact nk h2 hb _ _ _,h3,kc (h.x.trans hx) aa _ _ _,h.le⟩
end
theorem JP {P:Prop} (h:P:=by
 refine o1 10 fun K hK=>?_
 obtain ⟨⟨q0,q1,q2⟩,f0,f1,f2⟩:=cX dP.u;go_simp;have fz:Hid (Ext wr (((w6.setCell (aA s 0) (.slice Y9 l9 c9)).setCell (aA s 1) (iI 1)).setCell (aA s 2) (.slice A9 2 d9))):=kc (g:=s) dL.u vE _ _ _;have nZ:Hid (au (((w6.setCell (aA s 0) (.slice Y9 l9 c9)).setCell (aA s 1) (iI 1)).setCell (aA s 2) (.slice A9 2 d9)) s 234 #[.slice Y9 l9 c9,iI 1,.slice A9 2 d9]):=dP.u.nJ _ _ _;refine ov hK (HK.u _ fz.u) fun aEQ=>?_
 refine tq 11 ?_;refine dn ?_;clear q0 q1 q2 f0 f1 f2 aEQ
 have vh:Hid ((((w6.setCell (aA s 0) (.slice Y9 l9 c9)).setCell (aA s 1) (iI 1)).setCell (aA s 2) (.slice A9 2 d9)).ownsRow wr.heap.size 3 1 (.slice Y9 l9 c9) l9 (aD (La nf kk).sy)/\Rd (((w6.setCell (aA s 0) (.slice Y9 l9 c9)).setCell (aA s 1) (iI 1)).setCell (aA s 2) (.slice A9 2 d9)) (((w6.setCell (aA s 0) (.slice Y9 l9 c9)).setCell (aA s 1) (iI 1)).setCell (aA s 2) (.slice A9 2 d9)).heap.size 4 A9 2 (aX (La nf kk).cl)):=⟨lg wH.u.1 dP.u ae (.slice Y9 l9 c9) (iI 1) (.slice A9 2 d9),by
  have h9:=nk wH.u.2.1 dP.u (.slice Y9 l9 c9) (iI 1) (.slice A9 2 d9);have jm:=iA w6 s (.slice Y9 l9 c9) (iI 1) (.slice A9 2 d9);rw [<-jm] at h9
  exact h9⟩
 have EC:=wH.u.2.2;clear wH dP dL;generalize ((w6.setCell (aA s 0) (.slice Y9 l9 c9)).setCell (aA s 1) (iI 1)).setCell (aA s 2) (.slice A9 2 d9)=w7 at*
 have alA:Hid (JO w (nJ w7 w1.heap.size (.slice Y9 l9 c9) (iI 1) (.slice A9 2 d9)) w1.heap.size Y9 c9 A9 d9 (La nf kk)):=by
  have h9:=bf.u.step (s':=La nf kk) (Y':=Y9) (c':=c9) (A':=A9) (d':=d9) fz.u (by rw [HL9.u];exact vh.u.1) vh.u.2 EC;rw [HL9.u] at h9
  exact h9
 obtain ⟨⟨e0,e1,e2⟩,f0,f1,f2⟩:=cX (al2.u.ext fz.u);obtain ⟨⟨s0,s1,s2⟩,-⟩:=cX nZ.u;clear nZ fz vh HK Xu;go_wp2;go_roundw
 case rel=>exact ⟨k+1,La nf kk,Y9,c9,A9,d9,oM bZ.u,by first|rfl|rw [dy.u.1]|rw [dy.u.2],si,alA⟩
 case measure=>simp [intOf,dy.u.2];have:=bZ.u;omega):P:=h
theorem qk (B:OA) (n c0:Nat) (ks:List Int) (w:World) (h:Rd w w.heap.size 4 B n (aq (ks.map gz))) (hn:n<=1200000000000) (hks:∀k∈ks,1<=k/\k<=8):
  Calls prog 185 #[.slice B n c0] w fun e w'=>MP e w w' (Ai ks)/\Ext w w':=by
 have cT:Hid (ks.length=n):=by have h9:=h.len Gt.aG aa;rw [jK] at h9;exact h9
 have HR:=hY h;have HKS:=hY hks;clear h hks;go_enter func185,ntmps185;go_wp2_with fail;refine (oP _).mono ?_;rintro e w1 ⟨⟨v1,rfl,Y,c,A,d,rfl,eu,kG,EH⟩,aK⟩;have Tm:nf0.sy.length=0:=rfl;have bf:Hid (JO w (w1.alloc (cO #[.slice Y nf0.sy.length c,iI 1,.slice A 2 d] 234)) w1.heap.size Y c A d nf0):=
  ⟨(au.ext (au.new w _ _) aK).alloc _,au.new w1 _ _,(aC eu ag).alloc _,kG.ext ((xZ _).alloc _),EH,(((xZ w).alloc _).trans aK).alloc _,by have:=aK.size;simp at this;omega⟩
 have HS0:Hid (nf0=Ai (ks.take 0)):=rfl;clear eu kG EH aK Tm;go_upto_region 2 with fail;generalize hs0:nf0=s0 at*
 clear hs0;generalize w1.alloc (cO #[.slice Y s0.sy.length c,iI 1,.slice A 2 d] 234)=W1 at*
 go_wp2
 go_loopw [5] (fun i wr=>∃(k:Nat) (nf:Nf) (Y:OA) (c:Nat) (A:OA) (d:Nat),k<=n/\i=iI k/\Hid (nf=Ai (ks.take k))/\Hid (JO w wr w1.heap.size Y c A d nf)) (fun i _=>n - (intOf i).toNat)
 case atStart=>exact ⟨0,s0,Y,c,A,d,lJ _,rfl,HS0,bf⟩
 case round=>
  clear bf HS0;obtain ⟨k,nf,Y,c,A,d,hk,rfl,HS,bf⟩:=hrel
  by_cases ba:k<n
  ·skip;obtain ⟨b,o,x,rfl,-,hx,-⟩:=bT (HR.u.ext bf.u.x) ba;obtain ⟨kk,EM,Tj⟩:∃kk,ks[k]?=some kk/\x=gz kk:=by
    rw [rY] at hx
    cases h9:ks[k]? with
    |none=>rw [h9] at hx;cases hx
    |some kk=>rw [h9] at hx;cases hx;exact ⟨kk,rfl,rfl⟩
   subst Tj;have wV:=hY hx;have bZ:=hY ba;have wE:k<=ks.length:=oM cT.u
   have sj:=Fj HKS.u k wE;rw [<-HS.u] at sj;have hk8:=HKS.u kk (lG EM);have si:Hid (La nf kk=Ai (ks.take (k+1))):=by unfold Hid;rw [aS EM,Mx,<-HS.u]
   have dy:=hY (wC k aa);obtain ⟨l,hl⟩:=ex (nf.sy.length);have By:=hY hl;obtain ⟨l9,hl9⟩:=ex ((La nf kk).sy.length);have HL9:=hY hl9;have hlk:=sj.l;have al2:=hY bf.u.b;rw [hl] at al2;have HK:Hid (∀w',Ext wr w'->(w'.cell? (aA w1.z 0)=some (.slice Y l c)/\w'.cell? (aA w1.z 1)=some (iI 1)/\w'.cell? (aA w1.z 2)=some (.slice A 2 d))/\(w'.cell? (aA b (o+k*4))=some (iI kk)/\w'.cell? (aA b (o+k*4+1))=some (iI 0)/\w'.cell? (aA b (o+k*4+2))=some (iI 0)/\w'.cell? (aA b (o+k*4+3))=some (iI 0))):=fun w' hx=>by
    obtain ⟨b2,o2,g2,he,-,jW,x0,x1,x2,x3⟩:=bT (HR.u.ext (bf.u.x.trans hx)) bZ.u;simp only [iG,jR] at he;obtain ⟨rfl,rfl,-⟩:=he;rw [wV.u] at jW;obtain rfl:=kx jW
    exact ⟨(cX (al2.u.ext hx)).1,x0,x1,x2,x3⟩
   have Xu:Hid (∀w',Ext wr w'->Calls prog 197 #[.agg #[.slice Y l c,iI 1,.slice A 2 d],.agg #[iI kk,iI 0,iI 0,iI 0]] w' fun e w''=>MP e w' w'' (La nf kk)/\Ext w' w''):=fun w' hx=>by
    have h9:=bf.u.at_.ext hx;rw [By.u] at h9
    exact ob _ nf kk w' h9 (by rw [By.u];omega) sj.c sj.y hk8
   clear hx EM sj hk8 hl hl9 wE hlk;go_upto_region 5 with fail;refine dt (S:=(fun w'=>(w'.cell? (aA w1.z 0)=some (.slice Y l c)/\w'.cell? (aA w1.z 1)=some (iI 1)/\w'.cell? (aA w1.z 2)=some (.slice A 2 d))/\(w'.cell? (aA b (o+k*4))=some (iI kk)/\w'.cell? (aA b (o+k*4+1))=some (iI 0)/\w'.cell? (aA b (o+k*4+2))=some (iI 0)/\w'.cell? (aA b (o+k*4+3))=some (iI 0)))) af (HK.u _ (xZ wr).drew) (fun aEQ=>?_);refine tq 0 ?_;refine tq 1 ?_;refine tq 2 ?_;refine tq 3 ?_;refine tq 4 ?_;refine o2 5 9 (fun K hK=>?_) fun K hK=>?_
   ·skip;go_simp;refine (Xu.u _ ((xZ wr).drew)).mono ?_;rintro e w5 ⟨bD,cf⟩;unfold MP at bD;obtain ⟨v,rfl,Y9,c9,A9,d9,rfl,eu,kG,EH⟩:=bD;rw [HL9.u] at eu |-;have nh:Hid (Ext wr w5):=Ext.trans (xZ wr).drew cf;refine ov hK (HK.u _ nh.u) fun aEQ=>?_
    refine tq 6 ?_;refine tq 7 ?_;refine tq 8 ?_;refine o1 9 fun K hK=>?_
    go_simp;have dL:Hid (Ext wr (w5.alloc (cO jD 234))):=nh.u.alloc _;have dP:Hid (au (w5.alloc (cO jD 234)) w5.heap.size 234 jD):=au.new _ _ _;have vE:wr.heap.size<=w5.heap.size:=nh.u.size;have wH:=hY (lQ ((aC (base':=wr.heap.size) eu (lI _)).alloc (cO jD 234)) (lQ (kG.ext ((xZ w5).alloc (cO jD 234))) EH));clear eu kG;refine ov hK (HK.u _ dL.u) fun aEQ=>?_
    clear cf;generalize w5.alloc (cO jD 234)=w6 at*
    generalize US:w5.heap.size=s at*
    clear US nh
    exact JP
   ·skip;go_simp;refine ov hK (HK.u _ (((xZ wr).alloc _).drew)) fun aEQ=>?_
    refine o1 5 fun K hK=>?_
    go_simp;refine (Xu.u _ (((xZ wr).alloc (cO jD 234)).drew)).mono ?_;rintro e w5 ⟨bD,cf⟩;unfold MP at bD;obtain ⟨v,rfl,Y9,c9,A9,d9,rfl,eu,kG,EH⟩:=bD;rw [HL9.u] at eu |-;have dL:Hid (Ext wr w5):=Ext.trans ((xZ wr).alloc (cO jD 234)).drew cf;have dP:Hid (au w5 wr.heap.size 234 jD):=((au.new wr 234 jD).ext (xZ _).drew).ext cf;have vE:wr.heap.size<=wr.heap.size:=lI _;have wH:=hY (lQ (aC (base':=wr.heap.size) eu ((xZ wr).alloc (cO jD 234)).drew.size) (lQ kG EH));clear eu kG;refine ov hK (HK.u _ dL.u) fun aEQ=>?_
    clear cf;refine tq 6 ?_;refine tq 7 ?_;refine tq 8 ?_;have Ec:∃s,s=wr.heap.size:=⟨_,rfl⟩;obtain ⟨s,hs⟩:=Ec;rw [<-hs] at dP vE |-;replace vE:wr.heap.size<=s:=aa
    clear hs;have Pc:∃w6,w6=w5:=⟨_,rfl⟩;obtain ⟨w6,rfl⟩:=Pc
    exact JP
  ·have jJ:k=n:=aa
   subst jJ;have HV:Hid (Ai ks=nf):=by unfold Hid;rw [HS.u,lE il]
   obtain ⟨l,hl⟩:=ex (nf.sy.length);have By:=hY hl;have hb:=bf.u.b;rw [hl] at hb;obtain ⟨⟨b0,b1,b2⟩,-⟩:=cX hb;obtain ⟨⟨d0,d1,d2⟩,z0,z1,z2⟩:=cX bf.u.z;have Xv:=hY (bf.u.z.nJ (.slice Y l c) (iI 1) (.slice A 2 d));have qC:=hY (kc bf.u.x (lI _) (.slice Y l c) (iI 1) (.slice A 2 d));have qh:=hY (lQ (lg bf.u.ry bf.u.z ae (.slice Y l c) (iI 1) (.slice A 2 d)) (nk bf.u.ra bf.u.z (.slice Y l c) (iI 1) (.slice A 2 d)));have hda:=bf.u.da;clear hb hl;go_wp2;refine bJ (v:=.tuple #[.agg #[.slice Y l c,iI 1,.slice A 2 d],.bool true]) ?_ rfl ?_
   rotate_left
   ·rw [HV.u];refine ⟨⟨_,rfl,Y,c,A,d,(by rw [By.u]),qh.u.1,?_,hda⟩,qC.u⟩;have h9:=qh.u.2;have jm:=iA wr w.heap.size (.slice Y l c) (iI 1) (.slice A 2 d);rw [<-jm] at h9
    exact h9
   ·exact aR rfl _ _ _ _ _ _ _ rfl rfl Xv.u DK rfl af
def Sr (p:OA ×Nat):List Value:=[iI 1,.slice p.1 2 p.2]
theorem Dm (p:OA ×Nat):(Sr p).length=2:=rfl
abbrev rQ (ps:List (OA ×Nat)):List Value:=ps.flatMap Sr
def xd (w:World) (ps:List (OA ×Nat)) (ts:List (List Pa)):Prop:=ps.length=ts.length/\∀(j:Nat) (t:List Pa),ts[j]?=some t->∃(A:OA) (c:Nat),ps[j]?=some (A,c)/\Rd w w.heap.size 4 A 2 (aX t)/\2<=c/\t.length=2
theorem xd.ext {w w':World} {ps:List (OA ×Nat)} {ts:List (List Pa)} (h:xd w ps ts) (hx:Ext w w'):xd w' ps ts:=⟨h.1,fun j t hj=>by
 obtain ⟨A,c,h1,h2,h3⟩:=h.2 j t hj
 exact ⟨A,c,h1,h2.ext hx,h3⟩⟩
def yd (ts:List (List Pa)) (t:List Pa):Nat->Nat->Int
 |0,_=> -1
 |f+1,k=>match ts[k]? with
  |none=> -1
  |some u=>if tJ u t=true then (k:Int) else yd ts t f (k+1)
def JQ (ts:List (List Pa)) (t:List Pa):Int:=yd ts t ts.length 0
theorem Ck {ts:List (List Pa)} {t u:List Pa} {f k:Nat} (h:ts[k]?=some u) (he:tJ u t=true):yd ts t (f+1) k=(k:Int):=by
 show (match ts[k]? with|none=> -1|some u=>if tJ u t=true then (k:Int) else yd ts t f (k+1))=_;rw [h]
 exact aY he
theorem xM {ts:List (List Pa)} {t u:List Pa} {f k:Nat} (h:ts[k]?=some u) (he:tJ u t=false):yd ts t (f+1) k=yd ts t f (k+1):=by
 show (match ts[k]? with|none=> -1|some u=>if tJ u t=true then (k:Int) else yd ts t f (k+1))=_;rw [h]
 exact aM (by simp [he])
theorem xe (X:OA) (n cx:Nat) (ps:List (OA ×Nat)) (ts:List (List Pa)) (A:OA) (c:Nat) (t:List Pa) (w:World) (h:Rd w w.heap.size 2 X n (rQ ps)) (hT:xd w ps ts) (hn:n<=1000) (ht:Rd w w.heap.size 4 A 2 (aX t)) (hc:2<=c) (hl:t.length=2):
  Calls prog 213 #[.slice X n cx,.agg #[iI 1,.slice A 2 c]] w fun e w'=>e=.returned (iI (JQ ts t))/\Ext w w':=by
 have zV:=h.len Dm aa;have HPT:Hid (ts.length=n):=by rw [<-hT.1];exact zV
 have HR:=hY h;have HT:=hY hT;have HA:=hY ht;have HL:=hY hl;have cH:Hid (Ext w (w.alloc (cO #[iI 1,.slice A 2 c] 207))):=(xZ w).alloc _;have jI:Hid (au (w.alloc (cO #[iI 1,.slice A 2 c] 207)) w.heap.size 207 #[iI 1,.slice A 2 c]):=au.new w _ _;clear h hT ht hl zV;go_enter func213,ntmps213;go_upto_region 1 with fail;generalize w.alloc (cO #[iI 1,.slice A 2 c] 207)=W1 at*
 go_wp2
 go_loopw [5] (fun i wr=>∃k:Nat,k<=n/\i=iI k/\Hid (Ext W1 wr)/\Hid (JQ ts t=yd ts t (n - k) k)) (fun i _=>n - (intOf i).toNat)
 case atStart=>exact ⟨0,lJ _,rfl,xZ _,by unfold Hid JQ;rw [HPT.u];rfl⟩
 case round=>
  obtain ⟨k,hk,rfl,ZV,HQ⟩:=hrel
  by_cases ba:k<n
  ·have hx:=cH.u.trans ZV.u;obtain ⟨b,o,p,rfl,-,hp,Pn⟩:=kQ Dm aa (HR.u.ext hx) ba;have hu:ts[k]?=some (ts[k]'(by rw [HPT.u];exact ba)):=lB _;generalize ts[k]'(by rw [HPT.u];exact ba)=u at hu;obtain ⟨Au,cu,hpu,hru,hcu,hul⟩:=HT.u.2 k u hu;rw [hp] at hpu
   cases hpu
   have x0:wr.cell? (aA b (o+k*2))=some (iI 1):=Pn 0 _ rfl;have x1:wr.cell? (aA b (o+k*2+1))=some (.slice Au 2 cu):=Pn 1 _ rfl;have HEQ:Hid (∀w',Ext wr w'->Calls prog 226 #[.agg #[iI 1,.slice Au 2 cu],.agg #[iI 1,.slice A 2 c]] w' fun e w''=>e=.returned (.bool (tJ u t))/\Ext w' w''):=fun w' sr=>by
    have h1:=(hru.ext hx).ext sr;have h2:=(HA.u.ext hx).ext sr;have h9:=uY Au A cu c 1 1 u t w' (by rw [hul];exact h1) (by rw [HL.u];exact h2) aa mZ;rw [hul,HL.u] at h9
    exact h9
   have HU:=hY hu;have bZ:=hY ba;have dy:=hY (wC k aa);obtain ⟨⟨t0,t1⟩,-⟩:=bu (jI.u.ext ZV.u);clear hu hp Pn hru hcu hul hx;go_wp2;go_still_tail 5,af;change wpList _ _ _ _ _ wr.drew;go_wp2_with fail;refine (HEQ.u _ (xZ wr).drew).mono ?_;rintro e w5 ⟨rfl,cI⟩;have jP:Hid (Ext W1 w5):=ZV.u.trans ((xZ wr).drew.trans cI);clear cI x0 x1 t0 t1
   cases he:tJ u t
   ·have oH:Hid (JQ ts t=yd ts t (n - (k+1)) (k+1)):=by
     unfold Hid;rw [HQ.u,show n - k=n - (k+1)+1 by have:=bZ.u;omega]
     exact xM HU.u he
    go_wp2;go_roundw
    case rel=>exact ⟨k+1,oM bZ.u,by first|rfl|rw [dy.u.1]|rw [dy.u.2],jP,oH⟩
    case measure=>simp [intOf,dy.u.2];have:=bZ.u;omega
   ·have HV:Hid (JQ ts t=(k:Int)):=by
     unfold Hid;rw [HQ.u,show n - k=n - (k+1)+1 by have:=bZ.u;omega]
     exact Ck HU.u he
    go_wp2;go_ret
    exact ⟨eB HV.u.symm,cH.u.trans jP.u⟩
  ·have jJ:k=n:=aa
   subst jJ;have HV:Hid (JQ ts t= -1):=by
    unfold Hid;rw [HQ.u,CJ];rfl
   go_wp2;go_ret
   exact ⟨eB HV.u.symm,cH.u.trans ZV.u⟩
theorem aec:(prog.info? 207).map (fun i=>(i.zero,i.size,i.bytes))=some (some (.agg jC),2,32):=af
theorem aad (ps:List (OA ×Nat)):∀u∈rQ ps,u.oneCell'=true:=by
 intro u hu;obtain ⟨x,_,hx⟩:=vN.1 hu;simp [Sr] at hx;rcases hx with rfl|rfl<;>rfl
theorem al3 {w0 w:World} {ops:Array Oper} {rest:List Oper} {o:Oper} {a:Act} {Q:Exit->Act->World->Prop} (fX:o.guard=none) (s x:Operand)
  (ho:aO o s x 264) (v:Value) (n:Nat) (ps:List (OA ×Nat)) (hs:a.eval s=v)
  (bj:w.ownsRow w0.heap.size 207 2 v n (rQ ps)) (cD:Ext w0 w) (p:OA ×Nat) (e:TypeId) (b:Nat) (hx:a.eval x=.slice (some ⟨b,0,none⟩) 1 1) (sg:b=w.heap.size) (hn:n<=1800000000000)
  (h:∀v' w',w'.ownsRow w0.heap.size 207 2 v' (n+1) (rQ (ps++[p]))->Ext w0 w'->(w.alloc (cO #[iI 1,.slice p.1 2 p.2] e)).grownBy w' v.ownBlock->(v'.ownBlock=v.ownBlock\/v'.ownBlock=some (w.heap.size+1))->wpList prog ops Q rest (a.put o.dst v') w'):wpList prog ops Q (o::rest) a (w.alloc (cO #[iI 1,.slice p.1 2 p.2] e)):=by
 subst sg;obtain ⟨i0,hi,fH,iV,kz⟩:=jH aec;refine fp fX s x _ ho 207 i0 _ 2 32 underlying264 hi fH iV kz rfl ae ae v n _ hs (bj.alloc _) (cD.alloc _) _ 1 1 (rQ [p]) hx (dZ w _ e 2 _ (by simp [Sr]) (by simp [Sr])) (aad [p]) aa (fun v' w' h1 h2 h3 h4=>?_)
 exact h v' w' (by unfold rQ;rw [lR];exact h1) h2 h3 (sU h4)
def Tne (ps:List (OA ×Nat)) (v:Value):Prop:=∀p∈ps,∀b o,p.1=some ⟨b,o,none⟩->v.ownBlock≠some b
theorem Rd.aed {w w':World} {B size n:Nat} {A:OA} {xs:List Value} {row:Option Nat} (h:Rd w w.heap.size size A n xs) (hg:w.grownBy w' row) (hne:∀b o,A=some ⟨b,o,none⟩->row≠some b):Rd w' w'.heap.size size A n xs:=
 ⟨h.1,fun hn=>by
  obtain ⟨b,o,e,hb,hc⟩:=h.2 hn;have avB:=hg.block b hb (fun e1=>hne b o e e1.symm)
  exact ⟨b,o,e,qD hb hg.size,fun j u hu=>(uB (a:=⟨b,o+j,none⟩) avB).trans (hc j u hu)⟩⟩
theorem xd.grown {w w':World} {ps:List (OA ×Nat)} {ts:List (List Pa)} {v:Value} (h:xd w ps ts) (hg:w.grownBy w' v.ownBlock) (hne:Tne ps v):xd w' ps ts:=⟨h.1,fun j t hj=>by
 obtain ⟨A,c,h1,h2,h3⟩:=h.2 j t hj
 exact ⟨A,c,h1,Rd.aed (B:=0) h2 hg (fun b o e=>hne (A,c) (lG h1) b o e),h3⟩⟩
theorem xd.snoc {w:World} {ps:List (OA ×Nat)} {ts:List (List Pa)} {A:OA} {c:Nat} {t:List Pa} (h:xd w ps ts) (h2:Rd w w.heap.size 4 A 2 (aX t)) (h3:2<=c) (h4:t.length=2):xd w (ps++[(A,c)]) (ts++[t]):=by
 refine ⟨by rw [lA,lA,h.1];rfl,fun j u hj=>?_⟩
 by_cases FX:j<ts.length
 ·rw [oY FX] at hj;obtain ⟨A',c',e1,e2⟩:=h.2 j u hj
  exact ⟨A',c',yO,e2⟩
 ·rw [uS aa] at hj;have KZ:j - ts.length=0:=by
   have:=(gu.1 hj).1;simp at this;omega
  rw [KZ] at hj;simp at hj;subst hj;refine ⟨A,c,?_,h2,h3,h4⟩;rw [uS (by rw [h.1];omega),h.1,KZ];rfl
theorem XQ (ts:List (List Pa)) (t:List Pa):∀f k:Nat,yd ts t f k= -1\/((k:Int)<=yd ts t f k/\yd ts t f k<(ts.length:Int))
 |0,k=> .inl rfl
 |f+1,k=>by
  cases hu:ts[k]? with
  |none=>
   left;show (match ts[k]? with|none=> -1|some u=>if tJ u t=true then (k:Int) else yd ts t f (k+1))=_;rw [hu]
  |some u=>
   cases he:tJ u t
   ·rw [xM hu he];rcases XQ ts t f (k+1) with h|h
    ·exact .inl h
    ·right;omega
   ·rw [Ck hu he];right;have:=(gu.1 hu).1;omega
theorem aee (ts:List (List Pa)) (t:List Pa):JQ ts t= -1\/(0<=JQ ts t/\JQ ts t<(ts.length:Int)):=by
 rcases XQ ts t ts.length 0 with h|h
 ·exact .inl h
 ·right;unfold JQ;omega
theorem Ss {ts:List (List Pa)} {t:List Pa}:∀{f k:Nat},k+f=ts.length->(0<=yd ts t f k ↔ ((ts.drop k).any fun u=>tJ u t)=true)
 |0,k,h=>by
  rw [vI aa];show (0:Int)<= -1 ↔ _;simp
 |f+1,k,h=>by
  have hk:k<ts.length:=aa
  have hu:ts[k]?=some ts[k]:=lB hk;rw [Bn hk,List.any_cons]
  cases he:tJ ts[k] t
  ·rw [xM hu he,ju]
   exact Ss aa
  ·rw [Ck hu he,ma];simp
theorem Po (ts:List (List Pa)) (t:List Pa):0<=JQ ts t ↔ (ts.any fun u=>tJ u t)=true:=by
 have h:=Ss (ts:=ts) (t:=t) (f:=ts.length) (k:=0) aa;rw [Bp] at h
 exact h
theorem St {i k:Nat} (hk:k<6):kJ (6*i+k+1)=rO (kJ (6*i+k)) i ((k:Int)+1):=by
 show rO (kJ (6*i+k)) ((6*i+k) / 6) (((6*i+k) % 6:Nat)+1)=_;rw [show (6*i+k) / 6=i by omega,show (6*i+k) % 6=k by omega]
theorem aef {s:List (List Gt ×List Pa)} {i:Nat} {k:Int} {p:List Gt ×List Pa} {u:List Pa} (hp:s[i]?=some p) (hu:fL 1 p.2 (gz k)=some u) (h:0<=JQ (s.map (·.2)) u):rO s i k=s:=by
 rw [Po,List.any_map] at h;unfold rO;rw [hp];simp only [hu];rw [aY]
 exact h
theorem aeg {s:List (List Gt ×List Pa)} {i:Nat} {k:Int} {p:List Gt ×List Pa} {u:List Pa} (hp:s[i]?=some p) (hu:fL 1 p.2 (gz k)=some u) (h:JQ (s.map (·.2)) u<0):rO s i k=s++[(p.1++[gz k],u)]:=by
 have h1:¬((s.map (·.2)).any fun v=>tJ v u)=true:=fun hh=>by have:=(Po _ _).2 hh;omega
 rw [List.any_map] at h1;unfold rO;rw [hp];simp only [hu];rw [aM]
 exact h1
theorem al4 {j:Nat} (hj:j<=144) {m:Nat} {p:List Gt ×List Pa} (h:(kJ j)[m]?=some p):zw p.2=true/\p.1.length<=3:=by
 have hm:p∈WM:=(Ow hj).subset (lG h);have h1:WM.all (fun p=>zw p.2 && decide (p.1.length<=3))=true:=af
 have h2:=lq.1 h1 p hm;rw [lF,kh] at h2
 exact h2
structure LaT (w0 W:World) (gk:Nat) (A:OA) (c:Nat) (Xw:OA) (lw cw:Nat) (vs:List Value) (ws:List (List Gt)) (Xt:OA) (lt ct:Nat) (ps:List (OA ×Nat)) (ts:List (List Pa)):Prop where
 b:au W w0.heap.size 207 #[iI 1,.slice A 2 c]
 k:au W gk 3 #[iI 1,iI 2,iI 3,iI 4,iI 5,iI 6]
 ow:W.ownsRow (w0.heap.size+1) 112 1 (.slice Xw lw cw) lw vs
 rw_:Rows w0 W W.heap.size vs ws
 ot:W.ownsRow (w0.heap.size+1) 207 2 (.slice Xt lt ct) lt (rQ ps)
 rt:xd W ps ts
 ne:Tne ps (.slice Xt lt ct)
 nw:Tne ps (.slice Xw lw cw)
 x:Ext w0 W
def JR (w0 W:World) (gk:Nat) (A:OA) (c:Nat) (Xw:OA) (cw:Nat) (vs:List Value) (Xt:OA) (ct:Nat) (ps:List (OA ×Nat)) (s:List (List Gt ×List Pa)):Prop:=
 LaT w0 W gk A c Xw s.length cw vs (s.map (·.1)) Xt s.length ct ps (s.map (·.2))
section
variable {w0 W W':World} {gk lw lt:Nat} {A Xw Xt Xw' Xt' A9:OA} {c cw ct cw' ct' d9:Nat} {vs:List Value} {ps:List (OA ×Nat)} {ws:List (List Gt)} {ts:List (List Pa)} {u:List Pa} {xs:List Gt}
theorem LaT.ext (h:LaT w0 W gk A c Xw lw cw vs ws Xt lt ct ps ts) (hx:Ext W W'):LaT w0 W' gk A c Xw lw cw vs ws Xt lt ct ps ts:=
 ⟨h.b.ext hx,h.k.ext hx,aj h.ow hx,(h.rw_.ext hx).more hx.size,aj h.ot hx,h.rt.ext hx,h.ne,h.nw,h.x.trans hx⟩
theorem aeh {w:World} {A:OA} {size n:Nat} {xs:List Value} (h:Rd w w.heap.size size A n xs) (hn:0<n) {b o:Nat} (e:A=some ⟨b,o,none⟩):b<w.heap.size:=by
 obtain ⟨b',o',e',hb,-⟩:=h.2 hn;rw [e] at e';injection e' with e';injection e' with e';omega
theorem ajw {w:World} {B e s n:Nat} {v:Value} {ys:List Value} (h:w.ownsRow B e s v n ys) (he:e≠251) (hp:PB w A9):∀b o,A9=some ⟨b,o,none⟩->v.ownBlock≠some b:=fun b o e1=>by
 obtain ⟨cs,hb⟩:=hp b o e1
 exact kr h hb he
theorem JS {P:Prop} (h:P:=by
 rw [Lp] at e1;injection e1 with e1;obtain ⟨j,hj⟩:=TA hm;have FX:j<ts.length:=by rw [<-h.rt.1];exact (gu.1 hj).1
 obtain ⟨A',c',e2,h2,-⟩:=h.rt.2 j _ (lB FX);rw [hj] at e2
 cases e2
 have:=aeh h2 aa e
 omega):P:=h
theorem LaT.tab (h:LaT w0 W gk A c Xw lw cw vs ws Xt lt ct ps ts) (ho:W'.ownsRow (w0.heap.size+1) 207 2 (.slice Xt' (lt+1) ct') (lt+1) (rQ (ps++[(A9,d9)]))) (hg:W.grownBy W' (Value.slice Xt lt ct).ownBlock) (hx:Ext w0 W')
  (Lp:(Value.slice Xt' (lt+1) ct').ownBlock=(Value.slice Xt lt ct).ownBlock\/(Value.slice Xt' (lt+1) ct').ownBlock=some W.heap.size) (hr:Rd W W.heap.size 4 A9 2 (aX u)) (hp:PB W A9) (hd:2<=d9) (hl:u.length=2):
  LaT w0 W' gk A c Xw lw cw vs ws Xt' (lt+1) ct' (ps++[(A9,d9)]) (ts++[u]):=by
 have hne:=ajw h.ot ae hp;have hnw:=ajw h.ow ae hp;refine ⟨h.b.grown hg (fun k hk e1=>oM ((h.ot.lt k hk).1)),cV h.k h.ot ae hg,h.ow.kept hg (dh h.ow h.ot ae),(h.rw_.grown h.ot ae hg).more hg.size,ho,(h.rt.grown hg h.ne).snoc (Rd.aed (B:=0) hr hg hne) hd hl,?_,?_,hx⟩
 ·intro p hm b o e e1;rcases iT.1 hm with hm|hm
  ·rcases Lp with Lp|Lp
   ·rw [Lp] at e1
    exact h.ne p hm b o e e1
   ·exact JS
  ·rw [oZ] at hm;subst hm;rcases Lp with Lp|Lp
   ·rw [Lp] at e1
    exact hne b o e e1
   ·rw [Lp] at e1;injection e1 with e1;have:=aeh hr aa e;omega
 ·intro p hm b o e;rcases iT.1 hm with hm|hm
  ·exact h.nw p hm b o e
  ·rw [oZ] at hm;subst hm
   exact hnw b o e
theorem LaT.word {A1:OA} {c1:Nat} (h:LaT w0 W gk A c Xw lw cw vs ws Xt lt ct ps ts) (ho:W'.ownsRow (w0.heap.size+1) 112 1 (.slice Xw' (lw+1) cw') (lw+1) (vs++[.slice A1 xs.length c1])) (hg:W.grownBy W' (Value.slice Xw lw cw).ownBlock) (hx:Ext w0 W')
  (Lp:(Value.slice Xw' (lw+1) cw').ownBlock=(Value.slice Xw lw cw).ownBlock\/(Value.slice Xw' (lw+1) cw').ownBlock=some W.heap.size) (hr:W.ownsRow w0.heap.size 39 4 (.slice A1 xs.length c1) xs.length (aq xs)):
  LaT w0 W' gk A c Xw' (lw+1) cw' (vs++[.slice A1 xs.length c1]) (ws++[xs]) Xt lt ct ps ts:=by
 refine ⟨cV h.b h.ow ae hg,cV h.k h.ow ae hg,ho,((h.rw_.snoc hr (fun g hg=>(hr.lt g hg).2)).grown h.ow ae hg).more hg.size,h.ot.kept hg (dh h.ot h.ow ae),h.rt.grown hg h.nw,h.ne,?_,hx⟩;intro p hm b o e e1;rcases Lp with Lp|Lp
 ·rw [Lp] at e1
  exact h.nw p hm b o e e1
 ·exact JS
end
theorem XR {w W:World} {cs:Array Value} {t:TypeId} (h:Ext w W) (hb:au W w.heap.size t cs):Ext (w.alloc (.cells cs t)) W:=by
 refine ⟨h.os,h.tape,h.output,?_,?_⟩
 ·rw [bX]
  exact hb.lt
 ·intro k hk;rw [bX] at hk;rcases od k w.heap.size with ba|uU
  ·exact (h.block k ba).trans ((TP w _ k ba).symm)
  ·have:k=w.heap.size:=aa
   subst this
   exact hb.trans (au.new w t cs).symm
end Go.Proofs.YtodhjgngkkcjgaaGreatDoor
