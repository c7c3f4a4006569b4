import Derived.Test.YtodhjgngkkcjgaaGreatDoorXbd
namespace Go.Proofs.YtodhjgngkkcjgaaGreatDoor
open Go.ChangeShapes Go.WideShapes Go.ChangeAt Go.RowKit Go.Deep Go.Proofs.Tryz
set_option linter.unusedVariables false
set_option linter.unusedSimpArgs false
set_option maxRecDepth 100000
set_option maxHeartbeats 16000000
theorem Yc {t:List Pa} (h:zw t=true):0<=JQ ((kJ 144).map (·.2)) t:=by
 rw [show (144:Nat)=6*24 from rfl,WN 24 (lI _),Po];obtain ⟨u,hu,he⟩:=CD.1 h;have h1:WM.take (cnt 24)=WM:=rfl;rw [h1]
 exact CD.2 ⟨u,hu,by rw [IA.1 he];exact IA.2 rfl⟩
theorem ajH {W:World} {gk k:Nat} {kk:Int} (h:au W gk 3 #[iI 1,iI 2,iI 3,iI 4,iI 5,iI 6]) (hk:k<6) (EM:kk=(k:Int)+1):W.cell? (aA gk k)=some (iI kk):=by
 rw [h.cell k,EM];rcases (show k=0\/k=1\/k=2\/k=3\/k=4\/k=5 by omega) with rfl|rfl|rfl|rfl|rfl|rfl<;>rfl
theorem Ki {P:Prop} (h:P:=by
 have XT:Hid ((w9.alloc (cO #[] 39)).drew.ownsRow w9.heap.size 39 4 (.slice (some ⟨w9.heap.size,0,none⟩) 0 0) 0 (aq [])/\Ext w9 (w9.alloc (cO #[] 39)).drew):=⟨aj (aN w9 w9 _ 4 (xZ _)) (xZ _).drew,((xZ w9).alloc _).drew⟩;refine o1 6 fun K hK=>?_
 refine fe (w0:=w9) ah _ _ ah _ 0 [] ah XT.u.1 XT.u.2 A1 lp c1 p.1 ah (Rd.own (aj aei.u XT.u.2)) (oM aqO.u) ?_;intro v8 w8 g1 g2 g3 g4;rw [lM,lN] at g1;obtain ⟨A8,c8,rfl,-⟩:=ak g1;have xF:Hid (w8.ownsRow w9.heap.size 39 4 (.slice A8 lp c8) lp (aq p.1)/\Ext w9 w8):=⟨g1,g2⟩;clear g1 g2 g3 g4 XT;refine ov hK (Kj.u _ xF.u.2) fun aEQ=>?_
 refine o1 11 fun K hK=>?_
 go_simp;refine (aP kk 0 _ (xZ _)).mono ?_;rintro e qO ⟨rfl,ame⟩;have SJ:Hid (qO.ownsRow w9.heap.size 39 4 (.slice A8 lp c8) lp (aq p.1)/\Ext w9 qO):=⟨aj xF.u.1 ame,xF.u.2.trans ame⟩;clear ame xF;refine ov hK (Kj.u _ SJ.u.2) fun aEQ=>?_
 refine o1 12 fun K hK=>?_
 go_simp;refine ov hK (Kj.u _ (SJ.u.2.alloc _)) fun aEQ=>?_
 refine o1 13 fun K hK=>?_
 refine fe (w0:=w9) ah _ _ ah _ lp p.1 ah (SJ.u.1.alloc _) (SJ.u.2.alloc _) _ 1 1 [gz kk] ah (dZ qO _ 39 4 _ rfl rfl) (oM aqO.u) ?_;intro v11 w11 g1 g2 g3 g4;obtain ⟨A11,c11,rfl,-⟩:=ak g1;have aeE:Hid (w11.ownsRow w9.heap.size 39 4 (.slice A11 (lp+1) c11) (lp+1) (aq (p.1++[gz kk]))/\Ext w9 w11):=⟨g1,g2⟩;clear g1 g2 g3 g4 SJ;refine ov hK (Kj.u _ aeE.u.2) fun aEQ=>?_
 refine o1 14 fun K hK=>?_
 go_simp;refine ov hK (Kj.u _ (aeE.u.2.alloc _)) fun aEQ=>?_
 refine o1 15 fun K hK=>?_
 have aeF:=hY (HT9.u.ext (aeE.u.2.alloc (cO #[.slice A11 (lp+1) c11] 112)));refine adZ (w0:=w.alloc (cO #[iI 1,.slice A 2 c] 207)) ah _ _ ah _ L2 vs ah (by rw [bX];exact aeF.u.ow) (XR aeF.u.x aeF.u.b) (.slice A11 (lp+1) c11) (MM _ _ _) w11.heap.size ah (dZ w11 _ 112 1 _ rfl rfl) aa ?_;intro v13 w13 g1 g2 g3 g4;obtain ⟨A13,c13,rfl,-⟩:=ak g1;rw [bX] at g1;have hlx:(p.1++[gz kk]).length=lp+1:=by rw [lA,HLP.u];rfl
 have amj:Hid (LaT w w13 gk A c A13 (L2+1) c13 (vs++[.slice A11 (p.1++[gz kk]).length c11]) ((kJ (6*i+k)).map (·.1)++[p.1++[gz kk]]) MQ (L2+1) c10 (ps++[(A9,d9)]) ((kJ (6*i+k)).map (·.2)++[u])):=
  aeF.u.word (by rw [hlx];exact g1) g3 (Ext.trans ((xZ w).alloc _) g2) g4 (by rw [hlx];exact aC (aj aeE.u.1 ((xZ _).alloc _)) HT9.u.x.size)
 clear g1 g2 g3 g4 hlx aeF aeE;refine ov hK (ajH amj.u.k HK6.u vG.u) fun aEQ=>?_
 refine tq 16 ?_;refine dn ?_;have lY:Hid (JR w w13 gk A c A13 c13 (vs++[.slice A11 (p.1++[gz kk]).length c11]) MQ c10 (ps++[(A9,d9)]) (kJ (6*i+(k+1)))):=by
  have h9:=amj.u;unfold Hid JR;rw [HEQ.u,lA,SK.u,qF,qF]
  exact h9
 have HLN:Hid ((kJ (6*i+(k+1))).length=L2+1):=by unfold Hid;rw [HEQ.u,lA,SK.u];rfl
 clear amj HT9 aEQ Kj aei;go_wp2;go_roundw
 case rel=>exact ⟨k+1,A13,c13,_,MQ,c10,_,oM HK6.u,by first|rfl|rw [Bh.u.1]|rw [Bh.u.2],by rw [HLN.u],by rw [HLN.u],lY⟩
 case measure=>simp [intOf,Bh.u.2];have:=HK6.u;omega):P:=h
theorem AX {P:Prop} (h:P:=by
 refine o1 14 fun K hK=>?_
 obtain ⟨⟨q0,q1⟩,f0,f1⟩:=bu dP.u;go_simp;have fz:Hid (Ext wr ((w6.setCell (aA s 0) (iI 1)).setCell (aA s 1) (.slice A9 2 d9))):=dK (g:=s) dL.u vE _ _;have nZ:Hid (au ((w6.setCell (aA s 0) (iI 1)).setCell (aA s 1) (.slice A9 2 d9)) s 207 #[iI 1,.slice A9 2 d9]):=dP.u.eh _ _;refine ov hK (HK.u _ fz.u) fun aEQ=>?_
 refine tq 15 ?_;refine dn ?_;clear q0 q1 f0 f1 aEQ;have vh:=ada wH.u.1 wH.u.2.1 dP.u (iI 1) (.slice A9 2 d9);have hd7:=wH.u.2.2;go_wp2_with fail
 go_meet
 exact ⟨s,A9,d9,rfl,rfl,fz.u,nZ.u,vh.1,vh.2,hd7⟩):P:=h
theorem Vp (A:OA) (c:Nat) (t:List Pa) (w:World) (h:Rd w w.heap.size 4 A 2 (aX t)) (hc:2<=c) (zG:zw t=true):
  Calls prog 212 #[.agg #[iI 1,.slice A 2 c]] w fun e w'=>∃(j gk:Nat) (Xw:OA) (cw:Nat) (vs:List Value) (Xt:OA) (ct:Nat) (ps:List (OA ×Nat)),e=.returned (.tuple #[.slice Xw (kJ j).length cw,.slice Xt (kJ j).length ct])/\j<=144/\0<=JQ ((kJ j).map (·.2)) t/\JR w w' gk A c Xw cw vs Xt ct ps (kJ j):=by
 have qw:=(iJ t zG).2;have Sg:=hY zG;have HR:=hY h;have MR:=hY qw;clear h qw zG;go_enter func212,ntmps212;have cH:Hid (Ext w (((w.alloc (cO #[iI 1,.slice A 2 c] 207)).alloc (cO #[] 39)).alloc (cO #[.slice (some ⟨w.heap.size+1,0,none⟩) 0 0] 112))):=mN
 have bW:Hid (au (((w.alloc (cO #[iI 1,.slice A 2 c] 207)).alloc (cO #[] 39)).alloc (cO #[.slice (some ⟨w.heap.size+1,0,none⟩) 0 0] 112)) w.heap.size 207 #[iI 1,.slice A 2 c]):=((au.new w _ _).alloc _).alloc _;have HE0:Hid ((((w.alloc (cO #[iI 1,.slice A 2 c] 207)).alloc (cO #[] 39)).alloc (cO #[.slice (some ⟨w.heap.size+1,0,none⟩) 0 0] 112)).ownsRow (w.heap.size+1) 39 4 (.slice (some ⟨w.heap.size+1,0,none⟩) 0 0) 0 (aq [])):=by
  have h9:=aN (w.alloc (cO #[iI 1,.slice A 2 c] 207)) (w.alloc (cO #[iI 1,.slice A 2 c] 207)) 39 4 (xZ _);rw [bX] at h9
  exact h9.alloc _
 have HW0:Hid ((((w.alloc (cO #[iI 1,.slice A 2 c] 207)).alloc (cO #[] 39)).alloc (cO #[.slice (some ⟨w.heap.size+1,0,none⟩) 0 0] 112)).ownsRow (w.heap.size+1) 112 1 (.slice (some ⟨w.heap.size+1+1,0,none⟩) 1 1) 1 [.slice (some ⟨w.heap.size+1,0,none⟩) 0 0]):=by
  have h9:=bS (w0:=w.alloc (cO #[iI 1,.slice A 2 c] 207)) (W:=(w.alloc (cO #[iI 1,.slice A 2 c] 207)).alloc (cO #[] 39)) ((xZ _).alloc _) (w.heap.size+1+1) 112 1 1 #[.slice (some ⟨w.heap.size+1,0,none⟩) 0 0] _ (by rw [bX,bX]) rfl rfl aa;rw [bX] at h9
  exact h9
 have HBW:Hid (au (((w.alloc (cO #[iI 1,.slice A 2 c] 207)).alloc (cO #[] 39)).alloc (cO #[.slice (some ⟨w.heap.size+1,0,none⟩) 0 0] 112)) (w.heap.size+1+1) 112 #[.slice (some ⟨w.heap.size+1,0,none⟩) 0 0]):=au.newAt (by rw [bX,bX]);go_upto_region 2 with fail;have UM:(((w.alloc (cO #[iI 1,.slice A 2 c] 207)).alloc (cO #[] 39)).alloc (cO #[.slice (some ⟨w.heap.size+1,0,none⟩) 0 0] 112)).heap.size=w.heap.size+1+1+1:=by rw [bX,bX,bX]
 generalize (((w.alloc (cO #[iI 1,.slice A 2 c] 207)).alloc (cO #[] 39)).alloc (cO #[.slice (some ⟨w.heap.size+1,0,none⟩) 0 0] 112))=W0 at*
 go_wp2_with fail;refine (gj 1 _ aa aa).mono ?_;rintro e w2 ⟨⟨v,rfl,A0,c0,rfl,MC,rV⟩,bz⟩;have Tm:(YI (1:Int).toNat).length=2:=rfl;rw [Tm] at MC rV |-;have ka:Ext w2 ((w2.alloc (cO #[iI 1,.slice A0 2 c0] 207)).alloc (cO #[iI 1,iI 2,iI 3,iI 4,iI 5,iI 6] 3)):=((xZ w2).alloc _).alloc _;have bf:Hid (JR w ((w2.alloc (cO #[iI 1,.slice A0 2 c0] 207)).alloc (cO #[iI 1,iI 2,iI 3,iI 4,iI 5,iI 6] 3)) (w2.heap.size+1) A c (some ⟨w.heap.size+1+1,0,none⟩) 1 [.slice (some ⟨w.heap.size+1,0,none⟩) 0 0] (some ⟨w2.heap.size,0,none⟩) 1 [(A0,c0)] (kJ (6*0))):=by
  have fy:=bz.trans ka;have aCy:=bz.size;refine ⟨bW.u.ext fy,au.newAt (bX _ _).symm,aj HW0.u fy,?_,?_,?_,?_,?_,cH.u.trans fy⟩
  ·have h9:=Rows.snoc (w0:=w) (B:=W0.heap.size) (W:=W0) (vs:=[]) (xss:=[]) Rows.nil (A:=some ⟨w.heap.size+1,0,none⟩) (c:=0) (xs:=[]) (aC HE0.u aa) (fun g hg=>(HE0.u.lt g hg).2)
   exact (h9.ext fy).more fy.size
  ·have h9:=bS (w0:=W0) (W:=w2) bz w2.heap.size 207 2 1 #[iI 1,.slice A0 2 c0] (rQ [(A0,c0)]) rfl rfl rfl aa
   exact aC (h9.alloc _) aa
  ·refine ⟨rfl,fun j u hj=>?_⟩
   cases j with
   |zero=>cases hj;exact ⟨A0,c0,rfl,MC.ext ka,rV,rfl⟩
   |succ j=>cases hj
  ·intro p hp b o e e1;rw [oZ] at hp;subst hp;have h9:(Value.slice (some ⟨w2.heap.size,0,none⟩) (kJ (6*0)).length 1).ownBlock=some w2.heap.size:=rfl;rw [h9] at e1;injection e1 with e1;obtain ⟨b',o',e2,rJ,-⟩:=MC.2 aa;have e3:(some ⟨b,o,none⟩:OA)=some ⟨b',o',none⟩:=e.symm.trans e2;injection e3 with e3;injection e3 with e3;omega
  ·intro p hp b o e e1;rw [oZ] at hp;subst hp;have h9:(Value.slice (some ⟨w.heap.size+1+1,0,none⟩) (kJ (6*0)).length 1).ownBlock=some (w.heap.size+1+1):=rfl;rw [h9] at e1;injection e1 with e1;obtain ⟨b',o',e2,rJ,uF⟩:=MC.2 aa;have e3:(some ⟨b,o,none⟩:OA)=some ⟨b',o',none⟩:=e.symm.trans e2;injection e3 with e3;injection e3 with e3 e4;have h8:=uF 0 _ rfl;have h7:=(HBW.u.ext bz).cell (o'+0);rw [<-e3,<-e1,h7] at h8
   cases o' with
   |zero=>cases h8
   |succ o'=>cases h8
 clear MC rV bz ka Tm bW HE0 HW0 cH UM HBW;go_upto_region 4 with fail;generalize hgk:w2.heap.size+1=gk at*
 obtain ⟨gt,EW⟩:=ex (w2.heap.size);rw [EW] at bf |-;generalize (w2.alloc (cO #[iI 1,.slice A0 2 c0] 207)).alloc (cO #[iI 1,iI 2,iI 3,iI 4,iI 5,iI 6] 3)=W4 at*
 clear hgk EW;go_wp2
 go_loopw [4,5,7] (fun wv tv iv wr=>∃(i:Nat) (Xw:OA) (cw:Nat) (vs:List Value) (Xt:OA) (ct:Nat) (ps:List (OA ×Nat)),i<=24/\iv=iI i/\wv=.slice Xw (kJ (6*i)).length cw/\tv=.slice Xt (kJ (6*i)).length ct/\Hid (JR w wr gk A c Xw cw vs Xt ct ps (kJ (6*i)))) (fun _ _ i _=>24 - (intOf i).toNat)
 case atStart=>exact ⟨0,_,1,_,_,1,_,aa,rfl,rfl,rfl,bf⟩
 case round=>
  clear bf;obtain ⟨i,Xw,cw,vs,Xt,ct,ps,hi,rfl,rfl,rfl,bf⟩:=hrel;have JV:=Ox (j:=6*i) aa;obtain ⟨L,hL⟩:=ex ((kJ (6*i)).length);have By:=hY hL;rw [hL] at JV |-
  by_cases ba:i<L
  ·have HFI:Hid (∀w',Ext wr w'->Calls prog 213 #[.slice Xt L ct,.agg #[iI 1,.slice A 2 c]] w' fun e w''=>e=.returned (iI (JQ ((kJ (6*i)).map (·.2)) t))/\Ext w' w''):=fun w' hx=>by
    have ho:=aj bf.u.ot hx;rw [By.u] at ho
    exact xe Xt L ct ps _ A c t w' (Rd.own ho) (bf.u.rt.ext hx) aa (HR.u.ext (bf.u.x.trans hx)) hc MR.u
   obtain ⟨⟨t0,t1⟩,-⟩:=bu bf.u.b;have hfb:=aee ((kJ (6*i)).map (·.2)) t;obtain ⟨f,hf⟩:=ex (JQ ((kJ (6*i)).map (·.2)) t);have HF:=hY hf;rw [hf] at hfb HFI;clear hL hf;go_wp2_with fail;refine (HFI.u _ (xZ _)).mono ?_;rintro e w5 ⟨rfl,cI⟩;have gv:=hY (bf.u.ext cI);clear bf HFI cI t0 t1
   by_cases KX:f<0
   ·have hi4:i<24:=by
     rcases od i 24 with h9|h9
     ·exact h9
     ·have h8:=Yc Sg.u;rw [show (144:Nat)=6*i by omega,HF.u] at h8;omega
    have hfd:decide (f<0)=true:=sU KX
    have HI4:=hY hi4;have bZ:=hY ba;have Pb:Hid (JR w w5 gk A c Xw cw vs Xt ct ps (kJ (6*i+0))):=gv.u;have dy:=hY (wC i aa);clear gv HF hi4 hfb;go_upto_region 8 with fail
    go_loopw [4,5,8] (fun wv tv kv wr=>∃(k:Nat) (Xw:OA) (cw:Nat) (vs:List Value) (Xt:OA) (ct:Nat) (ps:List (OA ×Nat)),k<=6/\kv=iI k/\wv=.slice Xw (kJ (6*i+k)).length cw/\tv=.slice Xt (kJ (6*i+k)).length ct/\Hid (JR w wr gk A c Xw cw vs Xt ct ps (kJ (6*i+k)))) (fun _ _ k _=>6 - (intOf k).toNat)
    case atStart=>exact ⟨0,Xw,cw,vs,Xt,ct,ps,aa,rfl,by rw [oh,By.u],by rw [oh,By.u],Pb⟩
    case round=>
     clear Pb;obtain ⟨k,Xw,cw,vs,Xt,ct,ps,hk,rfl,rfl,rfl,bf⟩:=hrel
     by_cases hk6:k<6
     ·skip;have aai:=Ox (j:=6*i+k) (oM HI4.u);have hiL:i<(kJ (6*i+k)).length:=by
       have h8:=(Fh (6*i) k).length_le;rw [By.u] at h8;have:=bZ.u;omega
      obtain ⟨p,hp⟩:∃p,(kJ (6*i+k))[i]?=some p:=⟨_,lB hiL⟩;obtain ⟨aqQ,zV⟩:=al4 (oM HI4.u) hp;obtain ⟨kk,EM⟩:∃kk:Int,kk=(k:Int)+1:=⟨_,rfl⟩;obtain ⟨u,hu,amk⟩:=sF aqQ (k:=kk) aa;obtain ⟨Au,cu,hpu,hru,hcu,SM⟩:=bf.u.rt.2 i p.2 (by rw [rY,hp];rfl);obtain ⟨b,o,q,hXt,hbw,hq,Pn⟩:=kQ Dm aa (Rd.own bf.u.ot) hiL;subst hXt;rw [hq] at hpu
      cases hpu
      have HK:Hid (∀w',Ext wr w'->(w'.cell? (aA b (o+i*2))=some (iI 1)/\w'.cell? (aA b (o+i*2+1))=some (.slice Au 2 cu))/\w'.cell? (aA gk k)=some (iI kk)):=fun w' hx=>⟨⟨(hx.cell (p:=(aA b (o+i*2))) hbw).trans (Pn 0 _ rfl),(hx.cell (p:=(aA b (o+i*2+1))) hbw).trans (Pn 1 _ rfl)⟩,by
       have h9:=(bf.u.k.ext hx).cell k;rw [h9,EM]
       rcases (show k=0\/k=1\/k=2\/k=3\/k=4\/k=5 by omega) with rfl|rfl|rfl|rfl|rfl|rfl<;>rfl⟩
      have Xu:Hid (∀w',Ext wr w'->Calls prog 189 #[.agg #[iI 1,.slice Au 2 cu],.agg #[iI kk,iI 0,iI 0,iI 0]] w' fun e w''=>(∃(A9:OA) (d9:Nat),e=.returned (.tuple #[.agg #[iI 1,.slice A9 2 d9],.bool true])/\Rd w'' w''.heap.size 4 A9 2 (aX u)/\PB w'' A9/\2<=d9)/\Ext w' w''):=fun w' hx=>by
       have h9:=gK Au cu 1 p.2 (gz kk) w' (by rw [SM];exact hru.ext hx) (by rw [SM];omega) (by rw [SM];exact hcu);rw [SM] at h9;refine h9.mono ?_;rintro e w2 ⟨bD,bz⟩;rw [hu] at bD;obtain ⟨v9,he,A9,d9,rfl,h1,h2,h3⟩:=bD;have hul:=(iJ _ amk).2;rw [hul] at he h1 h2
       exact ⟨⟨A9,d9,he,h1,h3,h2⟩,bz⟩
      have HP:=hY (lQ hp (lQ hu (lQ amk zV)));have vG:=hY EM;obtain ⟨L2,hL2⟩:=ex ((kJ (6*i+k)).length);have SK:=hY hL2;rw [hL2] at hiL aai |-;clear hp aqQ zV EM hu amk hru hcu SM hq Pn hbw hL2;have HK6:=hY hk6;have Bh:=hY (wC k aa);go_upto_region 10 with fail
      go_cut [9,10] (fun s9 s10 wx=>∃(s:Nat) (A9:OA) (d9:Nat),s9=.pointer (some ⟨s,0,none⟩)/\s10=.bool true/\Ext wr wx/\au wx s 207 #[iI 1,.slice A9 2 d9]/\Rd wx wx.heap.size 4 A9 2 (aX u)/\PB wx A9/\2<=d9)
      case first=>
       refine dt (S:=(fun w'=>(w'.cell? (aA b (o+i*2))=some (iI 1)/\w'.cell? (aA b (o+i*2+1))=some (.slice Au 2 cu))/\w'.cell? (aA gk k)=some (iI kk))) af (HK.u _ (xZ wr).drew) (fun aEQ=>?_);refine tq 0 ?_;refine tq 1 ?_;refine tq 2 ?_;refine tq 3 ?_;refine tq 4 ?_;refine tq 5 ?_;refine tq 6 ?_;refine tq 7 ?_;refine o2 8 13 (fun K hK=>?_) fun K hK=>?_
       ·skip;go_simp;refine (aP kk 0 _ (xZ _)).mono ?_;rintro e v0 ⟨rfl,aas⟩;have Kk:Hid (Ext wr v0):=Ext.trans ((xZ wr).drew) aas;clear aas;refine ov hK (HK.u _ Kk.u) fun aEQ=>?_
        refine o2 9 13 (fun K hK=>?_) fun K hK=>?_
        ·skip;go_simp;refine (Xu.u _ (Kk.u)).mono ?_;rintro e v1 ⟨⟨A9,d9,rfl,Cb,SN,EC⟩,LK⟩;have LM:Hid (Ext wr v1):=Ext.trans (Kk.u) LK;clear LK;refine ov hK (HK.u _ LM.u) fun aEQ=>?_
         refine tq 10 ?_;refine tq 11 ?_;refine tq 12 ?_;refine o1 13 fun K hK=>?_
         go_simp;have dL:Hid (Ext wr (v1.alloc (cO jC 207))):=LM.u.alloc _;have dP:Hid (au (v1.alloc (cO jC 207)) v1.heap.size 207 jC):=au.new _ _ _;have vE:wr.heap.size<=v1.heap.size:=LM.u.size;have wH:Hid (Rd (v1.alloc (cO jC 207)) (v1.alloc (cO jC 207)).heap.size 4 A9 2 (aX u)/\PB (v1.alloc (cO jC 207)) A9/\2<=d9):=⟨Cb.ext ((xZ _).alloc _),SN.ext ((xZ _).alloc _),EC⟩;clear Cb SN EC;refine ov hK (HK.u _ dL.u) fun aEQ=>?_
         generalize v1.alloc (cO jC 207)=w6 at*
         generalize US:v1.heap.size=s at*
         clear US LM
         exact AX
        ·skip;go_simp;refine ov hK (HK.u _ (Kk.u.alloc (cO jC 207))) fun aEQ=>?_
         have HBA:Hid (au (v0.alloc (cO jC 207)) v0.heap.size 207 jC):=au.new _ _ _;have XS:Hid (wr.heap.size<=v0.heap.size):=Kk.u.size;obtain ⟨s,hs⟩:=ex (v0.heap.size);rw [hs] at HBA |-;have Tr:Hid (wr.heap.size<=s):=by have:=XS.u;unfold Hid;omega
         clear hs XS;refine o1 9 fun K hK=>?_
         go_simp;refine (Xu.u _ (Kk.u.alloc (cO jC 207))).mono ?_;rintro e v1 ⟨⟨A9,d9,rfl,Cb,SN,EC⟩,LK⟩;have aml:=hY ((HBA.u).ext LK);have LM:Hid (Ext wr v1):=Ext.trans (Kk.u.alloc (cO jC 207)) LK;clear LK;refine ov hK (HK.u _ LM.u) fun aEQ=>?_
         refine tq 10 ?_;refine tq 11 ?_;refine tq 12 ?_;have dL:=LM;have dP:=hY (aml.u);have vE:wr.heap.size<=s:=Tr.u;have wH:=hY (lQ Cb (lQ SN EC));clear Cb SN EC;have Pc:∃w6,w6=v1:=⟨_,rfl⟩;obtain ⟨w6,rfl⟩:=Pc
         exact AX
       ·skip;go_simp;refine ov hK (HK.u _ (((xZ wr).alloc (cO jC 207)).drew)) fun aEQ=>?_
        have HBA:Hid (au ((wr.alloc (cO jC 207)).drew) wr.heap.size 207 jC):=au.drew (au.new wr 207 jC);have XS:Hid (wr.heap.size<=wr.heap.size):=lI _;obtain ⟨s,hs⟩:=ex (wr.heap.size);rw [hs] at HBA |-;have Tr:Hid (wr.heap.size<=s):=bN
        clear hs XS;refine o1 8 fun K hK=>?_
        go_simp;refine (aP kk 0 _ (xZ _)).mono ?_;rintro e v0 ⟨rfl,aas⟩;have avX:=hY ((HBA.u).ext aas);have Kk:Hid (Ext wr v0):=Ext.trans (((xZ wr).alloc (cO jC 207)).drew) aas;clear aas;refine ov hK (HK.u _ Kk.u) fun aEQ=>?_
        refine o1 9 fun K hK=>?_
        go_simp;refine (Xu.u _ (Kk.u)).mono ?_;rintro e v1 ⟨⟨A9,d9,rfl,Cb,SN,EC⟩,LK⟩;have aml:=hY ((avX.u).ext LK);have LM:Hid (Ext wr v1):=Ext.trans (Kk.u) LK;clear LK;refine ov hK (HK.u _ LM.u) fun aEQ=>?_
        refine tq 10 ?_;refine tq 11 ?_;refine tq 12 ?_;have dL:=LM;have dP:=hY (aml.u);have vE:wr.heap.size<=s:=Tr.u;have wH:=hY (lQ Cb (lQ SN EC));clear Cb SN EC;have Pc:∃w6,w6=v1:=⟨_,rfl⟩;obtain ⟨w6,rfl⟩:=Pc
        exact AX
      case rest=>
       obtain ⟨s,A9,d9,rfl,rfl,gG,Mc,Fq,aqS,EC⟩:=hcut;have fG:=hY (bf.u.ext gG);have nZ:=hY Mc;have vh:=hY (lQ Fq (lQ aqS EC));clear Mc Fq aqS bf HK Xu gG EC;have HFU:Hid (∀w',Ext wc w'->Calls prog 213 #[.slice (some ⟨b,o,none⟩) L2 ct,.agg #[iI 1,.slice A9 2 d9]] w' fun e w''=>e=.returned (iI (JQ ((kJ (6*i+k)).map (·.2)) u))/\Ext w' w''):=fun w' hx=>by
        have ho:=aj fG.u.ot hx;rw [SK.u] at ho
        exact xe (some ⟨b,o,none⟩) L2 ct ps _ A9 d9 u w' (Rd.own ho) (fG.u.rt.ext hx) aa (vh.u.1.ext hx) vh.u.2.2 (iJ u HP.u.2.2.1).2
       obtain ⟨⟨q0,q1⟩,-⟩:=bu nZ.u;have hfb:=aee ((kJ (6*i+k)).map (·.2)) u;obtain ⟨f,hf⟩:=ex (JQ ((kJ (6*i+k)).map (·.2)) u);have HFF:=hY hf;rw [hf,jK,SK.u] at hfb;rw [hf] at HFU;clear hf;go_wp2_with fail;refine (HFU.u _ (xZ _)).mono ?_;rintro e w5 ⟨rfl,cI⟩;have gv:=hY (fG.u.ext cI);have kN:=hY (nZ.u.ext cI);have Ik:=hY (lQ (vh.u.1.ext cI) (lQ (vh.u.2.1.ext cI) vh.u.2.2));clear fG nZ vh HFU q0 q1 cI
       by_cases KX:0<=f
       ·have avZ:decide (0<=f)=true:=sU KX
        have av0:decide (f>=0)=true:=sU KX
        have HEQ:Hid (kJ (6*i+(k+1))=kJ (6*i+k)):=by
         unfold Hid;show kJ (6*i+k+1)=_;rw [St HK6.u]
         exact aef HP.u.1 (by rw [<-vG.u];exact HP.u.2.1) (by rw [HFF.u];exact KX)
        have lY:Hid (JR w w5 gk A c Xw cw vs (some ⟨b,o,none⟩) ct ps (kJ (6*i+(k+1)))):=by unfold Hid;rw [HEQ.u];exact gv.u
        go_wp2;go_roundw
        case rel=>exact ⟨k+1,Xw,cw,vs,(some ⟨b,o,none⟩),ct,ps,oM HK6.u,by first|rfl|rw [Bh.u.1]|rw [Bh.u.2],by rw [HEQ.u,SK.u],by rw [HEQ.u,SK.u],lY⟩
        case measure=>simp [intOf,Bh.u.2];have:=HK6.u;omega
       ·have avZ:decide (0<=f)=false:=sU KX
        have av0:decide (f>=0)=false:=sU KX
        have HEQ:Hid (kJ (6*i+(k+1))=kJ (6*i+k)++[(p.1++[gz kk],u)]):=by
         unfold Hid;show kJ (6*i+k+1)=_;rw [St HK6.u];rw [<-vG.u]
         exact aeg HP.u.1 HP.u.2.1 (by rw [HFF.u];omega)
        have amm:Hid (w5.ownsRow (w.alloc (cO #[iI 1,.slice A 2 c] 207)).heap.size 207 2 (.slice (some ⟨b,o,none⟩) L2 ct) L2 (rQ ps)/\Ext (w.alloc (cO #[iI 1,.slice A 2 c] 207)) w5):=⟨by rw [bX];have h9:=gv.u.ot;rw [SK.u] at h9;exact h9,XR gv.u.x gv.u.b⟩;have aqU:Hid (LaT w w5 gk A c Xw L2 cw vs ((kJ (6*i+k)).map (·.1)) (some ⟨b,o,none⟩) L2 ct ps ((kJ (6*i+k)).map (·.2))):=by
         have h9:=gv.u;unfold JR at h9;rw [SK.u] at h9
         exact h9
        obtain ⟨⟨q0,q1⟩,-⟩:=bu kN.u;have aCC:L2<=24:=aai.2;clear hfb KX HFF;go_upto_region 13 with (at_builtin;refine al3 (w0:=w.alloc (cO #[iI 1,.slice A 2 c] 207)) rfl _ _ rfl _ L2 ps rfl amm.u.1 amm.u.2 (A9,d9) _ _ rfl rfl aa ?_;intro v9 w9 g1 g2 g3 g4;obtain ⟨MQ,c10,rfl,-⟩:=ak g1;rw [bX] at g1;have HT9:=hY ((aqU.u.ext ((xZ w5).alloc _)).tab g1 g3 (Ext.trans ((xZ w).alloc _) g2) (by rw [bX];exact g4) (Ik.u.1.ext ((xZ _).alloc _)) (Ik.u.2.1.ext ((xZ _).alloc _)) Ik.u.2.2 (iJ u HP.u.2.2.1).2);clear g1 g2 g3 g4)
        obtain ⟨lp,MG⟩:=ex (p.1.length);have HLP:=hY MG;have aqO:Hid (lp<=3):=by rw [<-MG];exact HP.u.2.2.2
        obtain ⟨gw,uw,hXw,-,hvw,hcw,-⟩:=AK HT9.u.ow hiL;obtain ⟨A1,c1,Dk,eu,-⟩:=HT9.u.rw_.2 i p.1 (by rw [rY,HP.u.1];rfl);rw [hvw] at Dk
        cases Dk
        subst hXw;rw [MG] at eu hcw;have aei:=hY eu;have av1:gw<w9.heap.size:=(HT9.u.ow.lt gw rfl).2;have Kj:Hid (∀w',Ext w9 w'->w'.cell? (aA gk k)=some (iI kk)):=fun w' hx=>ajH (HT9.u.k.ext hx) HK6.u vG.u
        clear hvw MG eu kN Ik aqU gv amm q0 q1;refine dt (S:=(fun w'=>w'.cell? (aA gk k)=some (iI kk))) af (Kj.u _ (xZ w9).drew) (fun aEQ=>?_);refine tq 0 ?_;refine tq 2 ?_;refine tq 3 ?_;refine tq 4 ?_;refine tq 7 ?_;refine tq 8 ?_;refine tq 9 ?_;refine tq 10 ?_;refine o2 1 5 (fun K hK=>?_) fun K hK=>?_
        ·skip;go_simp;refine ov hK (Kj.u _ (((xZ w9).alloc _).drew)) fun aEQ=>?_
         have amo:((w9.alloc (cO #[] 39)).drew).cell? (aA gw i)=some (.slice A1 lp c1):=(Below.cell (((xZ w9).alloc (cO #[] 39)).drew) (p:=(aA gw i)) av1).trans hcw;refine o1 5 fun K hK=>?_
         go_simp;refine ov hK (Kj.u _ (((xZ w9).alloc _).drew)) fun aEQ=>?_
         clear amo hcw
         exact Ki
        ·skip;have amo:w9.drew.cell? (aA gw i)=some (.slice A1 lp c1):=hcw;go_simp;refine ov hK (Kj.u _ (xZ w9).drew) fun aEQ=>?_
         clear amo hcw;refine o1 1 fun K hK=>?_
         go_simp;refine ov hK (Kj.u _ (((xZ w9).alloc _).drew)) fun aEQ=>?_
         exact Ki
     ·have av2:k=6:=aa
      subst av2;have lY:Hid (JR w wr gk A c Xw cw vs Xt ct ps (kJ (6*(i+1)))):=bf.u;have e6:(kJ (6*i+6)).length=(kJ (6*(i+1))).length:=rfl;rw [e6];clear bf e6;go_wp2;go_roundw
      case rel=>exact ⟨i+1,Xw,cw,vs,Xt,ct,ps,oM HI4.u,by first|rfl|rw [dy.u.1]|rw [dy.u.2],rfl,rfl,lY⟩
      case measure=>simp [intOf,dy.u.2];have:=HI4.u;omega
   ·have hfd:decide (f<0)=false:=sU KX
    go_wp2;go_ret2;refine ⟨6*i,gk,Xw,cw,vs,Xt,ct,ps,?_,aa,by rw [HF.u];omega,gv.u⟩;rw [By.u];rfl
  ·have aqV:i=24:=by
    rcases od i 24 with h9|h9
    ·have h8:=akY h9;omega
    ·omega
   have HFF:Hid (0<=JQ ((kJ (6*i)).map (·.2)) t):=by rw [aqV];exact Yc Sg.u
   clear aqV hL;go_wp2;go_ret2;refine ⟨6*i,gk,Xw,cw,vs,Xt,ct,ps,?_,aa,HFF.u,bf.u⟩;rw [By.u];rfl
theorem MX {s:List (List Gt ×List Pa)} {t:List Pa}:∀{f k:Nat},k+f=s.length->0<=yd (s.map (·.2)) t f k->∃(j:Nat) (p:List Gt ×List Pa),yd (s.map (·.2)) t f k=(j:Int)/\s[j]?=some p/\(s.drop k).find? (fun q=>tJ q.2 t)=some p
 |0,k,h,h0=>absurd h0 (by show ¬(0:Int)<= -1;omega)
 |f+1,k,h,h0=>by
  have hk:k<s.length:=aa
  have hs:s[k]?=some s[k]:=lB hk;have hu:(s.map (·.2))[k]?=some s[k].2:=by rw [rY,hs];rfl
  rw [Bn hk]
  cases he:tJ s[k].2 t
  ·rw [xM hu he] at h0 |-;obtain ⟨j,p,h1,h2,h3⟩:=MX aa h0
   exact ⟨j,p,h1,h2,by rw [List.find?_cons,he];exact h3⟩
  ·rw [Ck hu he]
   exact ⟨k,_,rfl,hs,by rw [List.find?_cons,he]⟩
theorem ah8 {j:Nat} {t:List Pa} (hj:j<=144) (h:0<=JQ ((kJ j).map (·.2)) t):∃(k:Nat) (p:List Gt ×List Pa),JQ ((kJ j).map (·.2)) t=(k:Int)/\(kJ j)[k]?=some p/\p.1=cwd t:=by
 unfold JQ at h |-;rw [jK] at h |-;obtain ⟨k,p,h1,h2,h3⟩:=MX aa h;refine ⟨k,p,h1,h2,?_⟩;rw [Bp] at h3;obtain ⟨r,hr⟩:=Ow hj;unfold cwd;rw [<-hr,List.find?_append,h3];rfl
theorem vw (A:OA) (c:Nat) (t:List Pa) (w:World) (h:Rd w w.heap.size 4 A 2 (aX t)) (hc:2<=c) (zG:zw t=true):
  Calls prog 200 #[.agg #[iI 1,.slice A 2 c]] w fun e w'=>(∃v,e=.returned (.tuple #[v,.bool true])/\w'.ownsRow w.heap.size 39 4 v (cwd t).length (aq (cwd t)))/\Ext w w':=by
 have hvt:=iJ t zG;have MR:=hY hvt.2;have Sg:=hY zG;have HR:=hY h;have cH:Hid (Ext w (w.alloc (cO #[iI 1,.slice A 2 c] 207))):=(xZ w).alloc _;have jI:Hid (au (w.alloc (cO #[iI 1,.slice A 2 c] 207)) w.heap.size 207 #[iI 1,.slice A 2 c]):=au.new w _ _;have HV:Hid (∀w',Ext w w'->Calls prog 202 #[.agg #[iI 1,.slice A 2 c]] w' fun e w''=>e=.returned (.bool true)/\Ext w' w''):=fun w' hx=>by
  have h9:=dp A c 1 t w' (by rw [hvt.2];exact h.ext hx) (by rw [hvt.2];omega) (by rw [hvt.2];exact hc);rw [hvt.2,hvt.1] at h9
  exact h9
 clear h zG hvt;go_enter func200,ntmps200;go_upto_region 1 with fail;generalize w.alloc (cO #[iI 1,.slice A 2 c] 207)=W1 at*
 obtain ⟨⟨t0,t1⟩,-⟩:=bu jI.u;go_wp2_with fail;refine (HV.u _ cH.u).mono ?_;rintro e w2 ⟨rfl,bz⟩;have eK:Hid (Ext w w2):=cH.u.trans bz;have dv:=hY (jI.u.ext bz);clear t0 t1 cH jI HV bz;obtain ⟨⟨t0,t1⟩,-⟩:=bu dv.u;go_wp2_with fail;refine (Vp A c t _ (HR.u.ext eK.u) hc Sg.u).mono ?_;rintro e w3 ⟨j,gk,Xw,cw,vs,Xt,ct,ps,rfl,hj,hf,KT⟩;have bf:=hY KT;have fD:Hid (Ext w w3):=eK.u.trans KT.x;have nT:=hY (dv.u.ext KT.x);have hlj:=Ox hj;obtain ⟨k,p,hfk,hp,hcw⟩:=ah8 hj hf;have HP:=hY (lQ hp hcw);have wE:k<(kJ j).length:=(gu.1 hp).1;obtain ⟨L,hL⟩:=ex ((kJ j).length);have By:=hY hL;have HFI:Hid (∀w',Ext w3 w'->Calls prog 213 #[.slice Xt L ct,.agg #[iI 1,.slice A 2 c]] w' fun e w''=>e=.returned (iI (k:Int))/\Ext w' w''):=fun w' hx=>by
  have ho:=aj KT.ot hx;rw [hL] at ho;have h9:=xe Xt L ct ps _ A c t w' (Rd.own ho) (KT.rt.ext hx) aa (HR.u.ext (fD.u.trans hx)) hc MR.u;rw [hfk] at h9
  exact h9
 rw [hL] at wE hlj |-;clear KT hf hfk hp hcw hL eK dv t0 t1 hj;obtain ⟨⟨t0,t1⟩,-⟩:=bu nT.u;go_wp2_with fail;refine (HFI.u _ (xZ _)).mono ?_;rintro e w4 ⟨rfl,fy⟩;have aaj:Hid (JR w2 w4 gk A c Xw cw vs Xt ct ps (kJ j)):=bf.u.ext fy;have qC:Hid (Ext w w4):=fD.u.trans fy;clear bf fD nT t0 t1 HFI fy;have lu:decide ((k:Int)<0)=false:=ag
 have how:=aaj.u.ow;rw [By.u] at how;obtain ⟨gw,uw,hXw,-,hvw,hcw,-⟩:=AK how wE;obtain ⟨A1,c1,Dk,eu,-⟩:=aaj.u.rw_.2 k (cwd t) (by rw [rY,HP.u.1,<-HP.u.2];rfl);rw [hvw] at Dk
 cases Dk
 subst hXw;have hgw:gw<w4.heap.size:=(how.lt gw rfl).2;have YP:=hY (Rd.own eu);have EN:=Oy t;clear how hvw eu;go_wp2_with (at_builtin;refine dm (w0:=w) rfl _ _ rfl _ 0 [] rfl (aN w w4 _ 4 qC.u) (qC.u.alloc _) A1 _ c1 (cwd t) rfl (YP.u.ext ((xZ _).alloc _)) aa ?_;intro v9 w9 g1 g2 g3 g4;rw [lM,lN] at g1;have HO:=hY (lQ g1 g2);clear g1 g2 g3 g4)
 go_ret2
 exact ⟨⟨_,rfl,HO.u.1⟩,HO.u.2⟩
def ngP (sy:List Int) (k:Nat):List Gt:=(sy.take k).flatMap fun m=>ep m++[gz 7]
theorem aeG {sy:List Int} {k:Nat} {m:Int} (h:sy[k]?=some m):ngP sy (k+1)=(ngP sy k++ep m)++[gz 7]:=by
 unfold ngP;rw [aS h,lR,vJ];simp
theorem ah9 (sy:List Int) (k:Nat):(ngP sy k).length<=3*sy.length:=by
 have h1:=Oz (sy.take k);have h2:(sy.take k).length<=sy.length:=fW
 unfold ngP;omega
structure SP (w0 W:World) (Y:OA) (n cy:Nat) (A:OA) (c:Nat) (Ao:OA) (lo co:Nat) (os:List Gt):Prop where
 b:au W w0.heap.size 234 #[.slice Y n cy,iI 1,.slice A 2 c]
 o:W.ownsRow w0.heap.size 39 4 (.slice Ao lo co) lo (aq os)
 x:Ext w0 W
section
variable {w0 W W':World} {Y A Ao A':OA} {n cy c lo co l' c':Nat} {os os':List Gt}
theorem SP.ext (h:SP w0 W Y n cy A c Ao lo co os) (hx:Ext W W'):SP w0 W' Y n cy A c Ao lo co os:=⟨h.b.ext hx,aj h.o hx,h.x.trans hx⟩
theorem SP.u (h:SP w0 W Y n cy A c Ao lo co os) (ho:W'.ownsRow w0.heap.size 39 4 (.slice A' l' c') l' (aq os')) (hx:Ext w0 W') (hg:W.grownBy W' (Value.slice Ao lo co).ownBlock):SP w0 W' Y n cy A c A' l' c' os':=
 ⟨cV h.b h.o ae hg,ho,hx⟩
end
theorem rT (v:Value) (s:Nf) (w:World) (h:Jz w v s) (hn:s.sy.length<=400000000000) (hc:zw s.cl=true) (hy:UJ s.sy=true):
  Calls prog 186 #[v] w fun e w'=>(∃u,e=.returned u/\w'.ownsRow w.heap.size 39 4 u (Lq s).length (aq (Lq s)))/\Ext w w':=by
 have HNF:=hY h;obtain ⟨Y,cy,A,c,rfl,Lb,Lz,XJ,sW⟩:=h;obtain ⟨sy,cl⟩:=s;simp only at Lb Lz XJ hn hc hy;have Sg:=hY hc;have HVS:=hY hy;have ajL:=fun k=>ah9 sy k
 have HPL:Hid (∀k,(ngP sy k).length<=1200000000000):=fun k=>oM (ajL k)
 obtain ⟨n,Bk⟩:=ex (sy.length);have HN:=hY Bk;have aea:(⟨sy,cl⟩:Nf).sy.length=n:=Bk;rw [Bk] at Lb XJ hn;have HRY:=hY Lb;have HRA:=hY Lz;have cH:Hid (Ext w (w.alloc (cO #[.slice Y n cy,iI 1,.slice A 2 c] 234))):=(xZ w).alloc _;have jI:Hid (au (w.alloc (cO #[.slice Y n cy,iI 1,.slice A 2 c] 234)) w.heap.size 234 #[.slice Y n cy,iI 1,.slice A 2 c]):=au.new w _ _;rw [aea] at HNF |-;clear Lb Lz hc hy Bk aea ajL;go_enter func186,ntmps186;go_upto_region 1 with fail;have hW1:(w.alloc (cO #[.slice Y n cy,iI 1,.slice A 2 c] 234)).heap.size=w.heap.size+1:=bX _ _;generalize w.alloc (cO #[.slice Y n cy,iI 1,.slice A 2 c] 234)=W1 at*
 go_upto_region 2 with fail;have Bf:Hid (SP w (W1.alloc (cO #[] 39)) Y n cy A c (some ⟨w.heap.size+1,0,none⟩) 0 0 (ngP sy 0)):=⟨jI.u.alloc _,(by have h9:=aN w W1 39 4 cH.u;rw [hW1] at h9;exact h9),cH.u.alloc _⟩;clear cH jI;generalize W1.alloc (cO #[] 39)=W2 at*
 obtain ⟨⟨b0,b1,b2⟩,-⟩:=cX Bf.u.b;go_wp2_with fail;refine (jh _ ⟨sy,cl⟩ _ (HNF.u.ext Bf.u.x) (by show sy.length<=_;rw [HN.u];omega) Sg.u HVS.u).mono ?_;rintro e w3 ⟨rfl,bO⟩;have Dl:=hY (Bf.u.ext bO);clear bO Bf b0 b1 b2 hW1;go_wp2
 go_loopw [3,4] (fun ov iv wr=>∃(k:Nat) (Ao:OA) (co:Nat),k<=n/\iv=iI k/\ov=.slice Ao (ngP sy k).length co/\Hid (SP w wr Y n cy A c Ao (ngP sy k).length co (ngP sy k))) (fun _ i _=>n - (intOf i).toNat)
 case atStart=>exact ⟨0,_,0,lJ _,rfl,rfl,Dl⟩
 case round=>
  clear Dl;obtain ⟨k,Ao,co,hk,rfl,rfl,HS⟩:=hrel;obtain ⟨⟨b0,b1,b2⟩,-⟩:=cX HS.u.b;have zV:=HPL.u k;obtain ⟨lo,qe⟩:=ex ((ngP sy k).length);have Jl:=hY qe;rw [qe] at HS zV |-;clear qe
  by_cases ba:k<n
  ·obtain ⟨m,hm⟩:∃m,sy[k]?=some m:=⟨_,lB (by rw [HN.u];exact ba)⟩;have HP:=hY (aeG hm);obtain ⟨b,o,x,rfl,hb,hx,Pn⟩:=du (HRY.u.ext HS.u.x) ba;rw [hm] at hx
   cases hx
   have bZ:=hY ba;have hcr:=wM m;have dy:=hY (wC k aa);clear hm hb;go_wp2_with fail;refine (eH m _).mono ?_;rintro e w5 ⟨⟨v5,rfl,kg⟩,cI⟩;obtain ⟨A5,c5,rfl,DX⟩:=ak kg;have HS5:=hY (HS.u.ext cI);have Ik:=hY DX;clear cI kg DX HS b0 b1 b2 Pn;go_wp2_with (at_builtin;refine dm (w0:=w) rfl _ _ rfl _ _ _ rfl HS5.u.o HS5.u.x A5 _ c5 _ rfl Ik.u aa ?_;intro v6 w6 t1 t2 t3 t4;obtain ⟨A6,c6,rfl,-⟩:=ak t1;have vE:=hY (HS5.u.u t1 t2 t3);clear t1 t2 t3 t4)
   refine (aP 7 0 _ (xZ _)).mono ?_;rintro e w7 ⟨rfl,gG⟩;have Fu:=hY (vE.u.ext gG);clear gG vE HS5;go_wp2_with (at_builtin;refine fJ (w0:=w) rfl _ _ rfl _ _ _ rfl Fu.u.o Fu.u.x (gz 7) _ _ rfl rfl aa ?_;intro v9 w9 t1 t2 t3 t4;obtain ⟨A9,c9,rfl,-⟩:=ak t1;have HS9:=hY ((Fu.u.ext ((xZ _).alloc _)).u t1 t2 t3);clear t1 t2 t3 t4)
   go_roundw
   case rel=>exact ⟨k+1,A9,c9,oM bZ.u,by first|rfl|rw [dy.u.1]|rw [dy.u.2],by rw [HP.u,lA,lA,Jl.u];rfl,by rw [HP.u,lA,lA,Jl.u];exact HS9⟩
   case measure=>simp [intOf,dy.u.2];have:=bZ.u;omega
  ·have jJ:k=n:=aa
   subst jJ;have HPA:Hid (ngP sy k=(sy.flatMap fun m=>ep m++[gz 7])):=by unfold Hid ngP;rw [lE (by rw [HN.u];exact lI _)]
   have EN:=Oy cl;go_wp2_with fail;refine (vw A c cl _ (HRA.u.ext HS.u.x) sW Sg.u).mono ?_;rintro e w7 ⟨⟨v7,rfl,DY⟩,gG⟩;obtain ⟨A7,c7,rfl,Fq⟩:=ak DY;have gH:=hY (lQ (HS.u.ext gG).o (lQ (HS.u.ext gG).x Fq));clear gG DY Fq;go_wp2_with (at_builtin;refine dm (w0:=w) rfl _ _ rfl _ _ _ rfl gH.u.1 gH.u.2.1 A7 _ c7 _ rfl gH.u.2.2 aa ?_;intro v9 w9 g1 g2 g3 g4;have HO:=hY (lQ g1 g2);clear g1 g2 g3 g4)
   go_ret;refine ⟨⟨_,rfl,?_⟩,HO.u.2⟩;have h9:=HO.u.1;rw [HPA.u] at h9;have h8:=Jl.u;rw [HPA.u] at h8;unfold Lq;rw [lA,h8]
   exact h9
end Go.Proofs.YtodhjgngkkcjgaaGreatDoor
