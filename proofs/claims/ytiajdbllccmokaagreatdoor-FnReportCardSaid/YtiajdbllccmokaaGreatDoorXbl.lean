import Derived.Test.YtiajdbllccmokaaGreatDoorXbh
namespace Go.Proofs.YtiajdbllccmokaaGreatDoor
open Go.ChangeShapes Go.WideShapes Go.ChangeAt Go.RowKit Go.Deep Go.Proofs.Tryz
set_option linter.unusedVariables false
set_option linter.unusedSimpArgs false
set_option maxRecDepth 100000
set_option maxHeartbeats 16000000
structure Ud (w0 W:World) (gk:Nat) (A:OA) (c:Nat) (Xw:OA) (lw cw:Nat) (vs:List Value) (ws:List (List Gt)) (Xt:OA) (lt ct:Nat) (ps:List (OA ×Nat)) (ts:List (List Pa)):Prop where
 b:ay W w0.heap.size 147 #[iI 1,.slice A 2 c]
 k:ay W gk 3 #[iI 1,iI 2,iI 3,iI 4,iI 5,iI 6]
 ow:W.ownsRow (w0.heap.size+1) 37 1 (.slice Xw lw cw) lw vs
 rw_:Rows w0 W W.heap.size vs ws
 ot:W.ownsRow (w0.heap.size+1) 147 2 (.slice Xt lt ct) lt (pn ps)
 rt:tM W ps ts
 ne:Tne ps (.slice Xt lt ct)
 nw:Tne ps (.slice Xw lw cw)
 x:Ext w0 W
def EY (w0 W:World) (gk:Nat) (A:OA) (c:Nat) (Xw:OA) (cw:Nat) (vs:List Value) (Xt:OA) (ct:Nat) (ps:List (OA ×Nat)) (s:List (List Gt ×List Pa)):Prop:=
 Ud w0 W gk A c Xw s.length cw vs (s.map (·.1)) Xt s.length ct ps (s.map (·.2))
section
variable {w0 W W':World} {gk lw lt:Nat} {A Xw Xt Xw' Xt' A9:OA} {c cw ct cw' ct' d9:Nat} {vs:List Value} {ps:List (OA ×Nat)} {ws:List (List Gt)} {ts:List (List Pa)} {u:List Pa} {xs:List Gt}
theorem Ud.ext (h:Ud w0 W gk A c Xw lw cw vs ws Xt lt ct ps ts) (hx:Ext W W'):Ud w0 W' gk A c Xw lw cw vs ws Xt lt ct ps ts:=
 ⟨h.b.ext hx,h.k.ext hx,aq h.ow hx,(h.rw_.ext hx).more hx.size,aq h.ot hx,h.rt.ext hx,h.ne,h.nw,h.x.trans hx⟩
theorem Yp {w:World} {A:OA} {size n:Nat} {xs:List Value} (h:Rd w w.heap.size size A n xs) (hn:0<n) {b o:Nat} (e:A=some ⟨b,o,none⟩):b<w.heap.size:=by
 obtain ⟨b',o',e',hb,-⟩:=h.2 hn;rw [e] at e';injection e' with e';injection e' with e';omega
theorem adx {w:World} {B e s n:Nat} {v:Value} {ys:List Value} (h:w.ownsRow B e s v n ys) (he:e≠187) (hp:PB w A9):∀b o,A9=some ⟨b,o,none⟩->v.ownBlock≠some b:=fun b o e1=>by
 obtain ⟨cs,hb⟩:=hp b o e1
 exact jr h hb he
theorem EZ {P:Prop} (h:P:=by
 rw [FW] at e1;injection e1 with e1;obtain ⟨j,hj⟩:=Uk hm;have KD:j<ts.length:=by rw [<-h.rt.1];exact (gU.1 hj).1
 obtain ⟨A',c',e2,h2,-⟩:=h.rt.2 j _ (lB KD);rw [hj] at e2
 cases e2
 have:=Yp h2 aa e
 omega):P:=h
theorem Ud.tab (h:Ud w0 W gk A c Xw lw cw vs ws Xt lt ct ps ts) (ho:W'.ownsRow (w0.heap.size+1) 147 2 (.slice Xt' (lt+1) ct') (lt+1) (pn (ps++[(A9,d9)]))) (hg:W.grownBy W' (Value.slice Xt lt ct).ownBlock) (hx:Ext w0 W')
  (FW:(Value.slice Xt' (lt+1) ct').ownBlock=(Value.slice Xt lt ct).ownBlock\/(Value.slice Xt' (lt+1) ct').ownBlock=some W.heap.size) (hr:Rd W W.heap.size 4 A9 2 (aV u)) (hp:PB W A9) (hd:2<=d9) (hl:u.length=2):
  Ud w0 W' gk A c Xw lw cw vs ws Xt' (lt+1) ct' (ps++[(A9,d9)]) (ts++[u]):=by
 have hne:=adx h.ot ae hp;have hnw:=adx h.ow ae hp;refine ⟨h.b.grown hg (fun k hk e1=>oM ((h.ot.lt k hk).1)),cQ h.k h.ot ae hg,h.ow.kept hg (cX h.ow h.ot ae),(h.rw_.grown h.ot ae hg).more hg.size,ho,(h.rt.grown hg h.ne).snoc (Rd.Ye (B:=0) hr hg hne) hd hl,?_,?_,hx⟩
 ·intro p hm b o e e1;rcases mM.1 hm with hm|hm
  ·rcases FW with FW|FW
   ·rw [FW] at e1
    exact h.ne p hm b o e e1
   ·exact EZ
  ·rw [xt] at hm;subst hm;rcases FW with FW|FW
   ·rw [FW] at e1
    exact hne b o e e1
   ·rw [FW] at e1;injection e1 with e1;have:=Yp hr aa e;omega
 ·intro p hm b o e;rcases mM.1 hm with hm|hm
  ·exact h.nw p hm b o e
  ·rw [xt] at hm;subst hm
   exact hnw b o e
theorem Ud.word {A1:OA} {c1:Nat} (h:Ud w0 W gk A c Xw lw cw vs ws Xt lt ct ps ts) (ho:W'.ownsRow (w0.heap.size+1) 37 1 (.slice Xw' (lw+1) cw') (lw+1) (vs++[.slice A1 xs.length c1])) (hg:W.grownBy W' (Value.slice Xw lw cw).ownBlock) (hx:Ext w0 W')
  (FW:(Value.slice Xw' (lw+1) cw').ownBlock=(Value.slice Xw lw cw).ownBlock\/(Value.slice Xw' (lw+1) cw').ownBlock=some W.heap.size) (hr:W.ownsRow w0.heap.size 54 4 (.slice A1 xs.length c1) xs.length (ak xs)):
  Ud w0 W' gk A c Xw' (lw+1) cw' (vs++[.slice A1 xs.length c1]) (ws++[xs]) Xt lt ct ps ts:=by
 refine ⟨cQ h.b h.ow ae hg,cQ h.k h.ow ae hg,ho,((h.rw_.snoc hr (fun g hg=>(hr.lt g hg).2)).grown h.ow ae hg).more hg.size,h.ot.kept hg (cX h.ot h.ow ae),h.rt.grown hg h.nw,h.ne,?_,hx⟩;intro p hm b o e e1;rcases FW with FW|FW
 ·rw [FW] at e1
  exact h.nw p hm b o e e1
 ·exact EZ
end
theorem Re {w W:World} {cs:Array Value} {t:TypeId} (h:Ext w W) (hb:ay W w.heap.size t cs):Ext (w.alloc (.cells cs t)) W:=by
 refine ⟨h.os,h.tape,h.output,?_,?_⟩
 ·rw [bQ]
  exact hb.lt
 ·intro k hk;rw [bQ] at hk;rcases pA k w.heap.size with bh|tS
  ·exact (h.block k bh).trans ((Un w _ k bh).symm)
  ·have:k=w.heap.size:=aa
   subst this
   exact hb.trans (ay.new w t cs).symm
theorem Rf {t:List Pa} (h:vD t=true):0<=ET ((jI 144).map (·.2)) t:=by
 rw [show (144:Nat)=6*24 from rfl,Qy 24 (lI _),JV];obtain ⟨u,hu,he⟩:=yO.1 h;have h1:Ov.take (cnt 24)=Ov:=rfl;rw [h1]
 exact yO.2 ⟨u,hu,by rw [DD.1 he];exact DD.2 rfl⟩
theorem ady {W:World} {gk k:Nat} {kk:Int} (h:ay W gk 3 #[iI 1,iI 2,iI 3,iI 4,iI 5,iI 6]) (hk:k<6) (OC:kk=(k:Int)+1):W.cell? (aA gk k)=some (iI kk):=by
 rw [h.cell k,OC];rcases (show k=0\/k=1\/k=2\/k=3\/k=4\/k=5 by omega) with rfl|rfl|rfl|rfl|rfl|rfl<;>rfl
theorem Fa {P:Prop} (h:P:=by
 have QX:Hid ((w9.alloc (cO #[] 54)).drew.ownsRow w9.heap.size 54 4 (.slice (some ⟨w9.heap.size,0,none⟩) 0 0) 0 (ak [])/\Ext w9 (w9.alloc (cO #[] 54)).drew):=⟨aq (aJ w9 w9 _ 4 (xZ _)) (xZ _).drew,((xZ w9).alloc _).drew⟩;refine o1 6 fun K hK=>?_
 refine eE (w0:=w9) ah _ _ ah _ 0 [] ah QX.u.1 QX.u.2 A1 lp c1 p.1 ah (Rd.own (aq XN.u QX.u.2)) (oM ald.u) ?_;intro v8 w8 g1 g2 g3 g4;rw [lM,lN] at g1;obtain ⟨A8,c8,rfl,-⟩:=au g1;have vE:Hid (w8.ownsRow w9.heap.size 54 4 (.slice A8 lp c8) lp (ak p.1)/\Ext w9 w8):=⟨g1,g2⟩;clear g1 g2 g3 g4 QX;refine ov hK (Fb.u _ vE.u.2) fun ay4=>?_
 refine o1 11 fun K hK=>?_
 go_simp;refine (aM kk 0 _ (xZ _)).mono ?_;rintro e pd ⟨rfl,af0⟩;have ME:Hid (pd.ownsRow w9.heap.size 54 4 (.slice A8 lp c8) lp (ak p.1)/\Ext w9 pd):=⟨aq vE.u.1 af0,vE.u.2.trans af0⟩;clear af0 vE;refine ov hK (Fb.u _ ME.u.2) fun ay4=>?_
 refine o1 12 fun K hK=>?_
 go_simp;refine ov hK (Fb.u _ (ME.u.2.alloc _)) fun ay4=>?_
 refine o1 13 fun K hK=>?_
 refine eE (w0:=w9) ah _ _ ah _ lp p.1 ah (ME.u.1.alloc _) (ME.u.2.alloc _) _ 1 1 [gz kk] ah (eh pd _ 54 4 _ rfl rfl) (oM ald.u) ?_;intro v11 w11 g1 g2 g3 g4;obtain ⟨A11,c11,rfl,-⟩:=au g1;have Yq:Hid (w11.ownsRow w9.heap.size 54 4 (.slice A11 (lp+1) c11) (lp+1) (ak (p.1++[gz kk]))/\Ext w9 w11):=⟨g1,g2⟩;clear g1 g2 g3 g4 ME;refine ov hK (Fb.u _ Yq.u.2) fun ay4=>?_
 refine o1 14 fun K hK=>?_
 go_simp;refine ov hK (Fb.u _ (Yq.u.2.alloc _)) fun ay4=>?_
 refine o1 15 fun K hK=>?_
 have Yr:=hY (HT9.u.ext (Yq.u.2.alloc (cO #[.slice A11 (lp+1) c11] 37)));refine XM (w0:=w.alloc (cO #[iI 1,.slice A 2 c] 147)) ah _ _ ah _ L2 vs ah (by rw [bQ];exact Yr.u.ow) (Re Yr.u.x Yr.u.b) (.slice A11 (lp+1) c11) (Hv _ _ _) w11.heap.size ah (eh w11 _ 37 1 _ rfl rfl) aa ?_;intro v13 w13 g1 g2 g3 g4;obtain ⟨A13,c13,rfl,-⟩:=au g1;rw [bQ] at g1;have hlx:(p.1++[gz kk]).length=lp+1:=by rw [lA,HLP.u];rfl
 have af5:Hid (Ud w w13 gk A c A13 (L2+1) c13 (vs++[.slice A11 (p.1++[gz kk]).length c11]) ((jI (6*i+k)).map (·.1)++[p.1++[gz kk]]) Hz (L2+1) Ue (ps++[(A9,d9)]) ((jI (6*i+k)).map (·.2)++[u])):=
  Yr.u.word (by rw [hlx];exact g1) g3 (Ext.trans ((xZ w).alloc _) g2) g4 (by rw [hlx];exact aC (aq Yq.u.1 ((xZ _).alloc _)) HT9.u.x.size)
 clear g1 g2 g3 g4 hlx Yr Yq;refine ov hK (ady af5.u.k HK6.u py.u) fun ay4=>?_
 refine tq 16 ?_;refine dn ?_;have kg:Hid (EY w w13 gk A c A13 c13 (vs++[.slice A11 (p.1++[gz kk]).length c11]) Hz Ue (ps++[(A9,d9)]) (jI (6*i+(k+1)))):=by
  have h9:=af5.u;unfold Hid EY;rw [HEQ.u,lA,MF.u,mf,mf]
  exact h9
 have HLN:Hid ((jI (6*i+(k+1))).length=L2+1):=by unfold Hid;rw [HEQ.u,lA,MF.u];rfl
 clear af5 HT9 ay4 Fb XN;go_wp2;go_roundw
 case rel=>exact ⟨k+1,A13,c13,_,Hz,Ue,_,oM HK6.u,by first|rfl|rw [xi.u.1]|rw [xi.u.2],by rw [HLN.u],by rw [HLN.u],kg⟩
 case measure=>simp [intOf,xi.u.2];have:=HK6.u;omega):P:=h
theorem wX {P:Prop} (h:P:=by
 refine o1 14 fun K hK=>?_
 obtain ⟨⟨q0,q1⟩,f0,f1⟩:=bt dL.u;go_simp;have eQ:Hid (Ext wr ((w6.setCell (aA s 0) (iI 1)).setCell (aA s 1) (.slice A9 2 d9))):=dH (g:=s) dG.u sx _ _;have lX:Hid (ay ((w6.setCell (aA s 0) (iI 1)).setCell (aA s 1) (.slice A9 2 d9)) s 147 #[iI 1,.slice A9 2 d9]):=dL.u.dN _ _;refine ov hK (HK.u _ eQ.u) fun ay4=>?_
 refine tq 15 ?_;refine dn ?_;clear q0 q1 f0 f1 ay4;have rO:=WX rp.u.1 rp.u.2.1 dL.u (iI 1) (.slice A9 2 d9);have hd7:=rp.u.2.2;go_wp2_with fail
 go_meet
 exact ⟨s,A9,d9,rfl,rfl,eQ.u,lX.u,rO.1,rO.2,hd7⟩):P:=h
theorem Pm (A:OA) (c:Nat) (t:List Pa) (w:World) (h:Rd w w.heap.size 4 A 2 (aV t)) (hc:2<=c) (zh:vD t=true):
  Calls prog 151 #[.agg #[iI 1,.slice A 2 c]] w fun e w'=>∃(j gk:Nat) (Xw:OA) (cw:Nat) (vs:List Value) (Xt:OA) (ct:Nat) (ps:List (OA ×Nat)),e=.returned (.tuple #[.slice Xw (jI j).length cw,.slice Xt (jI j).length ct])/\j<=144/\0<=ET ((jI j).map (·.2)) t/\EY w w' gk A c Xw cw vs Xt ct ps (jI j):=by
 have oF:=(gL t zh).2;have Mo:=hY zh;have HR:=hY h;have Hw:=hY oF;clear h oF zh;go_enter func151,ntmps151;have dk:Hid (Ext w (((w.alloc (cO #[iI 1,.slice A 2 c] 147)).alloc (cO #[] 54)).alloc (cO #[.slice (some ⟨w.heap.size+1,0,none⟩) 0 0] 37))):=kB
 have eG:Hid (ay (((w.alloc (cO #[iI 1,.slice A 2 c] 147)).alloc (cO #[] 54)).alloc (cO #[.slice (some ⟨w.heap.size+1,0,none⟩) 0 0] 37)) w.heap.size 147 #[iI 1,.slice A 2 c]):=((ay.new w _ _).alloc _).alloc _;have HE0:Hid ((((w.alloc (cO #[iI 1,.slice A 2 c] 147)).alloc (cO #[] 54)).alloc (cO #[.slice (some ⟨w.heap.size+1,0,none⟩) 0 0] 37)).ownsRow (w.heap.size+1) 54 4 (.slice (some ⟨w.heap.size+1,0,none⟩) 0 0) 0 (ak [])):=by
  have h9:=aJ (w.alloc (cO #[iI 1,.slice A 2 c] 147)) (w.alloc (cO #[iI 1,.slice A 2 c] 147)) 54 4 (xZ _);rw [bQ] at h9
  exact h9.alloc _
 have HW0:Hid ((((w.alloc (cO #[iI 1,.slice A 2 c] 147)).alloc (cO #[] 54)).alloc (cO #[.slice (some ⟨w.heap.size+1,0,none⟩) 0 0] 37)).ownsRow (w.heap.size+1) 37 1 (.slice (some ⟨w.heap.size+1+1,0,none⟩) 1 1) 1 [.slice (some ⟨w.heap.size+1,0,none⟩) 0 0]):=by
  have h9:=bL (w0:=w.alloc (cO #[iI 1,.slice A 2 c] 147)) (W:=(w.alloc (cO #[iI 1,.slice A 2 c] 147)).alloc (cO #[] 54)) ((xZ _).alloc _) (w.heap.size+1+1) 37 1 1 #[.slice (some ⟨w.heap.size+1,0,none⟩) 0 0] _ (by rw [bQ,bQ]) rfl rfl aa;rw [bQ] at h9
  exact h9
 have HBW:Hid (ay (((w.alloc (cO #[iI 1,.slice A 2 c] 147)).alloc (cO #[] 54)).alloc (cO #[.slice (some ⟨w.heap.size+1,0,none⟩) 0 0] 37)) (w.heap.size+1+1) 37 #[.slice (some ⟨w.heap.size+1,0,none⟩) 0 0]):=ay.newAt (by rw [bQ,bQ]);go_upto_region 2 with fail;have OH:(((w.alloc (cO #[iI 1,.slice A 2 c] 147)).alloc (cO #[] 54)).alloc (cO #[.slice (some ⟨w.heap.size+1,0,none⟩) 0 0] 37)).heap.size=w.heap.size+1+1+1:=by rw [bQ,bQ,bQ]
 generalize (((w.alloc (cO #[iI 1,.slice A 2 c] 147)).alloc (cO #[] 54)).alloc (cO #[.slice (some ⟨w.heap.size+1,0,none⟩) 0 0] 37))=W0 at*
 go_wp2_with fail;refine (fw 1 _ aa aa).mono ?_;rintro e w2 ⟨⟨v,rfl,A0,c0,rfl,Hh,xf⟩,bH⟩;have MW:(RE (1:Int).toNat).length=2:=rfl;rw [MW] at Hh xf |-;have iY:Ext w2 ((w2.alloc (cO #[iI 1,.slice A0 2 c0] 147)).alloc (cO #[iI 1,iI 2,iI 3,iI 4,iI 5,iI 6] 3)):=((xZ w2).alloc _).alloc _;have aZ:Hid (EY w ((w2.alloc (cO #[iI 1,.slice A0 2 c0] 147)).alloc (cO #[iI 1,iI 2,iI 3,iI 4,iI 5,iI 6] 3)) (w2.heap.size+1) A c (some ⟨w.heap.size+1+1,0,none⟩) 1 [.slice (some ⟨w.heap.size+1,0,none⟩) 0 0] (some ⟨w2.heap.size,0,none⟩) 1 [(A0,c0)] (jI (6*0))):=by
  have fe:=bH.trans iY;have aw4:=bH.size;refine ⟨eG.u.ext fe,ay.newAt (bQ _ _).symm,aq HW0.u fe,?_,?_,?_,?_,?_,dk.u.trans fe⟩
  ·have h9:=Rows.snoc (w0:=w) (B:=W0.heap.size) (W:=W0) (vs:=[]) (xss:=[]) Rows.nil (A:=some ⟨w.heap.size+1,0,none⟩) (c:=0) (xs:=[]) (aC HE0.u aa) (fun g hg=>(HE0.u.lt g hg).2)
   exact (h9.ext fe).more fe.size
  ·have h9:=bL (w0:=W0) (W:=w2) bH w2.heap.size 147 2 1 #[iI 1,.slice A0 2 c0] (pn [(A0,c0)]) rfl rfl rfl aa
   exact aC (h9.alloc _) aa
  ·refine ⟨rfl,fun j u hj=>?_⟩
   cases j with
   |zero=>cases hj;exact ⟨A0,c0,rfl,Hh.ext iY,xf,rfl⟩
   |succ j=>cases hj
  ·intro p hp b o e e1;rw [xt] at hp;subst hp;have h9:(Value.slice (some ⟨w2.heap.size,0,none⟩) (jI (6*0)).length 1).ownBlock=some w2.heap.size:=rfl;rw [h9] at e1;injection e1 with e1;obtain ⟨b',o',e2,rb,-⟩:=Hh.2 aa;have e3:(some ⟨b,o,none⟩:OA)=some ⟨b',o',none⟩:=e.symm.trans e2;injection e3 with e3;injection e3 with e3;omega
  ·intro p hp b o e e1;rw [xt] at hp;subst hp;have h9:(Value.slice (some ⟨w.heap.size+1+1,0,none⟩) (jI (6*0)).length 1).ownBlock=some (w.heap.size+1+1):=rfl;rw [h9] at e1;injection e1 with e1;obtain ⟨b',o',e2,rb,xG⟩:=Hh.2 aa;have e3:(some ⟨b,o,none⟩:OA)=some ⟨b',o',none⟩:=e.symm.trans e2;injection e3 with e3;injection e3 with e3 e4;have h8:=xG 0 _ rfl;have h7:=(HBW.u.ext bH).cell (o'+0);rw [<-e3,<-e1,h7] at h8
   cases o' with
   |zero=>cases h8
   |succ o'=>cases h8
 clear Hh xf bH iY MW eG HE0 HW0 dk OH HBW;go_upto_region 4 with fail;generalize hgk:w2.heap.size+1=gk at*
 obtain ⟨gt,hgt⟩:=ex (w2.heap.size);rw [hgt] at aZ |-;generalize (w2.alloc (cO #[iI 1,.slice A0 2 c0] 147)).alloc (cO #[iI 1,iI 2,iI 3,iI 4,iI 5,iI 6] 3)=W4 at*
 clear hgk hgt;go_wp2
 go_loopw [4,5,7] (fun wv tv iv wr=>∃(i:Nat) (Xw:OA) (cw:Nat) (vs:List Value) (Xt:OA) (ct:Nat) (ps:List (OA ×Nat)),i<=24/\iv=iI i/\wv=.slice Xw (jI (6*i)).length cw/\tv=.slice Xt (jI (6*i)).length ct/\Hid (EY w wr gk A c Xw cw vs Xt ct ps (jI (6*i)))) (fun _ _ i _=>24 - (intOf i).toNat)
 case atStart=>exact ⟨0,_,1,_,_,1,_,aa,rfl,rfl,rfl,aZ⟩
 case round=>
  clear aZ;obtain ⟨i,Xw,cw,vs,Xt,ct,ps,hi,rfl,rfl,rfl,aZ⟩:=hrel;have XG:=Jl (j:=6*i) aa;obtain ⟨L,hL⟩:=ex ((jI (6*i)).length);have Bn:=hY hL;rw [hL] at XG |-
  by_cases bh:i<L
  ·have HFI:Hid (∀w',Ext wr w'->Calls prog 152 #[.slice Xt L ct,.agg #[iI 1,.slice A 2 c]] w' fun e w''=>e=.returned (iI (ET ((jI (6*i)).map (·.2)) t))/\Ext w' w''):=fun w' hx=>by
    have ho:=aq aZ.u.ot hx;rw [Bn.u] at ho
    exact tN Xt L ct ps _ A c t w' (Rd.own ho) (aZ.u.rt.ext hx) aa (HR.u.ext (aZ.u.x.trans hx)) hc Hw.u
   obtain ⟨⟨t0,t1⟩,-⟩:=bt aZ.u.b;have hfb:=Yf ((jI (6*i)).map (·.2)) t;obtain ⟨f,hf⟩:=ex (ET ((jI (6*i)).map (·.2)) t);have HF:=hY hf;rw [hf] at hfb HFI;clear hL hf;go_wp2_with fail;refine (HFI.u _ (xZ _)).mono ?_;rintro e w5 ⟨rfl,cN⟩;have fy:=hY (aZ.u.ext cN);clear aZ HFI cN t0 t1
   by_cases xl:f<0
   ·have hi4:i<24:=by
     rcases pA i 24 with h9|h9
     ·exact h9
     ·have h8:=Rf Mo.u;rw [show (144:Nat)=6*i by omega,HF.u] at h8;omega
    have hfd:decide (f<0)=true:=sU xl
    have HI4:=hY hi4;have bS:=hY bh;have JD:Hid (EY w w5 gk A c Xw cw vs Xt ct ps (jI (6*i+0))):=fy.u;have dP:=hY (wC i aa);clear fy HF hi4 hfb;go_upto_region 8 with fail
    go_loopw [4,5,8] (fun wv tv kv wr=>∃(k:Nat) (Xw:OA) (cw:Nat) (vs:List Value) (Xt:OA) (ct:Nat) (ps:List (OA ×Nat)),k<=6/\kv=iI k/\wv=.slice Xw (jI (6*i+k)).length cw/\tv=.slice Xt (jI (6*i+k)).length ct/\Hid (EY w wr gk A c Xw cw vs Xt ct ps (jI (6*i+k)))) (fun _ _ k _=>6 - (intOf k).toNat)
    case atStart=>exact ⟨0,Xw,cw,vs,Xt,ct,ps,aa,rfl,by rw [qY,Bn.u],by rw [qY,Bn.u],JD⟩
    case round=>
     clear JD;obtain ⟨k,Xw,cw,vs,Xt,ct,ps,hk,rfl,rfl,rfl,aZ⟩:=hrel
     by_cases hk6:k<6
     ·skip;have Tg:=Jl (j:=6*i+k) (oM HI4.u);have hiL:i<(jI (6*i+k)).length:=by
       have h8:=(Bv (6*i) k).length_le;rw [Bn.u] at h8;have:=bS.u;omega
      obtain ⟨p,hp⟩:∃p,(jI (6*i+k))[i]?=some p:=⟨_,lB hiL⟩;obtain ⟨alf,xq⟩:=afV (oM HI4.u) hp;obtain ⟨kk,OC⟩:∃kk:Int,kk=(k:Int)+1:=⟨_,rfl⟩;obtain ⟨u,hu,af6⟩:=pM alf (k:=kk) aa;obtain ⟨Au,cu,hpu,hru,ZI,MC⟩:=aZ.u.rt.2 i p.2 (by rw [sF,hp];rfl);obtain ⟨b,o,q,hXt,Tj,hq,JU⟩:=jO zD aa (Rd.own aZ.u.ot) hiL;subst hXt;rw [hq] at hpu
      cases hpu
      have HK:Hid (∀w',Ext wr w'->(w'.cell? (aA b (o+i*2))=some (iI 1)/\w'.cell? (aA b (o+i*2+1))=some (.slice Au 2 cu))/\w'.cell? (aA gk k)=some (iI kk)):=fun w' hx=>⟨⟨(hx.cell (p:=(aA b (o+i*2))) Tj).trans (JU 0 _ rfl),(hx.cell (p:=(aA b (o+i*2+1))) Tj).trans (JU 1 _ rfl)⟩,by
       have h9:=(aZ.u.k.ext hx).cell k;rw [h9,OC]
       rcases (show k=0\/k=1\/k=2\/k=3\/k=4\/k=5 by omega) with rfl|rfl|rfl|rfl|rfl|rfl<;>rfl⟩
      have QK:Hid (∀w',Ext wr w'->Calls prog 128 #[.agg #[iI 1,.slice Au 2 cu],.agg #[iI kk,iI 0,iI 0,iI 0]] w' fun e w''=>(∃(A9:OA) (d9:Nat),e=.returned (.tuple #[.agg #[iI 1,.slice A9 2 d9],.bool true])/\Rd w'' w''.heap.size 4 A9 2 (aV u)/\PB w'' A9/\2<=d9)/\Ext w' w''):=fun w' hx=>by
       have h9:=fH Au cu 1 p.2 (gz kk) w' (by rw [MC];exact hru.ext hx) (by rw [MC];omega) (by rw [MC];exact ZI);rw [MC] at h9;refine h9.mono ?_;rintro e w2 ⟨bz,bH⟩;rw [hu] at bz;obtain ⟨v9,he,A9,d9,rfl,h1,h2,h3⟩:=bz;have hul:=(gL _ af6).2;rw [hul] at he h1 h2
       exact ⟨⟨A9,d9,he,h1,h3,h2⟩,bH⟩
      have HP:=hY (lQ hp (lQ hu (lQ af6 xq)));have py:=hY OC;obtain ⟨L2,hL2⟩:=ex ((jI (6*i+k)).length);have MF:=hY hL2;rw [hL2] at hiL Tg |-;clear hp alf xq OC hu af6 hru ZI MC hq JU Tj hL2;have HK6:=hY hk6;have xi:=hY (wC k aa);go_upto_region 10 with fail
      go_cut [9,10] (fun s9 s10 wx=>∃(s:Nat) (A9:OA) (d9:Nat),s9=.pointer (some ⟨s,0,none⟩)/\s10=.bool true/\Ext wr wx/\ay wx s 147 #[iI 1,.slice A9 2 d9]/\Rd wx wx.heap.size 4 A9 2 (aV u)/\PB wx A9/\2<=d9)
      case first=>
       refine dm (S:=(fun w'=>(w'.cell? (aA b (o+i*2))=some (iI 1)/\w'.cell? (aA b (o+i*2+1))=some (.slice Au 2 cu))/\w'.cell? (aA gk k)=some (iI kk))) af (HK.u _ (xZ wr).drew) (fun ay4=>?_);refine tq 0 ?_;refine tq 1 ?_;refine tq 2 ?_;refine tq 3 ?_;refine tq 4 ?_;refine tq 5 ?_;refine tq 6 ?_;refine tq 7 ?_;refine o2 8 13 (fun K hK=>?_) fun K hK=>?_
       ·skip;go_simp;refine (aM kk 0 _ (xZ _)).mono ?_;rintro e v0 ⟨rfl,Tq⟩;have Fc:Hid (Ext wr v0):=Ext.trans ((xZ wr).drew) Tq;clear Tq;refine ov hK (HK.u _ Fc.u) fun ay4=>?_
        refine o2 9 13 (fun K hK=>?_) fun K hK=>?_
        ·skip;go_simp;refine (QK.u _ (Fc.u)).mono ?_;rintro e v1 ⟨⟨A9,d9,rfl,xr,MG,AU⟩,Gh⟩;have Gi:Hid (Ext wr v1):=Ext.trans (Fc.u) Gh;clear Gh;refine ov hK (HK.u _ Gi.u) fun ay4=>?_
         refine tq 10 ?_;refine tq 11 ?_;refine tq 12 ?_;refine o1 13 fun K hK=>?_
         go_simp;have dG:Hid (Ext wr (v1.alloc (cO jC 147))):=Gi.u.alloc _;have dL:Hid (ay (v1.alloc (cO jC 147)) v1.heap.size 147 jC):=ay.new _ _ _;have sx:wr.heap.size<=v1.heap.size:=Gi.u.size;have rp:Hid (Rd (v1.alloc (cO jC 147)) (v1.alloc (cO jC 147)).heap.size 4 A9 2 (aV u)/\PB (v1.alloc (cO jC 147)) A9/\2<=d9):=⟨xr.ext ((xZ _).alloc _),MG.ext ((xZ _).alloc _),AU⟩;clear xr MG AU;refine ov hK (HK.u _ dG.u) fun ay4=>?_
         generalize v1.alloc (cO jC 147)=w6 at*
         generalize Xc:v1.heap.size=s at*
         clear Xc Gi
         exact wX
        ·skip;go_simp;refine ov hK (HK.u _ (Fc.u.alloc (cO jC 147))) fun ay4=>?_
         have HBA:Hid (ay (v0.alloc (cO jC 147)) v0.heap.size 147 jC):=ay.new _ _ _;have QW:Hid (wr.heap.size<=v0.heap.size):=Fc.u.size;obtain ⟨s,hs⟩:=ex (v0.heap.size);rw [hs] at HBA |-;have Rc:Hid (wr.heap.size<=s):=by have:=QW.u;unfold Hid;omega
         clear hs QW;refine o1 9 fun K hK=>?_
         go_simp;refine (QK.u _ (Fc.u.alloc (cO jC 147))).mono ?_;rintro e v1 ⟨⟨A9,d9,rfl,xr,MG,AU⟩,Gh⟩;have af7:=hY ((HBA.u).ext Gh);have Gi:Hid (Ext wr v1):=Ext.trans (Fc.u.alloc (cO jC 147)) Gh;clear Gh;refine ov hK (HK.u _ Gi.u) fun ay4=>?_
         refine tq 10 ?_;refine tq 11 ?_;refine tq 12 ?_;have dG:=Gi;have dL:=hY (af7.u);have sx:wr.heap.size<=s:=Rc.u;have rp:=hY (lQ xr (lQ MG AU));clear xr MG AU;have JE:∃w6,w6=v1:=⟨_,rfl⟩;obtain ⟨w6,rfl⟩:=JE
         exact wX
       ·skip;go_simp;refine ov hK (HK.u _ (((xZ wr).alloc (cO jC 147)).drew)) fun ay4=>?_
        have HBA:Hid (ay ((wr.alloc (cO jC 147)).drew) wr.heap.size 147 jC):=ay.drew (ay.new wr 147 jC);have QW:Hid (wr.heap.size<=wr.heap.size):=lI _;obtain ⟨s,hs⟩:=ex (wr.heap.size);rw [hs] at HBA |-;have Rc:Hid (wr.heap.size<=s):=bZ
        clear hs QW;refine o1 8 fun K hK=>?_
        go_simp;refine (aM kk 0 _ (xZ _)).mono ?_;rintro e v0 ⟨rfl,Tq⟩;have aqn:=hY ((HBA.u).ext Tq);have Fc:Hid (Ext wr v0):=Ext.trans (((xZ wr).alloc (cO jC 147)).drew) Tq;clear Tq;refine ov hK (HK.u _ Fc.u) fun ay4=>?_
        refine o1 9 fun K hK=>?_
        go_simp;refine (QK.u _ (Fc.u)).mono ?_;rintro e v1 ⟨⟨A9,d9,rfl,xr,MG,AU⟩,Gh⟩;have af7:=hY ((aqn.u).ext Gh);have Gi:Hid (Ext wr v1):=Ext.trans (Fc.u) Gh;clear Gh;refine ov hK (HK.u _ Gi.u) fun ay4=>?_
        refine tq 10 ?_;refine tq 11 ?_;refine tq 12 ?_;have dG:=Gi;have dL:=hY (af7.u);have sx:wr.heap.size<=s:=Rc.u;have rp:=hY (lQ xr (lQ MG AU));clear xr MG AU;have JE:∃w6,w6=v1:=⟨_,rfl⟩;obtain ⟨w6,rfl⟩:=JE
        exact wX
      case rest=>
       obtain ⟨s,A9,d9,rfl,rfl,gJ,GM,BB,alh,AU⟩:=hcut;have eW:=hY (aZ.u.ext gJ);have lX:=hY GM;have rO:=hY (lQ BB (lQ alh AU));clear GM BB alh aZ HK QK gJ AU;have HFU:Hid (∀w',Ext wc w'->Calls prog 152 #[.slice (some ⟨b,o,none⟩) L2 ct,.agg #[iI 1,.slice A9 2 d9]] w' fun e w''=>e=.returned (iI (ET ((jI (6*i+k)).map (·.2)) u))/\Ext w' w''):=fun w' hx=>by
        have ho:=aq eW.u.ot hx;rw [MF.u] at ho
        exact tN (some ⟨b,o,none⟩) L2 ct ps _ A9 d9 u w' (Rd.own ho) (eW.u.rt.ext hx) aa (rO.u.1.ext hx) rO.u.2.2 (gL u HP.u.2.2.1).2
       obtain ⟨⟨q0,q1⟩,-⟩:=bt lX.u;have hfb:=Yf ((jI (6*i+k)).map (·.2)) u;obtain ⟨f,hf⟩:=ex (ET ((jI (6*i+k)).map (·.2)) u);have HFF:=hY hf;rw [hf,jk,MF.u] at hfb;rw [hf] at HFU;clear hf;go_wp2_with fail;refine (HFU.u _ (xZ _)).mono ?_;rintro e w5 ⟨rfl,cN⟩;have fy:=hY (eW.u.ext cN);have vB:=hY (lX.u.ext cN);have Ay:=hY (lQ (rO.u.1.ext cN) (lQ (rO.u.2.1.ext cN) rO.u.2.2));clear eW lX rO HFU q0 q1 cN
       by_cases xl:0<=f
       ·have aqp:decide (0<=f)=true:=sU xl
        have aqq:decide (f>=0)=true:=sU xl
        have HEQ:Hid (jI (6*i+(k+1))=jI (6*i+k)):=by
         unfold Hid;show jI (6*i+k+1)=_;rw [MB HK6.u]
         exact Yg HP.u.1 (by rw [<-py.u];exact HP.u.2.1) (by rw [HFF.u];exact xl)
        have kg:Hid (EY w w5 gk A c Xw cw vs (some ⟨b,o,none⟩) ct ps (jI (6*i+(k+1)))):=by unfold Hid;rw [HEQ.u];exact fy.u
        go_wp2;go_roundw
        case rel=>exact ⟨k+1,Xw,cw,vs,(some ⟨b,o,none⟩),ct,ps,oM HK6.u,by first|rfl|rw [xi.u.1]|rw [xi.u.2],by rw [HEQ.u,MF.u],by rw [HEQ.u,MF.u],kg⟩
        case measure=>simp [intOf,xi.u.2];have:=HK6.u;omega
       ·have aqp:decide (0<=f)=false:=sU xl
        have aqq:decide (f>=0)=false:=sU xl
        have HEQ:Hid (jI (6*i+(k+1))=jI (6*i+k)++[(p.1++[gz kk],u)]):=by
         unfold Hid;show jI (6*i+k+1)=_;rw [MB HK6.u];rw [<-py.u]
         exact Yh HP.u.1 HP.u.2.1 (by rw [HFF.u];omega)
        have af8:Hid (w5.ownsRow (w.alloc (cO #[iI 1,.slice A 2 c] 147)).heap.size 147 2 (.slice (some ⟨b,o,none⟩) L2 ct) L2 (pn ps)/\Ext (w.alloc (cO #[iI 1,.slice A 2 c] 147)) w5):=⟨by rw [bQ];have h9:=fy.u.ot;rw [MF.u] at h9;exact h9,Re fy.u.x fy.u.b⟩;have alj:Hid (Ud w w5 gk A c Xw L2 cw vs ((jI (6*i+k)).map (·.1)) (some ⟨b,o,none⟩) L2 ct ps ((jI (6*i+k)).map (·.2))):=by
         have h9:=fy.u;unfold EY at h9;rw [MF.u] at h9
         exact h9
        obtain ⟨⟨q0,q1⟩,-⟩:=bt vB.u;have aw8:L2<=24:=Tg.2;clear hfb xl HFF;go_upto_region 13 with (at_builtin;refine afU (w0:=w.alloc (cO #[iI 1,.slice A 2 c] 147)) rfl _ _ rfl _ L2 ps rfl af8.u.1 af8.u.2 (A9,d9) _ _ rfl rfl aa ?_;intro v9 w9 g1 g2 g3 g4;obtain ⟨Hz,Ue,rfl,-⟩:=au g1;rw [bQ] at g1;have HT9:=hY ((alj.u.ext ((xZ w5).alloc _)).tab g1 g3 (Ext.trans ((xZ w).alloc _) g2) (by rw [bQ];exact g4) (Ay.u.1.ext ((xZ _).alloc _)) (Ay.u.2.1.ext ((xZ _).alloc _)) Ay.u.2.2 (gL u HP.u.2.2.1).2);clear g1 g2 g3 g4)
        obtain ⟨lp,Hi⟩:=ex (p.1.length);have HLP:=hY Hi;have ald:Hid (lp<=3):=by rw [<-Hi];exact HP.u.2.2.2
        obtain ⟨gw,uw,hXw,-,hvw,To,-⟩:=wS HT9.u.ow hiL;obtain ⟨A1,c1,hv1,eF,-⟩:=HT9.u.rw_.2 i p.1 (by rw [sF,HP.u.1];rfl);rw [hvw] at hv1
        cases hv1
        subst hXw;rw [Hi] at eF To;have XN:=hY eF;have aqr:gw<w9.heap.size:=(HT9.u.ow.lt gw rfl).2;have Fb:Hid (∀w',Ext w9 w'->w'.cell? (aA gk k)=some (iI kk)):=fun w' hx=>ady (HT9.u.k.ext hx) HK6.u py.u
        clear hvw Hi eF vB Ay alj fy af8 q0 q1;refine dm (S:=(fun w'=>w'.cell? (aA gk k)=some (iI kk))) af (Fb.u _ (xZ w9).drew) (fun ay4=>?_);refine tq 0 ?_;refine tq 2 ?_;refine tq 3 ?_;refine tq 4 ?_;refine tq 7 ?_;refine tq 8 ?_;refine tq 9 ?_;refine tq 10 ?_;refine o2 1 5 (fun K hK=>?_) fun K hK=>?_
        ·skip;go_simp;refine ov hK (Fb.u _ (((xZ w9).alloc _).drew)) fun ay4=>?_
         have af9:((w9.alloc (cO #[] 54)).drew).cell? (aA gw i)=some (.slice A1 lp c1):=(Below.cell (((xZ w9).alloc (cO #[] 54)).drew) (p:=(aA gw i)) aqr).trans To;refine o1 5 fun K hK=>?_
         go_simp;refine ov hK (Fb.u _ (((xZ w9).alloc _).drew)) fun ay4=>?_
         clear af9 To
         exact Fa
        ·skip;have af9:w9.drew.cell? (aA gw i)=some (.slice A1 lp c1):=To;go_simp;refine ov hK (Fb.u _ (xZ w9).drew) fun ay4=>?_
         clear af9 To;refine o1 1 fun K hK=>?_
         go_simp;refine ov hK (Fb.u _ (((xZ w9).alloc _).drew)) fun ay4=>?_
         exact Fa
     ·have aqs:k=6:=aa
      subst aqs;have kg:Hid (EY w wr gk A c Xw cw vs Xt ct ps (jI (6*(i+1)))):=aZ.u;have e6:(jI (6*i+6)).length=(jI (6*(i+1))).length:=rfl;rw [e6];clear aZ e6;go_wp2;go_roundw
      case rel=>exact ⟨i+1,Xw,cw,vs,Xt,ct,ps,oM HI4.u,by first|rfl|rw [dP.u.1]|rw [dP.u.2],rfl,rfl,kg⟩
      case measure=>simp [intOf,dP.u.2];have:=HI4.u;omega
   ·have hfd:decide (f<0)=false:=sU xl
    go_wp2;go_ret2;refine ⟨6*i,gk,Xw,cw,vs,Xt,ct,ps,?_,aa,by rw [HF.u];omega,fy.u⟩;rw [Bn.u];rfl
  ·have alk:i=24:=by
    rcases pA i 24 with h9|h9
    ·have h8:=aeS h9;omega
    ·omega
   have HFF:Hid (0<=ET ((jI (6*i)).map (·.2)) t):=by rw [alk];exact Rf Mo.u
   clear alk hL;go_wp2;go_ret2;refine ⟨6*i,gk,Xw,cw,vs,Xt,ct,ps,?_,aa,HFF.u,aZ.u⟩;rw [Bn.u];rfl
theorem Ib {s:List (List Gt ×List Pa)} {t:List Pa}:∀{f k:Nat},k+f=s.length->0<=uA (s.map (·.2)) t f k->∃(j:Nat) (p:List Gt ×List Pa),uA (s.map (·.2)) t f k=(j:Int)/\s[j]?=some p/\(s.drop k).find? (fun q=>qx q.2 t)=some p
 |0,k,h,h0=>absurd h0 (by show ¬(0:Int)<= -1;omega)
 |f+1,k,h,h0=>by
  have hk:k<s.length:=aa
  have hs:s[k]?=some s[k]:=lB hk;have hu:(s.map (·.2))[k]?=some s[k].2:=by rw [sF,hs];rfl
  rw [xv hk]
  cases he:qx s[k].2 t
  ·rw [ug hu he] at h0 |-;obtain ⟨j,p,h1,h2,h3⟩:=Ib aa h0
   exact ⟨j,p,h1,h2,by rw [List.find?_cons,he];exact h3⟩
  ·rw [yy hu he]
   exact ⟨k,_,rfl,hs,by rw [List.find?_cons,he]⟩
theorem abZ {j:Nat} {t:List Pa} (hj:j<=144) (h:0<=ET ((jI j).map (·.2)) t):∃(k:Nat) (p:List Gt ×List Pa),ET ((jI j).map (·.2)) t=(k:Int)/\(jI j)[k]?=some p/\p.1=cwd t:=by
 unfold ET at h |-;rw [jk] at h |-;obtain ⟨k,p,h1,h2,h3⟩:=Ib aa h;refine ⟨k,p,h1,h2,?_⟩;rw [xE] at h3;obtain ⟨r,hr⟩:=Jk hj;unfold cwd;rw [<-hr,List.find?_append,h3];rfl
theorem se (A:OA) (c:Nat) (t:List Pa) (w:World) (h:Rd w w.heap.size 4 A 2 (aV t)) (hc:2<=c) (zh:vD t=true):
  Calls prog 139 #[.agg #[iI 1,.slice A 2 c]] w fun e w'=>(∃v,e=.returned (.tuple #[v,.bool true])/\w'.ownsRow w.heap.size 54 4 v (cwd t).length (ak (cwd t)))/\Ext w w':=by
 have hvt:=gL t zh;have Hw:=hY hvt.2;have Mo:=hY zh;have HR:=hY h;have dk:Hid (Ext w (w.alloc (cO #[iI 1,.slice A 2 c] 147))):=(xZ w).alloc _;have ie:Hid (ay (w.alloc (cO #[iI 1,.slice A 2 c] 147)) w.heap.size 147 #[iI 1,.slice A 2 c]):=ay.new w _ _;have HV:Hid (∀w',Ext w w'->Calls prog 141 #[.agg #[iI 1,.slice A 2 c]] w' fun e w''=>e=.returned (.bool true)/\Ext w' w''):=fun w' hx=>by
  have h9:=cC A c 1 t w' (by rw [hvt.2];exact h.ext hx) (by rw [hvt.2];omega) (by rw [hvt.2];exact hc);rw [hvt.2,hvt.1] at h9
  exact h9
 clear h zh hvt;go_enter func139,ntmps139;go_upto_region 1 with fail;generalize w.alloc (cO #[iI 1,.slice A 2 c] 147)=W1 at*
 obtain ⟨⟨t0,t1⟩,-⟩:=bt ie.u;go_wp2_with fail;refine (HV.u _ dk.u).mono ?_;rintro e w2 ⟨rfl,bH⟩;have kj:Hid (Ext w w2):=dk.u.trans bH;have fV:=hY (ie.u.ext bH);clear t0 t1 dk ie HV bH;obtain ⟨⟨t0,t1⟩,-⟩:=bt fV.u;go_wp2_with fail;refine (Pm A c t _ (HR.u.ext kj.u) hc Mo.u).mono ?_;rintro e w3 ⟨j,gk,Xw,cw,vs,Xt,ct,ps,rfl,hj,hf,FK⟩;have aZ:=hY FK;have iM:Hid (Ext w w3):=kj.u.trans FK.x;have lq:=hY (fV.u.ext FK.x);have hlj:=Jl hj;obtain ⟨k,p,hfk,hp,To⟩:=abZ hj hf;have HP:=hY (lQ hp To);have uo:k<(jI j).length:=(gU.1 hp).1;obtain ⟨L,hL⟩:=ex ((jI j).length);have Bn:=hY hL;have HFI:Hid (∀w',Ext w3 w'->Calls prog 152 #[.slice Xt L ct,.agg #[iI 1,.slice A 2 c]] w' fun e w''=>e=.returned (iI (k:Int))/\Ext w' w''):=fun w' hx=>by
  have ho:=aq FK.ot hx;rw [hL] at ho;have h9:=tN Xt L ct ps _ A c t w' (Rd.own ho) (FK.rt.ext hx) aa (HR.u.ext (iM.u.trans hx)) hc Hw.u;rw [hfk] at h9
  exact h9
 rw [hL] at uo hlj |-;clear FK hf hfk hp To hL kj fV t0 t1 hj;obtain ⟨⟨t0,t1⟩,-⟩:=bt lq.u;go_wp2_with fail;refine (HFI.u _ (xZ _)).mono ?_;rintro e w4 ⟨rfl,fe⟩;have Th:Hid (EY w2 w4 gk A c Xw cw vs Xt ct ps (jI j)):=aZ.u.ext fe;have Br:Hid (Ext w w4):=iM.u.trans fe;clear aZ iM lq t0 t1 HFI fe;have rE:decide ((k:Int)<0)=false:=ag
 have how:=Th.u.ow;rw [Bn.u] at how;obtain ⟨gw,uw,hXw,-,hvw,To,-⟩:=wS how uo;obtain ⟨A1,c1,hv1,eF,-⟩:=Th.u.rw_.2 k (cwd t) (by rw [sF,HP.u.1,<-HP.u.2];rfl);rw [hvw] at hv1
 cases hv1
 subst hXw;have hgw:gw<w4.heap.size:=(how.lt gw rfl).2;have RN:=hY (Rd.own eF);have hcl:=Jm t;clear how hvw eF;go_wp2_with (at_builtin;refine cU (w0:=w) rfl _ _ rfl _ 0 [] rfl (aJ w w4 _ 4 Br.u) (Br.u.alloc _) A1 _ c1 (cwd t) rfl (RN.u.ext ((xZ _).alloc _)) aa ?_;intro v9 w9 g1 g2 g3 g4;rw [lM,lN] at g1;have HO:=hY (lQ g1 g2);clear g1 g2 g3 g4)
 go_ret2
 exact ⟨⟨_,rfl,HO.u.1⟩,HO.u.2⟩
end Go.Proofs.YtiajdbllccmokaaGreatDoor
