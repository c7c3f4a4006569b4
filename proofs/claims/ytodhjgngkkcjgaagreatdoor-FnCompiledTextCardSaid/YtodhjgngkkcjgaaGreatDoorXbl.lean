import Derived.Test.YtodhjgngkkcjgaaGreatDoorXbh
namespace Go.Proofs.YtodhjgngkkcjgaaGreatDoor
open Go.ChangeShapes Go.WideShapes Go.ChangeAt Go.RowKit Go.Deep Go.Proofs.Tryz
set_option linter.unusedVariables false
set_option linter.unusedSimpArgs false
set_option maxRecDepth 100000
set_option maxHeartbeats 16000000
def okQ (a:Int) (g:Gt):Bool:=ar g.k==1 && vg g 4 && g.a==a
theorem Yk (xs:List Gt):ahk xs=xs.all (okQ (xs.headD ⟨0,0,0,0⟩).a):=rfl
theorem aie {gs:List Gt} {k:Nat} {x x0:Gt} (h0:gs[0]?=some x0) (hx:gs[k]?=some x) (h:okQ x0.a x=false):short gs=gs:=by
 have h1:ahk gs=false:=by
  rw [Yk];have e:(gs.headD ⟨0,0,0,0⟩)=x0:=by
   cases gs with
   |nil=>cases h0
   |cons y ys=>cases h0;rfl
  rw [e]
  cases ha:gs.all (okQ x0.a)
  ·rfl
  ·rw [lq.1 ha x (lG hx)] at h
   cases h
 unfold short;rw [h1];rfl
theorem aaz {gs:List Gt} (h:¬2<=gs.length):short gs=gs:=by
 unfold short;rw [aM];simp only [lF,kh]
 exact fun h1=>h h1.1.2
theorem Vs {gs:List Gt} (h:nG gs<=nG (Lq (Ai (gs.map Gt.k)))):short gs=gs:=by
 unfold short;rw [aM];simp only [lF,kh]
 exact fun h1=>oM h1.2
theorem aaA {gs:List Gt} (h1:ahk gs=true) (h2:2<=gs.length) (h:¬nG gs<=nG (Lq (Ai (gs.map Gt.k)))):short gs=OC gs:=by
 unfold short;rw [aY];simp only [lF,kh]
 exact ⟨⟨h1,h2⟩,aa⟩
theorem Du {α:Type} {f:α->Bool} {gs:List α} {k:Nat} {g:α} (h:gs[k]?=some g) (ha:(gs.take k).all f=true) (hc:f g=true):(gs.take (k+1)).all f=true:=by
 rw [aS h,qG,ha];simp [hc]
theorem arh {a:Int} {g:Gt} (h:okQ a g=true):1<=g.k/\g.k<=8:=by
 unfold okQ at h;simp only [lF,eS] at h;have h4:=h.1.1;unfold ar at h4;split at h4
 ·assumption
 ·split at h4
  ·omega
  ·split at h4<;>omega
theorem aaB {w:World} {B g n c:Nat} {xs:List Gt} {i:Nat} {x:Gt} (h:w.ownsRow B 39 4 (.slice (some ⟨g,0,none⟩) n c) n (aq xs)) (hx:xs[i]?=some x) (v:Int):
  (w.setCell (aA g (i*4+1)) (iI v)).ownsRow B 39 4 (.slice (some ⟨g,0,none⟩) n c) n (aq (xs.set i ⟨x.k,v,x.b,x.c⟩)):=by
 have h1:=(h.stored (i*4+1) (iI v)).1;have e:∀(xs:List Gt) (i:Nat),xs[i]?=some x->(aq xs).set (i*4+1) (iI v)=aq (xs.set i ⟨x.k,v,x.b,x.c⟩):=by
  intro xs
  induction xs with
  |nil=>intro i hi;simp at hi
  |cons y ys ih=>
   intro i hi
   cases i with
   |zero=>simp at hi;subst hi;rfl
   |succ i=>
    have e1:(i+1)*4+1=i*4+1+1+1+1+1:=aa
    rw [e1];simp only [aq,jQ,Gt.cells,DI,lN,TE,TT,true_and]
    exact ih i (sU hi)
 rw [e xs i hx] at h1
 exact h1
def Dv (a:Int) (os:List Gt) (k:Nat):List Gt:=(os.take k).map (fun g=>⟨g.k,a,g.b,g.c⟩)++os.drop k
theorem aif {a:Int} {os:List Gt} {k:Nat} (hk:k<os.length):(Dv a os k)[k]?=some os[k]:=by
 unfold Dv;rw [uS (by rw [jK,lT];omega),jK,lT,show k - min k os.length=0 by omega,vK,oh]
 exact lB hk
theorem aeZ {a:Int} {os:List Gt} {k:Nat} (hk:k<os.length):(Dv a os k).set k ⟨os[k].k,a,os[k].b,os[k].c⟩=Dv a os (k+1):=by
 unfold Dv;rw [aS (lB hk),qF,Bn hk,Ty _ _ (by rw [jK,lT];omega),jK,lT,show k - min k os.length=0 by omega,List.set_cons_zero,vJ];rfl
theorem awo (a:Int) (os:List Gt):Dv a os 0=os:=rfl
theorem SX (a:Int) (os:List Gt):Dv a os os.length=os.map (fun g=>⟨g.k,a,g.b,g.c⟩):=by
 unfold Dv;rw [pg,List.drop_length,yt]
theorem ay8 (ks:List Int) (k:Nat):ks.take k=ks.take k:=rfl
theorem Kz {P:Prop} (h:P:=by
 simp only [iG,jR] at he;obtain ⟨rfl,rfl,-⟩:=he;rw [hxh] at hy
 cases hy
 rw [ND,oh] at y1
 exact y1):P:=h
theorem oG (A:OA) (n c:Nat) (gs:List Gt) (w:World) (h:Rd w w.heap.size 4 A n (aq gs)) (hn:n<=400000000000):
  Calls prog 170 #[.slice A n c] w fun e w'=>(∃v,e=.returned v/\w'.ownsRow w.heap.size 39 4 v (short gs).length (aq (short gs)))/\Ext w w':=by
 have cT:=hY (h.len Gt.aG aa);have HR:=hY h;clear h;go_enter func170,ntmps170;go_upto_region 2 with (at_builtin;refine dm (w0:=w) rfl _ _ rfl _ 0 [] rfl (aN w w _ 4 (xZ _)) ((xZ w).alloc _) A n c gs rfl (HR.u.ext ((xZ _).alloc _)) aa ?_;intro v1 w1 g1 g2 g3 g4;rw [lM,lN] at g1;obtain ⟨As,cs,rfl,-⟩:=ak g1;have SS:=hY g1;have cH:=hY g2;clear g1 g2 g3 g4)
 have HZ0:Hid ((w1.alloc (cO #[] 39)).ownsRow w1.heap.size 39 4 (.slice (some ⟨w1.heap.size,0,none⟩) 0 0) 0 (aq (((gs.take 0).map Gt.k).map gz))/\Ext w1 (w1.alloc (cO #[] 39))):=⟨aN w1 w1 _ 4 (xZ _),(xZ w1).alloc _⟩;have ari:Hid ((gs.take 0).all (okQ (gs.headD ⟨0,0,0,0⟩).a)=true):=rfl;go_upto_region 3 with fail;go_wp2
 go_loopw [4,5] (fun zv iv wr=>∃(k:Nat) (Az:OA) (cz:Nat),k<=n/\iv=iI k/\zv=.slice Az k cz/\Hid ((gs.take k).all (okQ (gs.headD ⟨0,0,0,0⟩).a)=true)/\Hid (wr.ownsRow w1.heap.size 39 4 (.slice Az k cz) k (aq (((gs.take k).map Gt.k).map gz))/\Ext w1 wr)) (fun _ i _=>n - (intOf i).toNat)
 case atStart=>exact ⟨0,_,0,lJ _,rfl,rfl,ari,HZ0⟩
 case round=>
  clear HZ0 ari;obtain ⟨k,Az,cz,hk,rfl,rfl,FC,HZ⟩:=hrel
  by_cases ba:k<n
  ·skip;obtain ⟨b,o,x,rfl,-,hx,x0,x1,x2,x3⟩:=bT (HR.u.ext (cH.u.trans HZ.u.2)) ba;obtain ⟨xh,hxh⟩:∃xh,gs[0]?=some xh:=⟨_,lB jS⟩;have bZ:=hY ba;have wV:=hY (lQ hx hxh);have Tm:0<n:=aa
   have HK0:Hid (∀w',Ext w w'->w'.cell? (aA b (o+1))=some (iI xh.a)):=fun w' sr=>by
    obtain ⟨b2,o2,y,he,-,hy,-,y1,-⟩:=bT (HR.u.ext sr) Tm
    exact Kz
   have dy:=hY (wC k aa);clear hx hxh;go_upto_region 7 with fail;have HZ6:Hid ((wr.alloc (cO (gA x) 39)).ownsRow w1.heap.size 39 4 (.slice Az k cz) k (aq (((gs.take k).map Gt.k).map gz))/\Ext w1 (wr.alloc (cO (gA x) 39))):=⟨HZ.u.1.alloc _,HZ.u.2.alloc _⟩;have Lx:=hY (au.new wr 39 (gA x));clear HZ x0 x1 x2 x3;generalize wr.heap.size=gq at*
   generalize wr.alloc (cO (gA x) 39)=W6 at*
   have HK7:Hid (∀w',Ext W6 w'->(w'.cell? (aA gq 0)=some (iI x.k)/\w'.cell? (aA gq 1)=some (iI x.a)/\w'.cell? (aA gq 2)=some (iI x.b)/\w'.cell? (aA gq 3)=some (iI x.c))/\w'.cell? (aA b (o+1))=some (iI xh.a)):=fun w' sr=>⟨(aB (Lx.u.ext sr)).1,HK0.u _ ((cH.u.trans HZ6.u.2).trans sr)⟩
   have HVG:Hid (∀w',Calls prog 67 #[.agg (gA x),iI 4] w' fun e w''=>e=.returned (.bool (vg x 4))/\Ext w' w''):=fun w'=>bn x 4 w'
   go_cut [42] (fun s42 wx=>∃bb:Bool,s42=.bool bb/\bb=(!(okQ xh.a x))/\Ext W6 wx)
   case first=>
    by_cases et:ar x.k=1
    ·have e1:(ar x.k==1)=true:=sU et
     have e2:(ar x.k !=1)=false:=sU et
     cases hv:vg x 4
     ·skip;refine dt (S:=(fun w'=>(w'.cell? (aA gq 0)=some (iI x.k)/\w'.cell? (aA gq 1)=some (iI x.a)/\w'.cell? (aA gq 2)=some (iI x.b)/\w'.cell? (aA gq 3)=some (iI x.c))/\w'.cell? (aA b (o+1))=some (iI xh.a))) af (HK7.u _ (xZ W6).drew) (fun aEQ=>?_);refine tq 0 ?_;refine tq 1 ?_;refine o1 2 fun K hK=>?_
      go_simp;refine (bc x.k _).mono ?_;rintro e wq ⟨rfl,rfl⟩;refine ov hK (HK7.u _ (xZ _).drew) fun aEQ=>?_
      refine tq 3 ?_;refine tq 4 ?_;refine tq 5 ?_;refine o1 6 fun K hK=>?_
      go_simp;refine (HVG.u _).mono ?_;rintro e w7 ⟨rfl,gG⟩;have fz:Ext W6 w7:=Ext.trans (xZ W6).drew gG;rw [hv];refine ov hK (HK7.u _ fz) fun aEQ=>?_
      refine tq 7 ?_;refine tq 8 ?_;refine tq 9 ?_;refine sk 10 ?_;refine sk 11 ?_;refine sk 12 ?_;refine sk 13 ?_;refine sk 14 ?_;refine sk 15 ?_;refine sk 16 ?_;refine tq 17 ?_;refine dn ?_;go_wp2_with fail
      go_meet
      exact ⟨_,rfl,by unfold okQ;simp [et,hv],fz⟩
     ·skip;refine dt (S:=(fun w'=>(w'.cell? (aA gq 0)=some (iI x.k)/\w'.cell? (aA gq 1)=some (iI x.a)/\w'.cell? (aA gq 2)=some (iI x.b)/\w'.cell? (aA gq 3)=some (iI x.c))/\w'.cell? (aA b (o+1))=some (iI xh.a))) af (HK7.u _ (xZ W6).drew) (fun aEQ=>?_);refine tq 0 ?_;refine tq 1 ?_;refine o1 2 fun K hK=>?_
      go_simp;refine (bc x.k _).mono ?_;rintro e wq ⟨rfl,rfl⟩;refine ov hK (HK7.u _ (xZ _).drew) fun aEQ=>?_
      refine tq 3 ?_;refine tq 4 ?_;refine tq 5 ?_;refine o1 6 fun K hK=>?_
      go_simp;refine (HVG.u _).mono ?_;rintro e w7 ⟨rfl,gG⟩;have fz:Ext W6 w7:=Ext.trans (xZ W6).drew gG;rw [hv];refine ov hK (HK7.u _ fz) fun aEQ=>?_
      refine tq 7 ?_;refine tq 8 ?_;refine tq 9 ?_;refine tq 10 ?_;refine tq 11 ?_;refine tq 12 ?_;refine tq 13 ?_;refine tq 14 ?_;refine tq 15 ?_;refine tq 16 ?_;refine tq 17 ?_;refine dn ?_;go_wp2_with fail
      go_meet
      exact ⟨_,rfl,by unfold okQ;simp [et,hv,bne],fz⟩
    ·have e1:(ar x.k==1)=false:=sU et
     have e2:(ar x.k !=1)=true:=sU et
     refine dt (S:=(fun w'=>(w'.cell? (aA gq 0)=some (iI x.k)/\w'.cell? (aA gq 1)=some (iI x.a)/\w'.cell? (aA gq 2)=some (iI x.b)/\w'.cell? (aA gq 3)=some (iI x.c))/\w'.cell? (aA b (o+1))=some (iI xh.a))) af (HK7.u _ (xZ W6).drew) (fun aEQ=>?_);refine tq 0 ?_;refine tq 1 ?_;refine o1 2 fun K hK=>?_
     go_simp;refine (bc x.k _).mono ?_;rintro e wq ⟨rfl,rfl⟩;refine ov hK (HK7.u _ (xZ _).drew) fun aEQ=>?_
     refine tq 3 ?_;refine tq 4 ?_;refine sk 5 ?_;refine sk 6 ?_;refine sk 7 ?_;refine tq 8 ?_;refine tq 9 ?_;refine sk 10 ?_;refine sk 11 ?_;refine sk 12 ?_;refine sk 13 ?_;refine sk 14 ?_;refine sk 15 ?_;refine sk 16 ?_;refine tq 17 ?_;refine dn ?_;go_wp2_with fail
     go_meet
     exact ⟨_,rfl,by unfold okQ;simp [et],(xZ W6).drew⟩
   case rest=>
    obtain ⟨bb,rfl,WS,gG⟩:=hcut;have HZ7:Hid (wc.ownsRow w1.heap.size 39 4 (.slice Az k cz) k (aq (((gs.take k).map Gt.k).map gz))/\Ext w1 wc):=⟨aj HZ6.u.1 gG,HZ6.u.2.trans gG⟩;have LF:=hY (Lx.u.ext gG);clear HZ6 Lx gG HK7 HVG
    cases bb
    ·have Ln:Hid (okQ xh.a x=true):=by simpa [Hid] using WS
     clear WS;obtain ⟨⟨g0,g1,g2,g3⟩,-⟩:=aB LF.u;go_wp2_with fail;refine (aP x.k 0 _ (xZ _)).mono ?_;rintro e w8 ⟨rfl,uH⟩;have HZ8:Hid (w8.ownsRow w1.heap.size 39 4 (.slice Az k cz) k (aq (((gs.take k).map Gt.k).map gz))/\Ext w1 w8):=⟨aj HZ7.u.1 uH,HZ7.u.2.trans uH⟩;clear HZ7 LF uH g0 g1 g2 g3;have HTS:Hid (((gs.take (k+1)).map Gt.k).map gz=((gs.take k).map Gt.k).map gz++[gz x.k]):=by unfold Hid;rw [aS wV.u.1];simp
     have PJ:Hid ((gs.take (k+1)).all (okQ (gs.headD ⟨0,0,0,0⟩).a)=true):=by
      have e:(gs.headD ⟨0,0,0,0⟩)=xh:=by
       have h9:=wV.u.2
       cases gs with
       |nil=>cases h9
       |cons y ys=>cases h9;rfl
      exact Du wV.u.1 FC.u (by rw [e];exact Ln.u)
     go_wp2_with (at_builtin;refine fJ (w0:=w1) rfl _ _ rfl _ _ _ rfl HZ8.u.1 HZ8.u.2 (gz x.k) _ _ rfl rfl aa ?_;intro v9 w9 t1 t2 t3 t4;obtain ⟨A9,c9,rfl,-⟩:=ak t1;have HZ9:=hY (lQ t1 t2);clear t1 t2 t3 t4)
     go_roundw
     case rel=>exact ⟨k+1,A9,c9,oM bZ.u,by first|rfl|rw [dy.u.1]|rw [dy.u.2],rfl,PJ,by rw [HTS.u];exact HZ9⟩
     case measure=>simp [intOf,dy.u.2];have:=bZ.u;omega
    ·have HV:Hid (short gs=gs):=aie wV.u.2 wV.u.1 (sU WS);have fz:Hid (Ext w1 wc):=HZ7.u.2;clear WS;go_wp2_with fail;go_ret;rw [HV.u,cT.u]
     exact ⟨⟨_,rfl,aj SS.u fz.u⟩,cH.u.trans fz.u⟩
  ·skip;have jJ:k=n:=aa
   subst jJ;have HTK:Hid (gs.take k=gs):=lE il;rw [HTK.u] at FC HZ
   by_cases DP:k<2
   ·have KR:decide ((k:Int)<2)=true:=ai
    have HV:Hid (short gs=gs):=aaz jS;go_wp2_with fail;go_ret;rw [HV.u,cT.u]
    exact ⟨⟨_,rfl,aj SS.u HZ.u.2⟩,cH.u.trans HZ.u.2⟩
   ·have KR:decide ((k:Int)<2)=false:=ai
    have HKS:Hid (∀m∈gs.map Gt.k,1<=m/\m<=8):=fun m hm=>by
     obtain ⟨g,hg,rfl⟩:=qH.1 hm
     exact arh (lq.1 FC.u g hg)
    have aaC:=Fj HKS.u _ (lI _);rw [pg,jK,cT.u] at aaC;replace aaC:=hY aaC;have HRZ:=hY (Rd.own HZ.u.1);go_wp2_with fail;refine (qk Az k cz (gs.map Gt.k) _ HRZ.u aa HKS.u).mono ?_;rintro e w5 ⟨bD,cI⟩;unfold MP at bD;obtain ⟨v5,rfl,bj⟩:=bD;have jP:Hid (Ext w1 w5):=HZ.u.2.trans cI;have Wy:=bj.at_;obtain ⟨Y,cY,AA,cA,rfl,-⟩:=id Wy;have HAT:=hY Wy;have hlen:=aaC.u.l;generalize hnf:Ai (gs.map Gt.k)=nf at*
    have HNF:=hY hnf;obtain ⟨l,hl⟩:=ex (nf.sy.length);have By:=hY hl;rw [hl] at HAT hlen |-;clear bj Wy cI HZ HRZ hnf hl;go_upto_region 13 with fail;have HBN:=hY (au.new w5 234 #[.slice Y l cY,iI 1,.slice AA 2 cA]);have dL:=hY (jP.u.alloc (cO #[.slice Y l cY,iI 1,.slice AA 2 cA] 234));have arj:=hY (HAT.u.ext ((xZ _).alloc (cO #[.slice Y l cY,iI 1,.slice AA 2 cA] 234)));clear jP HAT;generalize w5.heap.size=gN at*
    generalize w5.alloc (cO #[.slice Y l cY,iI 1,.slice AA 2 cA] 234)=W6 at*
    obtain ⟨⟨b0,b1,b2⟩,-⟩:=cX HBN.u;go_wp2_with fail;refine (rT _ nf _ arj.u (by rw [By.u];omega) aaC.u.c aaC.u.y).mono ?_;rintro e w7 ⟨⟨v7,rfl,DY⟩,gG⟩;obtain ⟨Ao,co,rfl,-⟩:=ak DY;have hol:=RF nf;rw [By.u] at hol;obtain ⟨os,PD⟩:=ex (Lq nf);have Yd:=hY PD;rw [PD] at DY hol |-;obtain ⟨m,hm⟩:=ex (os.length);have HM:=hY hm;rw [hm] at DY hol |-;have gH:Hid (w7.ownsRow w.heap.size 39 4 (.slice Ao m co) m (aq os)/\Ext w1 w7):=⟨aC DY (cH.u.trans dL.u).size,dL.u.trans gG⟩;clear DY gG PD hm b0 b1 b2 HBN dL arj;have HRO:=hY (Rd.own gH.u.1);go_wp2_with fail;refine (sJ Ao m co os _ HRO.u aa).mono ?_;rintro e w8 ⟨rfl,uH⟩;have xF:Hid (w8.ownsRow w.heap.size 39 4 (.slice Ao m co) m (aq os)/\Ext w1 w8):=⟨aj gH.u.1 uH,gH.u.2.trans uH⟩;clear uH gH HRO;have HRG:=hY (HR.u.ext (cH.u.trans xF.u.2));go_wp2_with fail;refine (sJ A k c gs _ HRG.u aa).mono ?_;rintro e w9 ⟨rfl,nj⟩;have iD:Hid (w9.ownsRow w.heap.size 39 4 (.slice Ao m co) m (aq os)/\Ext w1 w9):=⟨aj xF.u.1 nj,xF.u.2.trans nj⟩;clear nj xF HRG
    by_cases Cs:nG gs<=nG os
    ·have hd3:decide ((nG gs:Int)<=(nG os:Int))=true:=ai
     have ZJ:decide ((nG os:Int)>=(nG gs:Int))=true:=ai
     have HV:Hid (short gs=gs):=Vs (by rw [HNF.u,Yd.u];exact Cs);go_wp2_with fail;go_ret;rw [HV.u,cT.u]
     exact ⟨⟨_,rfl,aj SS.u iD.u.2⟩,cH.u.trans iD.u.2⟩
    ·have hd3:decide ((nG gs:Int)<=(nG os:Int))=false:=ai
     have ZJ:decide ((nG os:Int)>=(nG gs:Int))=false:=ai
     have HV:Hid (short gs=Dv (gs.headD ⟨0,0,0,0⟩).a os m):=by
      unfold Hid;rw [aaA (by rw [Yk];exact FC.u) jS (by rw [HNF.u,Yd.u];exact Cs),<-HM.u,SX];unfold OC;rw [HNF.u,Yd.u]
     have lu:0<k:=aa
     obtain ⟨b,o,xh,rfl,-,hxh,-⟩:=bT HR.u lu;have HA0:Hid ((gs.headD ⟨0,0,0,0⟩).a=xh.a):=by
      cases gs with
      |nil=>cases hxh
      |cons y ys=>cases hxh;rfl
     rw [HA0.u] at HV;have HK0:Hid (∀w',Ext w w'->w'.cell? (aA b (o+1))=some (iI xh.a)):=fun w' sr=>by
      obtain ⟨b2,o2,y,he,-,hy,-,y1,-⟩:=bT (HR.u.ext sr) lu
      exact Kz
     have vG:=hY lu;have hmb:m<=2000000000000:=aa
     have qx:Hid (w9.ownsRow w.heap.size 39 4 (.slice Ao m co) m (aq (Dv xh.a os 0))/\Ext w w9):=⟨iD.u.1,cH.u.trans iD.u.2⟩;clear iD hxh hlen hol;have hd5:decide (nG gs<=nG os)=false:=ai
     go_wp2;clear Cs hd3 ZJ hd5 DP KR
     go_loopw [10] (fun iv wr=>∃j:Nat,j<=m/\iv=iI j/\Hid (wr.ownsRow w.heap.size 39 4 (.slice Ao m co) m (aq (Dv xh.a os j))/\Ext w wr)) (fun i _=>m - (intOf i).toNat)
     case atStart=>exact ⟨0,lJ _,rfl,qx⟩
     case round=>
      clear qx;obtain ⟨j,hj,rfl,HO⟩:=hrel
      by_cases hjm:j<m
      ·obtain ⟨go,rfl,-⟩:=ny HO.u.1 aa;have FX:j<os.length:=by rw [HM.u];exact hjm
       have HJM:=hY hjm;have y1:=HK0.u _ HO.u.2;have VL:=HO.u.1.frozenAt (j*4+1);obtain ⟨b3,o3,y,he,-,hy,-,z1,-⟩:=bT (Rd.own HO.u.1) hjm;simp only [iG,jR] at he;obtain ⟨rfl,rfl,-⟩:=he;rw [lM] at z1;have XT:Hid ((wr.setCell (aA go (j*4+1)) (iI xh.a)).ownsRow w.heap.size 39 4 (.slice (some ⟨go,0,none⟩) m co) m (aq (Dv xh.a os (j+1)))/\Ext w (wr.setCell (aA go (j*4+1)) (iI xh.a))):=by
        refine ⟨?_,HO.u.2.setCell (p:=(aA go (j*4+1))) (HO.u.1.lt go rfl).1 _⟩;have h9:=aaB HO.u.1 (aif FX) xh.a;rw [aeZ FX] at h9
        exact h9
       have dy:=hY (wC j aa);clear hy FX HO;go_wp2;go_roundw
       case rel=>exact ⟨j+1,oM HJM.u,by first|rfl|rw [dy.u.1]|rw [dy.u.2],XT⟩
       case measure=>simp [intOf,dy.u.2];have:=HJM.u;omega
      ·have VU:j=m:=aa
       subst VU;have HFL:Hid ((Dv xh.a os j).length=j):=by unfold Hid;rw [<-HM.u,SX,jK]
       go_wp2;go_ret;rw [HV.u,HFL.u]
       exact ⟨⟨_,rfl,HO.u.1⟩,HO.u.2⟩
def PQ (vs:Nat->Value) (q:Nat) (v:Value):Nat->Value:=fun i=>if i=q then v else vs i
theorem rb (vs:Nat->Value) (q:Nat) (v:Value):PQ vs q v q=v:=aY rfl
theorem oT {vs:Nat->Value} {p q:Nat} {v:Value} (h:p≠q):PQ vs q v p=vs p:=aM h
theorem ae1 (r:Nat->List Gt) (q:Nat) (xs:List Gt):WQ r q xs q=xs:=aY rfl
theorem ae2 {r:Nat->List Gt} {p q:Nat} {xs:List Gt} (h:p≠q):WQ r q xs p=r p:=aM h
theorem KA {w:World} {g k t u:Nat} {cs ds:Array Value} (h:au w g t cs) (h':au w k u ds) (he:t≠u):g≠k:=by
 rintro rfl;unfold au at h h';rw [h] at h';simp only [iG,Obj.cells.injEq] at h'
 exact he h'.2.1
structure SR (w0 W:World) (gR:Nat) (vo:Value) (os:List Gt) (vs:Nat->Value) (r:Nat->List Gt):Prop where
 b:au W gR 112 #[vs 0,vs 1,vs 2,vs 3]
 o:W.ownsRow w0.heap.size 39 4 vo os.length (aq os)
 row:∀q,q<4->W.ownsRow w0.heap.size 39 4 (vs q) (r q).length (aq (r q))
 no:∀q,q<4->∀b,(vs q).ownBlock=some b->vo.ownBlock≠some b
 nn:∀p q,p<4->q<4->p≠q->∀b,(vs p).ownBlock=some b->(vs q).ownBlock≠some b
 x:Ext w0 W
 le:w0.heap.size<=gR
section
variable {w0 W W':World} {gR q:Nat} {vo vo' v':Value} {os os' xs:List Gt} {vs:Nat->Value} {r:Nat->List Gt}
theorem SR.ext (h:SR w0 W gR vo os vs r) (hx:Ext W W'):SR w0 W' gR vo os vs r:=
 ⟨h.b.ext hx,aj h.o hx,fun q hq=>aj (h.row q hq) hx,h.no,h.nn,h.x.trans hx,h.le⟩
theorem SR.cell (h:SR w0 W gR vo os vs r) (hq:q<4):W.cell? (aA gR q)=some (vs q):=by
 rw [h.b.cell q];rcases (show q=0\/q=1\/q=2\/q=3 by omega) with rfl|rfl|rfl|rfl<;>rfl
theorem none_or {a row:Option Nat} (h:∀b,a=some b->row≠some b):a=none\/a≠row:=by
 cases a with
 |none=>exact .inl rfl
 |some b=>exact .inr (fun e=>h b rfl e.symm)
theorem Yl (hb:au W gR 112 #[vs 0,vs 1,vs 2,vs 3]) (hq:q<4) (u:Value):au (W.setCell (aA gR q) u) gR 112 #[PQ vs q u 0,PQ vs q u 1,PQ vs q u 2,PQ vs q u 3]:=by
 have h9:=hb.aU q u;rcases (show q=0\/q=1\/q=2\/q=3 by omega) with rfl|rfl|rfl|rfl<;>exact h9
theorem SR.app (h:SR w0 W gR vo os vs r) (hq:q<4) (ho:W'.ownsRow w0.heap.size 39 4 v' xs.length (aq xs)) (hg:W.grownBy W' (vs q).ownBlock) (hx:Ext w0 W') (hb:v'.ownBlock=(vs q).ownBlock\/v'.ownBlock=some W.heap.size):
  SR w0 (W'.setCell (aA gR q) v') gR vo os (PQ vs q v') (WQ r q xs):=by
 have hB:au W' gR 112 #[vs 0,vs 1,vs 2,vs 3]:=cV h.b (h.row q hq) ae hg;have hO:W'.ownsRow w0.heap.size 39 4 vo os.length (aq os):=h.o.kept hg (none_or (fun b e e2=>h.no q hq b e2 e));refine ⟨Yl hB hq v',gL hO hB ae _ _,fun p hp=>?_,fun p hp b e=>?_,fun p p' hp hp' hne b e=>?_,hx.setCell (p:=(aA gR q)) h.le _,h.le⟩
 ·by_cases DO:p=q
  ·subst DO;rw [rb,ae1]
   exact gL ho hB ae _ _
  ·rw [oT DO,ae2 DO]
   exact gL ((h.row p hp).kept hg (none_or (fun b e=>h.nn p q hp hq DO b e))) hB ae _ _
 ·by_cases DO:p=q
  ·subst DO;rw [rb] at e;rcases hb with hb|hb
   ·exact h.no p hp b (hb ▸ e)
   ·rw [hb] at e
    cases e
    intro e2;have:=(h.o.lt _ e2).2;omega
  ·rw [oT DO] at e
   exact h.no p hp b e
 ·have key:∀p,p<4->p≠q->∀b,(vs p).ownBlock=some b->v'.ownBlock≠some b:=fun p hp DO b e e2=>by
   rcases hb with hb|hb
   ·exact h.nn p q hp hq DO b e (hb ▸ e2)
   ·rw [hb] at e2
    cases e2
    have:=((h.row p hp).lt _ e).2;omega
  by_cases DO:p=q
  ·subst DO;rw [rb] at e;rw [oT (vV hne)];intro e2
   exact key p' hp' (vV hne) b e2 e
  ·rw [oT DO] at e
   by_cases ae3:p'=q
   ·subst ae3;rw [rb]
    exact key p hp DO b e
   ·rw [oT ae3]
    exact h.nn p p' hp hp' hne b e
theorem SR.nil (h:SR w0 W gR vo os vs r) (hq:q<4):SR w0 (W.setCell (aA gR q) (nS)) gR vo os (PQ vs q (nS)) (WQ r q []):=by
 refine ⟨Yl h.b hq _,gL h.o h.b ae _ _,fun p hp=>?_,fun p hp b e=>?_,fun p p' hp hp' hne b e=>?_,h.x.setCell (p:=(aA gR q)) h.le _,h.le⟩
 ·by_cases DO:p=q
  ·subst DO;rw [rb,ae1]
   exact ⟨ag,.inl ⟨rfl,rfl⟩⟩
  ·rw [oT DO,ae2 DO]
   exact gL (h.row p hp) h.b ae _ _
 ·by_cases DO:p=q
  ·subst DO;rw [rb] at e
   cases e
  ·rw [oT DO] at e
   exact h.no p hp b e
 ·by_cases DO:p=q
  ·subst DO;rw [rb] at e
   cases e
  ·rw [oT DO] at e
   by_cases ae3:p'=q
   ·subst ae3;rw [rb];intro e2
    cases e2
   ·rw [oT ae3]
    exact h.nn p p' hp hp' hne b e
theorem SR.u (h:SR w0 W gR vo os vs r) (ho:W'.ownsRow w0.heap.size 39 4 vo' os'.length (aq os')) (hg:W.grownBy W' vo.ownBlock) (hx:Ext w0 W') (hb:vo'.ownBlock=vo.ownBlock\/vo'.ownBlock=some W.heap.size):
  SR w0 W' gR vo' os' vs r:=by
 refine ⟨cV h.b h.o ae hg,ho,fun q hq=>(h.row q hq).kept hg (none_or (h.no q hq)),fun q hq b e=>?_,h.nn,hx,h.le⟩;rcases hb with hb|hb
 ·rw [hb]
  exact h.no q hq b e
 ·rw [hb];intro e2
  cases e2
  have:=((h.row q hq).lt _ e).2;omega
end
structure SG (w0 W:World) (gR:Nat) (vo:Value) (os:List Gt) (vs:Nat->Value) (r:Nat->List Gt) (gq:Nat) (y:Gt) (vq:Value) (qs_:List Int):Prop extends SR w0 W gR vo os vs r where
 g:au W gq 39 (gA y)
 ng:vo.ownBlock≠some gq
 i:W.ownsRow w0.heap.size 3 1 vq qs_.length (aD qs_)
section
variable {w0 W W':World} {gR q gq:Nat} {vo vo' v' vq:Value} {os os' xs:List Gt} {vs:Nat->Value} {r:Nat->List Gt} {x:Gt} {qs_:List Int}
theorem SG.ext (h:SG w0 W gR vo os vs r gq x vq qs_) (hx:Ext W W'):SG w0 W' gR vo os vs r gq x vq qs_:=⟨h.toSR.ext hx,h.g.ext hx,h.ng,aj h.i hx⟩
theorem SG.nil (h:SG w0 W gR vo os vs r gq x vq qs_) (hq:q<4):SG w0 (W.setCell (aA gR q) (nS)) gR vo os (PQ vs q (nS)) (WQ r q []) gq x vq qs_:=
 ⟨h.toSR.nil hq,h.g.cB (p:=(aA gR q)) (KA h.g h.b ae) _,h.ng,gL h.i h.b ae _ _⟩
theorem SG.u (h:SG w0 W gR vo os vs r gq x vq qs_) (ho:W'.ownsRow w0.heap.size 39 4 vo' os'.length (aq os')) (hg:W.grownBy W' vo.ownBlock) (hx:Ext w0 W') (hb:vo'.ownBlock=vo.ownBlock\/vo'.ownBlock=some W.heap.size):
  SG w0 W' gR vo' os' vs r gq x vq qs_:=by
 refine ⟨h.toSR.u ho hg hx hb,h.g.grown hg (fun k hk e=>h.ng (by rw [hk,e])),?_,h.i.kept hg (dh h.i h.o ae)⟩;rcases hb with hb|hb
 ·rw [hb]
  exact h.ng
 ·rw [hb];intro e
  cases e
  have:=h.g.lt;omega
end
theorem ark:∀w:World,(Instr.makeSlice 180 (iI 4) (iI 4)).run prog w=.ok (.slice (some ⟨w.heap.size,0,none⟩) 4 4) (w.alloc (cO #[nS,nS,nS,nS] 112)):=fun w=>by
 obtain ⟨i0,hi,fH,iV,kz⟩:=jH JD;have hmk:=af9 (P:=prog) 180 112 i0 _ underlying180 hi fH 4 aa aa w;have e:madeCells (nS).cells (4*1)=#[nS,nS,nS,nS]:=af
 rw [iV,e] at hmk
 exact hmk
theorem Dw {gs:List Gt} {k:Nat} {g:Gt} (h:gs[k]?=some g):vn (gs.take (k+1))=Dd (vn (gs.take k)) g:=by
 unfold vn;rw [aS h,rZ];rfl
theorem SY {s:List Gt ×(Nat->List Gt)} {g:Gt} (h:ar g.k=1):Dd s g=(s.1,WQ s.2 g.a.toNat (s.2 g.a.toNat++[g])):=aY h
theorem SZ {s:List Gt ×(Nat->List Gt)} {g:Gt} (h:¬ar g.k=1):Dd s g=((nH s (kf g)).1++[g],(nH s (kf g)).2):=aM h
theorem ae4 {g:Gt} {n:Int} (h:vg g n=true):∀q∈kf g,0<=q/\q<4:=by
 obtain ⟨h1,h2,h3,h4,h5,-⟩:=qM h;intro q hq;have Gl:=FI hq;unfold qs at Gl;simp only [jw,TM,or_false] at Gl;rcases Gl with rfl|rfl|rfl<;>omega
theorem Vt {s:List Gt ×(Nat->List Gt)} {g:Gt} {n:Int} (h:vg g n=true):(Dd s g).1.length+6*RH (Dd s g).2<=s.1.length+6*RH s.2+6:=by
 obtain ⟨h1,h2,h3,h4,h5,-⟩:=qM h
 by_cases hk:ar g.k=1
 ·rw [SY hk];have:=ac2 (r:=s.2) (q:=g.a.toNat) aa (s.2 g.a.toNat++[g]);simp only [lA,ki,yr] at this;simp only;omega
 ·rw [SZ hk];have:=De (kf g) s (ae4 h);simp only [lA,ki,yr];omega
theorem KB {gs:List Gt} {n:Int}:∀k,k<=gs.length->(gs.take k).all (fun g=>vg g n)=true->(vn (gs.take k)).1.length+6*RH (vn (gs.take k)).2<=6*k
 |0,_,_=>by simp [vn,RH]
 |k+1,hk,h=>by
  have hg:gs[k]?=some (gs[k]' aa):=lB _;rw [aS hg,qG,lF] at h;have h1:=KB k aa h.1;have h2:vg (gs[k]' aa) n=true:=sU h.2
  have h3:=Vt (s:=vn (gs.take k)) h2;rw [Dw hg];omega
theorem Vu (r:Nat->List Gt) {q:Nat} (hq:q<4):(r q).length<=RH r:=by
 unfold RH;rcases (show q=0\/q=1\/q=2\/q=3 by omega) with rfl|rfl|rfl|rfl<;>omega
theorem Vv {s:List Gt ×(Nat->List Gt)} {qs_:List Int} {j:Nat} {q:Int} (h:qs_[j]?=some q):nH s (qs_.take (j+1))=emit (nH s (qs_.take j)) q.toNat:=by
 unfold nH;rw [aS h,rZ];rfl
theorem Na {s:List Gt ×(Nat->List Gt)} {qs_:List Int} (h:∀q∈qs_,0<=q/\q<4) (j:Nat):(nH s (qs_.take j)).1.length+6*RH (nH s (qs_.take j)).2<=s.1.length+6*RH s.2:=
 De _ s fun q hq=>h q (FI hq)
def nL (s:List Gt ×(Nat->List Gt)) (j:Nat):List Gt:=(nH s (([0,1,2,3]:List Int).take j)).1
theorem ata (s:List Gt ×(Nat->List Gt)):nL s 0=s.1:=rfl
theorem aik (s:List Gt ×(Nat->List Gt)):nL s 4=(nH s [0,1,2,3]).1:=rfl
theorem Vw (s:List Gt ×(Nat->List Gt)) {j:Nat} (hj:j<4):nL s (j+1)=nL s j++short (s.2 j):=by
 rcases (show j=0\/j=1\/j=2\/j=3 by omega) with rfl|rfl|rfl|rfl<;>rfl
theorem Nb (s:List Gt ×(Nat->List Gt)) (j:Nat):(nL s j).length<=s.1.length+6*RH s.2:=by
 have:=Na (s:=s) (qs_:=[0,1,2,3]) ag j;unfold nL;omega
theorem aaD {gs:List Gt} {n:Int} {k:Nat} {g:Gt} (h:gs[k]?=some g) (hv:vg g n=false):gJ gs n=gs:=by
 unfold gJ;rw [aM];intro h1;rw [lq.1 h1 g (lG h)] at hv
 cases hv
theorem Vx {gs:List Gt} {n:Int} (h:gs.all (fun g=>vg g n)=true):gJ gs n=nL (vn gs) 4:=aY h
theorem KC {P:Prop} (h:P:=by
 have HSL:Hid (SR w ((W7.alloc (cO #[iI xk,iI (qa:Int),iI xb,iI xc] 39)).drew) gR (.slice Ao s.1.length co) s.1 vs s.2):=Fu.u.ext (((xZ W7).alloc _).drew);have HGL:Hid (au ((W7.alloc (cO #[iI xk,iI (qa:Int),iI xb,iI xc] 39)).drew) gq 39 #[iI xk,iI (qa:Int),iI xb,iI xc]):=RP.u.ext (((xZ W7).alloc _).drew);have HRN:Hid (Rd ((W7.alloc (cO #[iI xk,iI (qa:Int),iI xb,iI xc] 39)).drew) ((W7.alloc (cO #[iI xk,iI (qa:Int),iI xb,iI xc] 39)).drew).heap.size 4 (some ⟨W7.heap.size,0,none⟩) 1 (aq [(⟨xk,(qa:Int),xb,xc⟩:Gt)])):=dZ W7 _ 39 4 _ rfl rfl;clear Fu RP;refine o1 10 fun K hK=>?_
 refine fe (w0:=w) ah _ _ ah (.slice Aq l cq) l (s.2 qa) ah (by have h9:=HSL.u.row qa Bi;rw [hvq,HLQ.u] at h9;exact h9) HSL.u.x _ 1 1 [(⟨xk,(qa:Int),xb,xc⟩:Gt)] ah (HRN.u) aa ?_;intro v9 w9 g1 g2 g3 g4;obtain ⟨A9,c9,rfl,-⟩:=ak g1;have ajN:(Value.slice Aq l cq).ownBlock=(vs qa).ownBlock:=by rw [hvq]
 rw [ajN] at g3 g4;have hB9:au w9 gR 112 #[vs 0,vs 1,vs 2,vs 3]:=cV HSL.u.b (HSL.u.row qa Bi) ae g3;have hG9:au w9 gq 39 #[iI xk,iI (qa:Int),iI xb,iI xc]:=HGL.u.grown g3 (fun k hk e=>oM (HNQ.u k hk));have MF:=hY (HSL.u.app Bi (xs:=s.2 qa++[(⟨xk,(qa:Int),xb,xc⟩:Gt)]) (by rw [lA,HLQ.u];exact g1) g3 g2 g4);have Ky:Hid (w9.cell? (aA gR qa)=some (vs qa)/\w9.frozen? (aA gR qa)=false):=⟨by rw [hB9.cell qa];rcases (show qa=0\/qa=1\/qa=2\/qa=3 by omega) with rfl|rfl|rfl|rfl<;>rfl,hB9.frozen qa⟩;have wF:au (w9.setCell (aA gR qa) (.slice A9 (l+1) c9)) gq 39 #[iI xk,iI (qa:Int),iI xb,iI xc]:=hG9.cB (p:=(aA gR qa)) (KA hG9 hB9 ae) _;clear g1 g2 g3 g4 ajN hB9;refine ov hK (Vy.u _ hG9) fun aEQ=>?_
 refine tq 11 ?_;refine o1 12 fun K hK=>?_
 obtain ⟨hc9,hf9⟩:=Ky.u;go_simp;refine ov hK (Vy.u _ wF) fun aEQ=>?_
 refine dn ?_;clear hc9 hf9 Ky hG9 wF HSL HGL HRN aEQ;generalize w9.setCell (aA gR qa) (.slice A9 (l+1) c9)=W11 at*
 have HSV:Hid (vn (gs.take (k+1))=(s.1,WQ s.2 qa (s.2 qa++[(⟨xk,(qa:Int),xb,xc⟩:Gt)]))):=by
  unfold Hid;rw [Dw wV.u,<-HS.u,SY et];rfl
 go_wp2;go_roundw
 case rel=>exact ⟨k+1,(s.1,WQ s.2 qa (s.2 qa++[(⟨xk,(qa:Int),xb,xc⟩:Gt)])),Ao,co,_,oM bZ.u,by first|rfl|rw [dy.u.1]|rw [dy.u.2],PJ,HSV.u.symm,rfl,MF⟩
 case measure=>simp [intOf,dy.u.2];have:=bZ.u;omega):P:=h
theorem xp (A:OA) (n c:Nat) (gs:List Gt) (N:Int) (w:World) (h:Rd w w.heap.size 4 A n (aq gs)) (hn:n<=60000000000):
  Calls prog 152 #[.slice A n c,iI N] w fun e w'=>(∃v,e=.returned v/\w'.ownsRow w.heap.size 39 4 v (gJ gs N).length (aq (gJ gs N)))/\Ext w w':=by
 have cT:=hY (h.len Gt.aG aa);have HR:=hY h;clear h;have HSL:Hid (∀k,k<=n->(gs.take k).all (fun g=>vg g N)=true->(vn (gs.take k)).1.length+6*RH (vn (gs.take k)).2<=6*k):=fun k hk=>KB k (by rw [cT.u];exact hk)
 have hmk:=ark;go_enter func152,ntmps152;have Nc:Hid (SR w ((w.alloc (cO #[] 39)).alloc (cO #[nS,nS,nS,nS] 112)) (w.heap.size+1) (.slice (some ⟨w.heap.size,0,none⟩) 0 0) (vn (gs.take 0)).1 (fun _=> nS) (vn (gs.take 0)).2):=
  ⟨au.newAt (bX _ _).symm,(aN w w _ 4 (xZ _)).alloc _,fun q _=>⟨by simp [vn],.inl ⟨rfl,rfl⟩⟩,fun q _ b e=>fU,fun p q _ _ _ b e=>fU,((xZ w).alloc _).alloc _,aa⟩
 have FC:Hid ((gs.take 0).all (fun g=>vg g N)=true):=rfl;go_upto_region 3 with fail;clear hmk;obtain ⟨gR,hgR⟩:=ex (w.heap.size+1);rw [hgR] at Nc
 try rw [hgR]
 try (rw [show (w.alloc (cO #[] 39)).heap.size=gR by rw [bX,hgR]])
 clear hgR;generalize ((w.alloc (cO #[] 39)).alloc (cO #[nS,nS,nS,nS] 112))=W2 at*
 go_wp2
 go_loopw [5,7] (fun ov iv wr=>∃(k:Nat) (s:List Gt ×(Nat->List Gt)) (Ao:OA) (co:Nat) (vs:Nat->Value),k<=n/\iv=iI k/\Hid ((gs.take k).all (fun g=>vg g N)=true)/\Hid (s=vn (gs.take k))/\ov=.slice Ao s.1.length co/\Hid (SR w wr gR (.slice Ao s.1.length co) s.1 vs s.2)) (fun _ i _=>n - (intOf i).toNat)
 case atStart=>exact ⟨0,_,_,0,_,lJ _,rfl,FC,rfl,rfl,Nc⟩
 case round=>
  clear Nc FC;obtain ⟨k,s,Ao,co,vs,hk,rfl,FC,HS,rfl,Nc⟩:=hrel;have JV:=HSL.u k hk FC.u;rw [<-HS.u] at JV
  by_cases ba:k<n
  ·skip;obtain ⟨b,o,x,rfl,-,hx,x0,x1,x2,x3⟩:=bT (HR.u.ext Nc.u.x) ba;have bZ:=hY ba;have wV:=hY hx;have dy:=hY (wC k aa);clear hx;go_upto_region 7 with fail;have amC:Hid ((∀q,q<4->∀b,(vs q).ownBlock=some b->b<wr.heap.size)/\∀b,(Value.slice Ao s.1.length co).ownBlock=some b->b<wr.heap.size):=⟨fun q hq b e=>((Nc.u.row q hq).lt b e).2,fun b e=>(Nc.u.o.lt b e).2⟩;have vE:=hY (Nc.u.ext ((xZ wr).alloc (cO (gA x) 39)));have HG6:=hY (au.new wr 39 (gA x));clear Nc x0 x1 x2 x3;generalize wr.heap.size=gq at*
   generalize wr.alloc (cO (gA x) 39)=W6 at*
   obtain ⟨⟨g0,g1,g2,g3⟩,-⟩:=aB HG6.u;go_wp2_with fail;refine (bn x N _).mono ?_;rintro e W7 ⟨rfl,gG⟩;have Fu:=hY (vE.u.ext gG);have RP:=hY (HG6.u.ext gG);clear vE HG6 gG g0 g1 g2 g3
   cases hv:vg x N
   ·have HV:Hid (gJ gs N=gs):=aaD wV.u hv;have HRG:=hY (HR.u.ext Fu.u.x);go_wp2_with (at_builtin;refine dm (w0:=w) rfl _ _ rfl _ 0 [] rfl (aN w W7 _ 4 Fu.u.x) (Fu.u.x.alloc _) (some ⟨b,o,none⟩) n c gs rfl (HRG.u.ext ((xZ _).alloc _)) aa ?_;intro v9 w9 g1 g2 g3 g4;rw [lM,lN] at g1;have HO:=hY (lQ g1 g2);clear g1 g2 g3 g4)
    go_ret;rw [HV.u,cT.u]
    exact ⟨⟨_,rfl,HO.u.1⟩,HO.u.2⟩
   ·have HVG:=hY hv;have PJ:Hid ((gs.take (k+1)).all (fun g=>vg g N)=true):=Du (f:=fun g=>vg g N) wV.u FC.u hv;clear hv FC;obtain ⟨⟨g0,g1,g2,g3⟩,-⟩:=aB RP.u;go_wp2_with fail;refine (bc x.k _).mono ?_;rintro e wq ⟨rfl,rfl⟩;clear g0 g1 g2 g3
    by_cases et:ar x.k=1
    ·have ad7:(ar x.k==1)=true:=sU et
     have arl:decide (ar x.k=1)=true:=sU et
     have hq:=qM HVG.u;obtain ⟨hN,-,ha,-⟩:=hq;obtain ⟨xk,xa,xb,xc⟩:=x;simp only at ha et ad7 arl;obtain ⟨qa,rfl⟩:=lD ha.1;have Bi:qa<4:=aa
     have aC2:(0:Int)<=(qa:Int):=aa
     have aC3:(qa:Int)<4:=aa
     have HNQ:Hid (∀b,(vs qa).ownBlock=some b->b<gq):=fun b e=>amC.u.1 qa Bi b e
     obtain ⟨Aq,cq,hvq,-⟩:=ak (Fu.u.row qa Bi);obtain ⟨l,hlq⟩:=ex ((s.2 qa).length);have HLQ:=hY hlq;have htq:=Vu s.2 Bi;rw [hlq] at hvq htq;have hcq:=Fu.u.cell Bi;rw [hvq] at hcq;have hgR:gR<W7.heap.size:=Fu.u.b.lt;have Vy:Hid (∀w',au w' gq 39 #[iI xk,iI (qa:Int),iI xb,iI xc]->w'.cell? (aA gq 0)=some (iI xk)/\w'.cell? (aA gq 1)=some (iI (qa:Int))/\w'.cell? (aA gq 2)=some (iI xb)/\w'.cell? (aA gq 3)=some (iI xc)):=fun w' hb=>(aB hb).1
     clear hlq ha hN;go_upto_region 10 with fail;refine dt (S:=(fun w'=>w'.cell? (aA gq 0)=some (iI xk)/\w'.cell? (aA gq 1)=some (iI (qa:Int))/\w'.cell? (aA gq 2)=some (iI xb)/\w'.cell? (aA gq 3)=some (iI xc))) af (Vy.u _ RP.u.drew) (fun aEQ=>?_);refine tq 0 ?_;refine tq 1 ?_;refine tq 2 ?_;refine tq 3 ?_;refine tq 4 ?_;refine tq 5 ?_;refine tq 6 ?_;refine tq 8 ?_;refine o2 7 9 (fun K hK=>?_) fun K hK=>?_
     ·skip;have hcv:W7.drew.cell? (aA gR qa)=some (.slice Aq l cq):=hcq;go_simp;refine ov hK (Vy.u _ RP.u.drew) fun aEQ=>?_
      clear hcv;refine o1 9 fun K hK=>?_
      go_simp;refine ov hK (Vy.u _ (RP.u.ext (((xZ W7).alloc _).drew))) fun aEQ=>?_
      exact KC
     ·skip;go_simp;refine ov hK (Vy.u _ (RP.u.ext (((xZ W7).alloc _).drew))) fun aEQ=>?_
      have hcv:((W7.alloc (cO #[iI xk,iI (qa:Int),iI xb,iI xc] 39)).drew).cell? (aA gR qa)=some (.slice Aq l cq):=(Below.cell (((xZ W7).alloc (cO #[iI xk,iI (qa:Int),iI xb,iI xc] 39)).drew) (p:=(aA gR qa)) hgR).trans hcq;refine o1 7 fun K hK=>?_
      go_simp;refine ov hK (Vy.u _ (RP.u.ext (((xZ W7).alloc _).drew))) fun aEQ=>?_
      clear hcv
      exact KC
    ·have ad7:(ar x.k==1)=false:=sU et
     have arl:decide (ar x.k=1)=false:=sU et
     have HQB:=hY (ae4 HVG.u);obtain ⟨⟨g0,g1,g2,g3⟩,-⟩:=aB RP.u;go_wp2_with fail;refine (eM x _).mono ?_;rintro e w8 ⟨v8,rfl,ho8,uH⟩;obtain ⟨Aq,cq,rfl,-⟩:=ak ho8;have Qm:Hid (SG w w8 gR (.slice Ao s.1.length co) s.1 vs s.2 gq x (.slice Aq (kf x).length cq) (kf x)):=⟨Fu.u.ext uH,RP.u.ext uH,fun e=>oM (amC.u.2 gq e),aC ho8 Fu.u.x.size⟩;obtain ⟨m,hm⟩:=ex ((kf x).length);have HM:=hY hm;have hm3:m<=3:=by rw [<-hm,oL];have:=eL x.k;omega
     rw [hm] at Qm |-;clear Fu RP ho8 uH hm g0 g1 g2 g3;go_wp2
     go_loopw [5,10] (fun ov jv wr=>∃(j:Nat) (t:List Gt ×(Nat->List Gt)) (Ao:OA) (co:Nat) (vs:Nat->Value),j<=m/\jv=iI j/\Hid (t=nH s ((kf x).take j))/\ov=.slice Ao t.1.length co/\Hid (SG w wr gR (.slice Ao t.1.length co) t.1 vs t.2 gq x (.slice Aq m cq) (kf x))) (fun _ i _=>m - (intOf i).toNat)
     case atStart=>exact ⟨0,s,Ao,co,vs,lJ _,rfl,rfl,rfl,Qm⟩
     case round=>
      clear Qm vs amC;obtain ⟨j,t,Ao,co,vs,hj,rfl,HT,rfl,Qm⟩:=hrel;have UK:=Na (s:=s) HQB.u j;rw [<-HT.u] at UK
      by_cases hjm:j<m
      ·obtain ⟨bq,oq,q,hAq,-,hq,cq1⟩:=du (by have h9:=Qm.u.i;rw [HM.u] at h9;exact Rd.own h9) hjm;subst hAq;have rN:=HQB.u q (lG hq);obtain ⟨qn,rfl⟩:=lD rN.1;have Bi:qn<4:=aa
       have fc:(0:Int)<=(qn:Int):=aa
       have aC5:(qn:Int)<4:=aa
       have HQ:=hY hq;have HJ:=hY hjm;obtain ⟨Ar,cr,hvq,-⟩:=ak (Qm.u.row qn Bi);have hcr:=Qm.u.cell Bi;rw [hvq] at hcr;have htq:=Vu t.2 Bi;have Bh:=hY (wC j aa);have HT1:Hid (nH s ((kf x).take (j+1))=(t.1++short (t.2 qn),WQ t.2 qn [])):=by
        unfold Hid;rw [Vv hq,<-HT.u];rfl
       have HRR:Hid (Rd wr wr.heap.size 4 Ar (t.2 qn).length (aq (t.2 qn))):=by have h9:=Qm.u.row qn Bi;rw [hvq] at h9;exact Rd.own h9
       clear hq rN;obtain ⟨l1,pR⟩:=ex (t.1.length);have Qb:=hY pR;obtain ⟨l2,qw⟩:=ex ((t.2 qn).length);have MR:=hY qw;rw [pR] at Qm UK |-;rw [qw] at hcr htq hvq HRR;clear pR qw;go_wp2_with fail;refine (oG Ar l2 cr (t.2 qn) _ HRR.u aa).mono ?_;rintro e w5 ⟨⟨v5,rfl,kg⟩,cI⟩;obtain ⟨A5,c5,rfl,DX⟩:=ak kg;have JV:=Dc (t.2 qn);rw [MR.u] at JV;have aim:=hY (Qm.u.ext cI);have Ik:=hY DX;have jL:Hid (w5.ownsRow w.heap.size 39 4 (.slice Ao l1 co) l1 (aq t.1)):=by have h9:=aim.u.o;rw [Qb.u] at h9;exact h9
       clear Qm HRR kg cI DX hcr cq1;go_upto_region 16 with (at_builtin;refine dm (w0:=w) rfl _ _ rfl _ _ _ rfl jL.u aim.u.x A5 _ c5 _ rfl Ik.u aa ?_;intro v6 w6 t1 t2 t3 t4;obtain ⟨A6,c6,rfl,-⟩:=ak t1;have ae5:=hY (aim.u.u (os':=t.1++short (t.2 qn)) rf t3 t2 t4);clear t1 t2 t3 t4)
       have hcr:=ae5.u.cell Bi;have hfr:=ae5.u.b.frozen qn;have cq1:w6.cell? (aA bq (oq+j))=some (iI (qn:Int)):=by
        obtain ⟨b3,o3,q3,he,-,eO,c3⟩:=du (by have h9:=ae5.u.i;rw [HM.u] at h9;exact Rd.own h9) HJ.u;simp only [iG,jR] at he;obtain ⟨rfl,rfl,-⟩:=he;rw [HQ.u] at eO
        cases eO
        exact c3
       have awu:=hY (ae5.u.nil Bi);clear aim Ik jL ae5;go_wp2;go_roundw
       case rel=>exact ⟨j+1,(t.1++short (t.2 qn),WQ t.2 qn []),A6,c6,_,oM HJ.u,by first|rfl|rw [Bh.u.1]|rw [Bh.u.2],HT1.u.symm,by rw [lA,Qb.u],by rw [lA,Qb.u];exact awu⟩
       case measure=>simp [intOf,Bh.u.2];have:=HJ.u;omega
      ·have VU:j=m:=aa
       have HTM:Hid (t=nH s (kf x)):=by
        unfold Hid;rw [HT.u,lE (by rw [HM.u];omega)]
       have HSV:Hid (vn (gs.take (k+1))=(t.1++[x],t.2)):=by
        unfold Hid;rw [Dw wV.u,<-HS.u,SZ et,<-HTM.u]
       clear HT HTM;obtain ⟨⟨g0,g1,g2,g3⟩,-⟩:=aB Qm.u.g;obtain ⟨l1,pR⟩:=ex (t.1.length);have Qb:=hY pR;rw [pR] at Qm UK |-;clear pR;have jL:Hid (wr.ownsRow w.heap.size 39 4 (.slice Ao l1 co) l1 (aq t.1)):=by have h9:=Qm.u.o;rw [Qb.u] at h9;exact h9
       go_wp2_with (at_builtin;refine fJ (w0:=w) rfl _ _ rfl _ _ _ rfl jL.u Qm.u.x x _ _ rfl rfl aa ?_;intro v6 w6 t1 t2 t3 t4;obtain ⟨A6,c6,rfl,-⟩:=ak t1;have amD:=hY ((Qm.u.toSR.ext ((xZ _).alloc _)).u (os':=t.1++[x]) rf t3 t2 (by rw [bX];exact t4));clear t1 t2 t3 t4)
       go_roundw
       case rel=>exact ⟨k+1,(t.1++[x],t.2),A6,c6,vs,oM bZ.u,by first|rfl|rw [dy.u.1]|rw [dy.u.2],PJ,HSV.u.symm,by rw [lA,Qb.u];rfl,by rw [lA,Qb.u];exact amD⟩
       case measure=>simp [intOf,dy.u.2];have:=bZ.u;omega
  ·skip;have jJ:k=n:=aa
   subst jJ;have HTK:Hid (gs.take k=gs):=lE il;rw [HTK.u] at HS FC;have HV:Hid (gJ gs N=nL s 4):=by unfold Hid;rw [Vx FC.u,<-HS.u]
   have aai:=Nb s;have By:Hid (∀j,(nL s j).length<=360000000000):=fun j=>oM (aai j)
   clear HTK FC HS aai;go_wp2
   go_loopw [5,11] (fun ov jv wr=>∃(j:Nat) (Ao:OA) (co:Nat),j<=4/\jv=iI j/\ov=.slice Ao (nL s j).length co/\Hid (SR w wr gR (.slice Ao (nL s j).length co) (nL s j) vs s.2)) (fun _ i _=>4 - (intOf i).toNat)
   case atStart=>exact ⟨0,Ao,co,aa,rfl,rfl,Nc⟩
   case round=>
    clear Nc;obtain ⟨j,Ao,co,hj,rfl,rfl,Nc⟩:=hrel;have DW:=By.u j
    by_cases hj4:j<4
    ·obtain ⟨Ar,cr,hvq,-⟩:=ak (Nc.u.row j hj4);have hcr:=Nc.u.cell hj4;rw [hvq] at hcr;have htq:=Vu s.2 hj4;have HJ:=hY hj4;have aC7:(j:Int)<4:=aa
     have HRR:Hid (Rd wr wr.heap.size 4 Ar (s.2 j).length (aq (s.2 j))):=by have h9:=Nc.u.row j hj4;rw [hvq] at h9;exact Rd.own h9
     have HLS:Hid (nL s (j+1)=nL s j++short (s.2 j)):=Vw s hj4;have Bh:=hY (wC j aa);obtain ⟨l1,pR⟩:=ex ((nL s j).length);have Qb:=hY pR;obtain ⟨l2,qw⟩:=ex ((s.2 j).length);have MR:=hY qw;rw [pR] at Nc DW |-;rw [qw] at hcr htq hvq HRR;clear pR qw;go_wp2_with fail;refine (oG Ar l2 cr (s.2 j) _ HRR.u aa).mono ?_;rintro e w5 ⟨⟨v5,rfl,kg⟩,cI⟩;obtain ⟨A5,c5,rfl,DX⟩:=ak kg;have JV:=Dc (s.2 j);rw [MR.u] at JV;have amE:=hY (Nc.u.ext cI);have Ik:=hY DX;have jL:Hid (w5.ownsRow w.heap.size 39 4 (.slice Ao l1 co) l1 (aq (nL s j))):=by have h9:=amE.u.o;rw [Qb.u] at h9;exact h9
     clear Nc HRR kg cI DX hcr;go_wp2_with (at_builtin;refine dm (w0:=w) rfl _ _ rfl _ _ _ rfl jL.u amE.u.x A5 _ c5 _ rfl Ik.u aa ?_;intro v6 w6 t1 t2 t3 t4;obtain ⟨A6,c6,rfl,-⟩:=ak t1;have amD:=hY (amE.u.u (os':=nL s j++short (s.2 j)) rf t3 t2 t4);clear t1 t2 t3 t4)
     go_roundw
     case rel=>exact ⟨j+1,A6,c6,oM HJ.u,by first|rfl|rw [Bh.u.1]|rw [Bh.u.2],by rw [HLS.u,lA,Qb.u],by rw [HLS.u,lA,Qb.u];exact amD⟩
     case measure=>simp [intOf,Bh.u.2];have:=HJ.u;omega
    ·have VU:j=4:=aa
     subst VU;go_wp2;go_ret;rw [HV.u]
     exact ⟨⟨_,rfl,Nc.u.o⟩,Nc.u.x⟩
end Go.Proofs.YtodhjgngkkcjgaaGreatDoor
