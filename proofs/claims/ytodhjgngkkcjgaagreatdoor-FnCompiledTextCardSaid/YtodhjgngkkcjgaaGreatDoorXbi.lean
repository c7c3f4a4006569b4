import Derived.Test.YtodhjgngkkcjgaaGreatDoorXbg
import Derived.Test.YtodhjgngkkcjgaaGreatDoorXbf
namespace Go.Proofs.YtodhjgngkkcjgaaGreatDoor
open Go.ChangeShapes Go.WideShapes Go.ChangeAt Go.RowKit Go.Deep Go.Proofs.Tryz
set_option linter.unusedVariables false
set_option linter.unusedSimpArgs false
set_option maxRecDepth 100000
set_option maxHeartbeats 16000000
theorem Kl {xs:List ByteArray} {i:Nat} {y:ByteArray} (h:(xs++[⟨#[]⟩,⟨#[]⟩,⟨#[]⟩])[i]?=some y):xs.getD i ⟨#[]⟩=y:=by
 rcases od i xs.length with h1|h1
 ·rw [oY h1] at h;simp [List.getD,h]
 ·rw [uS h1] at h;have h2:xs.getD i ⟨#[]⟩=⟨#[]⟩:=by simp [List.getD,rW h1]
  rw [h2];obtain ⟨j,hj⟩:=ex (i - xs.length);rw [hj] at h
  match j,h with
  |0,h=>simpa using h
  |1,h=>simpa using h
  |2,h=>simpa using h
  |j+3,h=>simp at h
theorem aaw {y:ByteArray} {l:List UInt8} (h:y=⟨l.toArray⟩):(ByteArray.toList y==l)=true:=by
 rw [h,Nq];simp
theorem PC {y:ByteArray} {l:List UInt8} (h:y≠⟨l.toArray⟩):(ByteArray.toList y==l)=false:=by
 cases e:(ByteArray.toList y==l)
 ·rfl
 ·refine absurd ?_ h;rw [Nq] at e;have:=eq_of_beq e;apply DM;rw [<-this]
theorem opT {W:World} {g:Nat} {s:ByteArray} {u:Oq} (kk:Int) (hk:u.k=kk) (hb:au W g 41 (jE u)) (hs:∀o':Oq,dM o' 4 3=true->s=kC o'->u=o'):∃u:Oq,Hid (au W g 41 (jE u))/\Hid (∀o':Oq,dM o' 4 3=true->s=kC o'->u=o')/\(u.k==1)=(kk==1):=⟨u,hb,hs,by rw [hk]⟩
theorem Km {P:Prop} (h:P:=by
 have e1:=(sO s).2 hz;have HN:=hY (Vm hz);clear hz;obtain ⟨⟨a0,a1,a2,a3,a4,a5,a6,a7⟩,z0,z1,z2,z3,z4,z5,z6,z7⟩:=uh (dv.u.ext UX.u);go_wp2
 exact bJ (v:=.tuple #[O0.val,.bool false]) (aR rfl _ _ _ _ _ _ _ rfl rfl ((dv.u.ext UX.u).Vo (iI 0) (iI 0) (iI 0) (iI 0) (iI 0) (iI 0) (iI 0) (iI 0)) NB rfl Fy) rfl ⟨SC rfl HN.u,Cp (eK.u.trans UX.u) (lI _) _ _ _ _ _ _ _ _⟩):P:=h
theorem Kn {P:Prop} (h:P:=by
 have HN:Hid (∀o':Oq,dM o' 4 3=true->s≠kC o'):=Vn HS.u (by rw [Yd.u];exact LC);go_wp2
 exact bJ (v:=.tuple #[O0.val,.bool false]) (aR rfl _ _ _ _ _ _ _ rfl rfl ((dv.u.ext (UX.u.trans kL.u)).Vo (iI 0) (iI 0) (iI 0) (iI 0) (iI 0) (iI 0) (iI 0) (iI 0)) NB rfl Fy) rfl ⟨SC rfl HN.u,Cp (eK.u.trans (UX.u.trans kL.u)) (lI _) _ _ _ _ _ _ _ _⟩):P:=h
theorem FB {P:Prop} (h:P:=by
 obtain ⟨⟨d0,d1,d2,d3,d4,d5,d6,d7⟩,-⟩:=uh UB.u
 by_cases hz:s=⟨#[]⟩
 ·exact Km
 ·have e1:(ByteArray.toList s).isEmpty=false:=by
   cases e:(ByteArray.toList s).isEmpty
   ·rfl
   ·exact absurd ((sO s).1 e) hz
  have HSZ:=hY hz;clear hz;go_wp2_with fail;refine (qT u _).mono ?_;rintro e v9 ⟨rfl,Ek⟩;have kL:=hY Ek;clear Ek d0 d1 d2 d3 d4 d5 d6 d7;obtain ⟨⟨a0,a1,a2,a3,a4,a5,a6,a7⟩,z0,z1,z2,z3,z4,z5,z6,z7⟩:=uh (dv.u.ext (UX.u.trans kL.u));obtain ⟨os,PD⟩:=ex (kC u);rw [PD];have Yd:=hY PD;clear PD;obtain ⟨qq,LC⟩:=ex ((ByteArray.toList os==ByteArray.toList s))
  cases qq
  ·exact Kn
  ·have HQ:=hY (ni.1 LC);obtain ⟨⟨d0,d1,d2,d3,d4,d5,d6,d7⟩,-⟩:=uh (UB.u.ext kL.u);go_wp2
   exact bJ (v:=.tuple #[(u:Oq).val,.bool true]) (aR rfl _ _ _ _ _ _ _ rfl rfl ((dv.u.ext (UX.u.trans kL.u)).Vo (iI u.k) (iI u.g.k) (iI u.g.a) (iI u.g.b) (iI u.g.c) (iI u.q) (iI u.bit) (iI u.cond)) NB rfl Fy) rfl ⟨MW u rfl HSZ.u (Yd.u.trans HQ.u) HS.u,Cp (eK.u.trans (UX.u.trans kL.u)) (lI _) _ _ _ _ _ _ _ _⟩):P:=h
theorem Ko {P:Prop} (h:P:=by
 obtain ⟨u,UB,HS,ek⟩:=opT (s:=s) (u:=⟨1,gt,0,0,n1+1⟩) 1 rfl GB.u (fun o' hv he=>aew HH.u uE.u HGG.u HW.u o' hv he);have UX:=GX
 exact FB):P:=h
theorem Dq (s:ByteArray) (hs:s.size<=1500000) (w:World):Calls prog 36 #[.string s] w fun e w'=>XZ s e/\Ext w w':=by
 go_enter func36,ntmps36;go_wp2_with fail;refine (fq s 32 32 rfl _ aa).mono ?_;rintro e w1 ⟨v1,rfl,eu,aK⟩;have EN:=oK 32 s;have Bl:=tj 32 s;go_upto_region 2 with (at_builtin;refine NR rfl _ _ rfl _ _ (cut 32 s) rfl (eu.alloc _) ((xZ _).trans aK|>.alloc _) _ 3 3 [⟨#[]⟩,⟨#[]⟩,⟨#[]⟩] rfl (eC w1 _ _ _ 3 1 _ rfl rfl rfl) aa ?_;intro v2 w2 fg bz _ _)
 obtain ⟨A2,c2,rfl,jk⟩:=ak fg;obtain ⟨b,o,y0,rfl,hb,mg,r0⟩:=my jk (i:=0) aa;obtain ⟨_,_,y1,e1,_,dw,r1⟩:=my jk (i:=1) aa;injection e1 with e1;injection e1 with e1 e1';subst e1 e1';obtain ⟨_,_,y2,e1,_,iW,r2⟩:=my jk (i:=2) aa;injection e1 with e1;injection e1 with e1 e1';subst e1 e1';have HW:Hid (∀o:Oq,dM o 4 3=true->s=kC o->OW y0 y1 y2 (cut 32 s).length o):=by
  intro o hv he;have:=Ya hv;rw [<-OX hv,<-he,Kl mg,Kl dw,Kl iW] at this
  exact this
 have jm:∀y∈cut 32 s++[⟨#[]⟩,⟨#[]⟩,⟨#[]⟩],y.size<=2000000:=by
  intro y hy;rcases iT.1 hy with h|h
  ·have:=kS h;omega
  ·simp at h;subst h;exact lJ _
 have Ce:Hid (y1.size<=2000000):=jm _ (lG dw);have HZ2:Hid (y2.size<=2000000):=jm _ (lG iW);have dv:Hid (au w2 w.heap.size 41 #[iI 0,iI 0,iI 0,iI 0,iI 0,iI 0,iI 0,iI 0]):=(au.new w _ _).ext bz;have eK:Hid (Ext w w2):=Ext.trans ((xZ w).alloc _) bz;have HY:Hid (∀w',Ext w2 w'->w'.cell? (aA b o)=some (.string y0)/\w'.cell? (aA b (o+1))=some (.string y1)/\w'.cell? (aA b (o+2))=some (.string y2)):=fun w' q=>⟨(q.cell (p:=(aA b o)) hb).trans (by rw [oh] at r0;exact r0),(q.cell (p:=(aA b (o+1))) hb).trans r1,(q.cell (p:=(aA b (o+2))) hb).trans r2⟩
 obtain ⟨m,hm⟩:=ex ((cut 32 s).length+3);rw [hm];have Oh:(0:Int)<(m:Int):=aa
 have VS:(1:Int)<(m:Int):=aa
 have hm2:(2:Int)<(m:Int):=aa
 clear hm jm mg dw iW r1 r2 jk fg bz eu aK EN Bl hb r0;go_upto_region 3 with fail;have B0:Hid (au (w2.alloc (cO #[iI 1,iI 0,iI 0,iI 0,iI 0,iI 0,iI 0,iI 0] 41)) w2.heap.size 41 #[iI 1,iI 0,iI 0,iI 0,iI 0,iI 0,iI 0,iI 0]):=au.new _ _ _;have X0:Hid (Ext w2 (w2.alloc (cO #[iI 1,iI 0,iI 0,iI 0,iI 0,iI 0,iI 0,iI 0] 41))):=(xZ w2).alloc _;have HG:Hid (w2.heap.size<=w2.heap.size):=lI _;obtain ⟨g,hg⟩:=ey (w2.heap.size);have HGE:=hY hg;rw [<-hg] at B0 |-;replace HG:Hid (w2.heap.size<=g):=CK hg.symm;clear hg;generalize w2.alloc (cO #[iI 1,iI 0,iI 0,iI 0,iI 0,iI 0,iI 0,iI 0] 41)=W0 at*
 have q0:W0.cell? (aA b o)=some (.string y0):=(HY.u _ X0.u).1;go_upto_region 5 with fail;clear q0;have hne:=xf
 by_cases h2:y0=ZE
 ·have HH:=hY h2;have em:=aaw (l:=[109,101,97,115,117,114,101]) h2;clear h2 hne;have c0:=(B0.u).ck 0;have f0:=(B0.u).frozen 0;go_upto_region 7 with fail;clear c0 f0;have uQ:Hid (au (W0.setCell (aA g 0) (iI 2)) g 41 #[iI 2,iI 0,iI 0,iI 0,iI 0,iI 0,iI 0,iI 0]):=(B0.u).aU 0 _;have PE:Hid (Ext w2 (W0.setCell (aA g 0) (iI 2))):=(X0.u).setCell (p:=(aA g 0)) HG.u _;generalize W0.setCell (aA g 0) (iI 2)=U1 at*
  clear em;have q1:U1.cell? (aA b (o+1))=some (.string y1):=(HY.u _ PE.u).2.1;go_wp2_with fail;refine (bB y1 Ce.u _).mono ?_;rintro e v1 ⟨⟨n1,ok1,rfl,xW⟩,Dk⟩;have uE:=hY xW;have oU:=hY Dk;clear xW Dk q1;have c5:=(uQ.u.ext oU.u).ck 5;have f5:=(uQ.u.ext oU.u).frozen 5;go_upto_region 8 with fail;clear c5 f5;have UB2:Hid (au (v1.setCell (aA g 5) (iI n1)) g 41 #[iI 2,iI 0,iI 0,iI 0,iI 0,iI n1,iI 0,iI 0]):=(uQ.u.ext oU.u).aU 5 _;have UX2:Hid (Ext w2 (v1.setCell (aA g 5) (iI n1))):=(PE.u.trans oU.u).setCell (p:=(aA g 5)) HG.u _;generalize v1.setCell (aA g 5) (iI n1)=U2 at*
  have q2:U2.cell? (aA b (o+2))=some (.string y2):=(HY.u _ UX2.u).2.2;go_wp2_with fail;refine (bB y2 HZ2.u _).mono ?_;rintro e v2 ⟨⟨n2,ok2,rfl,Ls⟩,hv2⟩;have Ez:=hY Ls;have HV2:=hY hv2;clear Ls hv2 q2;have c6:=(UB2.u.ext HV2.u).ck 6;have f6:=(UB2.u.ext HV2.u).frozen 6;go_upto_region 17 with fail;clear c6 f6;have UB3:Hid (au (v2.setCell (aA g 6) (iI n2)) g 41 #[iI 2,iI 0,iI 0,iI 0,iI 0,iI n1,iI n2,iI 0]):=(UB2.u.ext HV2.u).aU 6 _;have UX3:Hid (Ext w2 (v2.setCell (aA g 6) (iI n2))):=(UX2.u.trans HV2.u).setCell (p:=(aA g 6)) HG.u _;generalize v2.setCell (aA g 6) (iI n2)=U3 at*
  obtain ⟨u,UB,HS,ek⟩:=opT (s:=s) (u:=⟨2,G0,n1,n2,0⟩) 2 rfl UB3.u (fun o' hv he=>ajD HH.u uE.u Ez.u HW.u o' hv he);have UX:=UX3
  exact FB
 have em:=PC (l:=[109,101,97,115,117,114,101]) h2
 by_cases h3:y0=Xl
 ·have HH:=hY h3;have ec:=aaw (l:=[99,108,101,97,110]) h3;clear h2 h3 hne;have c0:=(B0.u).ck 0;have f0:=(B0.u).frozen 0;go_upto_region 11 with fail;clear c0 f0;have uQ:Hid (au (W0.setCell (aA g 0) (iI 3)) g 41 #[iI 3,iI 0,iI 0,iI 0,iI 0,iI 0,iI 0,iI 0]):=(B0.u).aU 0 _;have PE:Hid (Ext w2 (W0.setCell (aA g 0) (iI 3))):=(X0.u).setCell (p:=(aA g 0)) HG.u _;generalize W0.setCell (aA g 0) (iI 3)=U1 at*
  clear em ec;have q1:U1.cell? (aA b (o+1))=some (.string y1):=(HY.u _ PE.u).2.1;go_wp2_with fail;refine (bB y1 Ce.u _).mono ?_;rintro e v1 ⟨⟨n1,ok1,rfl,xW⟩,Dk⟩;have uE:=hY xW;have oU:=hY Dk;clear xW Dk q1;have c5:=(uQ.u.ext oU.u).ck 5;have f5:=(uQ.u.ext oU.u).frozen 5;go_upto_region 17 with fail;clear c5 f5;have UB2:Hid (au (v1.setCell (aA g 5) (iI n1)) g 41 #[iI 3,iI 0,iI 0,iI 0,iI 0,iI n1,iI 0,iI 0]):=(uQ.u.ext oU.u).aU 5 _;have UX2:Hid (Ext w2 (v1.setCell (aA g 5) (iI n1))):=(PE.u.trans oU.u).setCell (p:=(aA g 5)) HG.u _;generalize v1.setCell (aA g 5) (iI n1)=U2 at*
  obtain ⟨u,UB,HS,ek⟩:=opT (s:=s) (u:=⟨3,G0,n1,0,0⟩) 3 rfl UB2.u (fun o' hv he=>ajE HH.u uE.u HW.u o' hv he);have UX:=UX2
  exact FB
 have ec:=PC (l:=[99,108,101,97,110]) h3
 by_cases hi:y0=wI
 ·have HH:=hY hi;have ei:=aaw (l:=[105,102]) hi;clear h2 h3 hi hne;have q1:W0.cell? (aA b (o+1))=some (.string y1):=(HY.u _ X0.u).2.1;go_wp2_with fail;refine (bB y1 Ce.u _).mono ?_;rintro e v1 ⟨⟨n1,ok1,rfl,xW⟩,Dk⟩;have uE:=hY xW;have oU:=hY Dk;clear xW Dk q1;clear em ec ei;have hwn:wrap64 (n1+1)=n1+1:=yL
  have c7:=(B0.u.ext oU.u).ck 7;have f7:=(B0.u.ext oU.u).frozen 7;go_upto_region 15 with fail;clear c7 f7;have uQ:Hid (au (v1.setCell (aA g 7) (iI (n1+1))) g 41 #[iI 1,iI 0,iI 0,iI 0,iI 0,iI 0,iI 0,iI (n1+1)]):=(B0.u.ext oU.u).aU 7 _;have PE:Hid (Ext w2 (v1.setCell (aA g 7) (iI (n1+1)))):=(X0.u.trans oU.u).setCell (p:=(aA g 7)) HG.u _;generalize v1.setCell (aA g 7) (iI (n1+1))=U1 at*
  clear hwn
  by_cases h5:5<s.size
  ·have h5':(5:Int)<(s.size:Int):=aa
   obtain ⟨rest,aeK⟩:=ex (s.extract 5 s.size);have HRE:=hY aeK;have HRS:Hid (rest.size<=1500000):=by unfold Hid;rw [<-aeK,abe];omega
   clear h5;have c0:=uQ.u.ck 0;go_wp2_with fail;refine (kt rest HRS.u _).mono ?_;rintro e v8 ⟨⟨gt,okg,rfl,pU⟩,Kp⟩;have Qn:=hY pU;have gp:=hY Kp;clear pU Kp c0;have c1:=(uQ.u.ext gp.u).ck 1;have f1:=(uQ.u.ext gp.u).frozen 1;have c2:=(uQ.u.ext gp.u).ck 2;have f2:=(uQ.u.ext gp.u).frozen 2;have c3:=(uQ.u.ext gp.u).ck 3;have f3:=(uQ.u.ext gp.u).frozen 3;have c4:=(uQ.u.ext gp.u).ck 4;have f4:=(uQ.u.ext gp.u).frozen 4;go_upto_region 19 with fail;clear c1 c2 c3 c4 f1 f2 f3 f4;have GB:Hid (au (ji v8 g (iI gt.k) (iI gt.a) (iI gt.b) (iI gt.c)) g 41 #[iI 1,iI gt.k,iI gt.a,iI gt.b,iI gt.c,iI 0,iI 0,iI (n1+1)]):=(uQ.u.ext gp.u).ji _ _ _ _;have GX:Hid (Ext w2 (ji v8 g (iI gt.k) (iI gt.a) (iI gt.b) (iI gt.c))):=nK (PE.u.trans gp.u) HG.u _ _ _ _;unfold ji at GB GX;generalize (((v8.setCell (aA g 1) (iI gt.k)).setCell (aA g 2) (iI gt.a)).setCell (aA g 3) (iI gt.b)).setCell (aA g 4) (iI gt.c)=GW at*
   have HGG:Hid (∀o:Oq,dM o 4 3=true->s=kC o->o.k=1->0<o.cond->gt=o.g):=by
    intro o hv he hk hc;have hr:=(Jf hv hk hc).1;rw [<-he,HRE.u] at hr;rcases ke hv with ⟨_,_,_,mo,_⟩|⟨KQ,_⟩|⟨KQ,_⟩
    ·exact Qn.u o.g mo hr
    ·omega
    ·omega
   clear h5' aeK
   exact Ko
  ·have h5':¬((5:Int)<(s.size:Int)):=aa
   have c0:=uQ.u.ck 0;go_wp2_with fail;refine (kt s hs _).mono ?_;rintro e v8 ⟨⟨gt,okg,rfl,pU⟩,Kp⟩;have Qn:=hY pU;have gp:=hY Kp;clear pU Kp c0;have c1:=(uQ.u.ext gp.u).ck 1;have f1:=(uQ.u.ext gp.u).frozen 1;have c2:=(uQ.u.ext gp.u).ck 2;have f2:=(uQ.u.ext gp.u).frozen 2;have c3:=(uQ.u.ext gp.u).ck 3;have f3:=(uQ.u.ext gp.u).frozen 3;have c4:=(uQ.u.ext gp.u).ck 4;have f4:=(uQ.u.ext gp.u).frozen 4;go_upto_region 19 with fail;clear c1 c2 c3 c4 f1 f2 f3 f4;have GB:Hid (au (ji v8 g (iI gt.k) (iI gt.a) (iI gt.b) (iI gt.c)) g 41 #[iI 1,iI gt.k,iI gt.a,iI gt.b,iI gt.c,iI 0,iI 0,iI (n1+1)]):=(uQ.u.ext gp.u).ji _ _ _ _;have GX:Hid (Ext w2 (ji v8 g (iI gt.k) (iI gt.a) (iI gt.b) (iI gt.c))):=nK (PE.u.trans gp.u) HG.u _ _ _ _;unfold ji at GB GX;generalize (((v8.setCell (aA g 1) (iI gt.k)).setCell (aA g 2) (iI gt.a)).setCell (aA g 3) (iI gt.b)).setCell (aA g 4) (iI gt.c)=GW at*
   have HGG:Hid (∀o:Oq,dM o 4 3=true->s=kC o->o.k=1->0<o.cond->gt=o.g):=by
    intro o hv he hk hc;have hr:=(Jf hv hk hc).2;rcases ke hv with ⟨_,_,_,mo,_⟩|⟨KQ,_⟩|⟨KQ,_⟩
    ·have:=Dh mo;rw [he] at h5;omega
    ·omega
    ·omega
   clear h5 h5'
   exact Ko
 have ei:=PC (l:=[105,102]) hi;have H2:=hY h2;have H3:=hY h3;have H1:=hY hi;clear h2 h3 hi hne;have c0:=B0.u.ck 0;go_wp2_with fail;refine (kt s hs _).mono ?_;rintro e v8 ⟨⟨gt,okg,rfl,pU⟩,Kp⟩;have Qn:=hY pU;have gp:=hY Kp;clear pU Kp c0;have c1:=(B0.u.ext gp.u).ck 1;have f1:=(B0.u.ext gp.u).frozen 1;have c2:=(B0.u.ext gp.u).ck 2;have f2:=(B0.u.ext gp.u).frozen 2;have c3:=(B0.u.ext gp.u).ck 3;have f3:=(B0.u.ext gp.u).frozen 3;have c4:=(B0.u.ext gp.u).ck 4;have f4:=(B0.u.ext gp.u).frozen 4;go_upto_region 19 with fail;clear c1 c2 c3 c4 f1 f2 f3 f4;have GB:Hid (au (ji v8 g (iI gt.k) (iI gt.a) (iI gt.b) (iI gt.c)) g 41 #[iI 1,iI gt.k,iI gt.a,iI gt.b,iI gt.c,iI 0,iI 0,iI 0]):=(B0.u.ext gp.u).ji _ _ _ _;have GX:Hid (Ext w2 (ji v8 g (iI gt.k) (iI gt.a) (iI gt.b) (iI gt.c))):=nK (X0.u.trans gp.u) HG.u _ _ _ _;unfold ji at GB GX;generalize (((v8.setCell (aA g 1) (iI gt.k)).setCell (aA g 2) (iI gt.a)).setCell (aA g 3) (iI gt.b)).setCell (aA g 4) (iI gt.c)=GW at*
 clear em ec ei;obtain ⟨u,UB,HS,ek⟩:=opT (s:=s) (u:=⟨1,gt,0,0,0⟩) 1 rfl GB.u (fun o' hv he=>SD (fun h=>H2.u h.1) (fun h=>H3.u h.1) (fun h=>H1.u h.1) Qn.u HW.u o' hv he);have UX:=GX
 exact FB
theorem ET (b o c:Nat) (xs:List ByteArray) (sep:ByteArray) (w:World) (NK:∀(j:Nat) x,xs[j]?=some x->w.cell? (aA b (o+j))=some (.string x)) (hb:b<w.heap.size) (hn:xs.length<=2000000) (hc:xs.length<=c) (hj:(jn sep xs).size<=10000000000):
  Calls prog 18 #[.slice (some ⟨b,o,none⟩) xs.length c,.string sep] w fun e w'=>e=.returned (.string (jn sep xs))/\Ext w w':=by
 have HJ:=Xb sep xs;have FX:(Lib.join (xs.map (·.data.toList)) sep.data.toList).length<=140737488355328:=by
  have e:(Lib.join (xs.map (·.data.toList)) sep.data.toList).length=(jn sep xs).size:=by rw [<-HJ];rfl
  omega
 have HC:Hid (Calls prog 43 #[.slice (some ⟨b,o,none⟩) xs.length c,.string sep] w fun e w'=>e=.returned (.string (jn sep xs))/\Ext w w'):=by
  refine (strings_Join b o c xs sep w NK hb aa hc FX).mono ?_;rintro e w' ⟨rfl,hb⟩;rw [HJ]
  exact ⟨rfl,hb⟩
 clear NK FX hj HJ hb hn hc;go_enter func18,ntmps18;go_wp2_with fail;refine HC.u.mono ?_;rintro e w' ⟨rfl,hx⟩;go_wp2;go_ret
 exact ⟨rfl,hx⟩
theorem aic {o:Oq} (h:dM o 4 3=true) (hk:o.k=1) (hc:0<o.cond):jn ⟨#[32]⟩ ((ow o).drop 2)=iQ o.g:=by
 rcases ke h with ⟨_,_,_,mo,_⟩|⟨KQ,_⟩|⟨KQ,_⟩
 ·unfold ow;rw [aM aa,aM aa,aY hc,OV mo];rfl
 ·omega
 ·omega
theorem uk {P:Prop} (h:P:=by
 obtain ⟨⟨d0,d1,d2,d3,d4,d5,d6,d7⟩,-⟩:=uh UB.u
 by_cases hz:s=⟨#[]⟩
 ·exact Km
 ·have e1:(ByteArray.toList s).isEmpty=false:=by
   cases e:(ByteArray.toList s).isEmpty
   ·rfl
   ·exact absurd ((sO s).1 e) hz
  have HSZ:=hY hz;clear hz;go_wp2_with fail;refine (qU u _ (sY.u.ext (eK.u.trans UX.u)).gn).mono ?_;rintro e v9 ⟨rfl,Ek⟩;have kL:=hY Ek;clear Ek d0 d1 d2 d3 d4 d5 d6 d7;obtain ⟨⟨a0,a1,a2,a3,a4,a5,a6,a7⟩,z0,z1,z2,z3,z4,z5,z6,z7⟩:=uh (dv.u.ext (UX.u.trans kL.u));obtain ⟨os,PD⟩:=ex (kC u);rw [PD];have Yd:=hY PD;clear PD;obtain ⟨qq,LC⟩:=ex ((ByteArray.toList os==ByteArray.toList s))
  cases qq
  ·exact Kn
  ·have HQ:=hY (ni.1 LC);obtain ⟨⟨d0,d1,d2,d3,d4,d5,d6,d7⟩,-⟩:=uh (UB.u.ext kL.u);go_wp2
   exact bJ (v:=.tuple #[(u:Oq).val,.bool true]) (aR rfl _ _ _ _ _ _ _ rfl rfl ((dv.u.ext (UX.u.trans kL.u)).Vo (iI u.k) (iI u.g.k) (iI u.g.a) (iI u.g.b) (iI u.g.c) (iI u.q) (iI u.bit) (iI u.cond)) NB rfl Fy) rfl ⟨MW u rfl HSZ.u (Yd.u.trans HQ.u) HS.u,Cp (eK.u.trans (UX.u.trans kL.u)) (lI _) _ _ _ _ _ _ _ _⟩):P:=h
theorem Dr (s:ByteArray) (hs:s.size<=1400000) (w:World) (hw:PW w):Calls prog 30 #[.string s] w fun e w'=>XZ s e/\Ext w w':=by
 have sY:=hY hw;clear hw;go_enter func30,ntmps30;go_wp2_with fail;refine (gX s 32 32 rfl _ (sY.u.ext xx).max aa).mono ?_;rintro e w2 ⟨b,rfl,jk,bz⟩;have Bl:=tj 32 s;have EN:=oK 32 s;have dv:Hid (au w2 w.heap.size 41 #[iI 0,iI 0,iI 0,iI 0,iI 0,iI 0,iI 0,iI 0]):=(au.new w _ _).ext bz;have eK:Hid (Ext w w2):=Ext.trans ((xZ w).alloc _) bz;have jm:∀y∈cut 32 s,y.size<=2000000:=fun y hy=>oM (kS hy)
 have Ce:Hid (((cut 32 s).getD 1 ⟨#[]⟩).size<=2000000000000):=lK (iB jm 1) ae;have HZ2:Hid (((cut 32 s).getD 2 ⟨#[]⟩).size<=2000000000000):=lK (iB jm 2) ae;have HYG:Hid (∀w',Ext w2 w'->∀i,i<(cut 32 s).length->w'.cell? (aA b i)=some (.string ((cut 32 s).getD i ⟨#[]⟩))):=fun w' q i hi=>by
  obtain ⟨h1,_,h3⟩:=JE jk hi;rw [lM] at h3
  exact (q.cell (p:=(aA b i)) h1).trans h3
 have HBL:=hY ((JE jk Bl).1);have HW:Hid (∀o:Oq,dM o 4 3=true->s=kC o->OW ((cut 32 s).getD 0 ⟨#[]⟩) ((cut 32 s).getD 1 ⟨#[]⟩) ((cut 32 s).getD 2 ⟨#[]⟩) (cut 32 s).length o):=by
  intro o hv he;have:=Ya hv;rw [<-OX hv,<-he] at this
  exact this
 have HJS:Hid ((jn ⟨#[32]⟩ ((cut 32 s).drop 2)).size<=1500000):=by have:=Lv 32 s 2;unfold Hid;omega
 have HJR:Hid (∀o:Oq,dM o 4 3=true->s=kC o->o.k=1->0<o.cond->jn ⟨#[32]⟩ ((cut 32 s).drop 2)=iQ o.g):=by
  intro o hv he hk hc;rw [he,OX hv]
  exact aic hv hk hc
 obtain ⟨y0,mg⟩:=ex ((cut 32 s).getD 0 ⟨#[]⟩);obtain ⟨y1,dw⟩:=ex ((cut 32 s).getD 1 ⟨#[]⟩);obtain ⟨y2,iW⟩:=ex ((cut 32 s).getD 2 ⟨#[]⟩);rw [mg,dw,iW] at HW;rw [dw] at Ce;rw [iW] at HZ2;have HJC:Hid (∀w',Ext w2 w'->2<(cut 32 s).length->Calls prog 18 #[.slice (some ⟨b,2,none⟩) ((cut 32 s).length - 2) ((cut 32 s).length - 2),.string ⟨#[32]⟩] w' fun e w''=>e=.returned (.string (jn ⟨#[32]⟩ ((cut 32 s).drop 2)))/\Ext w' w''):=by
  intro w' q h3;have:=ET b 2 ((cut 32 s).length - 2) ((cut 32 s).drop 2) ⟨#[32]⟩ w' (fun j x hx=>?_) (qD HBL.u q.size) (by rw [lU];omega) (by rw [lU];exact lI _) (oM HJS.u)
  ·rw [lU] at this
   exact this
  ·rw [vK] at hx;have ba:=(gu.1 hx).1;have h4:=HYG.u w' q (2+j) ba;have:(cut 32 s).getD (2+j) ⟨#[]⟩=x:=by simp [List.getD,hx]
   rw [this] at h4
   exact h4
 generalize hjt:jn ⟨#[32]⟩ ((cut 32 s).drop 2)=jt at*
 clear hjt;obtain ⟨m,hm⟩:=ex ((cut 32 s).length);rw [hm] at HW HJC EN Bl |-;have HY:Hid (∀w',Ext w2 w'->w'.cell? (aA b 0)=some (.string y0)/\(1<m->w'.cell? (aA b 1)=some (.string y1))/\(2<m->w'.cell? (aA b 2)=some (.string y2))):=fun w' q=>⟨by rw [<-mg];exact HYG.u w' q 0 aa,fun h=>by rw [<-dw];exact HYG.u w' q 1 aa,fun h=>by rw [<-iW];exact HYG.u w' q 2 aa⟩
 have Oh:(0:Int)<(m:Int):=aa
 clear hm jm mg dw iW jk bz HYG;go_upto_region 4 with fail;have B0:Hid (au (w2.alloc (cO #[iI 1,iI 0,iI 0,iI 0,iI 0,iI 0,iI 0,iI 0] 41)) w2.heap.size 41 #[iI 1,iI 0,iI 0,iI 0,iI 0,iI 0,iI 0,iI 0]):=au.new _ _ _;have X0:Hid (Ext w2 (w2.alloc (cO #[iI 1,iI 0,iI 0,iI 0,iI 0,iI 0,iI 0,iI 0] 41))):=(xZ w2).alloc _;obtain ⟨g,hg⟩:=ey (w2.heap.size);rw [<-hg] at B0 |-;have HG:=hY (CK hg.symm);clear hg;generalize w2.alloc (cO #[iI 1,iI 0,iI 0,iI 0,iI 0,iI 0,iI 0,iI 0] 41)=W0 at*
 have q0:W0.cell? (aA b 0)=some (.string y0):=(HY.u _ X0.u).1;have hne:=xf;have LN:Hid (m<=1500000):=bN
 clear EN Bl
 by_cases hi:y0=wI
 ·have HH:=hY hi;have ei:=aaw (l:=[105,102]) hi;have H2:Hid (¬y0=ZE):=fun h=>hne.2.1 (h.symm.trans hi)
  have H3:Hid (¬y0=Xl):=fun h=>hne.2.2 (h.symm.trans hi)
  have em:=PC (l:=[109,101,97,115,117,114,101]) H2.u;have ec:=PC (l:=[99,108,101,97,110]) H3.u;clear hi hne
  by_cases hm:2<m
  ·have hm':(2:Int)<(m:Int):=aa
   have VS:(1:Int)<(m:Int):=aa
   have q1:W0.cell? (aA b 1)=some (.string y1):=(HY.u _ X0.u).2.1 aa;go_wp2_with fail;refine (bL y1 Ce.u _ (sY.u.ext (eK.u.trans X0.u))).mono ?_;rintro e v1 ⟨⟨n1,ok1,rfl,xW⟩,Dk⟩;have uE:=hY xW;have oU:=hY Dk;clear xW Dk q1;clear em ec ei q0;have hwn:wrap64 (n1+1)=n1+1:=yL
   have c7:=(B0.u.ext oU.u).ck 7;have f7:=(B0.u.ext oU.u).frozen 7;go_upto_region 7 with fail;clear c7 f7;have uQ:Hid (au (v1.setCell (aA g 7) (iI (n1+1))) g 41 #[iI 1,iI 0,iI 0,iI 0,iI 0,iI 0,iI 0,iI (n1+1)]):=(B0.u.ext oU.u).aU 7 _;have PE:Hid (Ext w2 (v1.setCell (aA g 7) (iI (n1+1)))):=(X0.u.trans oU.u).setCell (p:=(aA g 7)) HG.u _;generalize v1.setCell (aA g 7) (iI (n1+1))=U1 at*
   clear hwn;have Ye:=hY hm;have hm2:¬(m=2):=aa
   go_wp2_with fail;refine (HJC.u _ PE.u Ye.u).mono ?_;rintro e vj ⟨rfl,hvj⟩;have JB:Hid (au vj g 41 #[iI 1,iI 0,iI 0,iI 0,iI 0,iI 0,iI 0,iI (n1+1)]):=uQ.u.ext hvj;have JX:=hY (PE.u.trans hvj);clear hm hm' VS hm2 hvj;go_wp2_with fail;refine (ft jt HJS.u _ (sY.u.ext (eK.u.trans JX.u))).mono ?_;rintro e v8 ⟨⟨gt,okg,rfl,pU⟩,Kp⟩;have Qn:=hY pU;have gp:=hY Kp;clear pU Kp;have c1:=(JB.u.ext gp.u).ck 1;have f1:=(JB.u.ext gp.u).frozen 1;have c2:=(JB.u.ext gp.u).ck 2;have f2:=(JB.u.ext gp.u).frozen 2;have c3:=(JB.u.ext gp.u).ck 3;have f3:=(JB.u.ext gp.u).frozen 3;have c4:=(JB.u.ext gp.u).ck 4;have f4:=(JB.u.ext gp.u).frozen 4;go_upto_region 15 with fail;clear c1 c2 c3 c4 f1 f2 f3 f4;have GB:Hid (au (ji v8 g (iI gt.k) (iI gt.a) (iI gt.b) (iI gt.c)) g 41 #[iI 1,iI gt.k,iI gt.a,iI gt.b,iI gt.c,iI 0,iI 0,iI (n1+1)]):=(JB.u.ext gp.u).ji _ _ _ _;have GX:Hid (Ext w2 (ji v8 g (iI gt.k) (iI gt.a) (iI gt.b) (iI gt.c))):=nK (JX.u.trans gp.u) HG.u _ _ _ _;unfold ji at GB GX;generalize (((v8.setCell (aA g 1) (iI gt.k)).setCell (aA g 2) (iI gt.a)).setCell (aA g 3) (iI gt.b)).setCell (aA g 4) (iI gt.c)=GW at*
   have HGG:Hid (∀o:Oq,dM o 4 3=true->s=kC o->o.k=1->0<o.cond->gt=o.g):=by
    intro o hv he hk hc;rcases ke hv with ⟨_,_,_,mo,_⟩|⟨KQ,_⟩|⟨KQ,_⟩
    ·exact Qn.u o.g mo (HJR.u o hv he hk hc)
    ·omega
    ·omega
   obtain ⟨u,UB,HS,ek⟩:=opT (s:=s) (u:=⟨1,gt,0,0,n1+1⟩) 1 rfl GB.u (fun o' hv he=>aew HH.u uE.u HGG.u HW.u o' hv he);have UX:=GX
   exact uk
  ·have hm':¬((2:Int)<(m:Int)):=aa
   have Ye:=hY hm;clear hm;go_wp2_with fail;refine (ft s (oM hs) _ (sY.u.ext (eK.u.trans X0.u))).mono ?_;clear em ec ei q0 hm';rintro e v8 ⟨⟨gt,okg,rfl,pU⟩,Kp⟩;have Qn:=hY pU;have gp:=hY Kp;clear pU Kp;have c1:=(B0.u.ext gp.u).ck 1;have f1:=(B0.u.ext gp.u).frozen 1;have c2:=(B0.u.ext gp.u).ck 2;have f2:=(B0.u.ext gp.u).frozen 2;have c3:=(B0.u.ext gp.u).ck 3;have f3:=(B0.u.ext gp.u).frozen 3;have c4:=(B0.u.ext gp.u).ck 4;have f4:=(B0.u.ext gp.u).frozen 4;go_upto_region 15 with fail;clear c1 c2 c3 c4 f1 f2 f3 f4;have GB:Hid (au (ji v8 g (iI gt.k) (iI gt.a) (iI gt.b) (iI gt.c)) g 41 #[iI 1,iI gt.k,iI gt.a,iI gt.b,iI gt.c,iI 0,iI 0,iI 0]):=(B0.u.ext gp.u).ji _ _ _ _;have GX:Hid (Ext w2 (ji v8 g (iI gt.k) (iI gt.a) (iI gt.b) (iI gt.c))):=nK (X0.u.trans gp.u) HG.u _ _ _ _;unfold ji at GB GX;generalize (((v8.setCell (aA g 1) (iI gt.k)).setCell (aA g 2) (iI gt.a)).setCell (aA g 3) (iI gt.b)).setCell (aA g 4) (iI gt.c)=GW at*
   obtain ⟨u,UB,HS,ek⟩:=opT (s:=s) (u:=⟨1,gt,0,0,0⟩) 1 rfl GB.u (fun o' hv he=>SD (fun h=>H2.u h.1) (fun h=>H3.u h.1) (fun h=>oM Ye.u) Qn.u HW.u o' hv he);have UX:=GX
   exact uk
 have H1:=hY hi;have ei:=PC (l:=[105,102]) hi;clear hi
 by_cases h2:y0=ZE
 ·have HH:=hY h2;have em:=aaw (l:=[109,101,97,115,117,114,101]) h2;have H3:Hid (¬y0=Xl):=fun h=>hne.1 (h2.symm.trans h)
  have ec:=PC (l:=[99,108,101,97,110]) H3.u;clear h2 hne
  by_cases hm:m=3
  ·subst hm;have c0:=B0.u.ck 0;have c0:=(B0.u).ck 0;have f0:=(B0.u).frozen 0;go_upto_region 10 with fail;clear c0 f0;have uQ:Hid (au (W0.setCell (aA g 0) (iI 2)) g 41 #[iI 2,iI 0,iI 0,iI 0,iI 0,iI 0,iI 0,iI 0]):=(B0.u).aU 0 _;have PE:Hid (Ext w2 (W0.setCell (aA g 0) (iI 2))):=(X0.u).setCell (p:=(aA g 0)) HG.u _;generalize W0.setCell (aA g 0) (iI 2)=U1 at*
   clear em ec ei q0;have q1:U1.cell? (aA b 1)=some (.string y1):=(HY.u _ PE.u).2.1 aa;go_wp2_with fail;refine (bL y1 Ce.u _ (sY.u.ext (eK.u.trans PE.u))).mono ?_;rintro e v1 ⟨⟨n1,ok1,rfl,xW⟩,Dk⟩;have uE:=hY xW;have oU:=hY Dk;clear xW Dk q1;have c5:=(uQ.u.ext oU.u).ck 5;have f5:=(uQ.u.ext oU.u).frozen 5;go_upto_region 11 with fail;clear c5 f5;have UB2:Hid (au (v1.setCell (aA g 5) (iI n1)) g 41 #[iI 2,iI 0,iI 0,iI 0,iI 0,iI n1,iI 0,iI 0]):=(uQ.u.ext oU.u).aU 5 _;have UX2:Hid (Ext w2 (v1.setCell (aA g 5) (iI n1))):=(PE.u.trans oU.u).setCell (p:=(aA g 5)) HG.u _;generalize v1.setCell (aA g 5) (iI n1)=U2 at*
   have q2:U2.cell? (aA b 2)=some (.string y2):=(HY.u _ UX2.u).2.2 aa;go_wp2_with fail;refine (bL y2 HZ2.u _ (sY.u.ext (eK.u.trans UX2.u))).mono ?_;rintro e v2 ⟨⟨n2,ok2,rfl,Ls⟩,hv2⟩;have Ez:=hY Ls;have HV2:=hY hv2;clear Ls hv2 q2;have c6:=(UB2.u.ext HV2.u).ck 6;have f6:=(UB2.u.ext HV2.u).frozen 6;go_upto_region 15 with fail;clear c6 f6;have UB3:Hid (au (v2.setCell (aA g 6) (iI n2)) g 41 #[iI 2,iI 0,iI 0,iI 0,iI 0,iI n1,iI n2,iI 0]):=(UB2.u.ext HV2.u).aU 6 _;have UX3:Hid (Ext w2 (v2.setCell (aA g 6) (iI n2))):=(UX2.u.trans HV2.u).setCell (p:=(aA g 6)) HG.u _;generalize v2.setCell (aA g 6) (iI n2)=U3 at*
   obtain ⟨u,UB,HS,ek⟩:=opT (s:=s) (u:=⟨2,G0,n1,n2,0⟩) 2 rfl UB3.u (fun o' hv he=>ajD HH.u uE.u Ez.u HW.u o' hv he);have UX:=UX3
   exact uk
  ·have hm':((m:Int)==3)=false:=ai
   have Ye:=hY hm;clear hm;go_wp2_with fail;refine (ft s (oM hs) _ (sY.u.ext (eK.u.trans X0.u))).mono ?_;clear em ec ei q0 hm';rintro e v8 ⟨⟨gt,okg,rfl,pU⟩,Kp⟩;have Qn:=hY pU;have gp:=hY Kp;clear pU Kp;have c1:=(B0.u.ext gp.u).ck 1;have f1:=(B0.u.ext gp.u).frozen 1;have c2:=(B0.u.ext gp.u).ck 2;have f2:=(B0.u.ext gp.u).frozen 2;have c3:=(B0.u.ext gp.u).ck 3;have f3:=(B0.u.ext gp.u).frozen 3;have c4:=(B0.u.ext gp.u).ck 4;have f4:=(B0.u.ext gp.u).frozen 4;go_upto_region 15 with fail;clear c1 c2 c3 c4 f1 f2 f3 f4;have GB:Hid (au (ji v8 g (iI gt.k) (iI gt.a) (iI gt.b) (iI gt.c)) g 41 #[iI 1,iI gt.k,iI gt.a,iI gt.b,iI gt.c,iI 0,iI 0,iI 0]):=(B0.u.ext gp.u).ji _ _ _ _;have GX:Hid (Ext w2 (ji v8 g (iI gt.k) (iI gt.a) (iI gt.b) (iI gt.c))):=nK (X0.u.trans gp.u) HG.u _ _ _ _;unfold ji at GB GX;generalize (((v8.setCell (aA g 1) (iI gt.k)).setCell (aA g 2) (iI gt.a)).setCell (aA g 3) (iI gt.b)).setCell (aA g 4) (iI gt.c)=GW at*
   obtain ⟨u,UB,HS,ek⟩:=opT (s:=s) (u:=⟨1,gt,0,0,0⟩) 1 rfl GB.u (fun o' hv he=>SD (fun h=>Ye.u h.2) (fun h=>H3.u h.1) (fun h=>H1.u h.1) Qn.u HW.u o' hv he);have UX:=GX
   exact uk
 have H2:=hY h2;have em:=PC (l:=[109,101,97,115,117,114,101]) h2;clear h2 hne
 by_cases h3:y0=Xl
 ·have HH:=hY h3;have ec:=aaw (l:=[99,108,101,97,110]) h3;clear h3
  by_cases hm:m=2
  ·subst hm;have c0:=(B0.u).ck 0;have f0:=(B0.u).frozen 0;go_upto_region 14 with fail;clear c0 f0;have uQ:Hid (au (W0.setCell (aA g 0) (iI 3)) g 41 #[iI 3,iI 0,iI 0,iI 0,iI 0,iI 0,iI 0,iI 0]):=(B0.u).aU 0 _;have PE:Hid (Ext w2 (W0.setCell (aA g 0) (iI 3))):=(X0.u).setCell (p:=(aA g 0)) HG.u _;generalize W0.setCell (aA g 0) (iI 3)=U1 at*
   clear em ec ei q0;have q1:U1.cell? (aA b 1)=some (.string y1):=(HY.u _ PE.u).2.1 aa;go_wp2_with fail;refine (bL y1 Ce.u _ (sY.u.ext (eK.u.trans PE.u))).mono ?_;rintro e v1 ⟨⟨n1,ok1,rfl,xW⟩,Dk⟩;have uE:=hY xW;have oU:=hY Dk;clear xW Dk q1;have c5:=(uQ.u.ext oU.u).ck 5;have f5:=(uQ.u.ext oU.u).frozen 5;go_upto_region 15 with fail;clear c5 f5;have UB2:Hid (au (v1.setCell (aA g 5) (iI n1)) g 41 #[iI 3,iI 0,iI 0,iI 0,iI 0,iI n1,iI 0,iI 0]):=(uQ.u.ext oU.u).aU 5 _;have UX2:Hid (Ext w2 (v1.setCell (aA g 5) (iI n1))):=(PE.u.trans oU.u).setCell (p:=(aA g 5)) HG.u _;generalize v1.setCell (aA g 5) (iI n1)=U2 at*
   obtain ⟨u,UB,HS,ek⟩:=opT (s:=s) (u:=⟨3,G0,n1,0,0⟩) 3 rfl UB2.u (fun o' hv he=>ajE HH.u uE.u HW.u o' hv he);have UX:=UX2
   exact uk
  ·have hm':((m:Int)==2)=false:=ai
   have Ye:=hY hm;clear hm;go_wp2_with fail;refine (ft s (oM hs) _ (sY.u.ext (eK.u.trans X0.u))).mono ?_;clear em ec ei q0 hm';rintro e v8 ⟨⟨gt,okg,rfl,pU⟩,Kp⟩;have Qn:=hY pU;have gp:=hY Kp;clear pU Kp;have c1:=(B0.u.ext gp.u).ck 1;have f1:=(B0.u.ext gp.u).frozen 1;have c2:=(B0.u.ext gp.u).ck 2;have f2:=(B0.u.ext gp.u).frozen 2;have c3:=(B0.u.ext gp.u).ck 3;have f3:=(B0.u.ext gp.u).frozen 3;have c4:=(B0.u.ext gp.u).ck 4;have f4:=(B0.u.ext gp.u).frozen 4;go_upto_region 15 with fail;clear c1 c2 c3 c4 f1 f2 f3 f4;have GB:Hid (au (ji v8 g (iI gt.k) (iI gt.a) (iI gt.b) (iI gt.c)) g 41 #[iI 1,iI gt.k,iI gt.a,iI gt.b,iI gt.c,iI 0,iI 0,iI 0]):=(B0.u.ext gp.u).ji _ _ _ _;have GX:Hid (Ext w2 (ji v8 g (iI gt.k) (iI gt.a) (iI gt.b) (iI gt.c))):=nK (X0.u.trans gp.u) HG.u _ _ _ _;unfold ji at GB GX;generalize (((v8.setCell (aA g 1) (iI gt.k)).setCell (aA g 2) (iI gt.a)).setCell (aA g 3) (iI gt.b)).setCell (aA g 4) (iI gt.c)=GW at*
   obtain ⟨u,UB,HS,ek⟩:=opT (s:=s) (u:=⟨1,gt,0,0,0⟩) 1 rfl GB.u (fun o' hv he=>SD (fun h=>H2.u h.1) (fun h=>Ye.u h.2) (fun h=>H1.u h.1) Qn.u HW.u o' hv he);have UX:=GX
   exact uk
 have H3:=hY h3;have ec:=PC (l:=[99,108,101,97,110]) h3;clear h3;go_wp2_with fail;refine (ft s (oM hs) _ (sY.u.ext (eK.u.trans X0.u))).mono ?_;clear em ec ei q0;rintro e v8 ⟨⟨gt,okg,rfl,pU⟩,Kp⟩;have Qn:=hY pU;have gp:=hY Kp;clear pU Kp;have c1:=(B0.u.ext gp.u).ck 1;have f1:=(B0.u.ext gp.u).frozen 1;have c2:=(B0.u.ext gp.u).ck 2;have f2:=(B0.u.ext gp.u).frozen 2;have c3:=(B0.u.ext gp.u).ck 3;have f3:=(B0.u.ext gp.u).frozen 3;have c4:=(B0.u.ext gp.u).ck 4;have f4:=(B0.u.ext gp.u).frozen 4;go_upto_region 15 with fail;clear c1 c2 c3 c4 f1 f2 f3 f4;have GB:Hid (au (ji v8 g (iI gt.k) (iI gt.a) (iI gt.b) (iI gt.c)) g 41 #[iI 1,iI gt.k,iI gt.a,iI gt.b,iI gt.c,iI 0,iI 0,iI 0]):=(B0.u.ext gp.u).ji _ _ _ _;have GX:Hid (Ext w2 (ji v8 g (iI gt.k) (iI gt.a) (iI gt.b) (iI gt.c))):=nK (X0.u.trans gp.u) HG.u _ _ _ _;unfold ji at GB GX;generalize (((v8.setCell (aA g 1) (iI gt.k)).setCell (aA g 2) (iI gt.a)).setCell (aA g 3) (iI gt.b)).setCell (aA g 4) (iI gt.c)=GW at*
 obtain ⟨u,UB,HS,ek⟩:=opT (s:=s) (u:=⟨1,gt,0,0,0⟩) 1 rfl GB.u (fun o' hv he=>SD (fun h=>H2.u h.1) (fun h=>H3.u h.1) (fun h=>H1.u h.1) Qn.u HW.u o' hv he);have UX:=GX
 exact uk
def PG (p:List Int):Prop:=∀q∈p,0<=q/\q<=4
theorem aeL (f:ByteArray) (p:List Int):ew f p=jn ⟨#[32]⟩ (f::p.map cP):=(Xj _ _ _).symm
theorem PH {f:ByteArray} {p:List Int} (hf:(32:UInt8) ∉ f.data.toList) (hp:PG p):cut 32 (ew f p)=f::p.map cP:=by
 rw [aeL];refine OU 32 f _ ?_;intro y hy;rcases jw.1 hy with rfl|hy
 ·exact hf
 ·obtain ⟨q,hq,rfl⟩:=qH.1 hy
  exact oV (hp q hq).1 (hp q hq).2
def RN (ts:List ByteArray) (xs:List Int):Prop:=xs.length<=ts.length/\∀(j:Nat) (q:Int),xs[j]?=some q->∃t,ts[j]?=some t/\∃ok,PN t q ok
theorem RN.nil (ts:List ByteArray):RN ts []:=⟨lJ _,fun j e h=>dX⟩
theorem RN.snoc {ts:List ByteArray} {xs:List Int} {t:ByteArray} {q:Int} {ok:Bool} {k:Nat} (h:RN ts xs) (hk:xs.length=k) (ht:ts[k]?=some t) (he:PN t q ok):RN ts (xs++[q]):=by
 subst hk;have hl:=(gu.1 ht).1;refine ⟨ai,fun j y hj=>?_⟩
 by_cases ba:j<xs.length
 ·rw [oY ba] at hj
  exact h.2 j y hj
 ·have hj2:=(gu.1 hj).1;simp at hj2;obtain rfl:j=xs.length:=aa
  rw [uS (lI _)] at hj;simp at hj;subst hj
  exact ⟨t,ht,ok,he⟩
theorem Yf {ts:List ByteArray} {xs p:List Int} (h:RN ts xs) (hts:ts=p.map cP) (hp:PG p) (hl:xs.length=ts.length):xs=p:=by
 subst hts;rw [jK] at hl;apply FM;intro j
 by_cases hj:j<xs.length
 ·have hx:xs[j]?=some xs[j]:=lB hj;have hg:p[j]?=some (p[j]' aa):=lB aa;obtain ⟨t,ht,ok,hn⟩:=h.2 j _ hx;rw [rY,hg] at ht;have hq:=hp _ (lG hg);rw [hx,hg,(hn.2.2 _ hq.1 hq.2 (kx ht).symm).1]
 ·rw [rW aa,rW aa]
theorem Kq (w:World) (B:Nat) (e:TypeId):w.ownsRow B e 1 (nS) 0 []:=⟨rfl,.inl ⟨rfl,rfl⟩⟩
theorem sS {w:World} {B n:Nat} {A:OA} {xs:List ByteArray} (h:Rd w B 1 A n (df xs)) (h0:0<n):∃b o,A=some ⟨b,o,none⟩/\b<B/\∀i,i<n->xs[i]?=some (xs.getD i ⟨#[]⟩)/\w.cell? (aA b (o+i))=some (.string (xs.getD i ⟨#[]⟩)):=by
 obtain ⟨b,o,x,rfl,hb,_,_⟩:=my h h0;refine ⟨b,o,rfl,hb,fun i hi=>?_⟩;obtain ⟨b',o',y,e,_,hy,hc⟩:=my h hi;injection e with e;injection e with e1 e2;subst e1 e2;have:xs.getD i ⟨#[]⟩=y:=by simp [List.getD,hy]
 rw [this]
 exact ⟨hy,hc⟩
def LS (s:ByteArray) (xs:List Int):Prop:=xs.length<=5/\∀(f:ByteArray) (p:List Int),(32:UInt8) ∉ f.data.toList->PG p->p.length<=4->s=ew f p->xs=p
def LI (s f:ByteArray) (xs:List Int):Prop:=xs.length<=s.size/\∀p:List Int,(32:UInt8) ∉ f.data.toList->PG p->s=ew f p->xs=p
def Yg (Q:List Int->Prop) (b0:Nat) (e:Ending) (w':World):Prop:=∃(v:Value) (xs:List Int),e=.returned v/\w'.ownsRow b0 3 1 v xs.length (aD xs)/\Q xs
theorem AY {P:Prop} (h:P:=by
 go_wp2;go_ret
 exact ⟨⟨_,xs,rfl,HO.u,HF.u⟩,cH.u.trans hx⟩):P:=h
theorem gM (s:ByteArray) (hs:s.size<=1500000) (w:World):Calls prog 34 #[.string s] w fun e w'=>Yg (LS s) w.heap.size e w'/\Ext w w':=by
 go_enter func34,ntmps34;go_wp2_with fail;refine (fq s 32 32 rfl _ aa).mono ?_;rintro e w1 ⟨v1,rfl,eu,aK⟩;have Bl:=tj 32 s;have EN:=oK 32 s;obtain ⟨A1,c1,rfl,kG⟩:=ak eu;obtain ⟨b,o,rfl,hb,VG⟩:=sS kG Bl;have cH:=hY aK;have HY:Hid (∀w',Ext w1 w'->∀i,i<(cut 32 s).length->w'.cell? (aA b (o+i))=some (.string ((cut 32 s).getD i ⟨#[]⟩))):=fun w' q i hi=>(q.cell (p:=(aA b (o+i))) hb).trans (VG i hi).2
 have HYS:Hid (∀i,i<(cut 32 s).length->(cut 32 s)[i]?=some ((cut 32 s).getD i ⟨#[]⟩)):=fun i hi=>(VG i hi).1
 have HZ:Hid (∀i,((cut 32 s).getD i ⟨#[]⟩).size<=2000000):=fun i=>iB (fun y hy=>oM (kS hy)) i
 obtain ⟨m,hm⟩:=ex ((cut 32 s).length);rw [hm] at HY HYS Bl EN |-;have HM:=hY hm;clear hm VG kG eu aK hb;go_wp2
 go_loopw [4,5] (fun ov iv wr=>∃(k:Nat) (xs:List Int),iv=iI ((k+1:Nat):Int)/\k<=5/\k+1<=m/\wr.ownsRow w1.heap.size 3 1 ov k (aD xs)/\Ext w1 wr/\Hid (RN ((cut 32 s).drop 1) xs)) (fun _ i _=>7 - (intOf i).toNat)
 case atStart=>exact ⟨0,[],rfl,aa,aa,aN w1 w1 _ _ (xZ w1),(xZ w1).alloc _,RN.nil _⟩
 case round=>
  obtain ⟨k,xs,rfl,hk5,hkm,bj,hx,RR⟩:=hrel;have hlen:xs.length=k:=yI
  have cT:=hY hlen;clear hlen
  by_cases hc:k+1<m/\k+1<=5
  ·obtain ⟨qJ,zm⟩:=hc;have amu:((k+1:Nat):Int)<(m:Int):=aa
   have aqY:((k+1:Nat):Int)<=5:=aa
   have lu:(0:Int)<=((k+1:Nat):Int):=aa
   obtain ⟨t,ht⟩:=ex ((cut 32 s).getD (k+1) ⟨#[]⟩);have HT:Hid (((cut 32 s).drop 1)[k]?=some t):=by unfold Hid;rw [vK,zz,HYS.u (k+1) qJ,ht]
   have HTZ:Hid (t.size<=2000000):=by unfold Hid;rw [<-ht];exact HZ.u _
   have q1:wr.cell? (aA b (o+(k+1)))=some (.string t):=by rw [<-ht];exact HY.u _ hx (k+1) qJ
   clear ht;have K5:Hid (k+1<m/\k+1<=5):=⟨qJ,zm⟩;obtain ⟨k1,et⟩:=ex (k+1);rw [et] at amu aqY lu q1 |-;have dy:=hY et;clear et qJ zm hkm;go_wp2_with fail;refine (bB t HTZ.u _).mono ?_;rintro e w3 ⟨⟨n,ok,rfl,hp⟩,bO⟩;have HP:=hY hp;clear hp q1;have aeM:=aj bj bO;have fy:=hx.trans bO;clear bO bj;go_wp2_with (at_builtin;refine pq rfl _ _ rfl _ k xs rfl aeM fy n _ _ rfl rfl aa ?_;intro v1 w5 aeN cI zK NZ)
   go_roundw
   case rel=>exact ⟨k+1,xs++[n],by have:=dy.u;have:=K5.u;go_num,oM K5.u,oM K5.u,aeN,cI,hY (RR.u.snoc cT.u HT.u HP.u)⟩
   case measure=>simp [intOf];have:=dy.u;have:=K5.u;omega
  ·have HF:Hid (LS s xs):=by
    refine ⟨oM cT.u,fun f p hf hp zV he=>?_⟩;have uF:cut 32 s=f::p.map cP:=by rw [he,PH hf hp]
    have hmm:=HM.u;rw [uF] at hmm;simp at hmm;have hR:=RR.u;rw [uF] at hR
    exact Yf hR rfl hp (by have:=cT.u;have:=hR.1;simp at this |-;omega)
   have HO:Hid (wr.ownsRow w.heap.size 3 1 u4 xs.length (aD xs)):=yJ
   obtain ⟨k1,et⟩:=ex (k+1);rw [et]
   by_cases qJ:k1<m
   ·have amu:(k1:Int)<(m:Int):=aa
    have aqY:¬((k1:Int)<=5):=aa
    clear et hc qJ hk5 hkm
    exact AY
   ·have amu:¬((k1:Int)<(m:Int)):=aa
    clear et hc qJ hk5 hkm
    exact AY
theorem eD (s f:ByteArray) (hs:s.size<=1500000) (w:World) (hw:PW w):Calls prog 29 #[.string s,.string f] w fun e w'=>Yg (LI s f) w.heap.size e w'/\Ext w w':=by
 have sY:=hY hw;clear hw;go_enter func29,ntmps29;go_wp2_with fail;refine (gX s 32 32 rfl _ sY.u.max aa).mono ?_;rintro e w1 ⟨b,rfl,kG,aK⟩;have Bl:=tj 32 s;have EN:=oK 32 s;obtain ⟨b',o',hbo,hb,VG⟩:=sS kG Bl;injection hbo with hbo;injection hbo with e1 e2;subst e1 e2;have cH:=hY aK;have HY:Hid (∀w',Ext w1 w'->∀i,i<(cut 32 s).length->w'.cell? (aA b i)=some (.string ((cut 32 s).getD i ⟨#[]⟩))):=fun w' q i hi=>yK
 have HYS:Hid (∀i,i<(cut 32 s).length->(cut 32 s)[i]?=some ((cut 32 s).getD i ⟨#[]⟩)):=fun i hi=>(VG i hi).1
 have HZ:Hid (∀i,((cut 32 s).getD i ⟨#[]⟩).size<=2000000000000):=fun i=>lK (iB (m:=1500000) (fun y hy=>oM (kS hy)) i) ae
 obtain ⟨y0,mg⟩:=ex ((cut 32 s).getD 0 ⟨#[]⟩);obtain ⟨m,hm⟩:=ex ((cut 32 s).length);rw [hm] at HY HYS Bl EN |-;have HM:=hY hm;have HY0:=hY mg;have HMS:=hY EN;have HQ0:Hid (∀w',Ext w1 w'->w'.cell? (aA b 0)=some (.string y0)):=fun w' q=>by rw [<-HY0.u];exact HY.u w' q 0 Bl
 have HMB:Hid (m<=1500001):=bN
 have HFP:Hid (∀p:List Int,(32:UInt8) ∉ f.data.toList->PG p->s=ew f p->y0=f/\m=p.length+1/\(cut 32 s).drop 1=p.map cP):=by
  intro p hf hp he;have uF:cut 32 s=f::p.map cP:=by rw [he,PH hf hp]
  refine ⟨?_,?_,?_⟩
  ·rw [<-mg,uF];rfl
  ·rw [<-hm,uF];simp
  ·rw [uF];rfl
 have Oh:(0:Int)<(m:Int):=aa
 clear hm mg VG kG aK hb EN
 by_cases h1:m=1
 ·subst h1;go_wp2
  go_loopw [6,17] (fun ov iv wr=>iv=iI 0/\wr.ownsRow w1.heap.size 3 1 ov 0 (aD [])/\Ext w1 wr) (fun _ i _=>1 - (intOf i).toNat)
  case atStart=>exact ⟨rfl,aN w1 w1 _ _ (xZ w1),(xZ w1).alloc _⟩
  case round=>
   obtain ⟨rfl,bj,hx⟩:=hrel;have HF:Hid (LI s f []):=⟨lJ _,fun p hf hp he=>by have:=(HFP.u p hf hp he).2.1;simp at this;exact this.symm⟩;have HO:=hY (aC bj cH.u.size);have r0:=HQ0.u _ hx;obtain ⟨qq,LC⟩:=ex ((ByteArray.toList y0==ByteArray.toList f))
   cases qq
   ·go_wp2;go_ret
    exact ⟨⟨_,[],rfl,Kq _ _ _,HF.u⟩,cH.u.trans hx⟩
   ·go_wp2;go_ret
    exact ⟨⟨_,[],rfl,HO.u,HF.u⟩,cH.u.trans hx⟩
 have hm2:2<=m:=aa
 have VS:(1:Int)<(m:Int):=aa
 obtain ⟨n1,jX⟩:∃n1,m=n1+1:=⟨m - 1,aa⟩;subst jX;have Tk:¬(n1=0):=aa
 go_wp2;clear Oh h1 hm2 VS Bl
 go_loopw [6,17] (fun ov iv wr=>∃(k:Nat) (xs:List Int),iv=iI k/\k<=n1/\wr.ownsRow w1.heap.size 3 1 ov k (aD xs)/\Ext w1 wr/\Hid (RN ((cut 32 s).drop 1) xs)) (fun _ i _=>n1 - (intOf i).toNat)
 case atStart=>exact ⟨0,[],rfl,lJ _,aN w1 w1 _ _ (xZ w1),(xZ w1).alloc _,RN.nil _⟩
 case round=>
  obtain ⟨k,xs,rfl,hk,bj,hx,RR⟩:=hrel;have hlen:xs.length=k:=yI
  have cT:=hY hlen;clear hlen
  by_cases ba:k<n1
  ·have NP:(k:Int)<(n1:Int):=aa
   have lu:(0:Int)<=(k:Int):=aa
   have EM:(k:Int)<=2000000:=oM HMB.u
   obtain ⟨t,ht⟩:=ex ((cut 32 s).getD (k+1) ⟨#[]⟩);have HT:Hid (((cut 32 s).drop 1)[k]?=some t):=by unfold Hid;rw [vK,zz,HYS.u (k+1) aa,ht]
   have HTZ:Hid (t.size<=2000000000000):=by unfold Hid;rw [<-ht];exact HZ.u _
   have q1:wr.cell? (aA b (1+k))=some (.string t):=by rw [<-ht,zz];exact HY.u _ hx (k+1) aa
   have bZ:Hid (k<n1):=ba;clear ht ba hk;go_wp2_with fail;refine (bL t HTZ.u _ (sY.u.ext (cH.u.trans hx))).mono ?_;rintro e w3 ⟨⟨n,ok,rfl,hp⟩,bO⟩;have HP:=hY hp;clear hp q1;have aeM:=aj bj bO;have fy:=hx.trans bO;clear bO bj
   cases ok
   ·have HF:Hid (LI s f []):=⟨lJ _,fun p hf hp he=>by
     have hd:=(HFP.u p hf hp he).2.2;have ht:=HT.u;rw [hd,rY] at ht
     cases hg:p[k]? with
     |none=>rw [hg] at ht;cases ht
     |some q=>
      rw [hg] at ht;have hq:=hp q (lG hg);have:=(HP.u.2.2 q hq.1 hq.2 (kx ht).symm).2
      cases this⟩
    go_wp2;go_ret
    exact ⟨⟨_,[],rfl,Kq _ _ _,HF.u⟩,cH.u.trans fy⟩
   ·go_wp2_with (at_builtin;refine pq rfl _ _ rfl _ k xs rfl aeM fy n _ _ rfl rfl aa ?_;intro v1 w5 aeN cI zK NZ)
    go_roundw
    case rel=>exact ⟨k+1,xs++[n],az,oM bZ.u,aeN,cI,hY (RR.u.snoc cT.u HT.u HP.u)⟩
    case measure=>simp [intOf];have:=bZ.u;omega
  ·have NP:¬((k:Int)<(n1:Int)):=aa
   have jJ:k=n1:=aa
   have HF:Hid (LI s f xs):=by
    refine ⟨oN cT.u HMS.u,fun p hf hp he=>?_⟩;obtain ⟨_,h2,h3⟩:=HFP.u p hf hp he;have hR:=RR.u;rw [h3] at hR
    exact Yf hR rfl hp (by have:=cT.u;simp;omega)
   have HO:Hid (wr.ownsRow w.heap.size 3 1 u6 xs.length (aD xs)):=yJ
   have r0:=HQ0.u _ hx;obtain ⟨qq,LC⟩:=ex ((ByteArray.toList y0==ByteArray.toList f))
   cases qq
   ·have HE:Hid (LI s f []):=⟨lJ _,fun p hf hp he=>by
     have:=(HFP.u p hf hp he).1;rw [this,hH] at LC
     cases LC⟩
    clear jJ ba;go_wp2;go_ret
    exact ⟨⟨_,[],rfl,Kq _ _ _,HE.u⟩,cH.u.trans hx⟩
   ·clear jJ ba
    exact AY
end Go.Proofs.YtodhjgngkkcjgaaGreatDoor
