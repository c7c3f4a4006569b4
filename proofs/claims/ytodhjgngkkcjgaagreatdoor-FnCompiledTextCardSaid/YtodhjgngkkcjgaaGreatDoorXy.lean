import Derived.Test.YtodhjgngkkcjgaaGreatDoorXt
import Derived.Test.YtodhjgngkkcjgaaGreatDoorXu
import Derived.Test.YtodhjgngkkcjgaaGreatDoorXs
import Derived.Test.YtodhjgngkkcjgaaGreatDoorXg
namespace Go.Proofs.YtodhjgngkkcjgaaGreatDoor
open Go.ChangeShapes Go.WideShapes Go.ChangeAt Go.RowKit Go.Deep Go.Proofs.Tryz
set_option linter.unusedVariables false
set_option linter.unusedSimpArgs false
set_option maxRecDepth 100000
set_option maxHeartbeats 16000000
def Pe (s:ByteArray) (e:Ending):Prop:=∃(g:Gt) (ok:Bool),e=.returned (.tuple #[g.val,.bool ok])/\∀h:Gt,vg h 4=true->s=iQ h->g=h
theorem fO {s:ByteArray} {e:Ending} (g:Gt) (ok:Bool) (he:e=.returned (.tuple #[g.val,.bool ok])) (q:∀h:Gt,vg h 4=true->s=iQ h->g=h):Pe s e:=⟨g,ok,he,q⟩
theorem dr:(prog.info? 39).map (·.size)=some 4:=af
def GW (y0 y1 y2 y3:ByteArray) (h:Gt):Prop:=y0=oa h.k/\(1<=ar h.k->y1=cP h.a)/\(2<=ar h.k->y2=cP h.b)/\(3<=ar h.k->y3=cP h.c)
theorem apS {h:Gt} {r:List ByteArray} {y0 y1 y2 y3:ByteArray} (h0:(gw h++r)[0]?=some y0) (h1:(gw h++r)[1]?=some y1) (h2:(gw h++r)[2]?=some y2) (h3:(gw h++r)[3]?=some y3):GW y0 y1 y2 y3 h:=by
 have hr:=eL h.k;unfold gw kf qs at h0 h1 h2 h3;unfold GW;rcases (aa:ar h.k=0\/ar h.k=1\/ar h.k=2\/ar h.k=3) with e|e|e|e
 all_goals
  rw [e] at h0 h1 h2 h3 |-;simp at h0 h1 h2 h3;refine ⟨sU h0.symm,fun q=>?_,fun q=>?_,fun q=>?_⟩
 all_goals first|omega|(first|exact h1.symm|exact h2.symm|exact h3.symm)
theorem sL {y0 y1 y2 y3:ByteArray} {k a b c:Int} {h:Gt} (hv:vg h 4=true) (hw:GW y0 y1 y2 y3 h) (hk:∀j,1<=j->j<=12->y0=oa j->k=j)
  (ha:1<=ar k->∃ok,PN y1 a ok) (hb:2<=ar k->∃ok,PN y2 b ok) (hc:3<=ar k->∃ok,PN y3 c ok) (za:ar k<=0->a=0) (zb:ar k<=1->b=0) (zc:ar k<=2->c=0):(⟨k,a,b,c⟩:Gt)=h:=by
 obtain ⟨w0,w1,w2,w3⟩:=hw;have EM:=ahu hv;have e0:k=h.k:=hk h.k EM.1 EM.2 w0;subst e0;have hz:=ahw hv;have hq:∀(i:Nat) q,(qs h)[i]?=some q->(i:Int)<ar h.k->0<=q/\q<=3:=by
  intro i q hi ba;refine Fp hv ?_;unfold kf
  exact lG (i:=i) yQ
 have ea:a=h.a:=by
  rcases (aa:ar h.k<=0\/1<=ar h.k) with e|e
  ·rw [za e,hz.1 e]
  ·obtain ⟨ok,hp⟩:=ha e;have:=hq 0 h.a rfl aa
   exact (hp.2.2 h.a this.1 aa (w1 e)).1
 have eb:b=h.b:=by
  rcases (aa:ar h.k<=1\/2<=ar h.k) with e|e
  ·rw [zb e,hz.2.1 e]
  ·obtain ⟨ok,hp⟩:=hb e;have:=hq 1 h.b rfl aa
   exact (hp.2.2 h.b this.1 aa (w2 e)).1
 have ec:c=h.c:=by
  rcases (aa:ar h.k<=2\/3<=ar h.k) with e|e
  ·rw [zc e,hz.2.2 e]
  ·obtain ⟨ok,hp⟩:=hc e;have:=hq 2 h.c rfl aa
   exact (hp.2.2 h.c this.1 aa (w3 e)).1
 subst ea eb ec;rfl
theorem tW {P:Prop} (h:P:=by
 intro h hv he;have:=Dh hv;rw [<-he,hz] at this
 exact absurd this ae):P:=h
theorem tX {P:Prop} (h:P:=by
 intro h hv he;have h1:=HS.u h hv he;rw [h1,<-he,hH] at hq
 cases hq):P:=h
theorem tY {P:Prop} (h:P:=by
 cases e:(ByteArray.toList s).isEmpty
 ·rfl
 ·exact absurd (e0.1 e) hz):P:=h
theorem kt (s:ByteArray) (hs:s.size<=1500000) (w:World):Calls prog 54 #[.string s] w fun e w'=>Pe s e/\Ext w w':=by
 go_enter func54,ntmps54;go_wp2_with fail;refine (fq s 32 32 rfl _ aa).mono ?_;rintro e w1 ⟨v1,rfl,eu,aK⟩;have EN:=oK 32 s;have Bl:=tj 32 s;go_wp2_with (at_builtin;refine NR rfl _ _ rfl _ _ (cut 32 s) rfl (eu.alloc _) ((xZ _).trans aK|>.alloc _) _ 3 3 [⟨#[]⟩,⟨#[]⟩,⟨#[]⟩] rfl (eC w1 _ _ _ 3 1 _ rfl rfl rfl) aa ?_;intro v2 w2 fg bz _ _)
 obtain ⟨A2,c2,rfl,jk⟩:=ak fg;obtain ⟨b,o,y0,rfl,hb,mg,r0⟩:=my jk (i:=0) aa;obtain ⟨_,_,y1,e1,_,dw,r1⟩:=my jk (i:=1) aa;injection e1 with e1;injection e1 with e1 e1';subst e1 e1';obtain ⟨_,_,y2,e1,_,iW,r2⟩:=my jk (i:=2) aa;injection e1 with e1;injection e1 with e1 e1';subst e1 e1';obtain ⟨_,_,y3,e1,_,ig,r3⟩:=my jk (i:=3) aa;injection e1 with e1;injection e1 with e1 e1';subst e1 e1';have HW:Hid (∀h:Gt,vg h 4=true->s=iQ h->GW y0 y1 y2 y3 h):=by
  intro h hv he;rw [he,Xk hv] at mg dw iW ig
  exact apS mg dw iW ig
 have jm:∀y∈cut 32 s++[⟨#[]⟩,⟨#[]⟩,⟨#[]⟩],y.size<=2000000:=by
  intro y hy;rcases iT.1 hy with h|h
  ·have:=kS h;omega
  ·simp at h;subst h;exact lJ _
 have Ce:Hid (y1.size<=2000000):=jm _ (lG dw);have HZ2:Hid (y2.size<=2000000):=jm _ (lG iW);have HZ3:Hid (y3.size<=2000000):=jm _ (lG ig);have HY:Hid (∀w',Ext w2 w'->w'.cell? (aA b (o+1))=some (.string y1)/\w'.cell? (aA b (o+2))=some (.string y2)/\w'.cell? (aA b (o+3))=some (.string y3)):=fun w' q=>⟨(q.cell (p:=(aA b (o+1))) hb).trans r1,(q.cell (p:=(aA b (o+2))) hb).trans r2,(q.cell (p:=(aA b (o+3))) hb).trans r3⟩
 have dv:Hid (au w2 w.heap.size 39 zO):=(au.new w _ _).ext bz;have eK:Hid (Ext w w2):=Ext.trans ((xZ w).alloc _) bz;rw [oh] at r0;obtain ⟨m,hm⟩:=ex ((cut 32 s).length+3);rw [hm];have Oh:(0:Int)<(m:Int):=aa
 have VS:(1:Int)<(m:Int):=aa
 have hm2:(2:Int)<(m:Int):=aa
 have hm3:(3:Int)<(m:Int):=aa
 clear hm jm mg dw iW ig r1 r2 r3 jk fg bz eu aK EN Bl hb;go_wp2_with fail;refine (BX y0 _).mono ?_;rintro e w3 ⟨⟨k,rfl,lu,UL,hkj⟩,bO⟩;clear r0;have HKJ:=hY hkj;clear hkj;go_upto_region 3 with fail;have kN:Hid (au (w3.alloc (cO #[iI k,iI 0,iI 0,iI 0] 39)) w3.heap.size 39 #[iI k,iI 0,iI 0,iI 0]):=au.new _ _ _;have fy:Ext w2 (w3.alloc (cO #[iI k,iI 0,iI 0,iI 0] 39)):=bO.alloc _;have HG:=hY bO.size
 -- WAYS
 clear bO;have HK:Hid (0<=k/\k<=12):=⟨lu,UL⟩;have qC:=hY fy;clear fy;generalize w3.alloc (cO #[iI k,iI 0,iI 0,iI 0] 39)=W at*
 generalize w3.heap.size=g at*
 have HL:=hY dv.u.lt;have p0:=kN.u.ck 0;have e0:(ByteArray.toList s).isEmpty=true ↔ s=⟨#[]⟩:=by
  rw [List.isEmpty_iff];constructor
  ·intro h
   exact ni.1 (by rw [h];simp)
  ·rintro rfl;simp
 have au8:∀(V:World),Hid (au V w.heap.size 39 zO)->True:=fun _ _=>trivial
 clear au8;go_wp2_with fail;refine (bc k _).mono ?_;rintro e w4 ⟨rfl,rfl⟩;clear p0 lu UL;rcases (oM HK.u:k<1\/(1<=k/\k<=8)\/(9<=k/\k<=11)\/k=12) with hk|hk|hk|hk
 ·have ej:ar k=0:=ar0 (.inl hk);have EJ:=hY ej;rw [ej];clear ej hk;have HS:Hid (∀h:Gt,vg h 4=true->s=iQ h->(⟨k,0,0,0⟩:Gt)=h):=by
   intro h hv he;have hj:=EJ.u
   exact sL hv (HW.u h hv he) HKJ.u (fun q=>aa) (fun q=>aa) (fun q=>aa)  (fun _=>rfl) (fun _=>rfl) (fun _=>rfl)
  obtain ⟨gt,EW⟩:∃gt:Gt,gt=⟨k,0,0,0⟩:=⟨_,rfl⟩;rw [<-EW] at HS;have d0:=kN.u.ck 0;have d1:=kN.u.ck 1;have d2:=kN.u.ck 2;have d3:=kN.u.ck 3;have HR:Hid (au W w.heap.size 39 zO):=dv.u.ext qC.u
  by_cases hz:s=⟨#[]⟩
  ·have e1:=e0.2 hz;clear e0 EW;have HN:Hid (∀h:Gt,vg h 4=true->s=iQ h->(⟨0,0,0,0⟩:Gt)=h):=by
    exact tW
   clear hz;obtain ⟨⟨a0,a1,a2,a3⟩,z0,z1,z2,z3⟩:=aB HR.u;go_wp2
   exact bJ (v:=.tuple #[(⟨0,0,0,0⟩:Gt).val,.bool false]) (aR rfl _ _ _ _ _ _ _ rfl rfl (HR.u.bR (iI 0) (iI 0) (iI 0) (iI 0)) kP rfl dr) rfl ⟨fO _ _ rfl HN.u,aW (eK.u.trans qC.u) (lI _) _ _ _ _⟩
  ·have e1:(ByteArray.toList s).isEmpty=false:=by
     exact tY
   clear e0 hz;go_wp2_with fail;have WX:Hid (∀w',Calls prog 45 #[.agg #[iI k,iI 0,iI 0,iI 0]] w' fun e w''=>e=.returned (.string (iQ gt))/\Ext w' w''):=fun w'=>mO
   refine (WX.u _).mono ?_;rintro e w9 ⟨rfl,Ek⟩;clear d0 d1 d2 d3;have kL:=hY Ek;clear Ek;obtain ⟨⟨a0,a1,a2,a3⟩,z0,z1,z2,z3⟩:=aB (HR.u.ext kL.u);obtain ⟨q,hq⟩:=ex ((ByteArray.toList (iQ gt)==ByteArray.toList s))
   cases q
   ·have HN:Hid (∀h:Gt,vg h 4=true->s=iQ h->(⟨0,0,0,0⟩:Gt)=h):=by
     exact tX
    generalize iQ gt=gs at*
    clear EW;go_wp2
    exact bJ (v:=.tuple #[(⟨0,0,0,0⟩:Gt).val,.bool false]) (aR rfl _ _ _ _ _ _ _ rfl rfl ((HR.u.ext kL.u).bR (iI 0) (iI 0) (iI 0) (iI 0)) kP rfl dr) rfl ⟨fO _ _ rfl HN.u,aW (eK.u.trans (qC.u.trans kL.u)) (lI _) _ _ _ _⟩
   ·generalize iQ gt=gs at*
    subst EW;have d0:=(kN.u.ext kL.u).ck 0;have d1:=(kN.u.ext kL.u).ck 1;have d2:=(kN.u.ext kL.u).ck 2;have d3:=(kN.u.ext kL.u).ck 3;go_wp2
    exact bJ (v:=.tuple #[(⟨k,0,0,0⟩:Gt).val,.bool true]) (aR rfl _ _ _ _ _ _ _ rfl rfl ((HR.u.ext kL.u).bR (iI k) (iI 0) (iI 0) (iI 0)) kP rfl dr) rfl ⟨fO _ _ rfl HS.u,aW (eK.u.trans (qC.u.trans kL.u)) (lI _) _ _ _ _⟩
 ·have ej:ar k=1:=ar1 hk;have EJ:=hY ej;rw [ej];clear ej hk;have q1:W.cell? (aA b (o+1))=some (.string y1):=(HY.u _ qC.u).1;go_wp2_with fail;refine (bB y1 Ce.u _).mono ?_;rintro e v5 ⟨⟨n1,ok1,rfl,xW⟩,dw⟩;have uE:=hY xW;clear xW q1;have c0:=(kN.u.ext dw).ck 1;have f0:=(kN.u.ext dw).frozen 1;go_upto_region 6 with fail;clear c0 f0;have B0:Hid (au (v5.setCell (aA g 1) (iI n1)) g 39 #[iI k,iI n1,iI 0,iI 0]):=(kN.u.ext dw).aU 1 _;have X0:Hid (Ext w2 (v5.setCell (aA g 1) (iI n1))):=(qC.u.trans dw).setCell (p:=(aA g 1)) HG.u _;clear dw;generalize v5.setCell (aA g 1) (iI n1)=W0 at*
  have HS:Hid (∀h:Gt,vg h 4=true->s=iQ h->(⟨k,n1,0,0⟩:Gt)=h):=by
   intro h hv he;have hj:=EJ.u
   exact sL hv (HW.u h hv he) HKJ.u (fun _=>⟨_,uE.u⟩) (fun q=>aa) (fun q=>aa)  (fun q=>aa) (fun _=>rfl) (fun _=>rfl)
  obtain ⟨gt,EW⟩:∃gt:Gt,gt=⟨k,n1,0,0⟩:=⟨_,rfl⟩;rw [<-EW] at HS;have d0:=B0.u.ck 0;have d1:=B0.u.ck 1;have d2:=B0.u.ck 2;have d3:=B0.u.ck 3;have HR:Hid (au W0 w.heap.size 39 zO):=dv.u.ext X0.u
  by_cases hz:s=⟨#[]⟩
  ·have e1:=e0.2 hz;clear e0 EW;have HN:Hid (∀h:Gt,vg h 4=true->s=iQ h->(⟨0,0,0,0⟩:Gt)=h):=by
    exact tW
   clear hz;obtain ⟨⟨a0,a1,a2,a3⟩,z0,z1,z2,z3⟩:=aB HR.u;go_wp2
   exact bJ (v:=.tuple #[(⟨0,0,0,0⟩:Gt).val,.bool false]) (aR rfl _ _ _ _ _ _ _ rfl rfl (HR.u.bR (iI 0) (iI 0) (iI 0) (iI 0)) kP rfl dr) rfl ⟨fO _ _ rfl HN.u,aW (eK.u.trans X0.u) (lI _) _ _ _ _⟩
  ·have e1:(ByteArray.toList s).isEmpty=false:=by
     exact tY
   clear e0 hz;go_wp2_with fail;have WX:Hid (∀w',Calls prog 45 #[.agg #[iI k,iI n1,iI 0,iI 0]] w' fun e w''=>e=.returned (.string (iQ gt))/\Ext w' w''):=fun w'=>mO
   refine (WX.u _).mono ?_;rintro e w9 ⟨rfl,Ek⟩;clear d0 d1 d2 d3;have kL:=hY Ek;clear Ek;obtain ⟨⟨a0,a1,a2,a3⟩,z0,z1,z2,z3⟩:=aB (HR.u.ext kL.u);obtain ⟨q,hq⟩:=ex ((ByteArray.toList (iQ gt)==ByteArray.toList s))
   cases q
   ·have HN:Hid (∀h:Gt,vg h 4=true->s=iQ h->(⟨0,0,0,0⟩:Gt)=h):=by
     exact tX
    generalize iQ gt=gs at*
    clear EW;go_wp2
    exact bJ (v:=.tuple #[(⟨0,0,0,0⟩:Gt).val,.bool false]) (aR rfl _ _ _ _ _ _ _ rfl rfl ((HR.u.ext kL.u).bR (iI 0) (iI 0) (iI 0) (iI 0)) kP rfl dr) rfl ⟨fO _ _ rfl HN.u,aW (eK.u.trans (X0.u.trans kL.u)) (lI _) _ _ _ _⟩
   ·generalize iQ gt=gs at*
    subst EW;have d0:=(B0.u.ext kL.u).ck 0;have d1:=(B0.u.ext kL.u).ck 1;have d2:=(B0.u.ext kL.u).ck 2;have d3:=(B0.u.ext kL.u).ck 3;go_wp2
    exact bJ (v:=.tuple #[(⟨k,n1,0,0⟩:Gt).val,.bool true]) (aR rfl _ _ _ _ _ _ _ rfl rfl ((HR.u.ext kL.u).bR (iI k) (iI n1) (iI 0) (iI 0)) kP rfl dr) rfl ⟨fO _ _ rfl HS.u,aW (eK.u.trans (X0.u.trans kL.u)) (lI _) _ _ _ _⟩
 ·have ej:ar k=2:=ar2 hk;have EJ:=hY ej;rw [ej];clear ej hk;have q1:W.cell? (aA b (o+1))=some (.string y1):=(HY.u _ qC.u).1;go_wp2_with fail;refine (bB y1 Ce.u _).mono ?_;rintro e v5 ⟨⟨n1,ok1,rfl,xW⟩,dw⟩;have uE:=hY xW;clear xW q1;have c0:=(kN.u.ext dw).ck 1;have f0:=(kN.u.ext dw).frozen 1;go_upto_region 6 with fail;clear c0 f0;have B0:Hid (au (v5.setCell (aA g 1) (iI n1)) g 39 #[iI k,iI n1,iI 0,iI 0]):=(kN.u.ext dw).aU 1 _;have X0:Hid (Ext w2 (v5.setCell (aA g 1) (iI n1))):=(qC.u.trans dw).setCell (p:=(aA g 1)) HG.u _;clear dw;generalize v5.setCell (aA g 1) (iI n1)=W0 at*
  have q2:W0.cell? (aA b (o+2))=some (.string y2):=(HY.u _ X0.u).2.1;go_wp2_with fail;refine (bB y2 HZ2.u _).mono ?_;rintro e v6 ⟨⟨n2,ok2,rfl,Ls⟩,iW⟩;have Ez:=hY Ls;clear Ls q2;have c1:=(B0.u.ext iW).ck 2;have f1:=(B0.u.ext iW).frozen 2;go_upto_region 8 with fail;clear c1 f1;have B1:Hid (au (v6.setCell (aA g 2) (iI n2)) g 39 #[iI k,iI n1,iI n2,iI 0]):=(B0.u.ext iW).aU 2 _;have X1:Hid (Ext w2 (v6.setCell (aA g 2) (iI n2))):=(X0.u.trans iW).setCell (p:=(aA g 2)) HG.u _;clear iW;generalize v6.setCell (aA g 2) (iI n2)=W1 at*
  have HS:Hid (∀h:Gt,vg h 4=true->s=iQ h->(⟨k,n1,n2,0⟩:Gt)=h):=by
   intro h hv he;have hj:=EJ.u
   exact sL hv (HW.u h hv he) HKJ.u (fun _=>⟨_,uE.u⟩) (fun _=>⟨_,Ez.u⟩) (fun q=>aa)  (fun q=>aa) (fun q=>aa) (fun _=>rfl)
  obtain ⟨gt,EW⟩:∃gt:Gt,gt=⟨k,n1,n2,0⟩:=⟨_,rfl⟩;rw [<-EW] at HS;have d0:=B1.u.ck 0;have d1:=B1.u.ck 1;have d2:=B1.u.ck 2;have d3:=B1.u.ck 3;have HR:Hid (au W1 w.heap.size 39 zO):=dv.u.ext X1.u
  by_cases hz:s=⟨#[]⟩
  ·have e1:=e0.2 hz;clear e0 EW;have HN:Hid (∀h:Gt,vg h 4=true->s=iQ h->(⟨0,0,0,0⟩:Gt)=h):=by
    exact tW
   clear hz;obtain ⟨⟨a0,a1,a2,a3⟩,z0,z1,z2,z3⟩:=aB HR.u;go_wp2
   exact bJ (v:=.tuple #[(⟨0,0,0,0⟩:Gt).val,.bool false]) (aR rfl _ _ _ _ _ _ _ rfl rfl (HR.u.bR (iI 0) (iI 0) (iI 0) (iI 0)) kP rfl dr) rfl ⟨fO _ _ rfl HN.u,aW (eK.u.trans X1.u) (lI _) _ _ _ _⟩
  ·have e1:(ByteArray.toList s).isEmpty=false:=by
     exact tY
   clear e0 hz;go_wp2_with fail;have WX:Hid (∀w',Calls prog 45 #[.agg #[iI k,iI n1,iI n2,iI 0]] w' fun e w''=>e=.returned (.string (iQ gt))/\Ext w' w''):=fun w'=>mO
   refine (WX.u _).mono ?_;rintro e w9 ⟨rfl,Ek⟩;clear d0 d1 d2 d3;have kL:=hY Ek;clear Ek;obtain ⟨⟨a0,a1,a2,a3⟩,z0,z1,z2,z3⟩:=aB (HR.u.ext kL.u);obtain ⟨q,hq⟩:=ex ((ByteArray.toList (iQ gt)==ByteArray.toList s))
   cases q
   ·have HN:Hid (∀h:Gt,vg h 4=true->s=iQ h->(⟨0,0,0,0⟩:Gt)=h):=by
     exact tX
    generalize iQ gt=gs at*
    clear EW;go_wp2
    exact bJ (v:=.tuple #[(⟨0,0,0,0⟩:Gt).val,.bool false]) (aR rfl _ _ _ _ _ _ _ rfl rfl ((HR.u.ext kL.u).bR (iI 0) (iI 0) (iI 0) (iI 0)) kP rfl dr) rfl ⟨fO _ _ rfl HN.u,aW (eK.u.trans (X1.u.trans kL.u)) (lI _) _ _ _ _⟩
   ·generalize iQ gt=gs at*
    subst EW;have d0:=(B1.u.ext kL.u).ck 0;have d1:=(B1.u.ext kL.u).ck 1;have d2:=(B1.u.ext kL.u).ck 2;have d3:=(B1.u.ext kL.u).ck 3;go_wp2
    exact bJ (v:=.tuple #[(⟨k,n1,n2,0⟩:Gt).val,.bool true]) (aR rfl _ _ _ _ _ _ _ rfl rfl ((HR.u.ext kL.u).bR (iI k) (iI n1) (iI n2) (iI 0)) kP rfl dr) rfl ⟨fO _ _ rfl HS.u,aW (eK.u.trans (X1.u.trans kL.u)) (lI _) _ _ _ _⟩
 ·have ej:ar k=3:=ar3 hk;have EJ:=hY ej;rw [ej];clear ej;have KK:=hY hk;clear hk;have q1:W.cell? (aA b (o+1))=some (.string y1):=(HY.u _ qC.u).1;go_wp2_with fail;refine (bB y1 Ce.u _).mono ?_;rintro e v5 ⟨⟨n1,ok1,rfl,xW⟩,dw⟩;have uE:=hY xW;clear xW q1;have c0:=(kN.u.ext dw).ck 1;have f0:=(kN.u.ext dw).frozen 1;go_upto_region 6 with fail;clear c0 f0;have B0:Hid (au (v5.setCell (aA g 1) (iI n1)) g 39 #[iI k,iI n1,iI 0,iI 0]):=(kN.u.ext dw).aU 1 _;have X0:Hid (Ext w2 (v5.setCell (aA g 1) (iI n1))):=(qC.u.trans dw).setCell (p:=(aA g 1)) HG.u _;clear dw;generalize v5.setCell (aA g 1) (iI n1)=W0 at*
  have q2:W0.cell? (aA b (o+2))=some (.string y2):=(HY.u _ X0.u).2.1;go_wp2_with fail;refine (bB y2 HZ2.u _).mono ?_;rintro e v6 ⟨⟨n2,ok2,rfl,Ls⟩,iW⟩;have Ez:=hY Ls;clear Ls q2;have c1:=(B0.u.ext iW).ck 2;have f1:=(B0.u.ext iW).frozen 2;go_upto_region 8 with fail;clear c1 f1;have B1:Hid (au (v6.setCell (aA g 2) (iI n2)) g 39 #[iI k,iI n1,iI n2,iI 0]):=(B0.u.ext iW).aU 2 _;have X1:Hid (Ext w2 (v6.setCell (aA g 2) (iI n2))):=(X0.u.trans iW).setCell (p:=(aA g 2)) HG.u _;clear iW;generalize v6.setCell (aA g 2) (iI n2)=W1 at*
  have q3:W1.cell? (aA b (o+3))=some (.string y3):=(HY.u _ X1.u).2.2;go_wp2_with fail;refine (bB y3 HZ3.u _).mono ?_;rintro e v7 ⟨⟨n3,ok3,rfl,hp3⟩,ig⟩;have LQ:=hY hp3;clear hp3 q3;have c2:=(B1.u.ext ig).ck 3;have f2:=(B1.u.ext ig).frozen 3;go_upto_region 10 with fail;clear c2 f2;have B2:Hid (au (v7.setCell (aA g 3) (iI n3)) g 39 #[iI k,iI n1,iI n2,iI n3]):=(B1.u.ext ig).aU 3 _;have X2:Hid (Ext w2 (v7.setCell (aA g 3) (iI n3))):=(X1.u.trans ig).setCell (p:=(aA g 3)) HG.u _;clear ig;generalize v7.setCell (aA g 3) (iI n3)=W2 at*
  have HS:Hid (∀h:Gt,vg h 4=true->s=iQ h->(⟨k,n1,n2,n3⟩:Gt)=h):=by
   intro h hv he;have hj:=EJ.u
   exact sL hv (HW.u h hv he) HKJ.u (fun _=>⟨_,uE.u⟩) (fun _=>⟨_,Ez.u⟩) (fun _=>⟨_,LQ.u⟩)  (fun q=>aa) (fun q=>aa) (fun q=>aa)
  obtain ⟨gt,EW⟩:∃gt:Gt,gt=⟨k,n1,n2,n3⟩:=⟨_,rfl⟩;rw [<-EW] at HS;have d0:=B2.u.ck 0;have d1:=B2.u.ck 1;have d2:=B2.u.ck 2;have d3:=B2.u.ck 3;have HR:Hid (au W2 w.heap.size 39 zO):=dv.u.ext X2.u
  by_cases hz:s=⟨#[]⟩
  ·have e1:=e0.2 hz;clear e0 EW;have HN:Hid (∀h:Gt,vg h 4=true->s=iQ h->(⟨0,0,0,0⟩:Gt)=h):=by
    exact tW
   clear hz;obtain ⟨⟨a0,a1,a2,a3⟩,z0,z1,z2,z3⟩:=aB HR.u;go_wp2
   exact bJ (v:=.tuple #[(⟨0,0,0,0⟩:Gt).val,.bool false]) (aR rfl _ _ _ _ _ _ _ rfl rfl (HR.u.bR (iI 0) (iI 0) (iI 0) (iI 0)) kP rfl dr) rfl ⟨fO _ _ rfl HN.u,aW (eK.u.trans X2.u) (lI _) _ _ _ _⟩
  ·have e1:(ByteArray.toList s).isEmpty=false:=by
     exact tY
   clear e0 hz;go_wp2_with fail;have WX:Hid (∀w',Calls prog 45 #[.agg #[iI k,iI n1,iI n2,iI n3]] w' fun e w''=>e=.returned (.string (iQ gt))/\Ext w' w''):=fun w'=>mO
   refine (WX.u _).mono ?_;rintro e w9 ⟨rfl,Ek⟩;clear d0 d1 d2 d3;have kL:=hY Ek;clear Ek;obtain ⟨⟨a0,a1,a2,a3⟩,z0,z1,z2,z3⟩:=aB (HR.u.ext kL.u);obtain ⟨q,hq⟩:=ex ((ByteArray.toList (iQ gt)==ByteArray.toList s))
   cases q
   ·have HN:Hid (∀h:Gt,vg h 4=true->s=iQ h->(⟨0,0,0,0⟩:Gt)=h):=by
     exact tX
    generalize iQ gt=gs at*
    clear EW;go_wp2
    exact bJ (v:=.tuple #[(⟨0,0,0,0⟩:Gt).val,.bool false]) (aR rfl _ _ _ _ _ _ _ rfl rfl ((HR.u.ext kL.u).bR (iI 0) (iI 0) (iI 0) (iI 0)) kP rfl dr) rfl ⟨fO _ _ rfl HN.u,aW (eK.u.trans (X2.u.trans kL.u)) (lI _) _ _ _ _⟩
   ·generalize iQ gt=gs at*
    subst EW;have d0:=(B2.u.ext kL.u).ck 0;have d1:=(B2.u.ext kL.u).ck 1;have d2:=(B2.u.ext kL.u).ck 2;have d3:=(B2.u.ext kL.u).ck 3;go_wp2
    exact bJ (v:=.tuple #[(⟨k,n1,n2,n3⟩:Gt).val,.bool true]) (aR rfl _ _ _ _ _ _ _ rfl rfl ((HR.u.ext kL.u).bR (iI k) (iI n1) (iI n2) (iI n3)) kP rfl dr) rfl ⟨fO _ _ rfl HS.u,aW (eK.u.trans (X2.u.trans kL.u)) (lI _) _ _ _ _⟩
theorem tZ {p:List Int} {i:Nat} {x:Int} (h:p[i]?=some x):p.getD i 0=x:=by rw [lP,h];rfl
theorem Ch {p:List Int}:perm p=true ↔ (1<=p.length/\p.length<=4)/\(∀x∈p,0<=x/\x<(p.length:Int))/\p.Nodup:=by
 have hG:qP p p.length=true ↔ (∀x∈p,0<=x/\x<(p.length:Int))/\p.Nodup:=by
  unfold qP;rw [lO];constructor
  ·intro h;have h':∀(i:Nat) (hi:i<p.length),(0<=p[i]/\p[i]<(p.length:Int))/\p[i] ∉ p.take i:=fun i hi=>by
    have:=h i (sU hi);rw [tZ (lB hi)] at this;unfold okP gf at this;simp only [lF,kh,Nu,FJ,decide_eq_false_iff_not] at this
    exact ⟨⟨this.1.1,oM this.1.2⟩,this.2⟩
   refine ⟨fun x hx=>?_,?_⟩
   ·obtain ⟨i,hi,rfl⟩:=TC hx
    exact (h' i hi).1
   ·refine List.pairwise_iff_getElem.2 fun i j hi hj hij=>?_
    intro e;refine (h' j hj).2 ?_;rw [<-e];rw [Tz]
    exact ⟨i,by rw [yi hij,lB hi]⟩
  ·rintro ⟨h1,h2⟩ i hi;simp at hi;rw [tZ (lB hi)];unfold okP gf;have h3:=h1 p[i] (FO hi);have h4:p[i] ∉ p.take i:=fun hm=>by
    obtain ⟨j,hj,he⟩:=TC hm;rw [lT] at hj;rw [List.getElem_take] at he
    exact List.pairwise_iff_getElem.1 h2 j i aa hi aa he
   simp only [lF,kh,Nu,FJ,decide_eq_false_iff_not]
   exact ⟨⟨h3.1,aa⟩,h4⟩
 unfold perm;rw [lF,hG,lF,kh,kh];constructor
 ·rintro ⟨h1,h2⟩;exact ⟨h2,h1⟩
 ·rintro ⟨h1,h2⟩;exact ⟨h2,h1⟩
theorem ahN {a b x y:Int} (h:Lu a b x=Lu a b y):x=y:=by
 unfold Lu at h;simp only [eS] at h;split at h<;>split at h<;>(try split at h)<;>(try split at h)<;>omega
theorem alJ {a b x:Int} {n:Int} (ha:0<=a/\a<n) (hb:0<=b/\b<n) (hx:0<=x/\x<n):0<=Lu a b x/\Lu a b x<n:=by
 unfold Lu;split
 ·exact hb
 ·split
  ·exact ha
  ·exact hx
theorem ahO {p:List Int} {a b:Int} (h:perm p=true) (ha:0<=a/\a<(p.length:Int)) (hb:0<=b/\b<(p.length:Int)):perm (p.map (Lu a b))=true:=by
 obtain ⟨h1,h2,h3⟩:=Ch.1 h;refine Ch.2 ⟨by rw [jK];exact h1,fun x hx=>?_,?_⟩
 ·rw [jK];obtain ⟨y,hy,rfl⟩:=qH.1 hx
  exact alJ ha hb (h2 y hy)
 ·refine List.pairwise_map.2 (h3.imp fun hne e=>hne (ahN e))
def loc (p:List Int) (i:Int):Int:=p.getD i.toNat 0
def AJ (x:Gr) (a b:Int):Nat->List Int->List Gt ×List Int
 |0,now=>([],now)
 |f+1,now=>if 1<gd x (loc now a) (loc now b) then
   let s:=(ld x (loc now a) (loc now b)).getD 0 0
   let t:=(ld x (loc now a) (loc now b)).getD 1 0
   let r:=AJ x a b f (qd now s t)
   (⟨11,s,t,0⟩::r.1,r.2)
  else ([],now)
def qX (x:Gr) (g:Gt) (p:List Int):List Gt ×List Int:=
 if may g x p=true then
  if (ar g.k==1)=true then ([g1 g.k (loc p g.a)],p)
  else ((AJ x g.a g.b 4 p).1++[hU (loc (AJ x g.a g.b 4 p).2 g.a) (loc (AJ x g.a g.b 4 p).2 g.b)],(AJ x g.a g.b 4 p).2)
 else ([],p)
theorem Jx {x:Gr} {g:Gt} {p:List Int} (h:may g x p=false):qX x g p=([],p):=by unfold qX;rw [aM aZ]
theorem Fs {x:Gr} {g:Gt} {p:List Int} (h:may g x p=true) (h1:(ar g.k==1)=true):qX x g p=([g1 g.k (loc p g.a)],p):=by unfold qX;rw [aY h,aY h1]
theorem Ft {x:Gr} {g:Gt} {p:List Int} (h:may g x p=true) (h1:(ar g.k==1)=false):qX x g p=((AJ x g.a g.b 4 p).1++[hU (loc (AJ x g.a g.b 4 p).2 g.a) (loc (AJ x g.a g.b 4 p).2 g.b)],(AJ x g.a g.b 4 p).2):=by unfold qX;rw [aY h,aM dC]
theorem Sd {x:Gr} {a b:Int} {now:List Int} (f:Nat) (h:¬1<gd x (loc now a) (loc now b)):AJ x a b f now=([],now):=by
 cases f
 ·rfl
 ·rw [AJ,aM h]
theorem XB (x:Gr) (a b:Int):∀f now,(AJ x a b f now).1.length<=f
 |0,_=>by simp [AJ]
 |f+1,now=>by
  rw [AJ];split
  ·have:=XB x a b f;simp
   exact this _
  ·simp
theorem ZQ (x:Gr) (g:Gt) (p:List Int):(qX x g p).1.length<=5:=by
 have:=XB x g.a g.b 4 p;unfold qX;split
 ·split
  ·simp
  ·simp;omega
 ·simp
structure sM (x:Gr) (a b:Nat) (now:List Int):Prop where
 perm:perm now=true
 len:(now.length:Int)=x.n
 ha:a<now.length
 hb:b<now.length
theorem sM.at_ {x:Gr} {a b i:Nat} {now:List Int} (h:sM x a b now) (hi:i<now.length):∃y,now[i]?=some y/\loc now (i:Int)=y/\0<=y/\y<x.n:=by
 have hp:=(Ch.1 h.perm).2.1 now[i] (FO hi);have hl:=h.len;refine ⟨now[i],lB hi,?_,hp.1,aa⟩;unfold loc
 exact tZ ag
theorem ZR {x:Gr} {a b:Int} {d:Nat} (h:gd x a b=((d+1:Nat):Int)):∃k:Nat,xY x b a d=some k/\ld x a b=a::(k:Int)::spw x b d (k:Int)/\gd x (k:Int) b=(d:Int)/\(k:Int)<x.n:=by
 obtain ⟨k,hk⟩:=RX h;obtain ⟨h1,h2,h3,_⟩:=RY hk
 exact ⟨k,hk,by rw [MH h,RZ hk],h3,h1⟩
theorem ayh {x:Gr} {a b:Int} (h:0<=gd x a b):(0<=a/\a<x.n)/\(0<=b/\b<x.n):=by
 obtain ⟨n,i,j,hn,h1,h4,hi',hj',hi,hj,_⟩:=ady h;omega
theorem XG {x:Gr} {a b:Int} (ha:0<=a/\a<x.n) (h4:x.n<=4) (e:a=b):gd x a b=0:=by
 subst e;obtain ⟨n,hn⟩:=lD (aa:0<=x.n);rw [Ou hn aa aa ha.1 aa ha.1 aa]
 exact fr.UF aa rfl
theorem sM.step {x:Gr} {a b:Nat} {now:List Int} (h:sM x a b now) (hg:1<gd x (loc now (a:Int)) (loc now (b:Int))):
  ∃(s t:Int) (rest:List Int),ld x (loc now (a:Int)) (loc now (b:Int))=s::t::rest/\sM x a b (qd now s t)/\gd x (loc (qd now s t) (a:Int)) (loc (qd now s t) (b:Int))=gd x (loc now (a:Int)) (loc now (b:Int)) - 1/\(0<=s/\s<x.n)/\(0<=t/\t<x.n)/\
   ∀f,AJ x a b (f+1) now=(⟨11,s,t,0⟩::(AJ x a b f (qd now s t)).1,(AJ x a b f (qd now s t)).2):=by
 obtain ⟨y,hy,ly,y0,y1⟩:=h.at_ h.ha;obtain ⟨z,hz,lz,z0,z1⟩:=h.at_ h.hb;have hl:=h.len;have h4:=(xH h.perm).2;obtain ⟨d,hd⟩:=lD (aa:0<=gd x (loc now (a:Int)) (loc now (b:Int)) - 1);have hd':gd x y z=((d+1:Nat):Int):=by rw [<-ly,<-lz];omega
 obtain ⟨k,_,hs,hk,jJ⟩:=ZR hd';have hzy:z≠y:=fun e=>by
  have:=XG ⟨y0,y1⟩ aa e.symm;rw [ly,lz] at hg;omega
 have hzk:z≠(k:Int):=fun e=>by
  have:=XG (x:=x) (a:=(k:Int)) ⟨aa,jJ⟩ aa e.symm;rw [ly,lz] at hg;omega
 have Ec:qd now y (k:Int)=now.map (Lu y (k:Int)):=ME h.perm;have hkr:0<=(k:Int)/\(k:Int)<x.n:=⟨aa,jJ⟩;have ha':loc (qd now y (k:Int)) (a:Int)=(k:Int):=by
  unfold loc;rw [Ec];refine tZ ?_;rw [yp,rY,hy];simp [Lu]
 have rJ:loc (qd now y (k:Int)) (b:Int)=z:=by
  unfold loc;rw [Ec];refine tZ ?_;rw [yp,rY,hz];simp only [TR];rw [ajf (sU hzy) (sU hzk)]
 rw [ly,lz];refine ⟨y,k,_,hs,⟨by rw [Ec];exact ahO h.perm aa aa,by rw [Ec,jK];exact hl,by rw [Ec,jK];exact h.ha,by rw [Ec,jK];exact h.hb⟩,by rw [ha',rJ,hk,hd'];omega,⟨y0,y1⟩,hkr,fun f=>?_⟩;rw [AJ,aY hg,ly,lz,hs];rfl
theorem sM.of {g:Gt} {x:Gr} {p:List Int} (h:may g x p=true) (h1:(ar g.k==1)=false):∃a b:Nat,g.a=a/\g.b=b/\a≠b/\sM x a b p:=by
 unfold may lay at h;simp only [lF] at h;obtain ⟨⟨⟨⟨hv,hp⟩,hn⟩,hb⟩,hg⟩:=h;have h9:(g.k==9)=true:=by
  unfold Tq at hb;rw [h1,ju] at hb
  exact hb
 have h2:ar g.k=2:=by
  rw [eS] at h9;rw [h9];unfold ar;omega
 obtain ⟨p1,p2,p3,p4,p5,p6⟩:1<=x.n/\x.n<=4/\0<ar g.k/\DS g x.n 0 g.a=true/\DS g x.n 1 g.b=true/\DS g x.n 2 g.c=true:=by
  unfold vg at hg;simp only [lF,kh] at hg;obtain ⟨⟨⟨⟨⟨q1,q2⟩,q3⟩,q4⟩,q5⟩,q6⟩:=hg
  exact ⟨q1,q2,q3,q4,q5,q6⟩
 rw [wm (by rw [h2];omega)] at p4 p5;simp only [lF,kh,qs,CF,Nu,eS] at p4 p5 hn;obtain ⟨a,ha⟩:=lD p4.1.1;obtain ⟨b,rJ⟩:=lD p5.1.1;refine ⟨a,b,ha,rJ,fun e=>?_,hp,hn,aa,aa⟩;subst e;have:=p5.2;rw [rJ,ha] at this;simp at this
theorem adN {g:Gt} {x:Gr} {p:List Int} (h:may g x p=true):∃(a:Nat) (y:Int),g.a=a/\a<p.length/\p[a]?=some y/\loc p g.a=y/\p.length<=4/\perm p=true:=by
 unfold may lay at h;simp only [lF] at h;obtain ⟨⟨⟨⟨hv,hp⟩,hn⟩,hb⟩,hg⟩:=h;have Oo:0<ar g.k:=by
  unfold vg at hg;simp only [lF,kh] at hg
  exact hg.1.1.1.2
 have p4:DS g x.n 0 g.a=true:=by
  unfold vg at hg;simp only [lF,kh] at hg
  exact hg.1.1.2
 rw [wm aa] at p4;simp only [lF,kh,eS] at p4 hn;obtain ⟨a,ha⟩:=lD p4.1.1;have ba:a<p.length:=aa
 refine ⟨a,p[a],ha,ba,lB ba,?_,(xH hp).2,hp⟩;unfold loc;rw [ha]
 exact tZ ag
theorem XH {x:Gr} {a b:Nat}:∀f {now:List Int},sM x a b now->sM x a b (AJ x a b f now).2
 |0,_,h=>h
 |f+1,now,h=>by
  by_cases hg:1<gd x (loc now (a:Int)) (loc now (b:Int))
  ·obtain ⟨s,t,rest,_,h2,_,_,_,h6⟩:=h.step hg;rw [h6]
   exact XH f h2
  ·rw [Sd _ hg]
   exact h
theorem ZS {x:Gr} {g:Gt} {p:List Int} (hp:perm p=true):perm (qX x g p).2=true/\(qX x g p).2.length=p.length:=by
 cases h:may g x p
 ·rw [Jx h];exact ⟨hp,rfl⟩
 ·cases h1:(ar g.k==1)
  ·obtain ⟨a,b,ha,hb,_,hw⟩:=sM.of h h1;have h2:=XH 4 hw;have h3:=h2.len;have h4:=hw.len;rw [Ft h h1,ha,hb]
   exact ⟨h2.perm,show (AJ x a b 4 p).2.length=p.length by omega⟩
  ·rw [Fs h h1];exact ⟨hp,rfl⟩
theorem El {P:Prop} (h:P:=by
 intro v' w' h1 h2 h3 h4;rw [mW] at h1;obtain ⟨A',c',rfl,_⟩:=ak h1
 exact h A' c' w' h1 (FP (((xZ w).alloc _).gr _) h3) (sU h4)):P:=h
theorem adO {w:World} {B:Nat} {ops:Array Oper} {o:Oper} {a:Act} {K:Act->World->Prop} {Q:Exit->Act->World->Prop} {E:Prop} (fX:o.guard=none) (s x:Operand)
  (ho:aO o s x 61) (v:Value) (n:Nat) (xs:List Ed) (hs:a.eval s=v)
  (bj:w.ownsRow B 130 2 v n (bK xs)) (hB:B<=w.heap.size) (y:Ed) (e:TypeId) (b:Nat) (hx:a.eval x=.slice (some ⟨b,0,none⟩) 1 1) (sg:b=w.heap.size) (hn:n<=1800000000000)
  (h:∀A' c' w',w'.ownsRow B 130 2 (.slice A' (n+1) c') (n+1) (bK (xs++[y]))->w.grownBy w' v.ownBlock->((Value.slice A' (n+1) c').ownBlock=v.ownBlock\/(Value.slice A' (n+1) c').ownBlock=some (w.heap.size+1))->K (a.put o.dst (.slice A' (n+1) c')) w'):
  if Region.wanted o (yielded ops a.tmps)=true then Oper.wp prog o a (w.alloc (cO #[iI y.a,iI y.b] e)) K Q else E:=by
 subst sg;have mW:=jo hB;refine Yw (w0:=GP w B) fX s x ho v n xs hs dT ((pI hB).alloc _) _ 1 1 [y] hx (dZ w _ e 2 _ eX eX) aa ?_
 exact El
theorem ZT:(prog.info? 63).map (·.size)=some 2:=af
theorem Jy {fn:Func} {p:Tmp} (hf:fn.results=#[.cell p 63]) {W:World} {q:Nat} {z0 z1:Value} (hB:au W q 63 #[z0,z1]) (a b:Value) (tmps:Array Value)
  (hp:tmps.getD p undef=.pointer (some ⟨q,0,none⟩)):(results fn tmps).run prog ((W.setCell (aA q 0) a).setCell (aA q 1) b)=.ok (.agg #[a,b]) ((W.setCell (aA q 0) a).setCell (aA q 1) b):=
 pc hf tmps _ q 63 _ (0,0) _ hp (hB.qz a b) underlying63 rfl ZT
theorem adP {w:World} {B:Nat} {ops:Array Oper} {rest:List Oper} {o:Oper} {a:Act} {Q:Exit->Act->World->Prop} (fX:o.guard=none) (s x:Operand)
  (ho:aO o s x 61) (v:Value) (n:Nat) (xs:List Ed) (hs:a.eval s=v)
  (bj:w.ownsRow B 130 2 v n (bK xs)) (hB:B<=w.heap.size) (y:Ed) (e:TypeId) (b:Nat) (hx:a.eval x=.slice (some ⟨b,0,none⟩) 1 1) (sg:b=w.heap.size) (hn:n<=1800000000000)
  (h:∀A' c' w',w'.ownsRow B 130 2 (.slice A' (n+1) c') (n+1) (bK (xs++[y]))->w.grownBy w' v.ownBlock->((Value.slice A' (n+1) c').ownBlock=v.ownBlock\/(Value.slice A' (n+1) c').ownBlock=some (w.heap.size+1))->wpList prog ops Q rest (a.put o.dst (.slice A' (n+1) c')) w'):
  wpList prog ops Q (o::rest) a (w.alloc (cO #[iI y.a,iI y.b] e)):=by
 subst sg;have mW:=jo hB;refine QB (w0:=GP w B) fX s x ho v n xs hs dT ((pI hB).alloc _) _ 1 1 [y] hx (dZ w _ e 2 _ eX eX) aa ?_
 exact El
def DG (w0 w:World) (g s:Nat) (N:Int) (A:OA) (len cap:Nat) (gs:List Ed):Prop:=
 au w w0.heap.size 63 jC/\au w s 63 #[iI N,.slice A len cap]/\w.ownsRow (w0.heap.size+1) 130 2 (.slice A len cap) len (bK gs)/\(∀q,(Value.slice A len cap).ownBlock=some q->w0.heap.size+1<=q/\q≠s)/\dQ w g/\w0.grownBy w (some g)/\∀e∈gs,e.ok
theorem DG.grown {w0 w w':World} {g s:Nat} {N:Int} {A:OA} {len cap:Nat} {gs:List Ed} (h:DG w0 w g s N A len cap gs) (hg:w.grownBy w' (some g)) (hC:dQ w' g) (hs:g<s) (hl:g<w0.heap.size):DG w0 w' g s N A len cap gs:=by
 obtain ⟨h1,h2,h3,h4,h5,h6,h7⟩:=h
 exact ⟨h1.grown hg (fun k hk=>ay),h2.grown hg (fun k hk=>ay),dk h3 hg (fun k hk=>ay),h4,hC,cJ h6 hg,h7⟩
theorem DG.drew {w0 w:World} {g s:Nat} {N:Int} {A:OA} {len cap:Nat} {gs:List Ed} (h:DG w0 w g s N A len cap gs):DG w0 w.drew g s N A len cap gs:=by
 obtain ⟨h1,h2,h3,h4,h5,h6,h7⟩:=h
 exact ⟨h1,h2,aj h3 (xZ w).drew,h4,h5.ext (xZ w).drew,CP h6 (xZ w).drew,h7⟩
theorem DG.alloc {w0 w:World} {g s:Nat} {N:Int} {A:OA} {len cap:Nat} {gs:List Ed} (h:DG w0 w g s N A len cap gs) (o:Obj):DG w0 (w.alloc o) g s N A len cap gs:=by
 obtain ⟨h1,h2,h3,h4,h5,h6,h7⟩:=h
 exact ⟨h1.alloc o,h2.alloc o,aj h3 ((xZ w).alloc o),h4,h5.alloc o,jY h6 o,h7⟩
theorem DG.abW {w0 w:World} {g s:Nat} {N:Int} {A:OA} {len cap:Nat} {gs:List Ed} (h:DG w0 w g s N A len cap gs) (M:Int) (hs:w0.heap.size<s) (hl:g<w0.heap.size):DG w0 (w.setCell (aA s 0) (iI M)) g s M A len cap gs:=by
 obtain ⟨h1,h2,h3,h4,h5,h6,h7⟩:=h;refine ⟨h1.cB (p:=(aA s 0)) ai _,h2.aU 0 _,?_,h4,h5.aU (p:=(aA s 0)) ai _,gF h6 (p:=(aA s 0)) ai _,h7⟩;refine h3.kept (row:=some s) (cF (kO w (some s)) 0 _) ?_
 cases hv:(Value.slice A len cap).ownBlock with
 |none=>exact .inl rfl
 |some q=>exact .inr (fun e=>(h4 q hv).2 dB)
theorem DG.app {w0 w w':World} {g s:Nat} {N:Int} {A A':OA} {len cap c':Nat} {gs:List Ed} {y:Ed} (h:DG w0 w g s N A len cap gs) (hy:y.ok) (hs:w0.heap.size<s) (hl:g<w0.heap.size)
  (ho:w'.ownsRow (w0.heap.size+1) 130 2 (.slice A' (len+1) c') (len+1) (bK (gs++[y]))) (hg:w.grownBy w' (Value.slice A len cap).ownBlock)
  (hb:(Value.slice A' (len+1) c').ownBlock=(Value.slice A len cap).ownBlock\/(Value.slice A' (len+1) c').ownBlock=some (w.heap.size+1)):
  au w' s 63 #[iI N,.slice A len cap]/\DG w0 (w'.setCell (aA s 1) (.slice A' (len+1) c')) g s N A' (len+1) c' (gs++[y]):=by
 obtain ⟨h1,h2,h3,h4,h5,h6,h7⟩:=h;have hls:=h2.lt;have hB:=h2.grown hg (fun k hk e=>(h4 k hk).2 e.symm);have h4':∀q,(Value.slice A' (len+1) c').ownBlock=some q->w0.heap.size+1<=q/\q≠s:=by
  intro q hq;rcases hb with hb|hb
  ·rw [hb] at hq;exact h4 q hq
  ·rw [hb] at hq;injection hq with hq;have:=h1.lt;omega
 refine ⟨hB,(h1.grown hg (fun k hk e=>oM ((h4 k hk).1))).cB (p:=(aA s 1)) ai _,hB.aU 1 _,?_,h4',(h5.grown hg (fun k hk=>oM ((h4 k hk).1))).aU (p:=(aA s 1)) ai _,gF (GQ h6 hg (fun k hk=>oM ((h4 k hk).1))) (p:=(aA s 1)) ai _,fun e he=>by
  rcases iT.1 he with h|h
  ·exact h7 e h
  ·simp at h;subst h;exact hy⟩
 refine ho.kept (row:=some s) (cF (kO w' (some s)) 1 _) ?_
 cases hv:(Value.slice A' (len+1) c').ownBlock with
 |none=>exact .inl rfl
 |some q=>exact .inr (fun e=>(h4' q hv).2 dB)
theorem DG.done {w W:World} {g s:Nat} {N:Int} {A:OA} {len cap:Nat} {gs:List Ed} (h:DG w W g s N A len cap gs) (hl:g<w.heap.size):
  ((W.setCell (aA w.heap.size 0) (iI N)).setCell (aA w.heap.size 1) (.slice A len cap)).ownsRow w.heap.size 130 2 (.slice A len cap) len (bK gs)/\dQ ((W.setCell (aA w.heap.size 0) (iI N)).setCell (aA w.heap.size 1) (.slice A len cap)) g/\w.grownBy ((W.setCell (aA w.heap.size 0) (iI N)).setCell (aA w.heap.size 1) (.slice A len cap)) (some g)/\∀e∈gs,e.ok:=
 ⟨aC (bo (bo h.2.2.1 (p:=(aA w.heap.size 0)) ag _) (p:=(aA w.heap.size 1)) ag _) aa,dQ.qz h.2.2.2.2.1 hl _ _,BH h.2.2.2.2.2.1 (lI _) _ _,h.2.2.2.2.2.2⟩
def UW (x:Gr) (o:Oq):Bool:=if (o.k==1)=true then eU x o.g else true
def Ly (x:Gr) (o:Oq):List Oq:=if (o.k==1)=true then nU (kI x o.g) o.cond else [o]
theorem apU {x:Gr} {o:Oq} (h:(o.k==1)=true):Ly x o=nU (kI x o.g) o.cond:=aY h
theorem apV {x:Gr} {o:Oq} (h:(o.k==1)=false):Ly x o=[o]:=by unfold Ly;rw [aM aZ]
theorem alK {x:Gr} {o:Oq} (h:(o.k==1)=true):UW x o=eU x o.g:=aY h
theorem alL {x:Gr} {o:Oq} (h:(o.k==1)=false):UW x o=true:=by unfold UW;rw [aM aZ]
def iK (x:Gr) (os:List Oq):Bool:=os.all (UW x)
def jg (x:Gr) (os:List Oq):List Oq:=if iK x os=true then os.flatMap (Ly x) else []
theorem UY {x:Gr} {os:List Oq} {k:Nat} {o:Oq} (h:os[k]?=some o) (hg:UW x o=false):iK x os=false:=by
 unfold iK
 cases hh:os.all (UW x)
 ·rfl
 ·rw [lO] at hh;have:=hh o (lG h);rw [hg] at this
  cases this
theorem Ci {x:Gr} {os:List Oq} {k:Nat} {o:Oq} (h:os[k]?=some o) (hk:iK x (os.take k)=true) (hg:UW x o=true):iK x (os.take (k+1))=true:=by
 unfold iK at*
 rw [aS h,qG,hk];simp [hg]
theorem adQ {x:Gr} {os:List Oq} (h:iK x os=false):jg x os=[]:=by unfold jg;rw [aM aZ]
theorem ZU {x:Gr} {os:List Oq} (h:iK x os=true):jg x os=os.flatMap (Ly x):=by unfold jg;rw [aY h]
theorem adR {x:Gr} {os:List Oq} {k:Nat} {o:Oq} (h:os[k]?=some o):(os.take (k+1)).flatMap (Ly x)=(os.take k).flatMap (Ly x)++Ly x o:=by
 rw [aS h,lR];simp
theorem ahP (x:Gr) (o:Oq):(Ly x o).length<=75:=by
 unfold Ly;split
 ·rw [kV];exact Ia _ _
 ·simp
theorem XI (x:Gr) (os:List Oq):(os.flatMap (Ly x)).length<=75*os.length:=by
 induction os with
 |nil=>simp
 |cons o os ih=>have:=ahP x o;rw [jQ,lA,ki];omega
theorem anG (x:Gr) (os:List Oq):(jg x os).length<=75*os.length:=by
 unfold jg;split
 ·exact XI x os
 ·simp
theorem qi (A:OA) (n c:Nat) (os:List Oq) (v:Value) (x:Gr) (w:World) (h:Rd w w.heap.size 8 A n (aJ os)) (hv:fB w w.heap.size v x) (hn:n<=20000000000) (hm:x.es.length<=2000000000000):
  Calls prog 88 #[.slice A n c,v] w fun e w'=>∃v,e=.returned (.tuple #[v,.bool (iK x os)])/\w'.ownsRow w.heap.size 41 8 v (jg x os).length (aJ (jg x os))/\Ext w w':=by
 have hlen:=hY (h.len Oq.aG aa);obtain ⟨A1,c1,rfl,h1⟩:=hv;have hG:fB w w.heap.size (.agg #[iI x.n,.slice A1 x.es.length c1]) x:=⟨A1,c1,rfl,h1⟩;clear h1;have cD:Ext w (w.alloc (cO #[iI x.n,.slice A1 x.es.length c1] 63)):=aw
 have ky:au (w.alloc (cO #[iI x.n,.slice A1 x.es.length c1] 63)) w.heap.size 63 #[iI x.n,.slice A1 x.es.length c1]:=au.new _ _ _;have KU:((w.alloc (cO #[iI x.n,.slice A1 x.es.length c1] 63)).alloc (cO #[] 41)).ownsRow (w.alloc (cO #[iI x.n,.slice A1 x.es.length c1] 63)).heap.size 41 8 (.slice (some ⟨w.heap.size+1,0,none⟩) 0 0) 0 (aJ []):=bS (xZ _) _ _ 8 0 #[] _ ag rfl rfl aa;have qx:=hY KU;have qc:=hY cD;have jI:=hY ky;clear KU cD ky;go_enter func88,ntmps88;go_wp2;have KU:=qx.u;have cD:=qc.u;have ky:=jI.u;clear qx qc jI;have hxs:Ext (w.alloc (cO #[iI x.n,.slice A1 x.es.length c1] 63)) ((w.alloc (cO #[iI x.n,.slice A1 x.es.length c1] 63)).alloc (cO #[] 41)):=(xZ _).alloc _;generalize ((w.alloc (cO #[iI x.n,.slice A1 x.es.length c1] 63)).alloc (cO #[] 41))=Ws at*
 generalize (w.alloc (cO #[iI x.n,.slice A1 x.es.length c1] 63))=W at*
 go_loopw [6,7] (fun v i wr=>∃k:Nat,k<=n/\i=iI k/\Hid (iK x (os.take k)=true)/\wr.ownsRow W.heap.size 41 8 v ((os.take k).flatMap (Ly x)).length (aJ ((os.take k).flatMap (Ly x)))/\Ext W wr) (fun _ i _=>n - (intOf i).toNat)
 case atStart=>exact ⟨0,lJ _,rfl,hY (by simp [iK]),KU,hxs⟩
 case round=>
  obtain ⟨k,hk,rfl,HQ,bj,hX⟩:=hrel;have hxr:=cD.trans hX
  by_cases ba:k<n
  ·obtain ⟨b,o,y,rfl,hb,hg,r0,r1,r2,r3,r4,r5,r6,r7⟩:=nB (h.ext hxr) ba;have HG:=hY hg;clear hg;have hB:=ky.ext hX;have YX:=hB.lt;have d0:=hB.ck 0;have d1:=hB.ck 1;have hf:((os.take k).flatMap (Ly x)).length<=1600000000000:=by
    have z1:=XI x (os.take k);have z2:(os.take k).length<=k:=qE _ _;omega
   have hol:=Ia x y.g;have lu:(0:Int)<=(k:Int):=aa
   have jJ:(k:Int)<(n:Int):=aa
   have HS:=hY (adR (x:=x) HG.u)
   cases et:(y.k==1)
   ·have HD:=hY (apV (x:=x) et);have oH:=hY (Ci HG.u HQ.u (alL et));go_wp2_with (at_builtin;refine GA (w0:=W) rfl _ _ rfl _ _ ((os.take k).flatMap (Ly x)) rfl bj hX y _ _ rfl rfl aa ?_;intro v1 w1 ox aK Be ky)
    go_roundw
    case rel=>exact ⟨k+1,aa,az,oH,by rw [HS.u,HD.u,lA];exact ox,aK⟩
    case measure=>simp [intOf];omega
   ·have HD:=hY (apU (x:=x) et);have HE:=hY (alK (x:=x) et);have HK:Hid (∀w',Ext wr w'->w'.cell? (aA b (o+k*8))=some (iI y.k)/\w'.cell? (aA b (o+k*8+1))=some (iI y.g.k)/\w'.cell? (aA b (o+k*8+2))=some (iI y.g.a)/\w'.cell? (aA b (o+k*8+3))=some (iI y.g.b)/\w'.cell? (aA b (o+k*8+4))=some (iI y.g.c)/\w'.cell? (aA b (o+k*8+5))=some (iI y.q)/\w'.cell? (aA b (o+k*8+6))=some (iI y.bit)/\w'.cell? (aA b (o+k*8+7))=some (iI y.cond)/\w'.cell? (aA w.z 0)=some (iI x.n)/\w'.cell? (aA w.z 1)=some (.slice A1 x.es.length c1)):=fun w' q=>⟨(q.cell (p:=(aA b (o+k*8))) hb).trans r0,(q.cell (p:=(aA b (o+k*8+1))) hb).trans r1,(q.cell (p:=(aA b (o+k*8+2))) hb).trans r2,(q.cell (p:=(aA b (o+k*8+3))) hb).trans r3,(q.cell (p:=(aA b (o+k*8+4))) hb).trans r4,(q.cell (p:=(aA b (o+k*8+5))) hb).trans r5,(q.cell (p:=(aA b (o+k*8+6))) hb).trans r6,(q.cell (p:=(aA b (o+k*8+7))) hb).trans r7,(hB.ext q).cell 0,(hB.ext q).cell 1⟩
    go_wp2
    go_region_held3 (fun w'=>w'.cell? (aA b (o+k*8))=some (iI y.k)/\w'.cell? (aA b (o+k*8+1))=some (iI y.g.k)/\w'.cell? (aA b (o+k*8+2))=some (iI y.g.a)/\w'.cell? (aA b (o+k*8+3))=some (iI y.g.b)/\w'.cell? (aA b (o+k*8+4))=some (iI y.g.c)/\w'.cell? (aA b (o+k*8+5))=some (iI y.q)/\w'.cell? (aA b (o+k*8+6))=some (iI y.bit)/\w'.cell? (aA b (o+k*8+7))=some (iI y.cond)/\w'.cell? (aA w.z 0)=some (iI x.n)/\w'.cell? (aA w.z 1)=some (.slice A1 x.es.length c1))
     (first|go_keep|exact HK.u _ aL)
     (first
      |(go_at_call 110;refine (xV _ x y.g _ ((hG.up hxr.drew (lI _)).more hxr.drew.size) hm).mono ?_;rintro e w1 ⟨v1,rfl,pR,dw⟩;replace dw:Ext wr w1:=Ext.trans (xZ wr).drew dw))
    have e7:w1.cell? (aA b (o+k*8+7))=some (iI y.cond):=(dw.cell (p:=(aA b (o+k*8+7))) hb).trans r7;obtain ⟨A1',Zm,rfl,kG⟩:=ak pR;have xL:=hX.trans dw;have eu:=aj bj dw;clear r0 r1 r2 r3 r4 r5 r6 r7 d0 d1 pR
    cases sj:eU x y.g
    ·have HO:=hY (UY HG.u (HE.u.trans sj));have HL:=hY (adQ HO.u);go_wp2;go_ret2;refine ⟨_,jU,?_,(cD.trans xL).alloc _⟩;rw [HL.u]
     exact bS (cD.trans xL) _ _ 8 0 #[] _ rfl rfl rfl aa
    ·have oH:=hY (Ci HG.u HQ.u (HE.u.trans sj));have HL:=hY (kV (kI x y.g) y.cond)
     go_wp2_with (first
      |(go_at_call 103;refine (mA A1' _ Zm (kI x y.g) y.cond _ kG aa).mono ?_;rintro e w2 ⟨v2,rfl,fg,iW⟩;have hX2:=xL.trans iW;obtain ⟨A2,c2,rfl,jk⟩:=ak fg)
      |(at_builtin;refine NU (w0:=W) rfl _ _ rfl _ _ ((os.take k).flatMap (Ly x)) rfl (aj eu iW) hX2 A2 _ c2 (nU (kI x y.g) y.cond) rfl jk mZ ?_;intro v3 w3 ie hX3 KS CQ))
     go_roundw
     case rel=>exact ⟨k+1,aa,az,oH,by rw [HS.u,HD.u,lA];exact ie,hX3⟩
     case measure=>simp [intOf];omega
  ·rw [lE bQ] at bj HQ;have HL:=hY (ZU HQ.u);go_wp2;go_ret2;refine ⟨_,by rw [HQ.u];rfl,?_,hxr⟩;rw [HL.u]
   exact aC bj cD.size
end Go.Proofs.YtodhjgngkkcjgaaGreatDoor
