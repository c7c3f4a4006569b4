import Derived.Test.YtodhjgngkkcjgaaGreatDoorXs
namespace Go.Proofs.YtodhjgngkkcjgaaGreatDoor
open Go.ChangeShapes Go.WideShapes Go.ChangeAt Go.RowKit Go.Deep Go.Proofs.Tryz
set_option linter.unusedVariables false
set_option linter.unusedSimpArgs false
set_option maxRecDepth 100000
set_option maxHeartbeats 16000000
theorem bX (w:World) (o:Obj):(w.alloc o).heap.size=w.heap.size+1:=ag
theorem dh {w:World} {B B' e e' s s' n m:Nat} {v u:Value} {xs ys:List Value} (h:w.ownsRow B e s v n xs) (h':w.ownsRow B' e' s' u m ys) (he:e≠e'):v.ownBlock=none\/v.ownBlock≠u.ownBlock:=by
 rcases h.2 with ⟨rfl,_⟩|⟨g1,c1,apt,rfl,_,hh1,_⟩
 ·exact .inl rfl
 rcases h'.2 with ⟨rfl,_⟩|⟨g2,c2,auF,rfl,_,Lt,_⟩
 ·right;intro hc;cases hc
 right;intro hc;have d1:g1=g2:=by simpa [Value.ownBlock] using hc
 subst d1;rw [hh1] at Lt;injection Lt with Lt;injection Lt with _ Lt
 exact he Lt
theorem kr {w:World} {B e s n g t:Nat} {v:Value} {xs:List Value} {cs:Array Value} (h:w.ownsRow B e s v n xs) (h':au w g t cs) (he:e≠t):v.ownBlock≠some g:=by
 rcases h.2 with ⟨rfl,_⟩|⟨g1,c1,apt,rfl,_,hh1,_⟩
 ·intro hc;cases hc
 intro hc;have d1:g1=g:=by simpa [Value.ownBlock] using hc
 subst d1;unfold au at h';rw [hh1] at h';injection h' with h';injection h' with _ h'
 exact he h'
theorem qW {w:World} {B e s n g t:Nat} {v:Value} {xs:List Value} {a0 a1 a2 a3:Value} (h:w.ownsRow B e s v n xs) (h':au w g t #[a0,a1,a2,a3]) (he:e≠t) (a b c d:Value):(bR w g a b c d).ownsRow B e s v n xs:=by
 have hne:=kr h h' he;refine h.kept (row:=some g) ?_ (Or.inr hne);refine ⟨rfl,rfl,rfl,by simp [bR],fun k hk iM=>?_⟩;have hkg:k≠g:=fun e=>iM dU
 unfold bR;rw [Bo _ _ _ _ (sU hkg),Bo _ _ _ _ (sU hkg),Bo _ _ _ _ (sU hkg),Bo _ _ _ _ (sU hkg)]
structure qg (w0 W:World) (g:Nat) (p:Pp) (A1 A2:OA) (c1 c2:Nat):Prop where
 b:au W g 222 #[iI p.n,iI p.ph,.slice A1 p.ts.length c1,.slice A2 p.os.length c2]
 t:W.ownsRow w0.heap.size 243 2 (.slice A1 p.ts.length c1) p.ts.length (aQ p.ts)
 o:W.ownsRow w0.heap.size 227 2 (.slice A2 p.os.length c2) p.os.length (bF p.os)
theorem qg.ext {w0 W W':World} {g:Nat} {p:Pp} {A1 A2:OA} {c1 c2:Nat} (h:qg w0 W g p A1 A2 c1 c2) (hx:Ext W W'):qg w0 W' g p A1 A2 c1 c2:=⟨h.b.ext hx,aj h.t hx,aj h.o hx⟩
theorem qg.at_ {w0 W:World} {g:Nat} {p:Pp} {A1 A2:OA} {c1 c2:Nat} (h:qg w0 W g p A1 A2 c1 c2):RI W W.heap.size (.agg #[iI p.n,iI p.ph,.slice A1 p.ts.length c1,.slice A2 p.os.length c2]) p:=ac4 ⟨A1,c1,A2,c2,rfl,h.t,h.o⟩
theorem qg.grown {w0 W W':World} {g:Nat} {p:Pp} {A1 A2:OA} {c1 c2:Nat} (h:qg w0 W g p A1 A2 c1 c2) {B e s n:Nat} {v:Value} {xs:List Value} (ho:W.ownsRow B e s v n xs) (he1:e≠222) (Tp:e≠243) (he3:e≠227) (hg:W.grownBy W' v.ownBlock):qg w0 W' g p A1 A2 c1 c2:=by
 have hb:=kr ho h.b he1;refine ⟨h.b.grown hg (fun k hk e=>hb (by rw [hk,e])),h.t.kept hg (dh h.t ho (vV Tp)),h.o.kept hg (dh h.o ho (vV he3))⟩
theorem qg.cB {w0 W:World} {g k:Nat} {p:Pp} {A1 A2:OA} {c1 c2:Nat} (h:qg w0 W g p A1 A2 c1 c2) (hne:g≠k) {a0 a1 a2 a3:Value} (hk:au W k 222 #[a0,a1,a2,a3]) (a b c d:Value):qg w0 (bR W k a b c d) g p A1 A2 c1 c2:=
 ⟨ed h.b hne _ _ _ _,qW h.t hk ae _ _ _ _,qW h.o hk ae _ _ _ _⟩
theorem qg.put {w0 W:World} {k:Nat} {q:Pp} {B1 B2:OA} {d1 d2:Nat} {a0 a1 a2 a3:Value} (hk:au W k 222 #[a0,a1,a2,a3]) (h1:W.ownsRow w0.heap.size 243 2 (.slice B1 q.ts.length d1) q.ts.length (aQ q.ts)) (h2:W.ownsRow w0.heap.size 227 2 (.slice B2 q.os.length d2) q.os.length (bF q.os)):
  qg w0 (bR W k (iI q.n) (iI q.ph) (.slice B1 q.ts.length d1) (.slice B2 q.os.length d2)) k q B1 B2 d1 d2:=
 ⟨hk.bR _ _ _ _,qW h1 hk ae _ _ _ _,qW h2 hk ae _ _ _ _⟩
theorem qg.new {w0 W:World} {q:Pp} {B1 B2:OA} {d1 d2:Nat} (h1:W.ownsRow w0.heap.size 243 2 (.slice B1 q.ts.length d1) q.ts.length (aQ q.ts)) (h2:W.ownsRow w0.heap.size 227 2 (.slice B2 q.os.length d2) q.os.length (bF q.os)):
  qg w0 (W.alloc (cO #[iI q.n,iI q.ph,.slice B1 q.ts.length d1,.slice B2 q.os.length d2] 222)) W.heap.size q B1 B2 d1 d2:=⟨au.new W _ _,h1.alloc _,h2.alloc _⟩
structure adF (w0 W:World) (g:Nat) (p:Pp) (A1 A2:OA) (c1 c2:Nat):Prop where
 z:au W w0.heap.size 222 jB
 p:qg w0 W g p A1 A2 c1 c2
 x:Ext w0 W
 le:w0.heap.size<g
theorem adF.step {w0 W W1:World} {g:Nat} {p q:Pp} {A1 A2 B1 B2:OA} {c1 c2 d1 d2:Nat} (h:adF w0 W g p A1 A2 c1 c2) (hx:Ext W W1) (h1:W1.ownsRow W.heap.size 243 2 (.slice B1 q.ts.length d1) q.ts.length (aQ q.ts)) (h2:W1.ownsRow W.heap.size 227 2 (.slice B2 q.os.length d2) q.os.length (bF q.os))  :
  adF w0 (bR W1 g (iI q.n) (iI q.ph) (.slice B1 q.ts.length d1) (.slice B2 q.os.length d2)) g q B1 B2 d1 d2:=by
 have hs:=h.x.size
 exact ⟨ed (h.z.ext hx) (oM h.le) _ _ _ _,qg.put (h.p.b.ext hx) (aC h1 hs) (aC h2 hs),aW (h.x.trans hx) (oM h.le) _ _ _ _,h.le⟩
theorem Jt {P:Prop} (h:P:=by
 refine o1 10 fun K hK=>?_
 obtain ⟨⟨q0,q1,q2,q3⟩,f0,f1,f2,f3⟩:=aB dP.u;go_simp;have fz:Hid (Ext wr ((((w6.setCell (aA s 0) (iI q.n)).setCell (aA s 1) (iI q.ph)).setCell (aA s 2) (.slice B1 q.ts.length d1)).setCell (aA s 3) (.slice B2 q.os.length d2))):=aW (g:=s) dL.u vE _ _ _ _;have nZ:Hid (au ((((w6.setCell (aA s 0) (iI q.n)).setCell (aA s 1) (iI q.ph)).setCell (aA s 2) (.slice B1 q.ts.length d1)).setCell (aA s 3) (.slice B2 q.os.length d2)) s 222 #[iI q.n,iI q.ph,.slice B1 q.ts.length d1,.slice B2 q.os.length d2]):=dP.u.bR _ _ _ _;refine ov hK (HK.u _ fz.u) fun aEQ=>?_
 refine tq 11 ?_;refine dn ?_;clear q0 q1 q2 q3 f0 f1 f2 f3 aEQ;have vh:Hid (((((w6.setCell (aA s 0) (iI q.n)).setCell (aA s 1) (iI q.ph)).setCell (aA s 2) (.slice B1 q.ts.length d1)).setCell (aA s 3) (.slice B2 q.os.length d2)).ownsRow wr.heap.size 243 2 (.slice B1 q.ts.length d1) q.ts.length (aQ q.ts)/\((((w6.setCell (aA s 0) (iI q.n)).setCell (aA s 1) (iI q.ph)).setCell (aA s 2) (.slice B1 q.ts.length d1)).setCell (aA s 3) (.slice B2 q.os.length d2)).ownsRow wr.heap.size 227 2 (.slice B2 q.os.length d2) q.os.length (bF q.os)):=⟨qW wH.u.1 dP.u ae (iI q.n) (iI q.ph) (.slice B1 q.ts.length d1) (.slice B2 q.os.length d2),qW wH.u.2 dP.u ae (iI q.n) (iI q.ph) (.slice B1 q.ts.length d1) (.slice B2 q.os.length d2)⟩;clear wH dP dL;generalize (((w6.setCell (aA s 0) (iI q.n)).setCell (aA s 1) (iI q.ph)).setCell (aA s 2) (.slice B1 q.ts.length d1)).setCell (aA s 3) (.slice B2 q.os.length d2)=w7 at*
 have alA:=hY (bf.u.step fz.u vh.u.1 vh.u.2);obtain ⟨⟨e0,e1,e2,e3⟩,f0,f1,f2,f3⟩:=aB (bf.u.p.b.ext fz.u);obtain ⟨⟨s0,s1,s2,s3⟩,-⟩:=aB nZ.u;have dy:=hY (lQ et iM);clear nZ fz vh HK Xu et iM;go_wp2;go_roundw
 case rel=>exact ⟨k+1,q,B1,B2,d1,d2,oM bZ.u,by first|rfl|rw [dy.u.1]|rw [dy.u.2],Qf,alA⟩
 case measure=>simp [intOf,dy.u.2];have:=bZ.u;omega):P:=h
theorem Ju {P:Prop} (h:P:=by
 refine o1 10 fun K hK=>?_
 obtain ⟨⟨q0,q1,q2,q3⟩,f0,f1,f2,f3⟩:=aB dP.u;go_simp;have fz:Hid (Ext wr ((((w6.setCell (aA s 0) (iI 0)).setCell (aA s 1) (iI 0)).setCell (aA s 2) (nS)).setCell (aA s 3) (nS))):=aW (g:=s) dL.u vE _ _ _ _;have nZ:Hid (au ((((w6.setCell (aA s 0) (iI 0)).setCell (aA s 1) (iI 0)).setCell (aA s 2) (nS)).setCell (aA s 3) (nS)) s 222 jB):=dP.u.bR _ _ _ _;refine ov hK (HK.u _ fz.u) fun aEQ=>?_
 refine tq 11 ?_;refine dn ?_;clear q0 q1 q2 q3 f0 f1 f2 f3 aEQ;generalize (((w6.setCell (aA s 0) (iI 0)).setCell (aA s 1) (iI 0)).setCell (aA s 2) (nS)).setCell (aA s 3) (nS)=w7 at*
 have HZ7:=hY (bf.u.z.ext fz.u);have HX8:Hid (Ext w (bR w7 w.heap.size (iI 0) (iI 0) (nS) (nS))):=aW (bf.u.x.trans fz.u) (lI _) _ _ _ _;have Sa:=hY (HZ7.u.bR (iI 0) (iI 0) (nS) (nS));obtain ⟨⟨d0,d1,d2,d3⟩,z0,z1,z2,z3⟩:=aB HZ7.u;go_wp2;refine bJ (v:=.tuple #[.agg jB,.bool false]) ?_ rfl ?_
 rotate_left
 ·rw [HV.u]
  exact ⟨rfl,HX8.u⟩
 ·exact aR rfl _ _ _ _ _ _ _ rfl rfl Sa.u yu rfl af):P:=h
theorem uO (A:OA) (n c:Nat) (gs:List Gt) (N:Int) (w:World) (h:Rd w w.heap.size 4 A n (aq gs)) (hn:n<=80000000000) (h1:1<=N) (h4:N<=4):
  Calls prog 178 #[.slice A n c,iI N] w fun e w'=>uM e w w' (eN gs N)/\Ext w w':=by
 have cT:=hY (h.len Gt.aG aa);have HR:=hY h;clear h;go_enter func178,ntmps178;go_wp2_with fail;refine (fN N _ h1 h4).mono ?_;rintro e w1 ⟨⟨v1,rfl,A1,c1,A2,c2,rfl,eu,fg⟩,aK⟩;have bf:Hid (adF w (w1.alloc (cO #[iI (Fc N).n,iI (Fc N).ph,.slice A1 (Fc N).ts.length c1,.slice A2 (Fc N).os.length c2] 222)) w1.heap.size (Fc N) A1 A2 c1 c2):=
  ⟨(au.ext (au.new w _ _) aK).alloc _,qg.new (aC eu ag) (aC fg ag),(((xZ w).alloc _).trans aK).alloc _,by have:=aK.size;simp at this;omega⟩
 have HC0:Hid (eN (gs.take 0) N=some (Fc N)):=CW ⟨h1,h4⟩;generalize Fc N=p0 at*
 clear eu fg aK;go_upto_region 2 with fail;generalize w1.alloc (cO #[iI p0.n,iI p0.ph,.slice A1 p0.ts.length c1,.slice A2 p0.os.length c2] 222)=W1 at*
 go_wp2
 go_loopw [7] (fun i wr=>∃(k:Nat) (p:Pp) (A1 A2:OA) (c1 c2:Nat),k<=n/\i=iI k/\Hid (eN (gs.take k) N=some p)/\Hid (adF w wr w1.heap.size p A1 A2 c1 c2)) (fun i _=>n - (intOf i).toNat)
 case atStart=>exact ⟨0,p0,A1,A2,c1,c2,lJ _,rfl,HC0,bf⟩
 case round=>
  clear bf HC0;obtain ⟨k,p,A1,A2,c1,c2,hk,rfl,HC,bf⟩:=hrel
  by_cases ba:k<n
  ·skip;obtain ⟨b,o,x,rfl,-,hx,-⟩:=bT (HR.u.ext bf.u.x) ba;have wV:=hY hx;have bZ:=hY ba;have Ln:=hY (sA (oM cT.u) HC.u);have et:=wA k aa;have iM:=wB k aa;clear hx;have HK:Hid (∀w',Ext wr w'->(w'.cell? (aA w1.z 0)=some (iI p.n)/\w'.cell? (aA w1.z 1)=some (iI p.ph)/\w'.cell? (aA w1.z 2)=some (.slice A1 p.ts.length c1)/\w'.cell? (aA w1.z 3)=some (.slice A2 p.os.length c2))/\(w'.cell? (aA b (o+k*4))=some (iI x.k)/\w'.cell? (aA b (o+k*4+1))=some (iI x.a)/\w'.cell? (aA b (o+k*4+2))=some (iI x.b)/\w'.cell? (aA b (o+k*4+3))=some (iI x.c))):=fun w' hx=>by
    obtain ⟨b2,o2,g2,he,-,jW,x0,x1,x2,x3⟩:=bT (HR.u.ext (bf.u.x.trans hx)) bZ.u;simp only [iG,jR] at he;obtain ⟨rfl,rfl,-⟩:=he;rw [wV.u] at jW;obtain rfl:=kx jW
    exact ⟨(aB (bf.u.p.b.ext hx)).1,x0,x1,x2,x3⟩
   have Xu:Hid (∀w',Ext wr w'->Calls prog 180 #[.agg #[iI p.n,iI p.ph,.slice A1 p.ts.length c1,.slice A2 p.os.length c2],.agg (gA x)] w' fun e w''=>uM e w' w'' (eQ p x)/\Ext w' w''):=fun w' hx=>sI _ p x k w' (bf.u.p.at_.ext hx) Ln.u.1 (oM bZ.u)
   cases YJ:eQ p x with
   |none=>
    have HV:Hid (eN gs N=none):=Hl (k+1) (by rw [pO ⟨h1,h4⟩ wV.u HC.u];exact YJ);have HAQ:=hY YJ;clear YJ et iM;go_upto_region 5 with fail;refine dt (S:=(fun w'=>(w'.cell? (aA w1.z 0)=some (iI p.n)/\w'.cell? (aA w1.z 1)=some (iI p.ph)/\w'.cell? (aA w1.z 2)=some (.slice A1 p.ts.length c1)/\w'.cell? (aA w1.z 3)=some (.slice A2 p.os.length c2))/\(w'.cell? (aA b (o+k*4))=some (iI x.k)/\w'.cell? (aA b (o+k*4+1))=some (iI x.a)/\w'.cell? (aA b (o+k*4+2))=some (iI x.b)/\w'.cell? (aA b (o+k*4+3))=some (iI x.c)))) af (HK.u _ (xZ wr).drew) (fun aEQ=>?_);refine tq 0 ?_;refine tq 1 ?_;refine tq 2 ?_;refine tq 3 ?_;refine tq 4 ?_;refine o2 5 9 (fun K hK=>?_) fun K hK=>?_
    ·skip;go_simp;refine (Xu.u _ ((xZ wr).drew)).mono ?_;rintro e w5 ⟨bD,cf⟩;rw [HAQ.u] at bD;unfold uM at bD;simp only at bD;subst bD;have nh:=hY (Ext.trans (xZ wr).drew cf);refine ov hK (HK.u _ nh.u) fun aEQ=>?_
     refine tq 6 ?_;refine tq 7 ?_;refine tq 8 ?_;refine o1 9 fun K hK=>?_
     go_simp;have dL:Hid (Ext wr (w5.alloc (cO jB 222))):=nh.u.alloc _;have dP:Hid (au (w5.alloc (cO jB 222)) w5.heap.size 222 jB):=au.new _ _ _;have vE:=nh.u.size;refine ov hK (HK.u _ dL.u) fun aEQ=>?_
     clear cf;generalize w5.alloc (cO jB 222)=w6 at*
     generalize US:w5.heap.size=s at*
     clear US nh
     exact Ju
    ·skip;go_simp;refine ov hK (HK.u _ (((xZ wr).alloc _).drew)) fun aEQ=>?_
     refine o1 5 fun K hK=>?_
     go_simp;refine (Xu.u _ (((xZ wr).alloc (cO jB 222)).drew)).mono ?_;rintro e w5 ⟨bD,cf⟩;rw [HAQ.u] at bD;unfold uM at bD;simp only at bD;subst bD;have dL:Hid (Ext wr w5):=Ext.trans ((xZ wr).alloc (cO jB 222)).drew cf;have dP:Hid (au w5 wr.heap.size 222 jB):=((au.new wr 222 jB).ext (xZ _).drew).ext cf;have vE:wr.heap.size<=wr.heap.size:=lI _;refine ov hK (HK.u _ dL.u) fun aEQ=>?_
     clear cf;refine tq 6 ?_;refine tq 7 ?_;refine tq 8 ?_;have Ec:∃s,s=wr.heap.size:=⟨_,rfl⟩;obtain ⟨s,hs⟩:=Ec;rw [<-hs] at dP vE |-;replace vE:wr.heap.size<=s:=aa
     clear hs;have Pc:∃w6,w6=w5:=⟨_,rfl⟩;obtain ⟨w6,rfl⟩:=Pc
     exact Ju
   |some q=>
    have Qf:Hid (eN (gs.take (k+1)) N=some q):=by unfold Hid;rw [pO ⟨h1,h4⟩ wV.u HC.u];exact YJ
    have HAQ:=hY YJ;clear YJ;go_upto_region 5 with fail;refine dt (S:=(fun w'=>(w'.cell? (aA w1.z 0)=some (iI p.n)/\w'.cell? (aA w1.z 1)=some (iI p.ph)/\w'.cell? (aA w1.z 2)=some (.slice A1 p.ts.length c1)/\w'.cell? (aA w1.z 3)=some (.slice A2 p.os.length c2))/\(w'.cell? (aA b (o+k*4))=some (iI x.k)/\w'.cell? (aA b (o+k*4+1))=some (iI x.a)/\w'.cell? (aA b (o+k*4+2))=some (iI x.b)/\w'.cell? (aA b (o+k*4+3))=some (iI x.c)))) af (HK.u _ (xZ wr).drew) (fun aEQ=>?_);refine tq 0 ?_;refine tq 1 ?_;refine tq 2 ?_;refine tq 3 ?_;refine tq 4 ?_;refine o2 5 9 (fun K hK=>?_) fun K hK=>?_
    ·skip;go_simp;refine (Xu.u _ ((xZ wr).drew)).mono ?_;rintro e w5 ⟨bD,cf⟩;rw [HAQ.u] at bD;unfold uM at bD;simp only at bD;obtain ⟨v,rfl,B1,d1,B2,d2,rfl,eu,fg⟩:=bD;have nh:=hY (Ext.trans (xZ wr).drew cf);refine ov hK (HK.u _ nh.u) fun aEQ=>?_
     refine tq 6 ?_;refine tq 7 ?_;refine tq 8 ?_;refine o1 9 fun K hK=>?_
     go_simp;have dL:Hid (Ext wr (w5.alloc (cO jB 222))):=nh.u.alloc _;have dP:Hid (au (w5.alloc (cO jB 222)) w5.heap.size 222 jB):=au.new _ _ _;have vE:=nh.u.size;have wH:=hY (lQ ((aC (base':=wr.heap.size) eu (lI _)).alloc (cO jB 222)) ((aC (base':=wr.heap.size) fg (lI _)).alloc (cO jB 222)));clear eu fg;refine ov hK (HK.u _ dL.u) fun aEQ=>?_
     clear cf;generalize w5.alloc (cO jB 222)=w6 at*
     generalize US:w5.heap.size=s at*
     clear US nh
     exact Jt
    ·skip;go_simp;refine ov hK (HK.u _ (((xZ wr).alloc _).drew)) fun aEQ=>?_
     refine o1 5 fun K hK=>?_
     go_simp;refine (Xu.u _ (((xZ wr).alloc (cO jB 222)).drew)).mono ?_;rintro e w5 ⟨bD,cf⟩;rw [HAQ.u] at bD;unfold uM at bD;simp only at bD;obtain ⟨v,rfl,B1,d1,B2,d2,rfl,eu,fg⟩:=bD;have dL:Hid (Ext wr w5):=Ext.trans ((xZ wr).alloc (cO jB 222)).drew cf;have dP:Hid (au w5 wr.heap.size 222 jB):=((au.new wr 222 jB).ext (xZ _).drew).ext cf;have vE:wr.heap.size<=wr.heap.size:=lI _;have wH:=hY (lQ (aC (base':=wr.heap.size) eu ((xZ wr).alloc (cO jB 222)).drew.size) (aC (base':=wr.heap.size) fg ((xZ wr).alloc (cO jB 222)).drew.size));clear eu fg;refine ov hK (HK.u _ dL.u) fun aEQ=>?_
     clear cf;refine tq 6 ?_;refine tq 7 ?_;refine tq 8 ?_;have Ec:∃s,s=wr.heap.size:=⟨_,rfl⟩;obtain ⟨s,hs⟩:=Ec;rw [<-hs] at dP vE |-;replace vE:wr.heap.size<=s:=aa
     clear hs;have Pc:∃w6,w6=w5:=⟨_,rfl⟩;obtain ⟨w6,rfl⟩:=Pc
     exact Jt
  ·skip;have jJ:k=n:=aa
   subst jJ;have HV:Hid (eN gs N=some p):=by unfold Hid;rw [<-HC.u,lE il]
   have Tn:p.n=N:=(sA (xs:=gs) (k:=k) (oM cT.u) HC.u).2;have hpd:decide (p.n>0)=true:=ai
   clear Tn;obtain ⟨⟨d0,d1,d2,d3⟩,z0,z1,z2,z3⟩:=aB bf.u.z.drew;obtain ⟨⟨d4,d5,d6,d7⟩,z4,z5,z6,z7⟩:=aB bf.u.z;have Xv:=hY (bf.u.z.drew.bR (iI p.n) (iI p.ph) (.slice A1 p.ts.length c1) (.slice A2 p.os.length c2));have qC:=hY (aW bf.u.x.drew (lI _) (iI p.n) (iI p.ph) (.slice A1 p.ts.length c1) (.slice A2 p.os.length c2));have qh:=hY (bf.u.p.ext (xZ wr).drew|>.cB (k:=w.heap.size) (oM bf.u.le) bf.u.z.drew (iI p.n) (iI p.ph) (.slice A1 p.ts.length c1) (.slice A2 p.os.length c2));go_upto_region 9 with fail;have aEQ:(fun wd=>wd.cell? (aA w1.z 0)=some (iI p.n)/\wd.cell? (aA w1.z 1)=some (iI p.ph)/\wd.cell? (aA w1.z 2)=some (.slice A1 p.ts.length c1)/\wd.cell? (aA w1.z 3)=some (.slice A2 p.os.length c2)) wr.drew:=⟨bf.u.p.b.cell 0,bf.u.p.b.cell 1,bf.u.p.b.cell 2,bf.u.p.b.cell 3⟩;refine dt (S:=(fun wd=>wd.cell? (aA w1.z 0)=some (iI p.n)/\wd.cell? (aA w1.z 1)=some (iI p.ph)/\wd.cell? (aA w1.z 2)=some (.slice A1 p.ts.length c1)/\wd.cell? (aA w1.z 3)=some (.slice A2 p.os.length c2))) af aEQ (fun aEQ=>?_);refine tq 0 ?_;refine tq 1 ?_;refine tq 2 ?_;refine tq 3 ?_;refine o1 4 fun K hK=>?_
   go_simp;refine ov hK ⟨qh.u.b.cell 0,qh.u.b.cell 1,qh.u.b.cell 2,qh.u.b.cell 3⟩ fun aEQ=>?_
   refine tq 5 ?_;refine dn ?_;go_wp2;refine bJ (v:=.tuple #[.agg #[iI p.n,iI p.ph,.slice A1 p.ts.length c1,.slice A2 p.os.length c2],.bool true]) ?_ rfl ?_
   rotate_left
   ·rw [HV.u]
    exact ⟨⟨_,rfl,A1,c1,A2,c2,rfl,qh.u.t,qh.u.o⟩,qC.u⟩
   ·exact aR rfl _ _ _ _ _ _ _ rfl (by first|rfl|simp [hpd]) Xv.u yu rfl af
structure AI (w0 W:World) (g6 g10:Nat) (all p:Pp) (A1 A2 A3 A4:OA) (c1 c2 c3 c4:Nat) (Ao Am:OA) (lo co lm cm:Nat) (os:List Gt) (ms:List Int):Prop where
 a:qg w0 W g6 all A1 A2 c1 c2
 p:qg w0 W g10 p A3 A4 c3 c4
 o:W.ownsRow w0.heap.size 39 4 (.slice Ao lo co) lo (aq os)
 m:W.ownsRow w0.heap.size 3 1 (.slice Am lm cm) lm (aD ms)
 x:Ext w0 W
 ne:g6≠g10
 le:w0.heap.size<=g10
section
variable {w0 W W1:World} {g6 g10:Nat} {all p q:Pp} {A1 A2 A3 A4 B1 B2:OA} {c1 c2 c3 c4 d1 d2:Nat} {Ao Am A':OA} {lo co lm cm l' c':Nat} {os os':List Gt} {ms ms':List Int}
theorem AI.ext (h:AI w0 W g6 g10 all p A1 A2 A3 A4 c1 c2 c3 c4 Ao Am lo co lm cm os ms) (hx:Ext W W1):AI w0 W1 g6 g10 all p A1 A2 A3 A4 c1 c2 c3 c4 Ao Am lo co lm cm os ms:=
 ⟨h.a.ext hx,h.p.ext hx,aj h.o hx,aj h.m hx,h.x.trans hx,h.ne,h.le⟩
theorem AI.put (h:AI w0 W g6 g10 all p A1 A2 A3 A4 c1 c2 c3 c4 Ao Am lo co lm cm os ms) (hx:Ext W W1) (h1:W1.ownsRow W.heap.size 243 2 (.slice B1 q.ts.length d1) q.ts.length (aQ q.ts)) (h2:W1.ownsRow W.heap.size 227 2 (.slice B2 q.os.length d2) q.os.length (bF q.os)):
  AI w0 (bR W1 g10 (iI q.n) (iI q.ph) (.slice B1 q.ts.length d1) (.slice B2 q.os.length d2)) g6 g10 all q A1 A2 B1 B2 c1 c2 d1 d2 Ao Am lo co lm cm os ms:=by
 have hb:=h.p.b.ext hx;have hs:=h.x.size
 exact ⟨(h.a.ext hx).cB h.ne hb _ _ _ _,qg.put hb (aC h1 hs) (aC h2 hs),qW (aj h.o hx) hb ae _ _ _ _,qW (aj h.m hx) hb ae _ _ _ _,aW (h.x.trans hx) h.le _ _ _ _,h.ne,h.le⟩
theorem AI.u (h:AI w0 W g6 g10 all p A1 A2 A3 A4 c1 c2 c3 c4 Ao Am lo co lm cm os ms) (ho:W1.ownsRow w0.heap.size 39 4 (.slice A' l' c') l' (aq os')) (hg:W.grownBy W1 (Value.slice Ao lo co).ownBlock) (hx:Ext w0 W1):
  AI w0 W1 g6 g10 all p A1 A2 A3 A4 c1 c2 c3 c4 A' Am l' c' lm cm os' ms:=
 ⟨h.a.grown h.o ae ae ae hg,h.p.grown h.o ae ae ae hg,ho,h.m.kept hg (dh h.m h.o ae),hx,h.ne,h.le⟩
theorem AI.met (h:AI w0 W g6 g10 all p A1 A2 A3 A4 c1 c2 c3 c4 Ao Am lo co lm cm os ms) (ho:W1.ownsRow w0.heap.size 3 1 (.slice A' l' c') l' (aD ms')) (hg:W.grownBy W1 (Value.slice Am lm cm).ownBlock) (hx:Ext w0 W1):
  AI w0 W1 g6 g10 all p A1 A2 A3 A4 c1 c2 c3 c4 Ao A' lo co l' c' os ms':=
 ⟨h.a.grown h.m ae ae ae hg,h.p.grown h.m ae ae ae hg,h.o.kept hg (dh h.o h.m ae),ho,hx,h.ne,h.le⟩
end
theorem UU {xs:List Gt} {n:Int} {all:Pp} (h:eN xs n=some all) (k:Nat):∃p,eN (xs.take k) n=some p:=by
 cases hp:eN (xs.take k) n with
 |some p=>exact ⟨p,rfl⟩
 |none=>rw [Hl k hp] at h;cases h
theorem ZO (all:Pp) (xs:List Gt) (n:Int) (k:Nat) {g:Gt} {p:Pp} (hg:xs[k]?=some g) (hp:eN (xs.take k) n=some p):ee all xs n (k+1)=
  if bH g.k=0 then ((ee all xs n k).1++[g],(ee all xs n k).2)
  else if gf (ee all xs n k).2 (jq p.os g.a).m=true then ee all xs n k
  else ((ee all xs n k).1++cG (if (jq p.os g.a).f=1 then (-(nD all.ts (jq p.os g.a).m)) % 8 else nD all.ts (jq p.os g.a).m) g.a,(ee all xs n k).2++[(jq p.os g.a).m]):=by
 conv=>lhs;unfold ee
 rw [hg,hp]
theorem ahJ {ts:List Pt} (h:∀a∈ts,(0<=a.m/\a.m<=15)/\(0<=a.c/\a.c<=7)) (m:Int):0<=nD ts m/\nD ts m<=7:=by
 unfold nD;split
 ·omega
 ·rename_i t ht
  exact (h t (Tv ht)).2
theorem cV {W W':World} {g t B e s n:Nat} {v:Value} {xs:List Value} {cs:Array Value} (hb:au W g t cs) (ho:W.ownsRow B e s v n xs) (he:e≠t) (hg:W.grownBy W' v.ownBlock):au W' g t cs:=
 hb.grown hg (fun k hk e1=>kr ho hb he (by rw [hk,e1]))
theorem ZP {p q:Pp} {g:Gt} (h:eQ p g=some q):vg g p.n=true:=by
 cases hv:vg g p.n
 ·rw [MD hv] at h;cases h
 ·rfl
theorem Jv {P:Prop} (h:P:=by
 have adG:=hY (fh.u.ext alC);have au3:=hY (Rd.own adH);clear alC adH;go_wp2_with (at_builtin;refine dm (w0:=w) rfl _ _ rfl _ _ _ rfl adG.u.o adG.u.x A20 _ c20 _ rfl au3.u aa ?_;intro v21 w21 t1 t2 t3 t4;obtain ⟨A21,c21,rfl,-⟩:=ak t1;have MK:=hY (adG.u.u t1 t3 t2);clear t1 t2 t3 t4)
 go_roundw
 case rel=>exact ⟨k+1,q,B1,B2,d1,d2,A21,A9,c21,c9,oM bZ.u,by rw [Xx.u.1,lA],by rw [Xx.u.2,lA];rfl,by first|rfl|rw [dy.u.1]|rw [dy.u.2],oH,by rw [Xx.u.1,Xx.u.2,lA,lA];exact MK⟩
 case measure=>simp [intOf,dy.u.2];have:=bZ.u;omega):P:=h
theorem yc (A:OA) (n c:Nat) (gs:List Gt) (N:Int) (w:World) (h:Rd w w.heap.size 4 A n (aq gs)) (hn:n<=40000000000) (h1:1<=N) (h4:N<=4):
  Calls prog 167 #[.slice A n c,iI N] w fun e w'=>(∃(v:Value) (j:Int),e=.returned (.tuple #[v,iI j])/\0<=j/\j<=7/\w'.ownsRow w.heap.size 39 4 v (qN gs N).length (aq (qN gs N)))/\Ext w w':=by
 have cT:=hY (h.len Gt.aG aa);have HR:=hY h;clear h;go_enter func167,ntmps167;go_wp2_with fail;refine (uO A n c gs N _ HR.u aa h1 h4).mono ?_;rintro e w1 ⟨bD,aK⟩
 cases hc:eN gs N with
 |none=>
  rw [hc] at bD;unfold uM at bD;simp only at bD;subst bD;have HV:=hY (acb hc);have bz:Ext w (w1.alloc (cO jB 222)):=aK.alloc _;clear hc aK;go_upto_region 3 with fail;generalize w1.alloc (cO jB 222)=W1 at*
  have mC:=hY (HR.u.ext bz);go_wp2_with (at_builtin;refine dm (w0:=w) rfl _ _ rfl _ 0 [] rfl (aN w W1 _ 4 bz) (bz.alloc _) A n c gs rfl (mC.u.ext ((xZ _).alloc _)) aa ?_;intro v9 w9 g1 g2 g3 g4;rw [lM,lN] at g1;have HO:=hY (lQ g1 g2);clear g1 g2 g3 g4)
  go_ret2;rw [HV.u];refine ⟨⟨_,0,rfl,aa,aa,?_⟩,HO.u.2⟩;rw [cT.u]
  exact HO.u.1
 |some all=>
  rw [hc] at bD;unfold uM at bD;simp only at bD;obtain ⟨v1,rfl,A1,c1,A2,c2,rfl,eu,fg⟩:=bD;have HC:=hY hc;have alD:=hY (sA (xs:=gs) (k:=gs.length) (lI _) (by rw [pg];exact hc));have HA1:=hY (qg.new eu fg);have bz:Ext w (w1.alloc (cO #[iI all.n,iI all.ph,.slice A1 all.ts.length c1,.slice A2 all.os.length c2] 222)):=aK.alloc _;have UM:=aK.size;clear eu fg aK hc;go_upto_region 4 with fail;have hW1:(w1.alloc (cO #[iI all.n,iI all.ph,.slice A1 all.ts.length c1,.slice A2 all.os.length c2] 222)).heap.size=w1.heap.size+1:=ag
  generalize w1.alloc (cO #[iI all.n,iI all.ph,.slice A1 all.ts.length c1,.slice A2 all.os.length c2] 222)=W1 at*
  go_wp2_with fail;refine (fN N _ h1 h4).mono ?_;rintro e w2 ⟨⟨v2,rfl,A3,c3,A4,c4,rfl,ie,uJ⟩,bO⟩;have OM:=bO.size;simp only [bX] at OM;have fy:Ext W1 w2:=(((xZ W1).alloc _).alloc _).trans bO;have bf:Hid (AI w (w2.alloc (cO #[iI (Fc N).n,iI (Fc N).ph,.slice A3 (Fc N).ts.length c3,.slice A4 (Fc N).os.length c4] 222)) w1.heap.size w2.heap.size all (Fc N) A1 A2 A3 A4 c1 c2 c3 c4 (some ⟨W1.heap.size,0,none⟩) (some ⟨W1.heap.size+1,0,none⟩) 0 0 0 0 [] []):=by
   have ka:Ext W1 (W1.alloc (cO #[] 39)):=(xZ W1).alloc _;have hm:=aN w (W1.alloc (cO #[] 39)) 3 1 (bz.trans ka);have e1:(W1.alloc (cO #[] 39)).heap.size=W1.heap.size+1:=ag
   rw [e1] at hm;refine ⟨(HA1.u.ext fy).ext ((xZ _).alloc _),qg.new (aC ie ?_) (aC uJ ?_),?_,?_,(bz.trans fy).alloc _,aa,aa⟩
   ·have:=bz.size;simp only [bX];omega
   ·have:=bz.size;simp only [bX];omega
   ·exact (aj (aj (aN w W1 39 4 bz) ((xZ _).alloc _)) bO).alloc _
   ·exact (aj hm bO).alloc _
  have HC0:Hid (eN (gs.take 0) N=some (Fc N)):=CW ⟨h1,h4⟩;generalize Fc N=p0 at*
  clear ie uJ bO fy OM;go_upto_region 7 with fail;obtain ⟨W3,hW3⟩:=ex (w2.heap.size);rw [hW3,hW1] at bf;rw [hW3];generalize w2.alloc (cO #[iI p0.n,iI p0.ph,.slice A3 p0.ts.length c3,.slice A4 p0.os.length c4] 222)=W2 at*
  clear hW3;go_wp2
  go_loopw [8,9,11] (fun ov mv iv wr=>∃(k:Nat) (p:Pp) (A3 A4:OA) (c3 c4:Nat) (Ao Am:OA) (co cm:Nat),k<=n/\ov=.slice Ao (ee all gs N k).1.length co/\mv=.slice Am (ee all gs N k).2.length cm/\iv=iI k/\Hid (eN (gs.take k) N=some p)/\Hid (AI w wr w1.heap.size W3 all p A1 A2 A3 A4 c1 c2 c3 c4 Ao Am (ee all gs N k).1.length co (ee all gs N k).2.length cm (ee all gs N k).1 (ee all gs N k).2)) (fun _ _ i _=>n - (intOf i).toNat)
  case atStart=>exact ⟨0,p0,A3,A4,c3,c4,_,_,0,0,lJ _,rfl,rfl,rfl,HC0,bf⟩
  case round=>
   clear bf HC0 bz;obtain ⟨k,p,A3,A4,c3,c4,Ao,Am,co,cm,hk,rfl,rfl,rfl,HCK,bf⟩:=hrel;have hlen:=Hm all gs N k
   by_cases ba:k<n
   ·skip;obtain ⟨b,o,x,rfl,-,hx,x0,x1,x2,x3⟩:=bT (HR.u.ext bf.u.x) ba;have wV:=hY hx;have bZ:=hY ba;clear hx;have hwg:=bf.u.p.b.lt;obtain ⟨q,hq⟩:=UU HC.u (k+1);rw [pO ⟨h1,h4⟩ wV.u HCK.u] at hq;have alF:=hY (sA (oM cT.u) HCK.u);have mo:=ZP hq;obtain ⟨jX,UL,gV,eT,sW,-⟩:=qM mo;have zV:=alF.u.1.l;have HQ:=hY hq;have oH:Hid (eN (gs.take (k+1)) N=some q):=by unfold Hid;rw [pO ⟨h1,h4⟩ wV.u HCK.u];exact HQ.u
    clear hq mo sW eT;obtain ⟨ia,hia⟩:=lD gV.1;have hla:ia<p.os.length:=aa
    have HIA:=hY hia;have dy:=hY (wC k aa);clear hia gV;go_upto_region 11 with fail;have Ej:=hY (bf.u.ext ((xZ wr).alloc (cO (gA x) 39)));have Lx:=hY (au.new wr 39 (gA x));have hwr:(wr.alloc (cO (gA x) 39)).heap.size=wr.heap.size+1:=ag
    clear bf x0 x1 x2 x3;generalize wr.alloc (cO (gA x) 39)=W10 at*
    obtain ⟨b',o',y,hA4,-,hy,y0,y1⟩:=Hp (Rd.own Ej.u.p.o) hla;subst hA4;have hoy:jq p.os x.a=y:=by rw [HIA.u];exact Fe hy
    have hyf:=alF.u.1.o y (lG hy);have HY:=hY (lQ hy hoy);have hFS:=ZO all gs N k wV.u HCK.u;rw [hoy] at hFS;have HFS:=hY hFS;clear hFS hy hoy;have n3:=Ej.u.p.b.ck 3;have gi:W10.cell? (aA wr.z 1)=some (iI ia):=Lx.u.cv 1 HIA.u
    go_upto_region 12 with fail;have Sb:=hY (Ej.u.ext ((xZ W10).alloc (cO #[iI y.m,iI y.f] 227)));have Xy:=hY (Lx.u.alloc (cO #[iI y.m,iI y.f] 227));have ajj:Hid (au (W10.alloc (cO #[iI y.m,iI y.f] 227)) (wr.heap.size+1) 227 #[iI y.m,iI y.f]):=au.newAt hwr.symm;clear n3 gi y0 y1 Ej Lx hla;generalize W10.alloc (cO #[iI y.m,iI y.f] 227)=W11 at*
    obtain ⟨⟨n0,n1,n2,n3⟩,-⟩:=aB Sb.u.p.b;obtain ⟨⟨g0,g1,g2,g3⟩,-⟩:=aB Xy.u;have hlg:=Xy.u.lt;go_wp2_with fail;refine (sI _ p x k _ Sb.u.p.at_ alF.u.1 aa).mono ?_;rintro e w12 ⟨bD,adJ⟩;rw [HQ.u] at bD;unfold uM at bD;simp only at bD;obtain ⟨v12,rfl,B1,d1,B2,d2,rfl,eu,fg⟩:=bD;have wW:Hid (AI w ((((w12.setCell (aA W3 0) (iI q.n)).setCell (aA W3 1) (iI q.ph)).setCell (aA W3 2) (.slice B1 q.ts.length d1)).setCell (aA W3 3) (.slice B2 q.os.length d2)) w1.heap.size W3 all q A1 A2 B1 B2 c1 c2 d1 d2 Ao Am (ee all gs N k).1.length co (ee all gs N k).2.length cm (ee all gs N k).1 (ee all gs N k).2):=Sb.u.put adJ eu fg;have adK:Hid (au ((((w12.setCell (aA W3 0) (iI q.n)).setCell (aA W3 1) (iI q.ph)).setCell (aA W3 2) (.slice B1 q.ts.length d1)).setCell (aA W3 3) (.slice B2 q.os.length d2)) wr.heap.size 39 (gA x)):=ed (Xy.u.ext adJ) aa _ _ _ _;have Xz:Hid (au ((((w12.setCell (aA W3 0) (iI q.n)).setCell (aA W3 1) (iI q.ph)).setCell (aA W3 2) (.slice B1 q.ts.length d1)).setCell (aA W3 3) (.slice B2 q.os.length d2)) (wr.heap.size+1) 227 #[iI y.m,iI y.f]):=ed (ajj.u.ext adJ) aa _ _ _ _;clear n0 n1 n2 n3 g0 g1 g2 g3;obtain ⟨⟨n0,n1,n2,n3⟩,f0,f1,f2,f3⟩:=aB (Sb.u.p.b.ext adJ);go_upto_region 13 with fail;clear Sb Xy ajj adJ eu fg n0 n1 n2 n3 f0 f1 f2 f3;generalize (((w12.setCell (aA W3 0) (iI q.n)).setCell (aA W3 1) (iI q.ph)).setCell (aA W3 2) (.slice B1 q.ts.length d1)).setCell (aA W3 3) (.slice B2 q.os.length d2)=W13 at*
    obtain ⟨⟨g0,g1,g2,g3⟩,-⟩:=aB adK.u;have ym:=Xz.u.ck 0;have yf:=Xz.u.ck 1;have EM:k<=n:=hk
    by_cases hr:bH x.k=0
    ·have hrb:(bH x.k==0)=true:=sU hr
     have Xx:Hid ((ee all gs N (k+1)).1=(ee all gs N k).1++[x]/\(ee all gs N (k+1)).2=(ee all gs N k).2):=by
      unfold Hid;rw [HFS.u,aY hr]
      exact ⟨rfl,rfl⟩
     clear hr HFS;go_wp2_with fail;refine (bI x.k _).mono ?_;rintro e wq ⟨rfl,rfl⟩;go_wp2_with (at_builtin;refine fJ (w0:=w) rfl _ _ rfl _ _ _ rfl wW.u.o wW.u.x x _ _ rfl rfl aa ?_;intro v9 w9 t1 t2 t3 t4;obtain ⟨A9,c9,rfl,-⟩:=ak t1;have fh:=hY ((wW.u.ext ((xZ W13).alloc _)).u t1 t3 t2);clear t1 t2 t3 t4)
     go_roundw
     case rel=>exact ⟨k+1,q,B1,B2,d1,d2,A9,Am,c9,cm,oM bZ.u,by rw [Xx.u.1,lA];rfl,by rw [Xx.u.2],by first|rfl|rw [dy.u.1]|rw [dy.u.2],oH,by rw [Xx.u.1,Xx.u.2,lA];exact fh⟩
     case measure=>simp [intOf,dy.u.2];have:=bZ.u;omega
    ·have hrb:(bH x.k==0)=false:=sU hr
     have Zl:=hY hr;clear hr;go_wp2_with fail;refine (bI x.k _).mono ?_;rintro e wq ⟨rfl,rfl⟩;have HMR:=hY (Rd.own wW.u.m)
     cases hh:gf (ee all gs N k).2 y.m
     ·skip;have HH:=hY hh;go_wp2_with fail;refine (dE Am _ cm _ y.m _ HMR.u aa).mono ?_;rintro e wq ⟨rfl,rfl⟩;rw [hh];clear hh;go_wp2_with (at_builtin;refine pq (w0:=w) rfl _ _ rfl _ _ _ rfl wW.u.m wW.u.x y.m _ _ rfl rfl aa ?_;intro v9 w9 t1 t2 t3 t4;obtain ⟨A9,c9,rfl,-⟩:=ak t1;have fh:=hY ((wW.u.ext ((xZ W13).alloc _)).met t1 t3 t2);have Sc:=hY (cV (adK.u.alloc _) (wW.u.m.alloc _) ae t3);have alG:=hY (cV (Xz.u.alloc _) (wW.u.m.alloc _) ae t3);obtain ⟨⟨m0,m1,m2,m3⟩,-⟩:=aB fh.u.a.b;have ym9:w9.cell? (aA (wr.z+1) 0)=some (iI y.m):=alG.u.cell 0;clear t1 t2 t3 t4)
      have hcb:=ahJ alD.u.1.t y.m;refine (RJ _ all y.m _ fh.u.a.at_ (oN alD.u.1.tl cT.u)).mono ?_;rintro e w17 ⟨rfl,ahM⟩;have apO:=hY (fh.u.ext ahM);have apP:=hY (Sc.u.ext ahM);have apQ:=hY (alG.u.ext ahM);clear fh Sc alG adK Xz wW ahM ym9 m0 m1 m2 m3 g0 g1 g2 g3 ym yf;have fh:=apO;have yf:=apQ.u.ck 1;have g1:=apP.u.ck 1;rcases hyf.2 with mg|dw
      ·have hyb:(y.f==1)=false:=by rw [mg];rfl
       clear hyf;have Xx:Hid ((ee all gs N (k+1)).1=(ee all gs N k).1++cG (nD all.ts y.m) x.a/\(ee all gs N (k+1)).2=(ee all gs N k).2++[y.m]):=by
        unfold Hid;rw [HFS.u,aM Zl.u,aM (by rw [HH.u];decide),aM aa]
        exact ⟨rfl,rfl⟩
       clear HFS;go_wp2_with fail;refine (gY (nD all.ts y.m) x.a _).mono ?_;rintro e w20 ⟨v20,rfl,adH,alC⟩;obtain ⟨A20,c20,rfl,-⟩:=ak adH;have au7:=BN (nD all.ts y.m) x.a
       exact Jv
      ·have hyb:(y.f==1)=true:=by rw [dw];rfl
       have Ww:IntKind.i64.wrap (-(nD all.ts y.m))= -(nD all.ts y.m):=lH _ aa;have QH:wrap64 (-(nD all.ts y.m))= -(nD all.ts y.m):=bk
       clear hyf;have Xx:Hid ((ee all gs N (k+1)).1=(ee all gs N k).1++cG ((-(nD all.ts y.m)) % 8) x.a/\(ee all gs N (k+1)).2=(ee all gs N k).2++[y.m]):=by
        unfold Hid;rw [HFS.u,aM Zl.u,aM (by rw [HH.u];decide),aY dw]
        exact ⟨rfl,rfl⟩
       clear HFS;go_wp2_with fail;refine (eZ (-(nD all.ts y.m)) _ aa).mono ?_;rintro e wq ⟨rfl,rfl⟩;go_wp2_with fail;refine (gY ((-(nD all.ts y.m)) % 8) x.a _).mono ?_;rintro e w20 ⟨v20,rfl,adH,alC⟩;obtain ⟨A20,c20,rfl,-⟩:=ak adH;have au7:=BN ((-(nD all.ts y.m)) % 8) x.a
       exact Jv
     ·have Xx:Hid (ee all gs N (k+1)=ee all gs N k):=by
       unfold Hid;rw [HFS.u,aM Zl.u,aY hh]
      clear HFS;go_wp2_with fail;refine (dE Am _ cm _ y.m _ HMR.u aa).mono ?_;rintro e wq ⟨rfl,rfl⟩;rw [hh];go_wp2;go_roundw
      case rel=>exact ⟨k+1,q,B1,B2,d1,d2,Ao,Am,co,cm,oM bZ.u,by rw [Xx.u],by rw [Xx.u],by first|rfl|rw [dy.u.1]|rw [dy.u.2],oH,by rw [Xx.u];exact wW⟩
      case measure=>simp [intOf,dy.u.2];have:=bZ.u;omega
   ·skip;have jJ:k=n:=aa
    subst jJ;have HV:Hid (qN gs N=(ee all gs N k).1):=by unfold Hid;rw [YR HC.u,cT.u]
    have HRO:=hY (Rd.own bf.u.o);have zn:(ee all gs N k).1.length<=80000000000:=aa
    go_wp2_with fail;refine (uO Ao (ee all gs N k).1.length co (ee all gs N k).1 N _ HRO.u zn h1 h4).mono ?_;rintro e w21 ⟨bD,apR⟩;have MK:=hY (bf.u.ext apR);clear bf apR;have hph:=alD.u.1.ph
    cases zm:eN (ee all gs N k).1 N with
    |none=>
     rw [zm] at bD;unfold uM at bD;simp only at bD;subst bD;have Jw:=hY (MK.u.ext ((xZ w21).alloc (cO jB 222)));have alH:=hY (au.new w21 222 jB);clear MK zm;go_upto_region 22 with fail;generalize jm:w21.heap.size=s21 at*
     generalize w21.alloc (cO jB 222)=W22 at*
     clear jm;have p1:=Jw.u.a.b.ck 1;have p2:=alH.u.ck 1;have hw1:IntKind.i64.wrap (all.ph)=all.ph:=lH _ aa;have hw2:wrap64 (all.ph)=all.ph:=bk
     go_wp2_with fail;refine (eZ (all.ph) _ aa).mono ?_;rintro e wq ⟨rfl,rfl⟩;go_wp2;go_ret2;rw [HV.u]
     exact ⟨⟨_,all.ph % 8,rfl,aa,aa,Jw.u.o⟩,Jw.u.x⟩
    |some told=>
     rw [zm] at bD;unfold uM at bD;simp only at bD;obtain ⟨v21,rfl,B1,d1,B2,d2,rfl,-,-⟩:=bD;have hto:=(sA (xs:=(ee all gs N k).1) (k:=(ee all gs N k).1.length) (lI _) (by rw [pg];exact zm)).1.ph;have Jw:=hY (MK.u.ext ((xZ w21).alloc (cO #[iI told.n,iI told.ph,.slice B1 told.ts.length d1,.slice B2 told.os.length d2] 222)));have alH:=hY (au.new w21 222 #[iI told.n,iI told.ph,.slice B1 told.ts.length d1,.slice B2 told.os.length d2]);clear MK zm;go_upto_region 22 with fail;generalize jm:w21.heap.size=s21 at*
     generalize w21.alloc (cO #[iI told.n,iI told.ph,.slice B1 told.ts.length d1,.slice B2 told.os.length d2] 222)=W22 at*
     clear jm;have p1:=Jw.u.a.b.ck 1;have p2:=alH.u.ck 1;have hw1:IntKind.i64.wrap (all.ph - told.ph)=all.ph - told.ph:=lH _ aa;have hw2:wrap64 (all.ph - told.ph)=all.ph - told.ph:=bk
     go_wp2_with fail;refine (eZ (all.ph - told.ph) _ aa).mono ?_;rintro e wq ⟨rfl,rfl⟩;go_wp2;go_ret2;rw [HV.u]
     exact ⟨⟨_,(all.ph - told.ph) % 8,rfl,aa,aa,Jw.u.o⟩,Jw.u.x⟩
end Go.Proofs.YtodhjgngkkcjgaaGreatDoor
