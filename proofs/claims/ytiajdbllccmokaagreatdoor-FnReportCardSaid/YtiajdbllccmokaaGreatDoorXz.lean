import Derived.Test.YtiajdbllccmokaaGreatDoorXv
namespace Go.Proofs.YtiajdbllccmokaaGreatDoor
open Go.ChangeShapes Go.WideShapes Go.ChangeAt Go.RowKit Go.Deep Go.Proofs.Tryz
set_option linter.unusedVariables false
set_option linter.unusedSimpArgs false
set_option maxRecDepth 100000
set_option maxHeartbeats 16000000
theorem bQ (w:World) (o:Obj):(w.alloc o).heap.size=w.heap.size+1:=ag
theorem cX {w:World} {B B' e e' s s' n m:Nat} {v u:Value} {xs ys:List Value} (h:w.ownsRow B e s v n xs) (h':w.ownsRow B' e' s' u m ys) (he:e≠e'):v.ownBlock=none\/v.ownBlock≠u.ownBlock:=by
 rcases h.2 with ⟨rfl,_⟩|⟨g1,c1,ajJ,rfl,_,hh1,_⟩
 ·exact .inl rfl
 rcases h'.2 with ⟨rfl,_⟩|⟨g2,c2,aoL,rfl,_,FZ,_⟩
 ·right;intro hc;cases hc
 right;intro hc;have d1:g1=g2:=by simpa [Value.ownBlock] using hc
 subst d1;rw [hh1] at FZ;injection FZ with FZ;injection FZ with _ FZ
 exact he FZ
theorem jr {w:World} {B e s n g t:Nat} {v:Value} {xs:List Value} {cs:Array Value} (h:w.ownsRow B e s v n xs) (h':ay w g t cs) (he:e≠t):v.ownBlock≠some g:=by
 rcases h.2 with ⟨rfl,_⟩|⟨g1,c1,ajJ,rfl,_,hh1,_⟩
 ·intro hc;cases hc
 intro hc;have d1:g1=g:=by simpa [Value.ownBlock] using hc
 subst d1;unfold ay at h';rw [hh1] at h';injection h' with h';injection h' with _ h'
 exact he h'
theorem oy {w:World} {B e s n g t:Nat} {v:Value} {xs:List Value} {a0 a1 a2 a3:Value} (h:w.ownsRow B e s v n xs) (h':ay w g t #[a0,a1,a2,a3]) (he:e≠t) (a b c d:Value):(bP w g a b c d).ownsRow B e s v n xs:=by
 have hne:=jr h h' he;refine h.kept (row:=some g) ?_ (Or.inr hne);refine ⟨rfl,rfl,rfl,by simp [bP],fun k hk iG=>?_⟩;have hkg:k≠g:=fun e=>iG (by rw [e])
 unfold bP;rw [xz _ _ _ _ (sU hkg),xz _ _ _ _ (sU hkg),xz _ _ _ _ (sU hkg),xz _ _ _ _ (sU hkg)]
structure nE (w0 W:World) (g:Nat) (p:Pp) (A1 A2:OA) (c1 c2:Nat):Prop where
 b:ay W g 156 #[iI p.n,iI p.ph,.slice A1 p.ts.length c1,.slice A2 p.os.length c2]
 t:W.ownsRow w0.heap.size 179 2 (.slice A1 p.ts.length c1) p.ts.length (aN p.ts)
 o:W.ownsRow w0.heap.size 161 2 (.slice A2 p.os.length c2) p.os.length (bA p.os)
theorem nE.ext {w0 W W':World} {g:Nat} {p:Pp} {A1 A2:OA} {c1 c2:Nat} (h:nE w0 W g p A1 A2 c1 c2) (hx:Ext W W'):nE w0 W' g p A1 A2 c1 c2:=⟨h.b.ext hx,aq h.t hx,aq h.o hx⟩
theorem nE.at_ {w0 W:World} {g:Nat} {p:Pp} {A1 A2:OA} {c1 c2:Nat} (h:nE w0 W g p A1 A2 c1 c2):Lu W W.heap.size (.agg #[iI p.n,iI p.ph,.slice A1 p.ts.length c1,.slice A2 p.os.length c2]) p:=VP ⟨A1,c1,A2,c2,rfl,h.t,h.o⟩
theorem nE.grown {w0 W W':World} {g:Nat} {p:Pp} {A1 A2:OA} {c1 c2:Nat} (h:nE w0 W g p A1 A2 c1 c2) {B e s n:Nat} {v:Value} {xs:List Value} (ho:W.ownsRow B e s v n xs) (he1:e≠156) (MY:e≠179) (he3:e≠161) (hg:W.grownBy W' v.ownBlock):nE w0 W' g p A1 A2 c1 c2:=by
 have hb:=jr ho h.b he1;refine ⟨h.b.grown hg (fun k hk e=>hb (by rw [hk,e])),h.t.kept hg (cX h.t ho (sK MY)),h.o.kept hg (cX h.o ho (sK he3))⟩
theorem nE.bX {w0 W:World} {g k:Nat} {p:Pp} {A1 A2:OA} {c1 c2:Nat} (h:nE w0 W g p A1 A2 c1 c2) (hne:g≠k) {a0 a1 a2 a3:Value} (hk:ay W k 156 #[a0,a1,a2,a3]) (a b c d:Value):nE w0 (bP W k a b c d) g p A1 A2 c1 c2:=
 ⟨dh h.b hne _ _ _ _,oy h.t hk ae _ _ _ _,oy h.o hk ae _ _ _ _⟩
theorem nE.put {w0 W:World} {k:Nat} {q:Pp} {B1 B2:OA} {d1 d2:Nat} {a0 a1 a2 a3:Value} (hk:ay W k 156 #[a0,a1,a2,a3]) (h1:W.ownsRow w0.heap.size 179 2 (.slice B1 q.ts.length d1) q.ts.length (aN q.ts)) (h2:W.ownsRow w0.heap.size 161 2 (.slice B2 q.os.length d2) q.os.length (bA q.os)):
  nE w0 (bP W k (iI q.n) (iI q.ph) (.slice B1 q.ts.length d1) (.slice B2 q.os.length d2)) k q B1 B2 d1 d2:=
 ⟨hk.bP _ _ _ _,oy h1 hk ae _ _ _ _,oy h2 hk ae _ _ _ _⟩
theorem nE.new {w0 W:World} {q:Pp} {B1 B2:OA} {d1 d2:Nat} (h1:W.ownsRow w0.heap.size 179 2 (.slice B1 q.ts.length d1) q.ts.length (aN q.ts)) (h2:W.ownsRow w0.heap.size 161 2 (.slice B2 q.os.length d2) q.os.length (bA q.os)):
  nE w0 (W.alloc (cO #[iI q.n,iI q.ph,.slice B1 q.ts.length d1,.slice B2 q.os.length d2] 156)) W.heap.size q B1 B2 d1 d2:=⟨ay.new W _ _,h1.alloc _,h2.alloc _⟩
structure Xk (w0 W:World) (g:Nat) (p:Pp) (A1 A2:OA) (c1 c2:Nat):Prop where
 z:ay W w0.heap.size 156 jB
 p:nE w0 W g p A1 A2 c1 c2
 x:Ext w0 W
 le:w0.heap.size<g
theorem Xk.step {w0 W W1:World} {g:Nat} {p q:Pp} {A1 A2 B1 B2:OA} {c1 c2 d1 d2:Nat} (h:Xk w0 W g p A1 A2 c1 c2) (hx:Ext W W1) (h1:W1.ownsRow W.heap.size 179 2 (.slice B1 q.ts.length d1) q.ts.length (aN q.ts)) (h2:W1.ownsRow W.heap.size 161 2 (.slice B2 q.os.length d2) q.os.length (bA q.os))  :
  Xk w0 (bP W1 g (iI q.n) (iI q.ph) (.slice B1 q.ts.length d1) (.slice B2 q.os.length d2)) g q B1 B2 d1 d2:=by
 have hs:=h.x.size
 exact ⟨dh (h.z.ext hx) (oM h.le) _ _ _ _,nE.put (h.p.b.ext hx) (aC h1 hs) (aC h2 hs),br (h.x.trans hx) (oM h.le) _ _ _ _,h.le⟩
theorem Ep {P:Prop} (h:P:=by
 refine o1 10 fun K hK=>?_
 obtain ⟨⟨q0,q1,q2,q3⟩,f0,f1,f2,f3⟩:=aB dL.u;go_simp;have eQ:Hid (Ext wr ((((w6.setCell (aA s 0) (iI q.n)).setCell (aA s 1) (iI q.ph)).setCell (aA s 2) (.slice B1 q.ts.length d1)).setCell (aA s 3) (.slice B2 q.os.length d2))):=br (g:=s) dG.u sx _ _ _ _;have lX:Hid (ay ((((w6.setCell (aA s 0) (iI q.n)).setCell (aA s 1) (iI q.ph)).setCell (aA s 2) (.slice B1 q.ts.length d1)).setCell (aA s 3) (.slice B2 q.os.length d2)) s 156 #[iI q.n,iI q.ph,.slice B1 q.ts.length d1,.slice B2 q.os.length d2]):=dL.u.bP _ _ _ _;refine ov hK (HK.u _ eQ.u) fun ay4=>?_
 refine tq 11 ?_;refine dn ?_;clear q0 q1 q2 q3 f0 f1 f2 f3 ay4;have rO:Hid (((((w6.setCell (aA s 0) (iI q.n)).setCell (aA s 1) (iI q.ph)).setCell (aA s 2) (.slice B1 q.ts.length d1)).setCell (aA s 3) (.slice B2 q.os.length d2)).ownsRow wr.heap.size 179 2 (.slice B1 q.ts.length d1) q.ts.length (aN q.ts)/\((((w6.setCell (aA s 0) (iI q.n)).setCell (aA s 1) (iI q.ph)).setCell (aA s 2) (.slice B1 q.ts.length d1)).setCell (aA s 3) (.slice B2 q.os.length d2)).ownsRow wr.heap.size 161 2 (.slice B2 q.os.length d2) q.os.length (bA q.os)):=⟨oy rp.u.1 dL.u ae (iI q.n) (iI q.ph) (.slice B1 q.ts.length d1) (.slice B2 q.os.length d2),oy rp.u.2 dL.u ae (iI q.n) (iI q.ph) (.slice B1 q.ts.length d1) (.slice B2 q.os.length d2)⟩;clear rp dL dG;generalize (((w6.setCell (aA s 0) (iI q.n)).setCell (aA s 1) (iI q.ph)).setCell (aA s 2) (.slice B1 q.ts.length d1)).setCell (aA s 3) (.slice B2 q.os.length d2)=w7 at*
 have afo:=hY (aZ.u.step eQ.u rO.u.1 rO.u.2);obtain ⟨⟨e0,e1,e2,e3⟩,f0,f1,f2,f3⟩:=aB (aZ.u.p.b.ext eQ.u);obtain ⟨⟨s0,s1,s2,s3⟩,-⟩:=aB lX.u;have dP:=hY (lQ eM iG);clear lX eQ rO HK QK eM iG;go_wp2;go_roundw
 case rel=>exact ⟨k+1,q,B1,B2,d1,d2,oM bS.u,by first|rfl|rw [dP.u.1]|rw [dP.u.2],Fy,afo⟩
 case measure=>simp [intOf,dP.u.2];have:=bS.u;omega):P:=h
theorem Er {P:Prop} (h:P:=by
 refine o1 10 fun K hK=>?_
 obtain ⟨⟨q0,q1,q2,q3⟩,f0,f1,f2,f3⟩:=aB dL.u;go_simp;have eQ:Hid (Ext wr ((((w6.setCell (aA s 0) (iI 0)).setCell (aA s 1) (iI 0)).setCell (aA s 2) (nS)).setCell (aA s 3) (nS))):=br (g:=s) dG.u sx _ _ _ _;have lX:Hid (ay ((((w6.setCell (aA s 0) (iI 0)).setCell (aA s 1) (iI 0)).setCell (aA s 2) (nS)).setCell (aA s 3) (nS)) s 156 jB):=dL.u.bP _ _ _ _;refine ov hK (HK.u _ eQ.u) fun ay4=>?_
 refine tq 11 ?_;refine dn ?_;clear q0 q1 q2 q3 f0 f1 f2 f3 ay4;generalize (((w6.setCell (aA s 0) (iI 0)).setCell (aA s 1) (iI 0)).setCell (aA s 2) (nS)).setCell (aA s 3) (nS)=w7 at*
 have HZ7:=hY (aZ.u.z.ext eQ.u);have HX8:Hid (Ext w (bP w7 w.heap.size (iI 0) (iI 0) (nS) (nS))):=br (aZ.u.x.trans eQ.u) (lI _) _ _ _ _;have Mb:=hY (HZ7.u.bP (iI 0) (iI 0) (nS) (nS));obtain ⟨⟨d0,d1,d2,d3⟩,z0,z1,z2,z3⟩:=aB HZ7.u;go_wp2;refine bR (v:=.tuple #[.agg jB,.bool false]) ?_ rfl ?_
 rotate_left
 ·rw [HV.u]
  exact ⟨rfl,HX8.u⟩
 ·exact bF rfl _ _ _ _ _ _ _ rfl rfl Mb.u underlying156 rfl af):P:=h
theorem rB (A:OA) (n c:Nat) (gs:List Gt) (N:Int) (w:World) (h:Rd w w.heap.size 4 A n (ak gs)) (hn:n<=80000000000) (h1:1<=N) (h4:N<=4):
  Calls prog 117 #[.slice A n c,iI N] w fun e w'=>ru e w w' (ec gs N)/\Ext w w':=by
 have dB:=hY (h.len Gt.aE aa);have HR:=hY h;clear h;go_enter func117,ntmps117;go_wp2_with fail;refine (fh N _ h1 h4).mono ?_;rintro e w1 ⟨⟨v1,rfl,A1,c1,A2,c2,rfl,eF,ep⟩,aS⟩;have aZ:Hid (Xk w (w1.alloc (cO #[iI (Bs N).n,iI (Bs N).ph,.slice A1 (Bs N).ts.length c1,.slice A2 (Bs N).os.length c2] 156)) w1.heap.size (Bs N) A1 A2 c1 c2):=
  ⟨(ay.ext (ay.new w _ _) aS).alloc _,nE.new (aC eF ag) (aC ep ag),(((xZ w).alloc _).trans aS).alloc _,by have:=aS.size;simp at this;omega⟩
 have MZ:Hid (ec (gs.take 0) N=some (Bs N)):=zm ⟨h1,h4⟩;generalize Bs N=p0 at*
 clear eF ep aS;go_upto_region 2 with fail;generalize w1.alloc (cO #[iI p0.n,iI p0.ph,.slice A1 p0.ts.length c1,.slice A2 p0.os.length c2] 156)=W1 at*
 go_wp2
 go_loopw [7] (fun i wr=>∃(k:Nat) (p:Pp) (A1 A2:OA) (c1 c2:Nat),k<=n/\i=iI k/\Hid (ec (gs.take k) N=some p)/\Hid (Xk w wr w1.heap.size p A1 A2 c1 c2)) (fun i _=>n - (intOf i).toNat)
 case atStart=>exact ⟨0,p0,A1,A2,c1,c2,lJ _,rfl,MZ,aZ⟩
 case round=>
  clear aZ MZ;obtain ⟨k,p,A1,A2,c1,c2,hk,rfl,HC,aZ⟩:=hrel
  by_cases bh:k<n
  ·skip;obtain ⟨b,o,x,rfl,-,hx,-⟩:=bE (HR.u.ext aZ.u.x) bh;have tG:=hY hx;have bS:=hY bh;have FR:=hY (pH (oM dB.u) HC.u);have eM:=wA k aa;have iG:=wB k aa;clear hx;have HK:Hid (∀w',Ext wr w'->(w'.cell? (aA w1.z 0)=some (iI p.n)/\w'.cell? (aA w1.z 1)=some (iI p.ph)/\w'.cell? (aA w1.z 2)=some (.slice A1 p.ts.length c1)/\w'.cell? (aA w1.z 3)=some (.slice A2 p.os.length c2))/\(w'.cell? (aA b (o+k*4))=some (iI x.k)/\w'.cell? (aA b (o+k*4+1))=some (iI x.a)/\w'.cell? (aA b (o+k*4+2))=some (iI x.b)/\w'.cell? (aA b (o+k*4+3))=some (iI x.c))):=fun w' hx=>by
    obtain ⟨b2,o2,g2,he,-,jL,x0,x1,x2,x3⟩:=bE (HR.u.ext (aZ.u.x.trans hx)) bS.u;simp only [fW,iO] at he;obtain ⟨rfl,rfl,-⟩:=he;rw [tG.u] at jL;obtain rfl:=nT jL
    exact ⟨(aB (aZ.u.p.b.ext hx)).1,x0,x1,x2,x3⟩
   have QK:Hid (∀w',Ext wr w'->Calls prog 119 #[.agg #[iI p.n,iI p.ph,.slice A1 p.ts.length c1,.slice A2 p.os.length c2],.agg (gA x)] w' fun e w''=>ru e w' w'' (eu p x)/\Ext w' w''):=fun w' hx=>pO _ p x k w' (aZ.u.p.at_.ext hx) FR.u.1 (oM bS.u)
   cases RF:eu p x with
   |none=>
    have HV:Hid (ec gs N=none):=CV (k+1) (by rw [nk ⟨h1,h4⟩ tG.u HC.u];exact RF);have HAQ:=hY RF;clear RF eM iG;go_upto_region 5 with fail;refine dm (S:=(fun w'=>(w'.cell? (aA w1.z 0)=some (iI p.n)/\w'.cell? (aA w1.z 1)=some (iI p.ph)/\w'.cell? (aA w1.z 2)=some (.slice A1 p.ts.length c1)/\w'.cell? (aA w1.z 3)=some (.slice A2 p.os.length c2))/\(w'.cell? (aA b (o+k*4))=some (iI x.k)/\w'.cell? (aA b (o+k*4+1))=some (iI x.a)/\w'.cell? (aA b (o+k*4+2))=some (iI x.b)/\w'.cell? (aA b (o+k*4+3))=some (iI x.c)))) af (HK.u _ (xZ wr).drew) (fun ay4=>?_);refine tq 0 ?_;refine tq 1 ?_;refine tq 2 ?_;refine tq 3 ?_;refine tq 4 ?_;refine o2 5 9 (fun K hK=>?_) fun K hK=>?_
    ·skip;go_simp;refine (QK.u _ ((xZ wr).drew)).mono ?_;rintro e w5 ⟨bz,bK⟩;rw [HAQ.u] at bz;unfold ru at bz;simp only at bz;subst bz;have kM:=hY (Ext.trans (xZ wr).drew bK);refine ov hK (HK.u _ kM.u) fun ay4=>?_
     refine tq 6 ?_;refine tq 7 ?_;refine tq 8 ?_;refine o1 9 fun K hK=>?_
     go_simp;have dG:Hid (Ext wr (w5.alloc (cO jB 156))):=kM.u.alloc _;have dL:Hid (ay (w5.alloc (cO jB 156)) w5.heap.size 156 jB):=ay.new _ _ _;have sx:=kM.u.size;refine ov hK (HK.u _ dG.u) fun ay4=>?_
     clear bK;generalize w5.alloc (cO jB 156)=w6 at*
     generalize Xc:w5.heap.size=s at*
     clear Xc kM
     exact Er
    ·skip;go_simp;refine ov hK (HK.u _ (((xZ wr).alloc _).drew)) fun ay4=>?_
     refine o1 5 fun K hK=>?_
     go_simp;refine (QK.u _ (((xZ wr).alloc (cO jB 156)).drew)).mono ?_;rintro e w5 ⟨bz,bK⟩;rw [HAQ.u] at bz;unfold ru at bz;simp only at bz;subst bz;have dG:Hid (Ext wr w5):=Ext.trans ((xZ wr).alloc (cO jB 156)).drew bK;have dL:Hid (ay w5 wr.heap.size 156 jB):=((ay.new wr 156 jB).ext (xZ _).drew).ext bK;have sx:wr.heap.size<=wr.heap.size:=lI _;refine ov hK (HK.u _ dG.u) fun ay4=>?_
     clear bK;refine tq 6 ?_;refine tq 7 ?_;refine tq 8 ?_;have FB:∃s,s=wr.heap.size:=⟨_,rfl⟩;obtain ⟨s,hs⟩:=FB;rw [<-hs] at dL sx |-;replace sx:wr.heap.size<=s:=aa
     clear hs;have JE:∃w6,w6=w5:=⟨_,rfl⟩;obtain ⟨w6,rfl⟩:=JE
     exact Er
   |some q=>
    have Fy:Hid (ec (gs.take (k+1)) N=some q):=by unfold Hid;rw [nk ⟨h1,h4⟩ tG.u HC.u];exact RF
    have HAQ:=hY RF;clear RF;go_upto_region 5 with fail;refine dm (S:=(fun w'=>(w'.cell? (aA w1.z 0)=some (iI p.n)/\w'.cell? (aA w1.z 1)=some (iI p.ph)/\w'.cell? (aA w1.z 2)=some (.slice A1 p.ts.length c1)/\w'.cell? (aA w1.z 3)=some (.slice A2 p.os.length c2))/\(w'.cell? (aA b (o+k*4))=some (iI x.k)/\w'.cell? (aA b (o+k*4+1))=some (iI x.a)/\w'.cell? (aA b (o+k*4+2))=some (iI x.b)/\w'.cell? (aA b (o+k*4+3))=some (iI x.c)))) af (HK.u _ (xZ wr).drew) (fun ay4=>?_);refine tq 0 ?_;refine tq 1 ?_;refine tq 2 ?_;refine tq 3 ?_;refine tq 4 ?_;refine o2 5 9 (fun K hK=>?_) fun K hK=>?_
    ·skip;go_simp;refine (QK.u _ ((xZ wr).drew)).mono ?_;rintro e w5 ⟨bz,bK⟩;rw [HAQ.u] at bz;unfold ru at bz;simp only at bz;obtain ⟨v,rfl,B1,d1,B2,d2,rfl,eF,ep⟩:=bz;have kM:=hY (Ext.trans (xZ wr).drew bK);refine ov hK (HK.u _ kM.u) fun ay4=>?_
     refine tq 6 ?_;refine tq 7 ?_;refine tq 8 ?_;refine o1 9 fun K hK=>?_
     go_simp;have dG:Hid (Ext wr (w5.alloc (cO jB 156))):=kM.u.alloc _;have dL:Hid (ay (w5.alloc (cO jB 156)) w5.heap.size 156 jB):=ay.new _ _ _;have sx:=kM.u.size;have rp:=hY (lQ ((aC (base':=wr.heap.size) eF (lI _)).alloc (cO jB 156)) ((aC (base':=wr.heap.size) ep (lI _)).alloc (cO jB 156)));clear eF ep;refine ov hK (HK.u _ dG.u) fun ay4=>?_
     clear bK;generalize w5.alloc (cO jB 156)=w6 at*
     generalize Xc:w5.heap.size=s at*
     clear Xc kM
     exact Ep
    ·skip;go_simp;refine ov hK (HK.u _ (((xZ wr).alloc _).drew)) fun ay4=>?_
     refine o1 5 fun K hK=>?_
     go_simp;refine (QK.u _ (((xZ wr).alloc (cO jB 156)).drew)).mono ?_;rintro e w5 ⟨bz,bK⟩;rw [HAQ.u] at bz;unfold ru at bz;simp only at bz;obtain ⟨v,rfl,B1,d1,B2,d2,rfl,eF,ep⟩:=bz;have dG:Hid (Ext wr w5):=Ext.trans ((xZ wr).alloc (cO jB 156)).drew bK;have dL:Hid (ay w5 wr.heap.size 156 jB):=((ay.new wr 156 jB).ext (xZ _).drew).ext bK;have sx:wr.heap.size<=wr.heap.size:=lI _;have rp:=hY (lQ (aC (base':=wr.heap.size) eF ((xZ wr).alloc (cO jB 156)).drew.size) (aC (base':=wr.heap.size) ep ((xZ wr).alloc (cO jB 156)).drew.size));clear eF ep;refine ov hK (HK.u _ dG.u) fun ay4=>?_
     clear bK;refine tq 6 ?_;refine tq 7 ?_;refine tq 8 ?_;have FB:∃s,s=wr.heap.size:=⟨_,rfl⟩;obtain ⟨s,hs⟩:=FB;rw [<-hs] at dL sx |-;replace sx:wr.heap.size<=s:=aa
     clear hs;have JE:∃w6,w6=w5:=⟨_,rfl⟩;obtain ⟨w6,rfl⟩:=JE
     exact Ep
  ·skip;have jT:k=n:=aa
   subst jT;have HV:Hid (ec gs N=some p):=by unfold Hid;rw [<-HC.u,lE gh]
   have MX:p.n=N:=(pH (xs:=gs) (k:=k) (oM dB.u) HC.u).2;have hpd:decide (p.n>0)=true:=aj
   clear MX;obtain ⟨⟨d0,d1,d2,d3⟩,z0,z1,z2,z3⟩:=aB aZ.u.z.drew;obtain ⟨⟨d4,d5,d6,d7⟩,z4,z5,z6,z7⟩:=aB aZ.u.z;have FC:=hY (aZ.u.z.drew.bP (iI p.n) (iI p.ph) (.slice A1 p.ts.length c1) (.slice A2 p.os.length c2));have Br:=hY (br aZ.u.x.drew (lI _) (iI p.n) (iI p.ph) (.slice A1 p.ts.length c1) (.slice A2 p.os.length c2));have nB:=hY (aZ.u.p.ext (xZ wr).drew|>.bX (k:=w.heap.size) (oM aZ.u.le) aZ.u.z.drew (iI p.n) (iI p.ph) (.slice A1 p.ts.length c1) (.slice A2 p.os.length c2));go_upto_region 9 with fail;have ay4:(fun wd=>wd.cell? (aA w1.z 0)=some (iI p.n)/\wd.cell? (aA w1.z 1)=some (iI p.ph)/\wd.cell? (aA w1.z 2)=some (.slice A1 p.ts.length c1)/\wd.cell? (aA w1.z 3)=some (.slice A2 p.os.length c2)) wr.drew:=⟨aZ.u.p.b.cell 0,aZ.u.p.b.cell 1,aZ.u.p.b.cell 2,aZ.u.p.b.cell 3⟩;refine dm (S:=(fun wd=>wd.cell? (aA w1.z 0)=some (iI p.n)/\wd.cell? (aA w1.z 1)=some (iI p.ph)/\wd.cell? (aA w1.z 2)=some (.slice A1 p.ts.length c1)/\wd.cell? (aA w1.z 3)=some (.slice A2 p.os.length c2))) af ay4 (fun ay4=>?_);refine tq 0 ?_;refine tq 1 ?_;refine tq 2 ?_;refine tq 3 ?_;refine o1 4 fun K hK=>?_
   go_simp;refine ov hK ⟨nB.u.b.cell 0,nB.u.b.cell 1,nB.u.b.cell 2,nB.u.b.cell 3⟩ fun ay4=>?_
   refine tq 5 ?_;refine dn ?_;go_wp2;refine bR (v:=.tuple #[.agg #[iI p.n,iI p.ph,.slice A1 p.ts.length c1,.slice A2 p.os.length c2],.bool true]) ?_ rfl ?_
   rotate_left
   ·rw [HV.u]
    exact ⟨⟨_,rfl,A1,c1,A2,c2,rfl,nB.u.t,nB.u.o⟩,Br.u⟩
   ·exact bF rfl _ _ _ _ _ _ _ rfl (by first|rfl|simp [hpd]) FC.u underlying156 rfl af
structure wJ (w0 W:World) (g6 g10:Nat) (all p:Pp) (A1 A2 A3 A4:OA) (c1 c2 c3 c4:Nat) (Ao Am:OA) (lo co lm cm:Nat) (os:List Gt) (ms:List Int):Prop where
 a:nE w0 W g6 all A1 A2 c1 c2
 p:nE w0 W g10 p A3 A4 c3 c4
 o:W.ownsRow w0.heap.size 54 4 (.slice Ao lo co) lo (ak os)
 m:W.ownsRow w0.heap.size 3 1 (.slice Am lm cm) lm (aG ms)
 x:Ext w0 W
 ne:g6≠g10
 le:w0.heap.size<=g10
section
variable {w0 W W1:World} {g6 g10:Nat} {all p q:Pp} {A1 A2 A3 A4 B1 B2:OA} {c1 c2 c3 c4 d1 d2:Nat} {Ao Am A':OA} {lo co lm cm l' c':Nat} {os os':List Gt} {ms ms':List Int}
theorem wJ.ext (h:wJ w0 W g6 g10 all p A1 A2 A3 A4 c1 c2 c3 c4 Ao Am lo co lm cm os ms) (hx:Ext W W1):wJ w0 W1 g6 g10 all p A1 A2 A3 A4 c1 c2 c3 c4 Ao Am lo co lm cm os ms:=
 ⟨h.a.ext hx,h.p.ext hx,aq h.o hx,aq h.m hx,h.x.trans hx,h.ne,h.le⟩
theorem wJ.put (h:wJ w0 W g6 g10 all p A1 A2 A3 A4 c1 c2 c3 c4 Ao Am lo co lm cm os ms) (hx:Ext W W1) (h1:W1.ownsRow W.heap.size 179 2 (.slice B1 q.ts.length d1) q.ts.length (aN q.ts)) (h2:W1.ownsRow W.heap.size 161 2 (.slice B2 q.os.length d2) q.os.length (bA q.os)):
  wJ w0 (bP W1 g10 (iI q.n) (iI q.ph) (.slice B1 q.ts.length d1) (.slice B2 q.os.length d2)) g6 g10 all q A1 A2 B1 B2 c1 c2 d1 d2 Ao Am lo co lm cm os ms:=by
 have hb:=h.p.b.ext hx;have hs:=h.x.size
 exact ⟨(h.a.ext hx).bX h.ne hb _ _ _ _,nE.put hb (aC h1 hs) (aC h2 hs),oy (aq h.o hx) hb ae _ _ _ _,oy (aq h.m hx) hb ae _ _ _ _,br (h.x.trans hx) h.le _ _ _ _,h.ne,h.le⟩
theorem wJ.u (h:wJ w0 W g6 g10 all p A1 A2 A3 A4 c1 c2 c3 c4 Ao Am lo co lm cm os ms) (ho:W1.ownsRow w0.heap.size 54 4 (.slice A' l' c') l' (ak os')) (hg:W.grownBy W1 (Value.slice Ao lo co).ownBlock) (hx:Ext w0 W1):
  wJ w0 W1 g6 g10 all p A1 A2 A3 A4 c1 c2 c3 c4 A' Am l' c' lm cm os' ms:=
 ⟨h.a.grown h.o ae ae ae hg,h.p.grown h.o ae ae ae hg,ho,h.m.kept hg (cX h.m h.o ae),hx,h.ne,h.le⟩
theorem wJ.met (h:wJ w0 W g6 g10 all p A1 A2 A3 A4 c1 c2 c3 c4 Ao Am lo co lm cm os ms) (ho:W1.ownsRow w0.heap.size 3 1 (.slice A' l' c') l' (aG ms')) (hg:W.grownBy W1 (Value.slice Am lm cm).ownBlock) (hx:Ext w0 W1):
  wJ w0 W1 g6 g10 all p A1 A2 A3 A4 c1 c2 c3 c4 Ao A' lo co l' c' os ms':=
 ⟨h.a.grown h.m ae ae ae hg,h.p.grown h.m ae ae ae hg,h.o.kept hg (cX h.o h.m ae),ho,hx,h.ne,h.le⟩
end
theorem OL {xs:List Gt} {n:Int} {all:Pp} (h:ec xs n=some all) (k:Nat):∃p,ec (xs.take k) n=some p:=by
 cases hp:ec (xs.take k) n with
 |some p=>exact ⟨p,rfl⟩
 |none=>rw [CV k hp] at h;cases h
theorem SQ (all:Pp) (xs:List Gt) (n:Int) (k:Nat) {g:Gt} {p:Pp} (hg:xs[k]?=some g) (hp:ec (xs.take k) n=some p):dF all xs n (k+1)=
  if bB g.k=0 then ((dF all xs n k).1++[g],(dF all xs n k).2)
  else if fC (dF all xs n k).2 (iq p.os g.a).m=true then dF all xs n k
  else ((dF all xs n k).1++bV (if (iq p.os g.a).f=1 then (-(ld all.ts (iq p.os g.a).m)) % 8 else ld all.ts (iq p.os g.a).m) g.a,(dF all xs n k).2++[(iq p.os g.a).m]):=by
 conv=>lhs;unfold dF
 rw [hg,hp]
theorem abv {ts:List Pt} (h:∀a∈ts,(0<=a.m/\a.m<=15)/\(0<=a.c/\a.c<=7)) (m:Int):0<=ld ts m/\ld ts m<=7:=by
 unfold ld;split
 ·omega
 ·rename_i t ht
  exact (h t (Iu ht)).2
theorem cQ {W W':World} {g t B e s n:Nat} {v:Value} {xs:List Value} {cs:Array Value} (hb:ay W g t cs) (ho:W.ownsRow B e s v n xs) (he:e≠t) (hg:W.grownBy W' v.ownBlock):ay W' g t cs:=
 hb.grown hg (fun k hk e1=>jr ho hb he (by rw [hk,e1]))
theorem SS {p q:Pp} {g:Gt} (h:eu p g=some q):vg g p.n=true:=by
 cases hv:vg g p.n
 ·rw [Hm hv] at h;cases h
 ·rfl
theorem Es {P:Prop} (h:P:=by
 have Xl:=hY (eH.u.ext afq);have ao3:=hY (Rd.own Xm);clear afq Xm;go_wp2_with (at_builtin;refine cU (w0:=w) rfl _ _ rfl _ _ _ rfl Xl.u.o Xl.u.x A20 _ c20 _ rfl ao3.u aa ?_;intro v21 w21 t1 t2 t3 t4;obtain ⟨A21,c21,rfl,-⟩:=au t1;have Hr:=hY (Xl.u.u t1 t3 t2);clear t1 t2 t3 t4)
 go_roundw
 case rel=>exact ⟨k+1,q,B1,B2,d1,d2,A21,A9,c21,c9,oM bS.u,by rw [Nb.u.1,lA],by rw [Nb.u.2,lA];rfl,by first|rfl|rw [dP.u.1]|rw [dP.u.2],mr,by rw [Nb.u.1,Nb.u.2,lA,lA];exact Hr⟩
 case measure=>simp [intOf,dP.u.2];have:=bS.u;omega):P:=h
theorem uv (A:OA) (n c:Nat) (gs:List Gt) (N:Int) (w:World) (h:Rd w w.heap.size 4 A n (ak gs)) (hn:n<=40000000000) (h1:1<=N) (h4:N<=4):
  Calls prog 106 #[.slice A n c,iI N] w fun e w'=>(∃(v:Value) (j:Int),e=.returned (.tuple #[v,iI j])/\0<=j/\j<=7/\w'.ownsRow w.heap.size 54 4 v (mi gs N).length (ak (mi gs N)))/\Ext w w':=by
 have dB:=hY (h.len Gt.aE aa);have HR:=hY h;clear h;go_enter func106,ntmps106;go_wp2_with fail;refine (rB A n c gs N _ HR.u aa h1 h4).mono ?_;rintro e w1 ⟨bz,aS⟩
 cases hc:ec gs N with
 |none=>
  rw [hc] at bz;unfold ru at bz;simp only at bz;subst bz;have HV:=hY (Ll hc);have bH:Ext w (w1.alloc (cO jB 156)):=aS.alloc _;clear hc aS;go_upto_region 3 with fail;generalize w1.alloc (cO jB 156)=W1 at*
  have mI:=hY (HR.u.ext bH);go_wp2_with (at_builtin;refine cU (w0:=w) rfl _ _ rfl _ 0 [] rfl (aJ w W1 _ 4 bH) (bH.alloc _) A n c gs rfl (mI.u.ext ((xZ _).alloc _)) aa ?_;intro v9 w9 g1 g2 g3 g4;rw [lM,lN] at g1;have HO:=hY (lQ g1 g2);clear g1 g2 g3 g4)
  go_ret2;rw [HV.u];refine ⟨⟨_,0,rfl,aa,aa,?_⟩,HO.u.2⟩;rw [dB.u]
  exact HO.u.1
 |some all=>
  rw [hc] at bz;unfold ru at bz;simp only at bz;obtain ⟨v1,rfl,A1,c1,A2,c2,rfl,eF,ep⟩:=bz;have HC:=hY hc;have afr:=hY (pH (xs:=gs) (k:=gs.length) (lI _) (by rw [jt];exact hc));have HA1:=hY (nE.new eF ep);have bH:Ext w (w1.alloc (cO #[iI all.n,iI all.ph,.slice A1 all.ts.length c1,.slice A2 all.os.length c2] 156)):=aS.alloc _;have OH:=aS.size;clear eF ep aS hc;go_upto_region 4 with fail;have hW1:(w1.alloc (cO #[iI all.n,iI all.ph,.slice A1 all.ts.length c1,.slice A2 all.os.length c2] 156)).heap.size=w1.heap.size+1:=ag
  generalize w1.alloc (cO #[iI all.n,iI all.ph,.slice A1 all.ts.length c1,.slice A2 all.os.length c2] 156)=W1 at*
  go_wp2_with fail;refine (fh N _ h1 h4).mono ?_;rintro e w2 ⟨⟨v2,rfl,A3,c3,A4,c4,rfl,jm,rk⟩,bT⟩;have Jy:=bT.size;simp only [bQ] at Jy;have fe:Ext W1 w2:=(((xZ W1).alloc _).alloc _).trans bT;have aZ:Hid (wJ w (w2.alloc (cO #[iI (Bs N).n,iI (Bs N).ph,.slice A3 (Bs N).ts.length c3,.slice A4 (Bs N).os.length c4] 156)) w1.heap.size w2.heap.size all (Bs N) A1 A2 A3 A4 c1 c2 c3 c4 (some ⟨W1.heap.size,0,none⟩) (some ⟨W1.heap.size+1,0,none⟩) 0 0 0 0 [] []):=by
   have iY:Ext W1 (W1.alloc (cO #[] 54)):=(xZ W1).alloc _;have hm:=aJ w (W1.alloc (cO #[] 54)) 3 1 (bH.trans iY);have e1:(W1.alloc (cO #[] 54)).heap.size=W1.heap.size+1:=ag
   rw [e1] at hm;refine ⟨(HA1.u.ext fe).ext ((xZ _).alloc _),nE.new (aC jm ?_) (aC rk ?_),?_,?_,(bH.trans fe).alloc _,aa,aa⟩
   ·have:=bH.size;simp only [bQ];omega
   ·have:=bH.size;simp only [bQ];omega
   ·exact (aq (aq (aJ w W1 54 4 bH) ((xZ _).alloc _)) bT).alloc _
   ·exact (aq hm bT).alloc _
  have MZ:Hid (ec (gs.take 0) N=some (Bs N)):=zm ⟨h1,h4⟩;generalize Bs N=p0 at*
  clear jm rk bT fe Jy;go_upto_region 7 with fail;obtain ⟨W3,hW3⟩:=ex (w2.heap.size);rw [hW3,hW1] at aZ;rw [hW3];generalize w2.alloc (cO #[iI p0.n,iI p0.ph,.slice A3 p0.ts.length c3,.slice A4 p0.os.length c4] 156)=W2 at*
  clear hW3;go_wp2
  go_loopw [8,9,11] (fun ov mv iv wr=>∃(k:Nat) (p:Pp) (A3 A4:OA) (c3 c4:Nat) (Ao Am:OA) (co cm:Nat),k<=n/\ov=.slice Ao (dF all gs N k).1.length co/\mv=.slice Am (dF all gs N k).2.length cm/\iv=iI k/\Hid (ec (gs.take k) N=some p)/\Hid (wJ w wr w1.heap.size W3 all p A1 A2 A3 A4 c1 c2 c3 c4 Ao Am (dF all gs N k).1.length co (dF all gs N k).2.length cm (dF all gs N k).1 (dF all gs N k).2)) (fun _ _ i _=>n - (intOf i).toNat)
  case atStart=>exact ⟨0,p0,A3,A4,c3,c4,_,_,0,0,lJ _,rfl,rfl,rfl,MZ,aZ⟩
  case round=>
   clear aZ MZ bH;obtain ⟨k,p,A3,A4,c3,c4,Ao,Am,co,cm,hk,rfl,rfl,rfl,HCK,aZ⟩:=hrel;have hlen:=CW all gs N k
   by_cases bh:k<n
   ·skip;obtain ⟨b,o,x,rfl,-,hx,x0,x1,x2,x3⟩:=bE (HR.u.ext aZ.u.x) bh;have tG:=hY hx;have bS:=hY bh;clear hx;have hwg:=aZ.u.p.b.lt;obtain ⟨q,hq⟩:=OL HC.u (k+1);rw [nk ⟨h1,h4⟩ tG.u HCK.u] at hq;have aft:=hY (pH (oM dB.u) HCK.u);have BH:=SS hq;obtain ⟨nM,aoM,gF,ir,sg,-⟩:=oh BH;have xq:=aft.u.1.l;have HQ:=hY hq;have mr:Hid (ec (gs.take (k+1)) N=some q):=by unfold Hid;rw [nk ⟨h1,h4⟩ tG.u HCK.u];exact HQ.u
    clear hq BH sg ir;obtain ⟨ia,hia⟩:=lD gF.1;have TT:ia<p.os.length:=aa
    have HIA:=hY hia;have dP:=hY (wC k aa);clear hia gF;go_upto_region 11 with fail;have AH:=hY (aZ.u.ext ((xZ wr).alloc (cO (gA x) 54)));have FD:=hY (ay.new wr 54 (gA x));have hwr:(wr.alloc (cO (gA x) 54)).heap.size=wr.heap.size+1:=ag
    clear aZ x0 x1 x2 x3;generalize wr.alloc (cO (gA x) 54)=W10 at*
    obtain ⟨b',o',y,hA4,-,hy,y0,y1⟩:=Dt (Rd.own AH.u.p.o) TT;subst hA4;have hoy:iq p.os x.a=y:=by rw [HIA.u];exact Bt hy
    have hyf:=aft.u.1.o y (lG hy);have HY:=hY (lQ hy hoy);have hFS:=SQ all gs N k tG.u HCK.u;rw [hoy] at hFS;have Xn:=hY hFS;clear hFS hy hoy;have n3:=AH.u.p.b.ck 3;have gi:W10.cell? (aA wr.z 1)=some (iI ia):=FD.u.cv 1 HIA.u
    go_upto_region 12 with fail;have Mc:=hY (AH.u.ext ((xZ W10).alloc (cO #[iI y.m,iI y.f] 161)));have QL:=hY (FD.u.alloc (cO #[iI y.m,iI y.f] 161));have adi:Hid (ay (W10.alloc (cO #[iI y.m,iI y.f] 161)) (wr.heap.size+1) 161 #[iI y.m,iI y.f]):=ay.newAt hwr.symm;clear n3 gi y0 y1 AH FD TT;generalize W10.alloc (cO #[iI y.m,iI y.f] 161)=W11 at*
    obtain ⟨⟨n0,n1,n2,n3⟩,-⟩:=aB Mc.u.p.b;obtain ⟨⟨g0,g1,g2,g3⟩,-⟩:=aB QL.u;have hlg:=QL.u.lt;go_wp2_with fail;refine (pO _ p x k _ Mc.u.p.at_ aft.u.1 aa).mono ?_;rintro e w12 ⟨bz,Xo⟩;rw [HQ.u] at bz;unfold ru at bz;simp only at bz;obtain ⟨v12,rfl,B1,d1,B2,d2,rfl,eF,ep⟩:=bz;have tH:Hid (wJ w ((((w12.setCell (aA W3 0) (iI q.n)).setCell (aA W3 1) (iI q.ph)).setCell (aA W3 2) (.slice B1 q.ts.length d1)).setCell (aA W3 3) (.slice B2 q.os.length d2)) w1.heap.size W3 all q A1 A2 B1 B2 c1 c2 d1 d2 Ao Am (dF all gs N k).1.length co (dF all gs N k).2.length cm (dF all gs N k).1 (dF all gs N k).2):=Mc.u.put Xo eF ep;have Xp:Hid (ay ((((w12.setCell (aA W3 0) (iI q.n)).setCell (aA W3 1) (iI q.ph)).setCell (aA W3 2) (.slice B1 q.ts.length d1)).setCell (aA W3 3) (.slice B2 q.os.length d2)) wr.heap.size 54 (gA x)):=dh (QL.u.ext Xo) aa _ _ _ _;have QM:Hid (ay ((((w12.setCell (aA W3 0) (iI q.n)).setCell (aA W3 1) (iI q.ph)).setCell (aA W3 2) (.slice B1 q.ts.length d1)).setCell (aA W3 3) (.slice B2 q.os.length d2)) (wr.heap.size+1) 161 #[iI y.m,iI y.f]):=dh (adi.u.ext Xo) aa _ _ _ _;clear n0 n1 n2 n3 g0 g1 g2 g3;obtain ⟨⟨n0,n1,n2,n3⟩,f0,f1,f2,f3⟩:=aB (Mc.u.p.b.ext Xo);go_upto_region 13 with fail;clear Mc QL adi Xo eF ep n0 n1 n2 n3 f0 f1 f2 f3;generalize (((w12.setCell (aA W3 0) (iI q.n)).setCell (aA W3 1) (iI q.ph)).setCell (aA W3 2) (.slice B1 q.ts.length d1)).setCell (aA W3 3) (.slice B2 q.os.length d2)=W13 at*
    obtain ⟨⟨g0,g1,g2,g3⟩,-⟩:=aB Xp.u;have ym:=QM.u.ck 0;have yf:=QM.u.ck 1;have OC:k<=n:=hk
    by_cases hr:bB x.k=0
    ·have hrb:(bB x.k==0)=true:=sU hr
     have Nb:Hid ((dF all gs N (k+1)).1=(dF all gs N k).1++[x]/\(dF all gs N (k+1)).2=(dF all gs N k).2):=by
      unfold Hid;rw [Xn.u,aX hr]
      exact ⟨rfl,rfl⟩
     clear hr Xn;go_wp2_with fail;refine (bC x.k _).mono ?_;rintro e wq ⟨rfl,rfl⟩;go_wp2_with (at_builtin;refine er (w0:=w) rfl _ _ rfl _ _ _ rfl tH.u.o tH.u.x x _ _ rfl rfl aa ?_;intro v9 w9 t1 t2 t3 t4;obtain ⟨A9,c9,rfl,-⟩:=au t1;have eH:=hY ((tH.u.ext ((xZ W13).alloc _)).u t1 t3 t2);clear t1 t2 t3 t4)
     go_roundw
     case rel=>exact ⟨k+1,q,B1,B2,d1,d2,A9,Am,c9,cm,oM bS.u,by rw [Nb.u.1,lA];rfl,by rw [Nb.u.2],by first|rfl|rw [dP.u.1]|rw [dP.u.2],mr,by rw [Nb.u.1,Nb.u.2,lA];exact eH⟩
     case measure=>simp [intOf,dP.u.2];have:=bS.u;omega
    ·have hrb:(bB x.k==0)=false:=sU hr
     have LK:=hY hr;clear hr;go_wp2_with fail;refine (bC x.k _).mono ?_;rintro e wq ⟨rfl,rfl⟩;have HMR:=hY (Rd.own tH.u.m)
     cases hh:fC (dF all gs N k).2 y.m
     ·skip;have HH:=hY hh;go_wp2_with fail;refine (dv Am _ cm _ y.m _ HMR.u aa).mono ?_;rintro e wq ⟨rfl,rfl⟩;rw [hh];clear hh;go_wp2_with (at_builtin;refine qb (w0:=w) rfl _ _ rfl _ _ _ rfl tH.u.m tH.u.x y.m _ _ rfl rfl aa ?_;intro v9 w9 t1 t2 t3 t4;obtain ⟨A9,c9,rfl,-⟩:=au t1;have eH:=hY ((tH.u.ext ((xZ W13).alloc _)).met t1 t3 t2);have Md:=hY (cQ (Xp.u.alloc _) (tH.u.m.alloc _) ae t3);have afu:=hY (cQ (QM.u.alloc _) (tH.u.m.alloc _) ae t3);obtain ⟨⟨m0,m1,m2,m3⟩,-⟩:=aB eH.u.a.b;have ym9:w9.cell? (aA (wr.z+1) 0)=some (iI y.m):=afu.u.cell 0;clear t1 t2 t3 t4)
      have hcb:=abv afr.u.1.t y.m;refine (Lv _ all y.m _ eH.u.a.at_ (oN afr.u.1.tl dB.u)).mono ?_;rintro e w17 ⟨rfl,aby⟩;have aj1:=hY (eH.u.ext aby);have aj2:=hY (Md.u.ext aby);have aj3:=hY (afu.u.ext aby);clear eH Md afu Xp QM tH aby ym9 m0 m1 m2 m3 g0 g1 g2 g3 ym yf;have eH:=aj1;have yf:=aj3.u.ck 1;have g1:=aj2.u.ck 1;rcases hyf.2 with Fq|ki
      ·have hyb:(y.f==1)=false:=by rw [Fq];rfl
       clear hyf;have Nb:Hid ((dF all gs N (k+1)).1=(dF all gs N k).1++bV (ld all.ts y.m) x.a/\(dF all gs N (k+1)).2=(dF all gs N k).2++[y.m]):=by
        unfold Hid;rw [Xn.u,aK LK.u,aK (by rw [HH.u];decide),aK aa]
        exact ⟨rfl,rfl⟩
       clear Xn;go_wp2_with fail;refine (fQ (ld all.ts y.m) x.a _).mono ?_;rintro e w20 ⟨v20,rfl,Xm,afq⟩;obtain ⟨A20,c20,rfl,-⟩:=au Xm;have ao7:=ya (ld all.ts y.m) x.a
       exact Es
      ·have hyb:(y.f==1)=true:=by rw [ki];rfl
       have QA:IntKind.i64.wrap (-(ld all.ts y.m))= -(ld all.ts y.m):=lH _ aa;have KX:wrap64 (-(ld all.ts y.m))= -(ld all.ts y.m):=bo
       clear hyf;have Nb:Hid ((dF all gs N (k+1)).1=(dF all gs N k).1++bV ((-(ld all.ts y.m)) % 8) x.a/\(dF all gs N (k+1)).2=(dF all gs N k).2++[y.m]):=by
        unfold Hid;rw [Xn.u,aK LK.u,aK (by rw [HH.u];decide),aX ki]
        exact ⟨rfl,rfl⟩
       clear Xn;go_wp2_with fail;refine (eD (-(ld all.ts y.m)) _ aa).mono ?_;rintro e wq ⟨rfl,rfl⟩;go_wp2_with fail;refine (fQ ((-(ld all.ts y.m)) % 8) x.a _).mono ?_;rintro e w20 ⟨v20,rfl,Xm,afq⟩;obtain ⟨A20,c20,rfl,-⟩:=au Xm;have ao7:=ya ((-(ld all.ts y.m)) % 8) x.a
       exact Es
     ·have Nb:Hid (dF all gs N (k+1)=dF all gs N k):=by
       unfold Hid;rw [Xn.u,aK LK.u,aX hh]
      clear Xn;go_wp2_with fail;refine (dv Am _ cm _ y.m _ HMR.u aa).mono ?_;rintro e wq ⟨rfl,rfl⟩;rw [hh];go_wp2;go_roundw
      case rel=>exact ⟨k+1,q,B1,B2,d1,d2,Ao,Am,co,cm,oM bS.u,by rw [Nb.u],by rw [Nb.u],by first|rfl|rw [dP.u.1]|rw [dP.u.2],mr,by rw [Nb.u];exact tH⟩
      case measure=>simp [intOf,dP.u.2];have:=bS.u;omega
   ·skip;have jT:k=n:=aa
    subst jT;have HV:Hid (mi gs N=(dF all gs N k).1):=by unfold Hid;rw [GS HC.u,dB.u]
    have Gc:=hY (Rd.own aZ.u.o);have xT:(dF all gs N k).1.length<=80000000000:=aa
    go_wp2_with fail;refine (rB Ao (dF all gs N k).1.length co (dF all gs N k).1 N _ Gc.u xT h1 h4).mono ?_;rintro e w21 ⟨bz,aj4⟩;have Hr:=hY (aZ.u.ext aj4);clear aZ aj4;have hph:=afr.u.1.ph
    cases Cs:ec (dF all gs N k).1 N with
    |none=>
     rw [Cs] at bz;unfold ru at bz;simp only at bz;subst bz;have Et:=hY (Hr.u.ext ((xZ w21).alloc (cO jB 156)));have afv:=hY (ay.new w21 156 jB);clear Hr Cs;go_upto_region 22 with fail;generalize pq:w21.heap.size=s21 at*
     generalize w21.alloc (cO jB 156)=W22 at*
     clear pq;have p1:=Et.u.a.b.ck 1;have p2:=afv.u.ck 1;have ZC:IntKind.i64.wrap (all.ph)=all.ph:=lH _ aa;have hw2:wrap64 (all.ph)=all.ph:=bo
     go_wp2_with fail;refine (eD (all.ph) _ aa).mono ?_;rintro e wq ⟨rfl,rfl⟩;go_wp2;go_ret2;rw [HV.u]
     exact ⟨⟨_,all.ph % 8,rfl,aa,aa,Et.u.o⟩,Et.u.x⟩
    |some told=>
     rw [Cs] at bz;unfold ru at bz;simp only at bz;obtain ⟨v21,rfl,B1,d1,B2,d2,rfl,-,-⟩:=bz;have hto:=(pH (xs:=(dF all gs N k).1) (k:=(dF all gs N k).1.length) (lI _) (by rw [jt];exact Cs)).1.ph;have Et:=hY (Hr.u.ext ((xZ w21).alloc (cO #[iI told.n,iI told.ph,.slice B1 told.ts.length d1,.slice B2 told.os.length d2] 156)));have afv:=hY (ay.new w21 156 #[iI told.n,iI told.ph,.slice B1 told.ts.length d1,.slice B2 told.os.length d2]);clear Hr Cs;go_upto_region 22 with fail;generalize pq:w21.heap.size=s21 at*
     generalize w21.alloc (cO #[iI told.n,iI told.ph,.slice B1 told.ts.length d1,.slice B2 told.os.length d2] 156)=W22 at*
     clear pq;have p1:=Et.u.a.b.ck 1;have p2:=afv.u.ck 1;have ZC:IntKind.i64.wrap (all.ph - told.ph)=all.ph - told.ph:=lH _ aa;have hw2:wrap64 (all.ph - told.ph)=all.ph - told.ph:=bo
     go_wp2_with fail;refine (eD (all.ph - told.ph) _ aa).mono ?_;rintro e wq ⟨rfl,rfl⟩;go_wp2;go_ret2;rw [HV.u]
     exact ⟨⟨_,(all.ph - told.ph) % 8,rfl,aa,aa,Et.u.o⟩,Et.u.x⟩
end Go.Proofs.YtiajdbllccmokaaGreatDoor
