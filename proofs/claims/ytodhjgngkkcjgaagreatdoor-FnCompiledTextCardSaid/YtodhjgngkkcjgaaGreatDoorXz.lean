import Derived.Test.YtodhjgngkkcjgaaGreatDoorXv
import Derived.Test.YtodhjgngkkcjgaaGreatDoorXw
import Derived.Test.YtodhjgngkkcjgaaGreatDoorXx
import Derived.Test.YtodhjgngkkcjgaaGreatDoorXt
namespace Go.Proofs.YtodhjgngkkcjgaaGreatDoor
open Go.ChangeShapes Go.WideShapes Go.ChangeAt Go.RowKit Go.Deep Go.Proofs.Tryz
set_option linter.unusedVariables false
set_option linter.unusedSimpArgs false
set_option maxRecDepth 100000
set_option maxHeartbeats 16000000
def Jz (w:World) (v:Value) (s:Nf):Prop:=∃(Y:OA) (cy:Nat) (A:OA) (c:Nat),v=.agg #[.slice Y s.sy.length cy,iI 1,.slice A 2 c]/\
 Rd w w.heap.size 1 Y s.sy.length (aD s.sy)/\Rd w w.heap.size 4 A 2 (aX s.cl)/\s.sy.length<=cy/\2<=c
theorem Jz.ext {w w':World} {v:Value} {s:Nf} (h:Jz w v s) (hx:Ext w w'):Jz w' v s:=by
 obtain ⟨Y,cy,A,c,h1,h2,h3,h4⟩:=h
 exact ⟨Y,cy,A,c,h1,h2.ext hx,h3.ext hx,h4⟩
theorem qY {t:List Pa} (h:zw t=true):∃r0 r1,t=[r0,r1]/\iO r0=true/\r0.n=1/\iO r1=true/\r1.n=1:=by
 obtain ⟨r0,r1,rfl⟩:=aoi (iJ t h).2;have h1:=Mw (f:=fun t=>t.all fun r=>iO r && r.n==1) af h;simp only [List.all_cons,List.all_nil,pb,lF,eS] at h1
 exact ⟨r0,r1,rfl,h1.1.1,h1.1.2,h1.2.1,h1.2.2⟩
theorem adS {sy:List Int} (h:UJ sy=true) {k:Nat} {x:Int} (hx:sy[k]?=some x):(0<=x/\x<=2)/\(0<k->x≠0):=by
 unfold UJ at h;rw [lF] at h;refine ⟨DH (lq.1 h.1 x (lG hx)),fun hk=>?_⟩;have h2:(sy.drop 1)[k - 1]?=some x:=by rw [vK,show 1+(k - 1)=k by omega];exact hx
 have h3:=lq.1 h.2 x (lG h2);simpa using h3
theorem jh (v:Value) (s:Nf) (w:World) (h:Jz w v s) (hn:s.sy.length<=1800000000000) (hc:zw s.cl=true) (hy:UJ s.sy=true):
  Calls prog 198 #[v] w fun e w'=>e=.returned (.bool true)/\Ext w w':=by
 obtain ⟨Y,cy,A,c,rfl,Lb,Lz,XJ,sW⟩:=h;obtain ⟨sy,cl⟩:=s;simp only at Lb Lz XJ hn hc hy |-;obtain ⟨r0,r1,rfl,-⟩:=qY hc;have hv:=(iJ _ hc).1;have HIV:Hid (∀w',Ext w w'->Calls prog 202 #[.agg #[iI 1,.slice A 2 c]] w' fun e w''=>e=.returned (.bool true)/\Ext w' w''):=fun w' hx=>by
  have h9:=dp A c 1 [r0,r1] w' (Lz.ext hx) ag sW;rw [hv] at h9
  exact h9
 have HY:=hY Lb;have HVS:=hY hy;obtain ⟨n,Bk⟩:=ex (sy.length);rw [Bk] at HY XJ hn |-;clear Lb Lz hv hc hy Bk;have HB:Hid (au (w.alloc (cO #[.slice Y n cy,iI 1,.slice A 2 c] 234)) w.heap.size 234 #[.slice Y n cy,iI 1,.slice A 2 c]):=au.new w _ _;have HX:Hid (Ext w (w.alloc (cO #[.slice Y n cy,iI 1,.slice A 2 c] 234))):=(xZ w).alloc _;go_enter func198,ntmps198;go_upto_region 1 with fail;generalize w.alloc (cO #[.slice Y n cy,iI 1,.slice A 2 c] 234)=W1 at*
 have b0:=HB.u.ck 0;go_wp2;clear b0
 go_loopw [3] (fun i wr=>∃k:Nat,k<=n/\i=iI k/\Hid (Ext W1 wr)) (fun i _=>n - (intOf i).toNat)
 case atStart=>exact ⟨0,lJ _,rfl,xZ _⟩
 case round=>
  obtain ⟨k,hk,rfl,ZV⟩:=hrel;have b0:=(HB.u.ext ZV.u).ck 0;have b1:=(HB.u.ext ZV.u).ck 1;have b2:=(HB.u.ext ZV.u).ck 2
  by_cases ba:k<n
  ·obtain ⟨b,o,x,rfl,-,hx,x0⟩:=du (HY.u.ext (HX.u.trans ZV.u)) ba;obtain ⟨bz,cD⟩:=adS HVS.u hx;have bZ:=hY ba;have dy:=hY (wC k aa);clear hx
   by_cases lu:k=0
   ·subst lu;clear cD;rw [oh] at x0;go_wp2_with fail;refine (aF x 0 2 _ bz.1 bz.2).mono ?_;rintro e wq ⟨rfl,rfl⟩;go_wp2;go_roundw
    case rel=>exact ⟨1,oM bZ.u,by first|rfl|rw [dy.u.1]|rw [dy.u.2],ZV⟩
    case measure=>simp [intOf];have:=bZ.u;omega
   ·have hxb:(x==0)=false:=by have:=cD aa;simpa using this
    have hkb:decide ((k:Int)>0)=true:=ai
    have hkp:(0:Int)<(k:Int):=aa
    clear cD;go_wp2_with fail;refine (aF x 0 2 _ bz.1 bz.2).mono ?_;rintro e wq ⟨rfl,rfl⟩;go_wp2;go_roundw
    case rel=>exact ⟨k+1,oM bZ.u,by first|rfl|rw [dy.u.1]|rw [dy.u.2],ZV⟩
    case measure=>simp [intOf,dy.u.2];have:=bZ.u;omega
  ·have jJ:k=n:=aa
   subst jJ;go_wp2_with fail;refine (HIV.u _ (HX.u.trans ZV.u)).mono ?_;rintro e w9 ⟨rfl,nj⟩;have fP:=hY (ZV.u.trans nj);clear nj b0 b1 b2;have b1:=(HB.u.ext fP.u).ck 1;go_wp2;go_ret
   exact ⟨rfl,HX.u.trans fP.u⟩
theorem cX {w:World} {g t:Nat} {a b c:Value} (h:au w g t #[a,b,c]):(w.cell? (aA g 0)=some a/\w.cell? (aA g 1)=some b/\w.cell? (aA g 2)=some c)/\w.frozen? (aA g 0)=false/\w.frozen? (aA g 1)=false/\w.frozen? (aA g 2)=false:=
 ⟨⟨h.cell 0,h.cell 1,h.cell 2⟩,h.frozen 0,h.frozen 1,h.frozen 2⟩
def nJ (w:World) (g:Nat) (a b c:Value):World:=((w.setCell (aA g 0) a).setCell (aA g 1) b).setCell (aA g 2) c
theorem au.nJ {w:World} {g t:Nat} {z0 z1 z2:Value} (h:au w g t #[z0,z1,z2]) (a b c:Value):au (nJ w g a b c) g t #[a,b,c]:=((h.aU 0 a).aU 1 b).aU 2 c
theorem kc {w0 w:World} (h:Ext w0 w) {g:Nat} (hg:w0.heap.size<=g) (a b c:Value):Ext w0 (nJ w g a b c):=
 ((h.setCell (p:=(aA g 0)) hg a).setCell (p:=(aA g 1)) hg b).setCell (p:=(aA g 2)) hg c
theorem kd {w:World} {g k t:Nat} {cs:Array Value} (h:au w k t cs) (hg:k≠g) (a b c:Value):au (nJ w g a b c) k t cs:=
 ((h.cB (p:=(aA g 0)) hg a).cB (p:=(aA g 1)) hg b).cB (p:=(aA g 2)) hg c
theorem iA (W:World) (q:Nat) (a b c:Value):(nJ W q a b c).heap.size=W.heap.size:=by simp [nJ]
theorem lg {w:World} {B e s n g t:Nat} {v:Value} {xs:List Value} {a0 a1 a2:Value} (h:w.ownsRow B e s v n xs) (h':au w g t #[a0,a1,a2]) (he:e≠t) (a b c:Value):(nJ w g a b c).ownsRow B e s v n xs:=by
 have hne:=kr h h' he;refine h.kept (row:=some g) ?_ (Or.inr hne);refine ⟨rfl,rfl,rfl,by simp [nJ],fun k hk iM=>?_⟩;have hkg:k≠g:=fun e=>iM dU
 unfold nJ;rw [Bo _ _ _ _ (sU hkg),Bo _ _ _ _ (sU hkg),Bo _ _ _ _ (sU hkg)]
theorem nk {W:World} {q t n B:Nat} {z0 z1 z2:Value} {A:OA} {xs:List Value} (h:Rd W B 4 A n xs) (hb:au W q t #[z0,z1,z2]) (a b c:Value):Rd (nJ W q a b c) B 4 A n xs:=by
 refine ⟨h.1,fun hn=>?_⟩;obtain ⟨b',o,e,rJ,hc⟩:=h.2 hn;refine ⟨b',o,e,rJ,fun j u hu=>?_⟩;have hne:b'≠q:=by
  rintro rfl;have hlen:=h.1;have h3:=hc 3 _ (lB aa);rw [hb.cell] at h3;rw [yk ag] at h3
  cases h3
 have e1:(nJ W q a b c).heap[b']?=W.heap[b']?:=((pa _ ⟨q,2,none⟩ c b' hne).trans (pa _ ⟨q,1,none⟩ b b' hne)).trans (pa _ ⟨q,0,none⟩ a b' hne)
 exact (uB (a:=⟨b',o+j,none⟩) e1).trans (hc j u hu)
def ML (w:World) (B:Nat) (v:Value) (s:Nf):Prop:=∃(Y:OA) (cy:Nat) (A:OA) (c:Nat),v=.agg #[.slice Y s.sy.length cy,iI 1,.slice A 2 c]/\
 w.ownsRow B 3 1 (.slice Y s.sy.length cy) s.sy.length (aD s.sy)/\Rd w w.heap.size 4 A 2 (aX s.cl)/\2<=c
theorem ML.at_ {w:World} {B:Nat} {v:Value} {s:Nf} (h:ML w B v s):Jz w v s:=by
 obtain ⟨Y,cy,A,c,h1,h2,h3,h4⟩:=h
 exact ⟨Y,cy,A,c,h1,Rd.own h2,h3,xK h2,h4⟩
theorem Se (v:Value) (s:Nf) (w:World) (h:Jz w v s) (hn:s.sy.length<=1800000000000):
  Calls prog 210 #[v] w fun e w'=>(∃v',e=.returned v'/\ML w' w.heap.size v' s)/\Ext w w':=by
 obtain ⟨Y,cy,A,c,rfl,Lb,Lz,XJ,sW⟩:=h;obtain ⟨sy,cl⟩:=s;simp only at Lb Lz XJ hn |-;obtain ⟨n,Bk⟩:=ex (sy.length);rw [Bk] at Lb XJ hn;have HN:=hY Bk;have HY:=hY Lb;have HA:=hY Lz;have bW:Hid (au ((w.alloc (cO #[.slice Y n cy,iI 1,.slice A 2 c] 234)).alloc (cO jD 234)) w.heap.size 234 #[.slice Y n cy,iI 1,.slice A 2 c]):=(au.new w _ _).alloc _;have jI:Hid (au ((w.alloc (cO #[.slice Y n cy,iI 1,.slice A 2 c] 234)).alloc (cO jD 234)) (w.heap.size+1) 234 jD):=au.newAt ag;have cH:Hid (Ext w ((w.alloc (cO #[.slice Y n cy,iI 1,.slice A 2 c] 234)).alloc (cO jD 234))):=mN
 rw [Bk];clear Lb Lz Bk;go_enter func210,ntmps210;go_upto_region 1 with fail;generalize (w.alloc (cO #[.slice Y n cy,iI 1,.slice A 2 c] 234)).alloc (cO jD 234)=W1 at*
 refine dt (S:=(fun w'=>w'.cell? (aA w.z 0)=some (.slice Y n cy)/\w'.cell? (aA w.z 1)=some (iI 1)/\w'.cell? (aA w.z 2)=some (.slice A 2 c))) af ((cX (bW.u.ext ((xZ W1).drew))).1) (fun aEQ=>?_);refine tq 1 ?_;refine tq 2 ?_;refine tq 4 ?_;refine tq 5 ?_;refine o1 0 fun K hK=>?_
 go_simp;refine ov hK ((cX (bW.u.ext (((xZ W1).alloc (cO #[] 3)).drew))).1) fun aEQ=>?_
 refine o1 3 fun K hK=>?_
 refine nA (w0:=W1) ah _ _ ah _ 0 [] ah (aj (aN W1 W1 3 1 (xZ _)) (xZ _).drew) (((xZ W1).alloc (cO #[] 3)).drew) Y n cy sy ah (HY.u.ext (cH.u.trans (((xZ W1).alloc (cO #[] 3)).drew))) aa ?_;intro v9 w9 t1 t2 t3 t4;rw [lM,lN] at t1;obtain ⟨Y9,c9,rfl,-⟩:=ak t1;refine ov hK ((cX (bW.u.ext (t2))).1) fun aEQ=>?_
 refine o1 6 fun K hK=>?_
 go_simp;refine (Eh A 2 c 1 cl _ (HA.u.ext (cH.u.trans (t2))) aa).mono ?_;rintro e w5 ⟨⟨A5,c5,rfl,kg⟩,cI⟩;have sX:=t2.trans cI;have hYE:=aj t1 cI;have hTE:=kg;refine ov hK ((cX (bW.u.ext (sX))).1) fun aEQ=>?_
 have Pc:∃WE,WE=w5:=⟨_,rfl⟩;obtain ⟨WE,rfl⟩:=Pc;obtain ⟨⟨z0,z1,z2⟩,f0,f1,f2⟩:=cX (jI.u.ext sX);have nZ:=hY ((jI.u.ext sX).nJ (.slice Y9 n c9) (iI 1) (.slice A5 2 c5));have fz:=hY (kc (g:=w.heap.size+1) (cH.u.trans sX) aa (.slice Y9 n c9) (iI 1) (.slice A5 2 c5));have gH:=hY (lQ (lg hYE (jI.u.ext sX) ae (.slice Y9 n c9) (iI 1) (.slice A5 2 c5)) (nk (Rd.own hTE) (jI.u.ext sX) (.slice Y9 n c9) (iI 1) (.slice A5 2 c5)));have hcE:=xK hTE;have Fu:Hid ((fun w'=>w'.cell? (aA w.z 0)=some (.slice Y n cy)/\w'.cell? (aA w.z 1)=some (iI 1)/\w'.cell? (aA w.z 2)=some (.slice A 2 c)) (nJ WE (w.heap.size+1) (.slice Y9 n c9) (iI 1) (.slice A5 2 c5))):=(cX (kd (bW.u.ext sX) aa _ _ _)).1;refine tq 7 ?_;refine o1 8 fun K hK=>?_
 go_simp;refine ov hK (Fu.u) fun aEQ=>?_
 refine dn ?_;clear aEQ Fu;go_wp2;refine bJ (v:=.agg #[.slice Y9 n c9,iI 1,.slice A5 2 c5]) ?_ rfl ?_
 rotate_left
 ·refine ⟨⟨_,rfl,Y9,c9,A5,c5,?_,?_,?_,hcE⟩,fz.u⟩
  ·rw [HN.u]
  ·show World.ownsRow _ _ _ _ (.slice Y9 sy.length c9) sy.length (aD sy);rw [HN.u]
   exact aC gH.u.1 cH.u.size
  ·have h9:=gH.u.2;have jm:=iA WE (w.heap.size+1) (.slice Y9 n c9) (iI 1) (.slice A5 2 c5);rw [<-jm] at h9
   exact h9
 ·exact pc rfl _ _ (w.heap.size+1) 234 _ (0,0) _ af nZ.u DK rfl af
theorem adT {t:List Pa} (h:zw t=true):zw (Mv (mF (iF (ep (nY t)))) t)=true:=Mw (f:=fun t=>zw (Mv (mF (iF (ep (nY t)))) t)) af h
theorem apX {k:Int} (hk:0<=k/\k<=2):k=0\/k=1\/k=2:=aa
theorem adU {k:Int} (hk:0<=k/\k<=2):zZ 1 (iF (ep k))=some (mF (iF (ep k)))/\zw (mF (iF (ep k)))=true:=by
 rcases apX hk with rfl|rfl|rfl<;>exact ⟨af,af⟩
theorem ahR {k:Int} (hk:0<=k/\k<=2):zZ 1 (ep k++[gz 5])=some (mF (ep k++[gz 5]))/\zw (mF (ep k++[gz 5]))=true:=by
 rcases apX hk with rfl|rfl|rfl<;>exact ⟨af,af⟩
theorem ahS {t:List Pa} (h:((Mv (mF (iF (ep (nY t)))) t).getD 1 P0).p=2) (ht:zw t=true):fL 1 (Mv (mF (iF (ep (nY t)))) t) (gz 5)=some (Qk t):=by
 obtain ⟨u,hu,-⟩:=sF (adT ht) (k:=5) aa;unfold Qk;rw [aY h,hu];rfl
theorem alM {t:List Pa} (h:¬((Mv (mF (iF (ep (nY t)))) t).getD 1 P0).p=2):Qk t=Mv (mF (iF (ep (nY t)))) t:=by unfold Qk;rw [aM h]
theorem adV (gs:List Gt):(iF gs).length=gs.length:=by unfold iF;simp
theorem adW {w:World} {B n k:Nat} {A:OA} {xs:List Int} (h:Rd w B 1 A n (aD xs)) (hk:k<=n):Rd w B 1 A k (aD (xs.take k)):=by
 have hl:=h.len bG aa;refine ⟨by rw [gB bG,lT];omega,fun h0=>?_⟩;obtain ⟨b,o,e,hb,hc⟩:=h.2 aa;refine ⟨b,o,e,hb,fun j u hu=>hc j u ?_⟩;have e1:aD xs=aD (xs.take k)++aD (xs.drop k):=by unfold aD;rw [<-lR,yj]
 rw [e1,oY (gu.1 hu).1]
 exact hu
theorem XK {w:World} {g t:Nat} {k:Int} (h:au w g t #[iI k]):Rd w w.heap.size 1 (some ⟨g,0,none⟩) 1 (aD [k]):=by
 refine ⟨jV,fun _=>⟨g,0,rfl,h.lt,fun j u hu=>?_⟩⟩;rw [h.cell];simpa [Bs] using hu
structure Sf (w W:World) (Y:OA) (n cy:Nat) (A:OA) (c g:Nat) (D:OA) (cd:Nat) (ds:List Pa):Prop where
 b:au W w.heap.size 234 #[.slice Y n cy,iI 1,.slice A 2 c]
 z:au W (w.heap.size+1) 234 jD
 d:au W g 207 #[iI 1,.slice D 2 cd]
 r:Rd W W.heap.size 4 D 2 (aX ds)
 cd_:2<=cd
 x:Ext w W
 le:w.heap.size+1<g
theorem Sf.ext {w W W':World} {Y A D:OA} {n cy c g cd:Nat} {ds:List Pa} (h:Sf w W Y n cy A c g D cd ds) (hx:Ext W W'):Sf w W' Y n cy A c g D cd ds:=
 ⟨h.b.ext hx,h.z.ext hx,h.d.ext hx,h.r.ext hx,h.cd_,h.x.trans hx,h.le⟩
theorem Sf.put {w W W':World} {Y A D D':OA} {n cy c g cd cd':Nat} {ds ds':List Pa} (h:Sf w W Y n cy A c g D cd ds) (hx:Ext W W') (hr:Rd W' W'.heap.size 4 D' 2 (aX ds')) (hc:2<=cd'):Sf w (eh W' g (iI 1) (.slice D' 2 cd')) Y n cy A c g D' cd' ds':=by
 have hl:=h.le;have hd:=h.d.ext hx;refine ⟨((h.b.ext hx).cB (p:=(aA g 0)) (by show w.heap.size≠g;omega) _).cB (p:=(aA g 1)) (by show w.heap.size≠g;omega) _,((h.z.ext hx).cB (p:=(aA g 0)) (by show w.heap.size+1≠g;omega) _).cB (p:=(aA g 1)) (by show w.heap.size+1≠g;omega) _,hd.eh _ _,?_,hc,dK (g:=g) (h.x.trans hx) aa _ _,h.le⟩;rw [mE]
 exact tI hr hd _ _
theorem apY {P:Prop} (h:P:=by
 obtain ⟨⟨z0,z1,z2⟩,f0,f1,f2⟩:=cX (bf.u.z.ext sX);have nZ:=hY ((bf.u.z.ext sX).nJ (.slice Y9 (n+1) c9) (iI 1) (.slice D 2 cd));have fz:=hY (kc (g:=w.heap.size+1) (bf.u.x.trans sX) aa (.slice Y9 (n+1) c9) (iI 1) (.slice D 2 cd));have gH:=hY (lQ (lg hYE (bf.u.z.ext sX) ae (.slice Y9 (n+1) c9) (iI 1) (.slice D 2 cd)) (nk (bf.u.r.ext sX) (bf.u.z.ext sX) (.slice Y9 (n+1) c9) (iI 1) (.slice D 2 cd)));have Fu:Hid ((fun w'=>(w'.cell? (aA w.z 0)=some (.slice Y n cy))/\(w'.cell? (aA g6 0)=some (iI 1)/\w'.cell? (aA g6 1)=some (.slice D 2 cd))) (nJ WE (w.heap.size+1) (.slice Y9 (n+1) c9) (iI 1) (.slice D 2 cd))):=⟨(kd (bf.u.b.ext sX) aa _ _ _).cell 0,(kd (bf.u.d.ext sX) (oM bf.u.le) _ _ _).cell 0,(kd (bf.u.d.ext sX) (oM bf.u.le) _ _ _).cell 1⟩;refine tq 8 ?_;refine o1 9 fun K hK=>?_
 go_simp;refine ov hK (Fu.u) fun aEQ=>?_
 refine dn ?_;clear aEQ Fu;go_wp2;refine bJ (v:=.agg #[.slice Y9 (n+1) c9,iI 1,.slice D 2 cd]) ?_ rfl ?_
 rotate_left
 ·rw [HV.u];refine ⟨⟨_,rfl,Y9,c9,D,cd,?_,?_,?_,bf.u.cd_⟩,fz.u⟩
  ·show _=Value.agg #[.slice Y9 (sy++[k]).length c9,_,_];rw [lA,HN.u];rfl
  ·show World.ownsRow _ _ _ _ (.slice Y9 (sy++[k]).length c9) (sy++[k]).length (aD (sy++[k]));rw [lA,HN.u]
   exact aC gH.u.1 bf.u.x.size
  ·have h9:=gH.u.2;have jm:=iA WE (w.heap.size+1) (.slice Y9 (n+1) c9) (iI 1) (.slice D 2 cd);rw [<-jm] at h9
   exact h9
 ·exact pc rfl _ _ (w.heap.size+1) 234 _ (0,0) _ af nZ.u DK rfl af):P:=h
theorem JC {P:Prop} (h:P:=by
 intro v9 w9 u1 u2 u3 u4;obtain ⟨Y9,c9,rfl,-⟩:=ak u1;have sX:=u2;have hYE:=u1;refine ov hK (⟨(bf.u.b.ext (sX)).cell 0,(bf.u.d.ext (sX)).cell 0,(bf.u.d.ext (sX)).cell 1⟩) fun aEQ=>?_
 have Pc:∃WE,WE=w9:=⟨_,rfl⟩;obtain ⟨WE,rfl⟩:=Pc
 exact apY):P:=h
theorem apZ {P:Prop} (h:P:=by
 go_upto_region 10 with fail;have aEQ:(fun w'=>(w'.cell? (aA w.z 0)=some (.slice Y n cy))/\(w'.cell? (aA g6 0)=some (iI 1)/\w'.cell? (aA g6 1)=some (.slice D 2 cd))) WC.drew:=⟨(bf.u.b.ext ((xZ WC).drew)).cell 0,(bf.u.d.ext ((xZ WC).drew)).cell 0,(bf.u.d.ext ((xZ WC).drew)).cell 1⟩;refine dt (S:=(fun w'=>(w'.cell? (aA w.z 0)=some (.slice Y n cy))/\(w'.cell? (aA g6 0)=some (iI 1)/\w'.cell? (aA g6 1)=some (.slice D 2 cd)))) af (aEQ) (fun aEQ=>?_);refine tq 1 ?_;refine tq 2 ?_;refine tq 4 ?_;refine tq 7 ?_;refine o2 0 5 (fun K hK=>?_) fun K hK=>?_
 ·skip;go_simp;refine ov hK (⟨(bf.u.b.ext (((xZ WC).alloc (cO #[] 3)).drew)).cell 0,(bf.u.d.ext (((xZ WC).alloc (cO #[] 3)).drew)).cell 0,(bf.u.d.ext (((xZ WC).alloc (cO #[] 3)).drew)).cell 1⟩) fun aEQ=>?_
  refine o2 3 5 (fun K hK=>?_) fun K hK=>?_
  ·skip;refine nA (w0:=WC) ah _ _ ah _ 0 [] ah (aj (aN WC WC 3 1 (xZ _)) (xZ _).drew) (((xZ WC).alloc (cO #[] 3)).drew) Y n cy sy ah (HY.u.ext (bf.u.x.trans (((xZ WC).alloc (cO #[] 3)).drew))) aa ?_;intro v8 w8 t1 t2 t3 t4;rw [lM,lN] at t1;obtain ⟨Y8,c8,rfl,-⟩:=ak t1;refine ov hK (⟨(bf.u.b.ext (t2)).cell 0,(bf.u.d.ext (t2)).cell 0,(bf.u.d.ext (t2)).cell 1⟩) fun aEQ=>?_
   refine o1 5 fun K hK=>?_
   go_simp;refine ov hK (⟨(bf.u.b.ext (t2.alloc (cO #[iI k] 3))).cell 0,(bf.u.d.ext (t2.alloc (cO #[iI k] 3))).cell 0,(bf.u.d.ext (t2.alloc (cO #[iI k] 3))).cell 1⟩) fun aEQ=>?_
   refine o1 6 fun K hK=>?_
   refine nA (w0:=WC) ah _ _ ah _ n sy ah (t1.alloc (cO #[iI k] 3)) (t2.alloc (cO #[iI k] 3)) _ 1 1 [k] ah (dZ w8 _ _ 1 _ ah ah) aa ?_
   exact JC
  ·skip;go_simp;have hB5:au (((WC.alloc (cO #[] 3)).alloc (cO #[iI k] 3)).drew) (WC.heap.size+1) 3 #[iI k]:=au.drew (au.newAt (bX WC (cO #[] 3)).symm);have hO0:(((WC.alloc (cO #[] 3)).alloc (cO #[iI k] 3)).drew).ownsRow WC.heap.size 3 1 (.slice (some ⟨WC.heap.size,0,none⟩) 0 0) 0 []:=aj ((aN WC WC 3 1 (xZ _)).alloc (cO #[iI k] 3)) (xZ _).drew;refine ov hK (⟨(bf.u.b.ext ((((xZ WC).alloc (cO #[] 3)).alloc (cO #[iI k] 3)).drew)).cell 0,(bf.u.d.ext ((((xZ WC).alloc (cO #[] 3)).alloc (cO #[iI k] 3)).drew)).cell 0,(bf.u.d.ext ((((xZ WC).alloc (cO #[] 3)).alloc (cO #[iI k] 3)).drew)).cell 1⟩) fun aEQ=>?_
   refine o1 3 fun K hK=>?_
   refine nA (w0:=WC) ah _ _ ah _ 0 [] ah (hO0) ((((xZ WC).alloc (cO #[] 3)).alloc (cO #[iI k] 3)).drew) Y n cy sy ah (HY.u.ext (bf.u.x.trans ((((xZ WC).alloc (cO #[] 3)).alloc (cO #[iI k] 3)).drew))) aa ?_;intro v8 w8 t1 t2 t3 t4;rw [lM,lN] at t1;obtain ⟨Y8,c8,rfl,-⟩:=ak t1;refine ov hK (⟨(bf.u.b.ext (t2)).cell 0,(bf.u.d.ext (t2)).cell 0,(bf.u.d.ext (t2)).cell 1⟩) fun aEQ=>?_
   have Qe:=hB5.grown t3 (fun g hg e=>by rw [show (Value.slice (some ⟨WC.heap.size,0,none⟩) 0 0).ownBlock=some WC.heap.size from rfl] at hg;injection hg with hg;omega);refine o1 6 fun K hK=>?_
   refine nA (w0:=WC) ah _ _ ah _ n sy ah (t1) (t2) _ 1 1 [k] ah (XK Qe) aa ?_
   exact JC
 ·skip;go_simp;refine ov hK (⟨(bf.u.b.ext (((xZ WC).alloc (cO #[iI k] 3)).drew)).cell 0,(bf.u.d.ext (((xZ WC).alloc (cO #[iI k] 3)).drew)).cell 0,(bf.u.d.ext (((xZ WC).alloc (cO #[iI k] 3)).drew)).cell 1⟩) fun aEQ=>?_
  refine o1 0 fun K hK=>?_
  go_simp;have hB5:au (((WC.alloc (cO #[iI k] 3)).alloc (cO #[] 3)).drew) WC.heap.size 3 #[iI k]:=au.drew ((au.new WC _ _).alloc (cO #[] 3));have hO0:(((WC.alloc (cO #[iI k] 3)).alloc (cO #[] 3)).drew).ownsRow WC.heap.size 3 1 (.slice (some ⟨WC.heap.size+1,0,none⟩) 0 0) 0 []:=by
   have h9:=aN WC (WC.alloc (cO #[iI k] 3)) 3 1 ((xZ WC).alloc _);rw [bX] at h9
   exact aj h9 (xZ _).drew
  refine ov hK (⟨(bf.u.b.ext ((((xZ WC).alloc (cO #[iI k] 3)).alloc (cO #[] 3)).drew)).cell 0,(bf.u.d.ext ((((xZ WC).alloc (cO #[iI k] 3)).alloc (cO #[] 3)).drew)).cell 0,(bf.u.d.ext ((((xZ WC).alloc (cO #[iI k] 3)).alloc (cO #[] 3)).drew)).cell 1⟩) fun aEQ=>?_
  refine o1 3 fun K hK=>?_
  refine nA (w0:=WC) ah _ _ ah _ 0 [] ah (hO0) ((((xZ WC).alloc (cO #[iI k] 3)).alloc (cO #[] 3)).drew) Y n cy sy ah (HY.u.ext (bf.u.x.trans ((((xZ WC).alloc (cO #[iI k] 3)).alloc (cO #[] 3)).drew))) aa ?_;intro v8 w8 t1 t2 t3 t4;rw [lM,lN] at t1;obtain ⟨Y8,c8,rfl,-⟩:=ak t1;refine ov hK (⟨(bf.u.b.ext (t2)).cell 0,(bf.u.d.ext (t2)).cell 0,(bf.u.d.ext (t2)).cell 1⟩) fun aEQ=>?_
  have Qe:=hB5.grown t3 (fun g hg e=>by rw [show (Value.slice (some ⟨WC.heap.size+1,0,none⟩) 0 0).ownBlock=some (WC.heap.size+1) from rfl] at hg;injection hg with hg;omega);refine o1 6 fun K hK=>?_
  refine nA (w0:=WC) ah _ _ ah _ n sy ah (t1) (t2) _ 1 1 [k] ah (XK Qe) aa ?_;intro v9 w9 u1 u2 u3 u4;obtain ⟨Y9,c9,rfl,-⟩:=ak u1;have sX:=u2;have hYE:=u1;refine ov hK (⟨(bf.u.b.ext (sX)).cell 0,(bf.u.d.ext (sX)).cell 0,(bf.u.d.ext (sX)).cell 1⟩) fun aEQ=>?_
  have Pc:∃WE,WE=w9:=⟨_,rfl⟩;obtain ⟨WE,rfl⟩:=Pc
  exact apY):P:=h
theorem ap0 {P:Prop} (h:P:=by
 obtain ⟨⟨b0,b1,b2⟩,-⟩:=cX bf.u.b;have hwn:IntKind.i64.wrap ((n:Int) - 1)=(n:Int) - 1:=lH _ aa;have ap1:wrap64 ((n:Int) - 1)=(n:Int) - 1:=bk
 by_cases lu:k=0
 ·have ak6:(k==0)=true:=by rw [lu];rfl
  have HK0:=hY lu;clear lu
  by_cases Tk:0<n
  ·have uU:(0:Int)<=(n:Int) - 1:=aa
   skip;obtain ⟨n',jX⟩:∃n',n=n'+1:=⟨n - 1,aa⟩;clear hwn ap1 uU;have hwn:IntKind.i64.wrap ((n:Int) - 1)=(n':Int):=rE
   have ap1:wrap64 ((n:Int) - 1)=(n':Int):=bk
   have hln:(n':Int)<(n:Int):=aa
   have HN1:=hY jX;obtain ⟨bb,oo,m,rfl,-,hm,m0⟩:=du (HY.u.ext bf.u.x) (i:=n') aa;clear jX;have hmb:=(adS HVS.u hm).1;have hml:sy.getLastD 0=m:=by rw [Tw,List.getLast?_eq_getElem?,HN.u,HN1.u,Nat.add_sub_cancel,hm];rfl
   have HV:Hid (RE ⟨sy,cl⟩=⟨sy.take n',Mv (mF (ep m++[gz 5])) (Qk cl)⟩):=by
    unfold Hid RE;rw [aY (by show nY cl=0/\0<sy.length;rw [HN.u];exact ⟨vG.u.symm.trans HK0.u,Tk⟩)];simp only [HN.u,HN1.u,Nat.add_sub_cancel,hml]
   obtain ⟨htm,him⟩:=ahR hmb;have HTM:=hY htm;have aBT:=wM m;have HWT:Hid (∀(A4:OA) (c4:Nat) (w':World),Rd w' w'.heap.size 4 A4 ((ep m).length+1) (aq (ep m++[gz 5]))->Calls prog 224 #[.slice A4 ((ep m).length+1) c4] w' fun e w''=>pV 1 (zZ 1 (ep m++[gz 5])) e w''/\Ext w' w''):=fun A4 c4 w' hr=>by
    have hal:(ep m++[gz 5]).length=(ep m).length+1:=by rw [lA];rfl
    rw [<-hal] at hr |-
    exact nI A4 c4 _ w' hr aa
   have Ll:(mF (ep m++[gz 5])).length=2:=(iJ _ him).2;have HBH:Hid (∀(B:OA) (d:Nat) (w':World),Ext WC w'->Rd w' w'.heap.size 4 B 2 (aX (mF (ep m++[gz 5])))->Calls prog 225 #[.agg #[iI 1,.slice B 2 d],.agg #[iI 1,.slice D 2 cd]] w' fun e w''=>(∃v,e=.returned v/\kY 1 (Mv (mF (ep m++[gz 5])) (Qk cl)) v w'')/\Ext w' w''):=fun B d w' hx hr=>by
    have zG:=Fi Sg.u;obtain ⟨r0,r1,e1,-⟩:=qY zG;have hv:=(iJ _ zG).1;obtain ⟨p0,p1,e2,v0,n0,v1,n1⟩:=qY him;have jk:=bf.u.r.ext hx;rw [e1] at jk hv |-;rw [e2] at hr |-
    exact qf B _ d cd p0 p1 r0 r1 w' hr jk bf.u.cd_ hv v0 n0 v1 n1
   clear hm hml htm him;go_wp2_with fail;refine (eH m _).mono ?_;rintro e w3 ⟨⟨v3,rfl,ie⟩,bO⟩;obtain ⟨A3,c3,rfl,-⟩:=ak ie;go_wp2_with fail;refine (aP (w0:=w3) 5 0 _ (xZ _)).mono ?_;rintro e w4 ⟨rfl,fy⟩;have qh:=hY (lQ (aj ie fy) (bO.trans fy));clear ie bO fy;go_wp2_with (at_builtin;refine fJ (w0:=WC) rfl _ _ rfl _ _ _ rfl qh.u.1 qh.u.2 (gz 5) _ _ rfl rfl aa ?_;intro v6 w6 h1 h2 h3 h4;obtain ⟨A6,c6,rfl,hr6⟩:=ak h1;have mn:=hY (lQ hr6 h2);clear h1 h2 h3 h4 hr6)
   refine (HWT.u A6 c6 _ mn.u.1).mono ?_;rintro e w7 ⟨bD,gG⟩;obtain ⟨B8,d8,rfl,Fq,hd7⟩:=ko HTM.u Ll bD;have HX8:Hid (Ext WC (w7.alloc (cO #[iI 1,.slice B8 2 d8] 207))):=(mn.u.2.trans gG).alloc _;have Sa:=hY (au.new w7 207 #[iI 1,.slice B8 2 d8]);have HR8:=hY (Fq.ext ((xZ w7).alloc (cO #[iI 1,.slice B8 2 d8] 207)));have fh:=hY (bf.u.ext HX8.u);have ave:Hid (w7.heap.size≠w.heap.size+1):=by have h1:=(bf.u.z.ext (mn.u.2.trans gG)).lt;unfold Hid;omega
   clear bD Fq gG mn qh Ll HWT HTM m0 b0 b1 b2;go_upto_region 9 with fail;generalize hg8:w7.heap.size=g8 at*
   generalize w7.alloc (cO #[iI 1,.slice B8 2 d8] 207)=W9 at*
   clear hg8;have LR:(n':Int)<=(cy:Int):=oM HN1.u
   have HTK:=hY (adW HY.u (show n'<=n by omega));have UK:(sy.take n').length=n':=by rw [lT,HN.u];omega
   have HTL:=hY UK;clear UK;have aEQ:(fun w'=>w'.cell? (aA w.z 0)=some (.slice (some ⟨bb,oo,none⟩) n cy)/\(w'.cell? (aA g6 0)=some (iI 1)/\w'.cell? (aA g6 1)=some (.slice D 2 cd))/\(w'.cell? (aA g8 0)=some (iI 1)/\w'.cell? (aA g8 1)=some (.slice B8 2 d8))) W9.drew:=⟨(fh.u.b.ext ((xZ W9).drew)).cell 0,⟨(fh.u.d.ext ((xZ W9).drew)).cell 0,(fh.u.d.ext ((xZ W9).drew)).cell 1⟩,(Sa.u.ext ((xZ W9).drew)).cell 0,(Sa.u.ext ((xZ W9).drew)).cell 1⟩;refine dt (S:=(fun w'=>w'.cell? (aA w.z 0)=some (.slice (some ⟨bb,oo,none⟩) n cy)/\(w'.cell? (aA g6 0)=some (iI 1)/\w'.cell? (aA g6 1)=some (.slice D 2 cd))/\(w'.cell? (aA g8 0)=some (iI 1)/\w'.cell? (aA g8 1)=some (.slice B8 2 d8)))) af (aEQ) (fun aEQ=>?_);refine tq 1 ?_;refine tq 2 ?_;refine tq 3 ?_;refine tq 4 ?_;refine tq 6 ?_;refine tq 7 ?_;refine o1 0 fun K hK=>?_
   go_simp;refine ov hK (⟨(fh.u.b.ext (((xZ W9).alloc (cO #[] 3)).drew)).cell 0,⟨(fh.u.d.ext (((xZ W9).alloc (cO #[] 3)).drew)).cell 0,(fh.u.d.ext (((xZ W9).alloc (cO #[] 3)).drew)).cell 1⟩,(Sa.u.ext (((xZ W9).alloc (cO #[] 3)).drew)).cell 0,(Sa.u.ext (((xZ W9).alloc (cO #[] 3)).drew)).cell 1⟩) fun aEQ=>?_
   refine o1 5 fun K hK=>?_
   refine nA (w0:=W9) ah _ _ ah _ 0 [] ah (aj (aN W9 W9 3 1 (xZ _)) (xZ _).drew) (((xZ W9).alloc (cO #[] 3)).drew) _ n' _ (sy.take n') ah (HTK.u.ext ((bf.u.x.trans HX8.u).trans (((xZ W9).alloc (cO #[] 3)).drew))) aa ?_;intro v10 qO t1 t2 t3 t4;rw [lM,lN] at t1;obtain ⟨Y9,c9,rfl,-⟩:=ak t1;refine ov hK (⟨(fh.u.b.ext (t2)).cell 0,⟨(fh.u.d.ext (t2)).cell 0,(fh.u.d.ext (t2)).cell 1⟩,(Sa.u.ext (t2)).cell 0,(Sa.u.ext (t2)).cell 1⟩) fun aEQ=>?_
   refine o1 8 fun K hK=>?_
   go_simp;refine (HBH.u B8 d8 _ (HX8.u.trans t2) (HR8.u.ext t2)).mono ?_;rintro e w11 ⟨⟨v11,rfl,D9,cd9,rfl,ap5,ap6⟩,ap7⟩;have avf:(Mv (mF (ep m++[gz 5])) (Qk cl)).length=2:=rfl;rw [avf] at ap5 ap6 |-;have sX:=t2.trans ap7;have hYE:=aj t1 ap7;refine ov hK (⟨(fh.u.b.ext (sX)).cell 0,⟨(fh.u.d.ext (sX)).cell 0,(fh.u.d.ext (sX)).cell 1⟩,(Sa.u.ext (sX)).cell 0,(Sa.u.ext (sX)).cell 1⟩) fun aEQ=>?_
   obtain ⟨⟨z0,z1,z2⟩,f0,f1,f2⟩:=cX (fh.u.z.ext sX);have nZ:=hY ((fh.u.z.ext sX).nJ (.slice Y9 n' c9) (iI 1) (.slice D9 2 cd9));have fz:=hY (kc (g:=w.heap.size+1) (fh.u.x.trans sX) aa (.slice Y9 n' c9) (iI 1) (.slice D9 2 cd9));have gH:=hY (lQ (lg hYE (fh.u.z.ext sX) ae (.slice Y9 n' c9) (iI 1) (.slice D9 2 cd9)) (nk ap5 (fh.u.z.ext sX) (.slice Y9 n' c9) (iI 1) (.slice D9 2 cd9)));have ap8:g8≠w.heap.size+1:=ave.u;have Fu:Hid ((fun w'=>w'.cell? (aA w.z 0)=some (.slice (some ⟨bb,oo,none⟩) n cy)/\(w'.cell? (aA g6 0)=some (iI 1)/\w'.cell? (aA g6 1)=some (.slice D 2 cd))/\(w'.cell? (aA g8 0)=some (iI 1)/\w'.cell? (aA g8 1)=some (.slice B8 2 d8))) (nJ w11 (w.heap.size+1) (.slice Y9 n' c9) (iI 1) (.slice D9 2 cd9))):=⟨(kd (fh.u.b.ext sX) aa _ _ _).cell 0,⟨(kd (fh.u.d.ext sX) (oM fh.u.le) _ _ _).cell 0,(kd (fh.u.d.ext sX) (oM fh.u.le) _ _ _).cell 1⟩,(kd (Sa.u.ext sX) ap8 _ _ _).cell 0,(kd (Sa.u.ext sX) ap8 _ _ _).cell 1⟩;refine tq 9 ?_;refine o1 10 fun K hK=>?_
   go_simp;refine ov hK (Fu.u) fun aEQ=>?_
   refine dn ?_;clear aEQ Fu;go_wp2;refine bJ (v:=.agg #[.slice Y9 n' c9,iI 1,.slice D9 2 cd9]) ?_ rfl ?_
   rotate_left
   ·rw [HV.u];refine ⟨⟨_,rfl,Y9,c9,D9,cd9,?_,?_,?_,ap6⟩,fz.u⟩
    ·show _=Value.agg #[.slice Y9 (sy.take n').length c9,_,_];rw [HTL.u]
    ·show World.ownsRow _ _ _ _ (.slice Y9 (sy.take n').length c9) (sy.take n').length (aD (sy.take n'));rw [HTL.u]
     exact aC gH.u.1 fh.u.x.size
    ·have h9:=gH.u.2;have jm:=iA w11 (w.heap.size+1) (.slice Y9 n' c9) (iI 1) (.slice D9 2 cd9);rw [<-jm] at h9
     exact h9
   ·exact pc rfl _ _ (w.heap.size+1) 234 _ (0,0) _ af nZ.u DK rfl af
  ·have ba:(n:Int) - 1<0:=aa
   have uU:¬((0:Int)<=(n:Int) - 1):=aa
   have HV:Hid (RE ⟨sy,cl⟩=⟨sy++[k],Qk cl⟩):=by
    unfold Hid RE;rw [aM (by show ¬(nY cl=0/\0<sy.length);rw [HN.u];exact fun hh=>Tk hh.2),<-vG.u]
   exact apZ
 ·have ak6:(k==0)=false:=sU lu
  have HV:Hid (RE ⟨sy,cl⟩=⟨sy++[k],Qk cl⟩):=by
   unfold Hid RE;rw [aM (by show ¬(nY cl=0/\0<sy.length);rw [<-vG.u];exact fun hh=>lu hh.1),<-vG.u]
  exact apZ):P:=h
theorem ap9 {P:Prop} (h:P:=by
 refine o1 2 fun K hK=>?_
 go_simp;refine (HTG.u _ nj).mono ?_;rintro e qO ⟨bD,wX⟩;obtain ⟨D,cd,rfl,aqa,aqb⟩:=ko rfl HDL.u bD;refine ov hK (trivial) fun aEQ=>?_
 refine tq 3 ?_;refine tq 4 ?_;refine tq 5 ?_;obtain ⟨⟨q0,q1⟩,f0,f1⟩:=bu (bf.u.d.ext (nj.trans wX));refine o1 6 fun K hK=>?_
 go_simp;refine ov hK (trivial) fun aEQ=>?_
 refine dn ?_;have lY:Hid (Sf w ((qO.setCell (aA g6 0) (iI 1)).setCell (aA g6 1) (.slice D 2 cd)) Y n cy A c g6 D cd (Qk cl)):=bf.u.put (nj.trans wX) aqa aqb;clear bf nj wX bD aqa aqb q0 q1 f0 f1 aEQ HTG t0 t1 t2 t3 e2;generalize (qO.setCell (aA g6 0) (iI 1)).setCell (aA g6 1) (.slice D 2 cd)=WC at*
 have bf:=lY;clear lY;go_upto_region 6 with fail
 exact ap0):P:=h
theorem Sh (v:Value) (s:Nf) (w:World) (h:Jz w v s) (hn:s.sy.length<=1600000000000) (hc:zw s.cl=true) (hy:UJ s.sy=true):
  Calls prog 211 #[v] w fun e w'=>(∃v',e=.returned v'/\ML w' w.heap.size v' (RE s))/\Ext w w':=by
 obtain ⟨Y,cy,A,c,rfl,Lb,Lz,XJ,sW⟩:=h;obtain ⟨sy,cl⟩:=s;simp only at Lb Lz XJ hn hc hy |-;obtain ⟨n,Bk⟩:=ex (sy.length);rw [Bk] at Lb XJ hn |-;have HN:=hY Bk;have HY:=hY Lb;have HA:=hY Lz;have Sg:=hY hc;have HVS:=hY hy;have hkb:=WO cl;obtain ⟨k,hk⟩:=ey (nY cl);have vG:=hY hk;rw [<-hk] at hkb;obtain ⟨htb,alN⟩:=adU hkb;have HTB:=hY htb;have Bg:Hid (zw (Mv (mF (iF (ep k))) cl)=true):=by rw [hk];exact adT hc
 have HCI:Hid (∀w',Ext w w'->Calls prog 223 #[.agg #[iI 1,.slice A 2 c]] w' fun e w''=>e=.returned (iI k)/\Ext w' w''):=fun w' hx=>by
  obtain ⟨r0,r1,e1,-⟩:=qY hc;have hv:=(iJ _ hc).1;rw [hk];have hr:=Lz.ext hx;rw [e1] at hr hv |-
  exact ya A c r0 r1 w' hr sW hv
 have HBH:Hid (∀(B:OA) (d:Nat) (w':World),Ext w w'->Rd w' w'.heap.size 4 B 2 (aX (mF (iF (ep k))))->Calls prog 225 #[.agg #[iI 1,.slice B 2 d],.agg #[iI 1,.slice A 2 c]] w' fun e w''=>(∃v,e=.returned v/\kY 1 (Mv (mF (iF (ep k))) cl) v w'')/\Ext w' w''):=fun B d w' hx hr=>by
  obtain ⟨r0,r1,e1,-⟩:=qY hc;have hv:=(iJ _ hc).1;obtain ⟨p0,p1,e2,v0,n0,v1,n1⟩:=qY alN;have jk:=Lz.ext hx;rw [e1] at jk hv |-;rw [e2] at hr |-
  exact qf B A d c p0 p1 r0 r1 w' hr jk sW hv v0 n0 v1 n1
 have HWT:Hid (∀(A4:OA) (c4:Nat) (w':World),Rd w' w'.heap.size 4 A4 (ep k).length (aq (iF (ep k)))->Calls prog 224 #[.slice A4 (ep k).length c4] w' fun e w''=>pV 1 (zZ 1 (iF (ep k))) e w''/\Ext w' w''):=fun A4 c4 w' hr=>by
  have hal:=adV (ep k);have EN:=wM k;rw [<-hal] at hr |-
  exact nI A4 c4 (iF (ep k)) w' hr aa
 have Ll:(mF (iF (ep k))).length=2:=(iJ _ alN).2;have bW:Hid (au ((w.alloc (cO #[.slice Y n cy,iI 1,.slice A 2 c] 234)).alloc (cO jD 234)) w.heap.size 234 #[.slice Y n cy,iI 1,.slice A 2 c]):=(au.new w _ _).alloc _;have jI:Hid (au ((w.alloc (cO #[.slice Y n cy,iI 1,.slice A 2 c] 234)).alloc (cO jD 234)) (w.heap.size+1) 234 jD):=au.newAt ag;have cH:Hid (Ext w ((w.alloc (cO #[.slice Y n cy,iI 1,.slice A 2 c] 234)).alloc (cO jD 234))):=mN
 have EN:=wM k;clear Lb Lz Bk hc hy htb alN hk;go_enter func211,ntmps211;go_upto_region 1 with fail;generalize ((w.alloc (cO #[.slice Y n cy,iI 1,.slice A 2 c] 234)).alloc (cO jD 234))=W1 at*
 obtain ⟨⟨b0,b1,b2⟩,-⟩:=cX bW.u;go_wp2_with fail;refine (HCI.u _ cH.u).mono ?_;rintro e w2 ⟨rfl,bz⟩;go_wp2_with fail;refine (eH k _).mono ?_;rintro e w3 ⟨⟨v3,rfl,ie⟩,bO⟩;obtain ⟨A3,c3,rfl,To⟩:=ak ie;go_wp2_with fail;refine (wj A3 _ c3 (ep k) _ To aa).mono ?_;rintro e w4 ⟨v4,rfl,uJ,fy⟩;obtain ⟨A4,c4,rfl,YK⟩:=ak uJ;go_wp2_with fail;refine (HWT.u A4 c4 _ YK).mono ?_;rintro e w5 ⟨bD,cI⟩;obtain ⟨B5,d5,rfl,DX,hd5⟩:=ko HTB.u Ll bD;have aqc:Ext W1 w5:=((bz.trans bO).trans fy).trans cI;have dL:Hid (Ext W1 (w5.alloc (cO #[iI 1,.slice B5 2 d5] 207))):=aqc.alloc _;have Xv:=hY (au.new w5 207 #[iI 1,.slice B5 2 d5]);have Ik:=hY (DX.ext ((xZ w5).alloc (cO #[iI 1,.slice B5 2 d5] 207)));clear bD To ie YK uJ DX bz bO fy cI aqc b0 b1 b2;go_upto_region 3 with fail;generalize Fa:w5.heap.size=g4 at*
 generalize w5.alloc (cO #[iI 1,.slice B5 2 d5] 207)=W6 at*
 clear Fa;obtain ⟨⟨b0,b1,b2⟩,-⟩:=cX (bW.u.ext dL.u);obtain ⟨⟨t0,t1⟩,-⟩:=bu Xv.u;go_wp2_with fail;refine (HBH.u B5 d5 _ (cH.u.trans dL.u) Ik.u).mono ?_;rintro e w7 ⟨⟨v7,rfl,D,cd,rfl,hrD,hcd⟩,gG⟩;obtain ⟨d0,hd0⟩:=ey (Mv (mF (iF (ep k))) cl);have KP:(Mv (mF (iF (ep k))) cl).length=2:=rfl;rw [KP] at hrD hcd |-;rw [<-hd0] at hrD Bg;have HDD:=hY hd0;have bf:Hid (Sf w (w7.alloc (cO #[iI 1,.slice D 2 cd] 207)) Y n cy A c w7.heap.size D cd d0):=
  ⟨(bW.u.ext (dL.u.trans gG)).alloc _,(jI.u.ext (dL.u.trans gG)).alloc _,au.new w7 _ _,hrD.ext ((xZ _).alloc _),hcd,((cH.u.trans dL.u).trans gG).alloc _,oM ((jI.u.ext (dL.u.trans gG)).lt)⟩
 clear hd0 KP hrD hcd gG b0 b1 b2 t0 t1 dL Xv Ik;go_upto_region 4 with fail;generalize QW:w7.heap.size=g6 at*
 generalize w7.alloc (cO #[iI 1,.slice D 2 cd] 207)=W8 at*
 clear QW;obtain ⟨b,o,x,rfl,-,aK,-,-,-,x3⟩:=gD bf.u.r (i:=1) aa;have hxg:d0.getD 1 P0=x:=by rw [lP,aK];rfl
 have HXG:=hY hxg;clear aK hxg;obtain ⟨⟨t0,t1⟩,-⟩:=bu bf.u.d
 cases e2:(x.p==2)
 ·have hnd:Qk cl=d0:=by
   rw [alM,HDD.u,vG.u];rw [<-vG.u,<-HDD.u,HXG.u];simpa using e2
  rw [<-hnd] at bf;go_upto_region 6 with fail;have hw8:∃WC,WC=W8:=⟨_,rfl⟩;obtain ⟨WC,rfl⟩:=hw8;clear hnd e2 t0 t1 x3 HTB HCI HBH HWT;generalize (some ⟨b,o,none⟩:OA)=D at*
  exact ap0
 ·have hnd:fL 1 d0 (gz 5)=some (Qk cl):=by
   have h9:=ahS (t:=cl) (by rw [<-vG.u,<-HDD.u,HXG.u];simpa using e2) Sg.u;rw [<-vG.u,<-HDD.u] at h9
   exact h9
  have KP:(Qk cl).length=2:=(iJ _ (Fi Sg.u)).2;have HTG:Hid (∀w',Ext W8 w'->Calls prog 189 #[.agg #[iI 1,.slice (some ⟨b,o,none⟩) 2 cd],.agg #[iI 5,iI 0,iI 0,iI 0]] w' fun e w''=>pV 1 (some (Qk cl)) e w''/\Ext w' w''):=fun w' hx=>by
   obtain ⟨p0,p1,e3,-⟩:=qY Bg.u;have hr:=bf.u.r.ext hx;rw [<-hnd];rw [e3] at hr |-
   exact fF _ cd 1 [p0,p1] (gz 5) w' hr ag bf.u.cd_
  have HDL:=hY KP;clear hnd KP HTB HCI HBH HWT;go_upto_region 5 with fail;clear x3;obtain ⟨⟨t2,t3⟩,-⟩:=bu bf.u.d.drew;refine dt (S:=(fun _=>True)) af (trivial) (fun aEQ=>?_);refine o2 0 1 (fun K hK=>?_) fun K hK=>?_
  ·skip;go_simp;refine ov hK (trivial) fun aEQ=>?_
   refine o1 1 fun K hK=>?_
   go_simp;refine (aP (w0:=W8) 5 0 _ (xZ W8).drew).mono ?_;rintro e w9 ⟨rfl,nj⟩;refine ov hK (trivial) fun aEQ=>?_
   exact ap9
  ·skip;go_simp;refine (aP (w0:=W8) 5 0 _ (xZ W8).drew).mono ?_;rintro e w9 ⟨rfl,nj⟩;obtain ⟨⟨t4,t5⟩,-⟩:=bu (bf.u.d.ext nj);refine ov hK (trivial) fun aEQ=>?_
   refine o1 0 fun K hK=>?_
   go_simp;refine ov hK (trivial) fun aEQ=>?_
   clear t4 t5
   exact ap9
theorem oP (w:World):Calls prog 196 #[] w fun e w'=>(∃v,e=.returned v/\ML w' w.heap.size v nf0)/\Ext w w':=by
 have HB:Hid (au (w.alloc (cO jD 234)) w.heap.size 234 jD):=au.new w _ _;have HX:Hid (Ext w (w.alloc (cO jD 234))):=(xZ w).alloc _;go_enter func196,ntmps196;go_wp2_with fail;refine (gj 1 _ aa aa).mono ?_;rintro e w1 ⟨⟨v,rfl,A,c,rfl,hr,hc⟩,aK⟩;have hl:(YI (1:Int).toNat).length=2:=rfl;rw [hl] at hr hc |-;obtain ⟨⟨z0,z1,z2⟩,f0,f1,f2⟩:=cX (HB.u.ext aK);have Fm:=hY ((HB.u.ext aK).nJ (nS) (iI 1) (.slice A 2 c));have fP:=hY (kc (g:=w.heap.size) (HX.u.trans aK) (lI _) (nS) (iI 1) (.slice A 2 c));have HR9:=hY (nk hr (HB.u.ext aK) (nS) (iI 1) (.slice A 2 c));clear hr aK hl;go_wp2;refine bJ (v:=.agg #[nS,iI 1,.slice A 2 c]) ?_ rfl ?_
 rotate_left
 ·refine ⟨⟨_,rfl,none,0,A,c,rfl,⟨rfl,.inl ⟨rfl,rfl⟩⟩,?_,hc⟩,fP.u⟩;have h9:=HR9.u;have jm:=iA w1 w.heap.size (nS) (iI 1) (.slice A 2 c);rw [<-jm] at h9
  exact h9
 ·exact pc rfl _ _ w.heap.size 234 _ (0,0) _ af Fm.u DK rfl af
theorem Cj (sep:ByteArray) (xs:List ByteArray) (h:∀x∈xs,x.size<=1000) (hs:sep.size<=10) (hn:xs.length<=10000) (k:Nat):(jn sep (xs.take k)).size<=10000100000:=by
 have h1:=Xe sep (xs.take k) 1000 (fun x hx=>h x (FI hx));have h2:(xs.take k).length<=10000:=lK (List.length_take_le' _ _) hn;refine lK h1 (lK (CE h2 (show 1000+sep.size<=1010 by omega)) ae)
theorem LA (A:OA) (n c:Nat) (xs:List ByteArray) (sep:ByteArray) (w:World) (h:Rd w w.heap.size 1 A n (df xs)) (hn:n<=10000) (hz:∀x∈xs,x.size<=1000) (hs:sep.size<=10):
  Calls prog 22 #[.slice A n c,.string sep] w fun e w'=>e=.returned (.string (jn sep xs))/\Ext w w':=by
 have hlen:=hY (h.len CN aa);have HZ:Hid (∀k,(jn sep (xs.take k)).size<=10000100000):=Cj sep xs hz hs (by rw [hlen.u];exact hn);have HX:=hY hz;clear hz;go_enter func22,ntmps22;go_wp2
 go_loopw [5,6] (fun v i wr=>∃k:Nat,k<=n/\i=iI k/\wr.ownsRow w.heap.size 5 1 v (jn sep (xs.take k)).size (Lib.strCells (jn sep (xs.take k)))/\Ext w wr) (fun _ i _=>n - (intOf i).toNat)
 case atStart=>exact ⟨0,lJ _,rfl,aN w w _ _ (xZ _),xx⟩
 case round=>
  obtain ⟨k,hk,rfl,bj,hx⟩:=hrel
  by_cases ba:k<n
  ·obtain ⟨b,o,y,rfl,hb,hy,r0⟩:=my h ba;have h0:wr.cell? (aA b (o+k))=some (.string y):=(hx.cell (p:=(aA b (o+k))) hb).trans r0;have VG:=HX.u y (lG hy);have lu:(0:Int)<=(k:Int):=aa
   have et:(k:Int)<(n:Int):=aa
   have R0:=hY r0;clear r0
   by_cases hp:k=0
   ·have hpi:¬((0:Int)<(k:Int)):=aa
    have HS:Hid (jn sep (xs.take (k+1))=jn sep (xs.take k)++y):=by
     subst hp;refine (alf sep hy).trans ?_;apply DM;simp [jn,Qp]
    clear hy hp;go_wp2_with (at_builtin;refine Gw rfl _ _ rfl _ (jn sep (xs.take k)) rfl bj hx y rfl (oM (HZ.u k)) ?_;intro v1 w1 ox aK)
    go_roundw
    case rel=>exact ⟨k+1,aa,az,by rw [HS.u];exact ox,aK⟩
    case measure=>simp [intOf];omega
   ·have hpi:((0:Int)<(k:Int)):=aa
    have HS:=hY (aht sep hy aa);clear hy;have HZK:=HZ.u k;have HSZ:Hid ((jn sep (xs.take k)++sep).size+y.size<=2000000000000):=by unfold Hid;rw [lL];omega
    go_wp2_with (at_builtin;first
     |(refine Gw rfl _ _ rfl _ (jn sep (xs.take k)) rfl bj hx sep rfl aa ?_;intro v1 w1 ox aK;have h1:w1.cell? (aA b (o+k))=some (.string y):=(aK.cell (p:=(aA b (o+k))) hb).trans R0.u)
     |(refine Gw rfl _ _ rfl _ (jn sep (xs.take k)++sep) rfl ox aK y rfl HSZ.u ?_;intro v2 w2 aqd bz))
    go_roundw
    case rel=>exact ⟨k+1,aa,az,by rw [HS.u];exact aqd,bz⟩
    case measure=>simp [intOf];omega
  ·have wE:xs.take k=xs:=lE bQ;rw [wE] at bj;have hcv:=abB bj;have uU:¬((k:Int)<(n:Int)):=aa
   go_wp2;go_ret
   exact ⟨rfl,hx⟩
theorem LB (B n:Nat) (v:Value) (xs:List ByteArray) (sep:ByteArray) (w:World) (h:w.ownsRow B 9 1 v n (df xs)) (Tk:0<n) (hn:n<=10000) (hz:∀x∈xs,x.size<=1000) (hs:sep.size<=10):
  Calls prog 18 #[v,.string sep] w fun e w'=>e=.returned (.string (jn sep xs))/\Ext w w':=by
 rcases id h.2 with ⟨rfl,rfl⟩|⟨g,cap,cur,rfl,hbg,hg,LR,hcm,mW,aqe⟩
 ·omega
 have hr:=Rd.own h;have hlen:xs.length=n:=hr.len CN aa;have di:g<w.heap.size:=by
  rcases od g w.heap.size with h'|h'
  ·exact h'
  ·rw [yk h'] at hg;cases hg
 have hj:(jn sep xs).size<=10000100000:=by
  have:=Cj sep xs hz hs aa xs.length;rwa [pg] at this
 have HJ:=Xb sep xs;have FX:(Lib.join (xs.map (·.data.toList)) sep.data.toList).length<=140737488355328:=by
  have e:(Lib.join (xs.map (·.data.toList)) sep.data.toList).length=(jn sep xs).size:=by rw [<-HJ];rfl
  omega
 subst hlen;have HC:Hid (Calls prog 43 #[.slice (some ⟨g,0,none⟩) xs.length cap,.string sep] w fun e w'=>e=.returned (.string (jn sep xs))/\Ext w w'):=by
  refine (strings_Join g 0 cap xs sep w (fun j x hx=>?_) di aa LR FX).mono ?_
  ·have FX:=(gu.1 hx).1;obtain ⟨b,o,y,e,_,hy,hc⟩:=my hr FX;injection e with e;injection e with e1 e2;subst e1 e2;rw [hx] at hy;injection hy with hy;rw [hy]
   exact hc
  ·rintro e w' ⟨rfl,hb⟩;rw [HJ]
   exact ⟨rfl,hb⟩
 clear hr h hg hbg hcm mW aqe FX hj;go_enter func18,ntmps18;go_wp2_with fail;refine HC.u.mono ?_;rintro e w' ⟨rfl,hx⟩;go_wp2;go_ret
 exact ⟨rfl,hx⟩
end Go.Proofs.YtodhjgngkkcjgaaGreatDoor
