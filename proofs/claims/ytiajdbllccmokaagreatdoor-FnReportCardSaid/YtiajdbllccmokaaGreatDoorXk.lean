import Derived.Test.YtiajdbllccmokaaGreatDoorXf
namespace Go.Proofs.YtiajdbllccmokaaGreatDoor
open Go.ChangeShapes Go.WideShapes Go.ChangeAt Go.RowKit Go.Deep Go.Proofs.Tryz
set_option linter.unusedVariables false
set_option linter.unusedSimpArgs false
set_option maxRecDepth 100000
set_option maxHeartbeats 16000000
theorem aek {P:Program} {fn:Func} {p u:Tmp} {ty:TypeId} (h:fn.results=#[.cell p ty,.cell u ty]) (tmps:Array Value) (w:World) (g g':Nat) (t t':TypeId) (cs cs':Array Value) (d:TypeDesc)
  (hp:tmps.getD p undef=.pointer (some ⟨g,0,none⟩)) (hq:tmps.getD u undef=.pointer (some ⟨g',0,none⟩)) (hg:ay w g t cs) (Fu:ay w g' t' cs')
  (hu:P.underlying ty=some d) (hd:(match d with| .struct _| .array _ _=>true|_=>false)=true) (hi:(P.info? ty).map (·.size)=some cs.size) (hi':cs'.size=cs.size):
  (results fn tmps).run P w=.ok (.tuple #[.agg cs,.agg cs']) w:=by
 simp only [results,h];have hp':tmps[p]?.getD undef=.pointer (some ⟨g,0,none⟩):=sU hp
 have Km:tmps[u]?.getD undef=.pointer (some ⟨g',0,none⟩):=sU hq
 have e1:=Nw w g t ty cs (0,0) d hg hu hd hi;have e2:=Nw w g' t' ty cs' (0,0) d Fu hu hd (by rw [hi,hi']);simp [Sem.run_bind,Result.andThen,asAddr,hp',Km,e1,e2]
theorem mj (g:Gt) (w:World):Calls prog 110 #[g.val] w fun e w'=>e=.returned (.bool (cD g))/\Ext w w':=by
 obtain ⟨gF,iH⟩:=fY g.k;have HE:Hid (cD g=(decide (0<ar g.k) && !(g.k==7) && !(g.k==8) && !(g.k==12))):=rfl;obtain ⟨A,hA⟩:=ey (ar g.k);have HAr:=hY hA;rw [<-hA] at HE gF iH;clear hA
 by_cases h0:A=0
 ·subst h0;go_enter func110,ntmps110;go_wp2_with fail;refine (aY g.k _).mono ?_;rintro e w1 ⟨rfl,rfl⟩;rw [<-HAr.u];go_wp2;go_ret
  exact ⟨aT (by rw [HE.u];rfl),xx⟩
 have gX:(A !=0)=true:=by simp [h0]
 have jK:decide (A>0)=true:=aj
 have hz3:decide (0<A)=true:=aj
 clear h0;rw [hz3] at HE;clear hz3;have q7:(g.k !=7)=!(g.k==7):=rfl;have q8:(g.k !=8)=!(g.k==8):=rfl;have q12:(g.k !=12)=!(g.k==12):=rfl
 cases k7:(g.k==7)<;>cases k8:(g.k==8)<;>cases k12:(g.k==12)<;>
 (rw [k7] at q7 HE
  rw [k8] at q8 HE;rw [k12] at q12 HE;simp only [Bool.not_true,Bool.not_false] at q7 q8 q12;clear k7 k8 k12;go_enter func110,ntmps110;go_wp2_with fail;refine (aY g.k _).mono ?_;rintro e w1 ⟨rfl,rfl⟩;rw [<-HAr.u];go_wp2;go_ret
  exact ⟨aT (by rw [HE.u];rfl),xx⟩)
theorem Ql {g:Gt} (h:cD g=true):g.k=1\/g.k=2\/g.k=3\/g.k=4\/g.k=5\/g.k=6\/g.k=9\/g.k=10\/g.k=11:=by
 unfold cD ar at h;simp at h;omega
theorem qq {q:Int} (h0:0<=q) (h3:q<=3):wrap64 (2 ^ q.toNat)=pw q:=by
 rcases (show q=0\/q=1\/q=2\/q=3 by omega) with rfl|rfl|rfl|rfl<;>kernel_rfl
theorem nt {q:Int} (h0:0<=q) (h3:q<=3):IntKind.i64.wrap (2 ^ q.toNat)=pw q:=by
 rcases (show q=0\/q=1\/q=2\/q=3 by omega) with rfl|rfl|rfl|rfl<;>kernel_rfl
def sgl (n q:Int) (z:Bool):Pa:=if z=true then ⟨n,0,pw q,0⟩ else ⟨n,pw q,0,0⟩
def kf (n:Int) (g:Gt) (q:Int) (z:Bool):Pa:=if z=true then uj n g q else ui n g q
theorem aiS {fn:Func} {p:Tmp} (hf:fn.results=#[.cell p 187]) {W:World} {q:Nat} {cs:Array Value} (hB:ay W q 187 cs) (tmps:Array Value)
  (hp:tmps.getD p undef=.pointer (some ⟨q,0,none⟩)) (hs:cs.size=4):(results fn tmps).run prog W=.ok (.agg cs) W:=
 nU hf tmps _ q 187 _ (0,0) _ hp hB underlying187 rfl (by rw [hs];exact gY)
theorem Vn {q:Int} (h0:0<=q) (h3:q<=3):bits .or .i64 (pw q) 0=pw q:=by
 rcases (show q=0\/q=1\/q=2\/q=3 by omega) with rfl|rfl|rfl|rfl<;>kernel_rfl
theorem Vo {q:Int} (h0:0<=q) (h3:q<=3):bits .or .i64 0 (pw q)=pw q:=by
 rcases (show q=0\/q=1\/q=2\/q=3 by omega) with rfl|rfl|rfl|rfl<;>kernel_rfl
theorem vX {q:Int} (h0:0<=q) (h3:q<=3):IntKind.u64.wrap q=q:=IntWalk.u64_in _ aa
theorem bW (n q:Int) (z:Bool) (w:World) (fP:0<=q) (gK:q<=3):
  Calls prog 140 #[iI n,iI q,.bool z] w fun e w'=>e=.returned (sgl n q z).val/\Ext w w':=by
 have sq:wrap64 (2 ^ q.toNat)=pw q:=qq fP gK;have sq2:IntKind.i64.wrap (2 ^ q.toNat)=pw q:=nt fP gK;have su:=vX fP gK
 cases z
 ·go_enter func140,ntmps140;go_wp2
  exact bR (v:=.agg #[iI n,iI (pw q),iI 0,iI 0]) (by simp [results,results140,go_sem]) rfl ⟨rfl,xx⟩
 ·go_enter func140,ntmps140;go_wp2
  exact bR (v:=.agg #[iI n,iI 0,iI (pw q),iI 0]) (by simp [results,results140,go_sem]) rfl ⟨rfl,xx⟩
theorem cJ {g:Gt} (hc:cD g=true) (q:Int):gQ g q=(dO g q||KU g q):=by
 have hk:=Ql hc;unfold gQ pa fC dO KU ar;rcases hk with h|h|h|h|h|h|h|h|h<;>(rw [h];simp [qs,BQ]<;>rw [Ca]<;>simp)
def IM (k a b c n q:Int) (z:Bool) (w:World):Prop:=Calls prog 157 #[iI n,.agg #[iI k,iI a,iI b,iI c],iI q,.bool z] w fun e w'=>e=.returned (kf n (⟨k,a,b,c⟩:Gt) q z).val/\Ext w w'
def IF (w:World) (f:World->Nat->Nat->World) (a b c d:Value):Prop:=∀(W:World) (p9 GU:Nat),ay W (w.heap.size+1) 187 #[iI 0,iI 0,iI 0,iI 0]->Ext w W->w.heap.size+1<p9->p9<GU->ay (bP (f W p9 GU) (w.heap.size+1) a b c d) (w.heap.size+1) 187 #[a,b,c,d]/\Ext w (bP (f W p9 GU) (w.heap.size+1) a b c d)
theorem iF0 (w:World) (a b c d:Value):IF w (fun W _ _=>W) a b c d:=fun W p9 GU hb hx _ _=>⟨hb.bP _ _ _ _,br (g:=w.heap.size+1) hx aa _ _ _ _⟩
theorem iF9 (w:World) (j:Nat) (u a b c d:Value):IF w (fun W p _=>W.setCell (aA p j) u) a b c d:=fun W p9 GU hb hx _ _=>⟨(hb.bX (p:=(aA p9 j)) aj _).bP _ _ _ _,br (g:=w.heap.size+1) (hx.setCell (p:=(aA p9 j)) aj _) aa _ _ _ _⟩
theorem aiT (w:World) (j:Nat) (u a b c d:Value):IF w (fun W _ p=>W.setCell (aA (p+1) j) u) a b c d:=fun W p9 GU hb hx _ _=>⟨(hb.bX (p:=(aA (GU+1) j)) aj _).bP _ _ _ _,br (g:=w.heap.size+1) (hx.setCell (p:=(aA (GU+1) j)) aj _) aa _ _ _ _⟩
theorem imA {P:Prop} (h:P:=by
 go_wp2;obtain ⟨sR,HXX⟩:=HF.u w3 p9 GU Ak.u iM.u aa aa
 exact bR (aiS rfl sR _ af rfl) rfl ⟨by rw [Lo.u],HXX⟩):P:=h
theorem imB {P:Prop} (h:P:=by
 go_wp2_with fail;refine (HC3.u _).mono ?_;rintro e w4 ⟨rfl,fe⟩;clear r0 r1 r2 r3 rf0 rf1 rf2 rf3;obtain ⟨⟨r0,r1,r2,r3⟩,rf0,rf1,rf2,rf3⟩:=aB (Ak.u.ext fe);go_wp2;obtain ⟨sR,HXX⟩:=HF.u w4 p9 GU (Ak.u.ext fe) (iM.u.trans fe) aa aa
 exact bR (aiS rfl sR _ af rfl) rfl ⟨by rw [Lo.u],HXX⟩):P:=h
theorem Zu {P:Prop} (h:P:=by
 unfold IM;have sq:wrap64 (2 ^ q.toNat)=pw q:=qq fP gK;have sq2:IntKind.i64.wrap (2 ^ q.toNat)=pw q:=nt fP gK;have squ:IntKind.u64.wrap q=q:=vX fP gK;have sa:wrap64 (2 ^ a.toNat)=pw a:=qq gF iH;have sa2:IntKind.i64.wrap (2 ^ a.toNat)=pw a:=nt gF iH;have sau:IntKind.u64.wrap a=a:=vX gF iH;have sb:wrap64 (2 ^ b.toNat)=pw b:=qq ir ji;have sb2:IntKind.i64.wrap (2 ^ b.toNat)=pw b:=nt ir ji;have sbu:IntKind.u64.wrap b=b:=vX ir ji;have Lp:Hid (∀w',Calls prog 140 #[iI n,iI q,.bool false] w' fun e w''=>e=.returned (.agg #[iI n,iI (pw q),iI 0,iI 0])/\Ext w' w''):=fun w'=>bW n q false w' fP gK
 have Fy:Hid (∀w',Calls prog 140 #[iI n,iI q,.bool true] w' fun e w''=>e=.returned (.agg #[iI n,iI 0,iI (pw q),iI 0])/\Ext w' w''):=fun w'=>bW n q true w' fP gK
 have or1:bits .or .i64 (pw q) 0=pw q:=Vn fP gK;have or2:bits .or .i64 0 (pw q)=pw q:=Vo fP gK;go_enter func157,ntmps157;go_wp2_with fail;refine (Lp.u _).mono ?_;rintro e w1 ⟨rfl,aS⟩;have Vp:=hY (((ay.new w _ _).alloc _).ext aS);have mI:Hid (ay w1 (w.heap.size+1) 187 zO):=(ay.newAt (b:=w.heap.size+1) ag).ext aS;have dk:Hid (Ext w w1):=Ext.trans aD aS;have nQ:w.heap.size+2<=w1.heap.size:=gl
 clear aS;obtain ⟨p9,hp9⟩:=ey (w1.heap.size);rw [<-hp9] at nQ;go_wp2_with fail;refine (Fy.u _).mono ?_;rintro e w2 ⟨rfl,bH⟩;have RQ:=hY ((Vp.u.alloc _).ext bH);have iL:=hY ((mI.u.alloc _).ext bH);have H92:Hid (ay w2 p9 187 #[iI n,iI (pw q),iI 0,iI 0]):=(ay.newAt (b:=p9) hp9).ext bH;have kj:=hY ((dk.u.alloc _).trans bH);have oF:p9+1<=w2.heap.size:=by have:=bH.size;simp at this;omega
 clear bH Vp mI dk;rw [<-hp9];clear hp9;obtain ⟨GU,FG⟩:=ey (w2.heap.size);rw [<-FG] at oF;obtain ⟨⟨x0,x1,x2,x3⟩,-⟩:=aB (H92.u.alloc (cO #[iI n,iI 0,iI (pw q),iI 0] 187));have B10:=ay.new w2 187 #[iI n,iI 0,iI (pw q),iI 0];obtain ⟨⟨y0,y1,y2,y3⟩,-⟩:=aB B10;obtain ⟨⟨g0,g1,g2,g3⟩,-⟩:=aB ((RQ.u.alloc (cO #[iI n,iI 0,iI (pw q),iI 0] 187)).alloc (cO #[iI n,iI (pw q),iI (pw q),iI 0] 187));go_wp2_with fail;refine (bu ⟨_,a,b,c⟩ q _).mono ?_;rintro e w3 ⟨rfl,bT⟩;rw [hs,<-FG];have HG3:=hY (((RQ.u.alloc _).alloc _).ext bT);have Ak:=hY (((iL.u.alloc _).alloc _).ext bT);have H93:=hY (((H92.u.alloc _).alloc _).ext bT);have aen:Hid (ay w3 GU 187 #[iI n,iI 0,iI (pw q),iI 0]):=by rw [FG];exact ((B10.alloc _).ext bT)
 have aeo:Hid (ay w3 (GU+1) 187 #[iI n,iI (pw q),iI (pw q),iI 0]):=vk
 have iM:=hY (((kj.u.alloc _).alloc _).trans bT);have Gy:GU+2<=w3.heap.size:=by have:=bT.size;simp at this;omega
 clear bT RQ iL kj H92 x0 x1 x2 x3 y0 y1 y2 y3 g0 g1 g2 g3 B10 FG Lp Fy hs;obtain ⟨⟨g0,g1,g2,g3⟩,-⟩:=aB HG3.u;obtain ⟨⟨r0,r1,r2,r3⟩,rf0,rf1,rf2,rf3⟩:=aB Ak.u;obtain ⟨⟨x0,x1,x2,x3⟩,xf0,xf1,xf2,xf3⟩:=aB H93.u;obtain ⟨⟨y0,y1,y2,y3⟩,yf0,yf1,yf2,yf3⟩:=aB aen.u;obtain ⟨⟨z0,z1,z2,z3⟩,zf0,zf1,zf2,zf3⟩:=aB aeo.u;have n1:w.heap.size+1≠p9:=aa
 have n2:w.heap.size+1≠GU+1:=aa
 first
  |(have _h:=HC3;exact imB)
  |exact imA):P:=h
theorem imt {P:Prop} (h:P:=by
 unfold IM;have sq:wrap64 (2 ^ q.toNat)=pw q:=qq fP gK;have sq2:IntKind.i64.wrap (2 ^ q.toNat)=pw q:=nt fP gK;have squ:IntKind.u64.wrap q=q:=vX fP gK;have sa:wrap64 (2 ^ a.toNat)=pw a:=qq gF iH;have sa2:IntKind.i64.wrap (2 ^ a.toNat)=pw a:=nt gF iH;have sau:IntKind.u64.wrap a=a:=vX gF iH;have sb:wrap64 (2 ^ b.toNat)=pw b:=qq ir ji;have sb2:IntKind.i64.wrap (2 ^ b.toNat)=pw b:=nt ir ji;have sbu:IntKind.u64.wrap b=b:=vX ir ji;have Lp:Hid (∀w',Calls prog 140 #[iI n,iI q,.bool true] w' fun e w''=>e=.returned (.agg #[iI n,iI 0,iI (pw q),iI 0])/\Ext w' w''):=fun w'=>bW n q true w' fP gK
 have Fy:Hid (∀w',Calls prog 140 #[iI n,iI q,.bool false] w' fun e w''=>e=.returned (.agg #[iI n,iI (pw q),iI 0,iI 0])/\Ext w' w''):=fun w'=>bW n q false w' fP gK
 have or1:bits .or .i64 (pw q) 0=pw q:=Vn fP gK;have or2:bits .or .i64 0 (pw q)=pw q:=Vo fP gK;go_enter func157,ntmps157;go_wp2_with fail;refine (Lp.u _).mono ?_;rintro e w1 ⟨rfl,aS⟩;have Vp:=hY (((ay.new w _ _).alloc _).ext aS);have mI:Hid (ay w1 (w.heap.size+1) 187 zO):=(ay.newAt (b:=w.heap.size+1) ag).ext aS;have dk:Hid (Ext w w1):=Ext.trans aD aS;have nQ:w.heap.size+2<=w1.heap.size:=gl
 clear aS;obtain ⟨p9,hp9⟩:=ey (w1.heap.size);rw [<-hp9] at nQ;go_wp2_with fail;refine (Fy.u _).mono ?_;rintro e w2 ⟨rfl,bH⟩;have RQ:=hY ((Vp.u.alloc _).ext bH);have iL:=hY ((mI.u.alloc _).ext bH);have H92:Hid (ay w2 p9 187 #[iI n,iI 0,iI (pw q),iI 0]):=(ay.newAt (b:=p9) hp9).ext bH;have kj:=hY ((dk.u.alloc _).trans bH);have oF:p9+1<=w2.heap.size:=by have:=bH.size;simp at this;omega
 clear bH Vp mI dk;rw [<-hp9];clear hp9;obtain ⟨GU,FG⟩:=ey (w2.heap.size);rw [<-FG] at oF;obtain ⟨⟨x0,x1,x2,x3⟩,-⟩:=aB (H92.u.alloc (cO #[iI n,iI (pw q),iI 0,iI 0] 187));have B10:=ay.new w2 187 #[iI n,iI (pw q),iI 0,iI 0];obtain ⟨⟨y0,y1,y2,y3⟩,-⟩:=aB B10;obtain ⟨⟨g0,g1,g2,g3⟩,-⟩:=aB ((RQ.u.alloc (cO #[iI n,iI (pw q),iI 0,iI 0] 187)).alloc (cO #[iI n,iI (pw q),iI (pw q),iI 0] 187));go_wp2_with fail;refine (bu ⟨_,a,b,c⟩ q _).mono ?_;rintro e w3 ⟨rfl,bT⟩;rw [hs,<-FG];have HG3:=hY (((RQ.u.alloc _).alloc _).ext bT);have Ak:=hY (((iL.u.alloc _).alloc _).ext bT);have H93:=hY (((H92.u.alloc _).alloc _).ext bT);have aen:Hid (ay w3 GU 187 #[iI n,iI (pw q),iI 0,iI 0]):=by rw [FG];exact ((B10.alloc _).ext bT)
 have aeo:Hid (ay w3 (GU+1) 187 #[iI n,iI (pw q),iI (pw q),iI 0]):=vk
 have iM:=hY (((kj.u.alloc _).alloc _).trans bT);have Gy:GU+2<=w3.heap.size:=by have:=bT.size;simp at this;omega
 clear bT RQ iL kj H92 x0 x1 x2 x3 y0 y1 y2 y3 g0 g1 g2 g3 B10 FG Lp Fy hs;obtain ⟨⟨g0,g1,g2,g3⟩,-⟩:=aB HG3.u;obtain ⟨⟨r0,r1,r2,r3⟩,rf0,rf1,rf2,rf3⟩:=aB Ak.u;obtain ⟨⟨x0,x1,x2,x3⟩,xf0,xf1,xf2,xf3⟩:=aB H93.u;obtain ⟨⟨y0,y1,y2,y3⟩,yf0,yf1,yf2,yf3⟩:=aB aen.u;obtain ⟨⟨z0,z1,z2,z3⟩,zf0,zf1,zf2,zf3⟩:=aB aeo.u;have n1:w.heap.size+1≠p9:=aa
 have n2:w.heap.size+1≠GU+1:=aa
 first
  |(have _h:=HC3;exact imB)
  |exact imA):P:=h
section
variable {a b c n q:Int} {w:World}
theorem vY {P:Prop} (h:P:=by
 have Lo:=hY EI;clear EI;have HF:=hY (iF0 w (iI n) (iI (pw q)) (iI 0) (iI 0))
 exact Zu):P:=h
theorem aiV {k:Int} (fP:0<=q) (gK:q<=3) (gF:0<=a) (iH:a<=3) (ir:0<=b) (ji:b<=3) (hc:cD (⟨k,a,b,c⟩:Gt)=true) (hs:gQ ⟨k,a,b,c⟩ q=false):IM k a b c n q false w:=by
 have EI:kf n ⟨k,a,b,c⟩ q false=⟨n,pw q,0,0⟩:=by unfold kf ui;rw [<-cJ hc,hs];rfl
 clear hc
 exact vY
theorem jn {P:Prop} (h:P:=by
 have Lo:=hY EI;clear EI;have HF:=hY (iF0 w (iI n) (iI 0) (iI (pw q)) (iI 0))
 exact imt):P:=h
theorem aiW {k:Int} (fP:0<=q) (gK:q<=3) (gF:0<=a) (iH:a<=3) (ir:0<=b) (ji:b<=3) (hc:cD (⟨k,a,b,c⟩:Gt)=true) (hs:gQ ⟨k,a,b,c⟩ q=false):IM k a b c n q true w:=by
 have EI:kf n ⟨k,a,b,c⟩ q true=⟨n,0,pw q,0⟩:=by unfold kf uj;rw [<-cJ hc,hs];rfl
 clear hc
 exact jn
theorem aiX (fP:0<=q) (gK:q<=3) (gF:0<=a) (iH:a<=3) (ir:0<=b) (ji:b<=3) (hs:gQ ⟨1,a,b,c⟩ q=true) (hf:dO ⟨1,a,b,c⟩ q=true) (eP:q=a):IM 1 a b c n q false w:=by
 have EI:kf n ⟨1,a,b,c⟩ q false=⟨n,pw q,0,0⟩:=by unfold kf ui;rw [<-cJ (show cD ⟨1,a,b,c⟩=true from rfl),hs];first|rfl|(simp [hf];done)|(simp [hf,zY];done)
 have ea:(q==a)=true:=sU eP
 clear hf eP
 exact vY
theorem CY {P:Prop} (h:P:=by
 have ea:(q==a)=true:=sU eP
 clear hf eP;have Lo:=hY EI;clear EI;have HF:=hY (iF9 w 3 (iI 2) (iI n) (iI 0) (iI (pw q)) (iI 2))
 exact imt):P:=h
theorem aiY (fP:0<=q) (gK:q<=3) (gF:0<=a) (iH:a<=3) (ir:0<=b) (ji:b<=3) (hs:gQ ⟨1,a,b,c⟩ q=true) (hf:dO ⟨1,a,b,c⟩ q=true) (eP:q=a):IM 1 a b c n q true w:=by
 have EI:kf n ⟨1,a,b,c⟩ q true=⟨n,0,pw q,2⟩:=by unfold kf uj;rw [<-cJ (show cD ⟨1,a,b,c⟩=true from rfl),hs];first|rfl|(simp [hf];done)|(simp [hf,zY];done)
 exact CY
theorem CZ {P:Prop} (h:P:=by
 have ea:(q==a)=true:=sU eP
 clear hf eP;have Lo:=hY EI;clear EI;have HF:=hY (iF9 w 3 (iI 2) (iI n) (iI (pw q)) (iI 0) (iI 2))
 exact Zu):P:=h
theorem aiZ (fP:0<=q) (gK:q<=3) (gF:0<=a) (iH:a<=3) (ir:0<=b) (ji:b<=3) (hs:gQ ⟨2,a,b,c⟩ q=true) (hf:dO ⟨2,a,b,c⟩ q=true) (eP:q=a):IM 2 a b c n q false w:=by
 have EI:kf n ⟨2,a,b,c⟩ q false=⟨n,pw q,0,2⟩:=by unfold kf ui;rw [<-cJ (show cD ⟨2,a,b,c⟩=true from rfl),hs];first|rfl|(simp [hf];done)|(simp [hf,zY];done)
 exact CZ
theorem ai0 (fP:0<=q) (gK:q<=3) (gF:0<=a) (iH:a<=3) (ir:0<=b) (ji:b<=3) (hs:gQ ⟨2,a,b,c⟩ q=true) (hf:dO ⟨2,a,b,c⟩ q=true) (eP:q=a):IM 2 a b c n q true w:=by
 have EI:kf n ⟨2,a,b,c⟩ q true=⟨n,0,pw q,2⟩:=by unfold kf uj;rw [<-cJ (show cD ⟨2,a,b,c⟩=true from rfl),hs];first|rfl|(simp [hf];done)|(simp [hf,zY];done)
 exact CY
theorem ai1 (fP:0<=q) (gK:q<=3) (gF:0<=a) (iH:a<=3) (ir:0<=b) (ji:b<=3) (hs:gQ ⟨3,a,b,c⟩ q=true) (hf:dO ⟨3,a,b,c⟩ q=true) (eP:q=a):IM 3 a b c n q false w:=by
 have EI:kf n ⟨3,a,b,c⟩ q false=⟨n,pw q,0,2⟩:=by unfold kf ui;rw [<-cJ (show cD ⟨3,a,b,c⟩=true from rfl),hs];first|rfl|(simp [hf];done)|(simp [hf,zY];done)
 exact CZ
theorem ai2 (fP:0<=q) (gK:q<=3) (gF:0<=a) (iH:a<=3) (ir:0<=b) (ji:b<=3) (hs:gQ ⟨3,a,b,c⟩ q=true) (hf:dO ⟨3,a,b,c⟩ q=true) (eP:q=a):IM 3 a b c n q true w:=by
 have EI:kf n ⟨3,a,b,c⟩ q true=⟨n,0,pw q,0⟩:=by unfold kf uj;rw [<-cJ (show cD ⟨3,a,b,c⟩=true from rfl),hs];first|rfl|(simp [hf];done)|(simp [hf,zY];done)
 have ea:(q==a)=true:=sU eP
 clear hf eP
 exact jn
theorem ai3 (fP:0<=q) (gK:q<=3) (gF:0<=a) (iH:a<=3) (ir:0<=b) (ji:b<=3) (hs:gQ ⟨4,a,b,c⟩ q=true) (hf:dO ⟨4,a,b,c⟩ q=true) (eP:q=a):IM 4 a b c n q false w:=by
 have EI:kf n ⟨4,a,b,c⟩ q false=⟨n,0,pw q,0⟩:=by unfold kf ui;rw [<-cJ (show cD ⟨4,a,b,c⟩=true from rfl),hs];first|rfl|(simp [hf];done)|(simp [hf,zY];done)
 have ea:(q==a)=true:=sU eP
 clear hf eP;have Lo:=hY EI;clear EI;have HF:=hY (iF0 w (iI n) (iI 0) (iI (pw q)) (iI 0))
 exact Zu
theorem ai4 (fP:0<=q) (gK:q<=3) (gF:0<=a) (iH:a<=3) (ir:0<=b) (ji:b<=3) (hs:gQ ⟨4,a,b,c⟩ q=true) (hf:dO ⟨4,a,b,c⟩ q=true) (eP:q=a):IM 4 a b c n q true w:=by
 have EI:kf n ⟨4,a,b,c⟩ q true=⟨n,pw q,0,0⟩:=by unfold kf uj;rw [<-cJ (show cD ⟨4,a,b,c⟩=true from rfl),hs];first|rfl|(simp [hf];done)|(simp [hf,zY];done)
 have ea:(q==a)=true:=sU eP
 clear hf eP;have Lo:=hY EI;clear EI;have HF:=hY (iF0 w (iI n) (iI (pw q)) (iI 0) (iI 0))
 exact imt
theorem ai5 (fP:0<=q) (gK:q<=3) (gF:0<=a) (iH:a<=3) (ir:0<=b) (ji:b<=3) (hs:gQ ⟨5,a,b,c⟩ q=true) (hf:dO ⟨5,a,b,c⟩ q=true) (eP:q=a):IM 5 a b c n q false w:=by
 have EI:kf n ⟨5,a,b,c⟩ q false=⟨n,pw q,pw q,1⟩:=by unfold kf ui;rw [<-cJ (show cD ⟨5,a,b,c⟩=true from rfl),hs];first|rfl|(simp [hf];done)|(simp [hf,zY];done)
 have ea:(q==a)=true:=sU eP
 clear hf eP;have Lo:=hY EI;clear EI;have HF:=hY (aiT w 3 (iI 1) (iI n) (iI (pw q)) (iI (pw q)) (iI 1))
 exact Zu
theorem ai6 (fP:0<=q) (gK:q<=3) (gF:0<=a) (iH:a<=3) (ir:0<=b) (ji:b<=3) (hs:gQ ⟨5,a,b,c⟩ q=true) (hf:dO ⟨5,a,b,c⟩ q=true) (eP:q=a):IM 5 a b c n q true w:=by
 have EI:kf n ⟨5,a,b,c⟩ q true=⟨n,0,pw q,0⟩:=by unfold kf uj;rw [<-cJ (show cD ⟨5,a,b,c⟩=true from rfl),hs];first|rfl|(simp [hf];done)|(simp [hf,zY];done)
 have ea:(q==a)=true:=sU eP
 clear hf eP
 exact jn
theorem ai7 (fP:0<=q) (gK:q<=3) (gF:0<=a) (iH:a<=3) (ir:0<=b) (ji:b<=3) (hs:gQ ⟨6,a,b,c⟩ q=true) (hf:dO ⟨6,a,b,c⟩ q=true) (eP:q=a):IM 6 a b c n q false w:=by
 have EI:kf n ⟨6,a,b,c⟩ q false=⟨n,pw q,pw q,3⟩:=by unfold kf ui;rw [<-cJ (show cD ⟨6,a,b,c⟩=true from rfl),hs];first|rfl|(simp [hf];done)|(simp [hf,zY];done)
 have ea:(q==a)=true:=sU eP
 clear hf eP;have Lo:=hY EI;clear EI;have HF:=hY (aiT w 3 (iI 3) (iI n) (iI (pw q)) (iI (pw q)) (iI 3))
 exact Zu
theorem ai8 (fP:0<=q) (gK:q<=3) (gF:0<=a) (iH:a<=3) (ir:0<=b) (ji:b<=3) (hs:gQ ⟨6,a,b,c⟩ q=true) (hf:dO ⟨6,a,b,c⟩ q=true) (eP:q=a):IM 6 a b c n q true w:=by
 have EI:kf n ⟨6,a,b,c⟩ q true=⟨n,0,pw q,0⟩:=by unfold kf uj;rw [<-cJ (show cD ⟨6,a,b,c⟩=true from rfl),hs];first|rfl|(simp [hf];done)|(simp [hf,zY];done)
 have ea:(q==a)=true:=sU eP
 clear hf eP
 exact jn
theorem aep (fP:0<=q) (gK:q<=3) (gF:0<=a) (iH:a<=3) (ir:0<=b) (ji:b<=3) (hs:gQ ⟨9,a,b,c⟩ q=true) (hf:dO ⟨9,a,b,c⟩ q=true) (eP:q=a) (pc:q≠b):IM 9 a b c n q false w:=by
 have EI:kf n ⟨9,a,b,c⟩ q false=⟨n,bits .or .i64 (pw q) (pw b),0,0⟩:=by unfold kf ui;rw [<-cJ (show cD ⟨9,a,b,c⟩=true from rfl),hs];first|rfl|(simp [hf];done)|(simp [hf,zY];done)
 have ea:(q==a)=true:=sU eP
 have eb:(q==b)=false:=sU pc
 clear hf eP pc;have Lo:=hY EI;clear EI;have HF:=hY (iF9 w 1 (iI (bits .or .i64 (pw q) (pw b))) (iI n) (iI (bits .or .i64 (pw q) (pw b))) (iI 0) (iI 0))
 exact Zu
theorem aeq (fP:0<=q) (gK:q<=3) (gF:0<=a) (iH:a<=3) (ir:0<=b) (ji:b<=3) (hs:gQ ⟨9,a,b,c⟩ q=true) (hf:dO ⟨9,a,b,c⟩ q=true) (eP:q=a) (pc:q≠b):IM 9 a b c n q true w:=by
 have EI:kf n ⟨9,a,b,c⟩ q true=⟨n,0,pw q,0⟩:=by unfold kf uj;rw [<-cJ (show cD ⟨9,a,b,c⟩=true from rfl),hs];first|rfl|(simp [hf];done)|(simp [hf,zY];done)
 have ea:(q==a)=true:=sU eP
 have eb:(q==b)=false:=sU pc
 clear hf eP pc
 exact jn
theorem aer (fP:0<=q) (gK:q<=3) (gF:0<=a) (iH:a<=3) (ir:0<=b) (ji:b<=3) (hs:gQ ⟨9,a,b,c⟩ q=true) (hf:dO ⟨9,a,b,c⟩ q=false) (eP:q≠a) (pc:q=b):IM 9 a b c n q false w:=by
 have EI:kf n ⟨9,a,b,c⟩ q false=⟨n,pw q,0,0⟩:=by unfold kf ui;rw [<-cJ (show cD ⟨9,a,b,c⟩=true from rfl),hs];first|rfl|(simp [hf];done)|(simp [hf,zY];done)
 have ea:(q==a)=false:=sU eP
 have eb:(q==b)=true:=sU pc
 clear hf eP pc
 exact vY
theorem aes (fP:0<=q) (gK:q<=3) (gF:0<=a) (iH:a<=3) (ir:0<=b) (ji:b<=3) (hs:gQ ⟨9,a,b,c⟩ q=true) (hf:dO ⟨9,a,b,c⟩ q=false) (eP:q≠a) (pc:q=b):IM 9 a b c n q true w:=by
 have EI:kf n ⟨9,a,b,c⟩ q true=⟨n,0,bits .or .i64 (pw q) (pw a),0⟩:=by unfold kf uj;rw [<-cJ (show cD ⟨9,a,b,c⟩=true from rfl),hs];first|rfl|(simp [hf];done)|(simp [hf,zY];done)
 have ea:(q==a)=false:=sU eP
 have eb:(q==b)=true:=sU pc
 clear hf eP pc;have Lo:=hY EI;clear EI;have HF:=hY (iF9 w 2 (iI (bits .or .i64 (pw q) (pw a))) (iI n) (iI 0) (iI (bits .or .i64 (pw q) (pw a))) (iI 0))
 exact imt
theorem aaB (fP:0<=q) (gK:q<=3) (gF:0<=a) (iH:a<=3) (ir:0<=b) (ji:b<=3) (hs:gQ ⟨10,a,b,c⟩ q=true) (hf:dO ⟨10,a,b,c⟩ q=true) (eP:q=a) (pc:q≠b):IM 10 a b c n q false w:=by
 have EI:kf n ⟨10,a,b,c⟩ q false=⟨n,pw q,pw b,0⟩:=by unfold kf ui;rw [<-cJ (show cD ⟨10,a,b,c⟩=true from rfl),hs];first|rfl|(simp [hf];done)|(simp [hf,zY];done)
 have ea:(q==a)=true:=sU eP
 have eb:(q==b)=false:=sU pc
 have s1:IntKind.i64.wrap (a+b)=a+b:=lH _ aa;have s2:IntKind.i64.wrap (a+b - q)=b:=oT
 clear hf eP pc;have Lo:=hY EI;clear EI;have HF:=hY (iF9 w 2 (iI (pw b)) (iI n) (iI (pw q)) (iI (pw b)) (iI 0))
 exact Zu
theorem aaC (fP:0<=q) (gK:q<=3) (gF:0<=a) (iH:a<=3) (ir:0<=b) (ji:b<=3) (hs:gQ ⟨10,a,b,c⟩ q=true) (hf:dO ⟨10,a,b,c⟩ q=true) (eP:q=a) (pc:q≠b):IM 10 a b c n q true w:=by
 have EI:kf n ⟨10,a,b,c⟩ q true=⟨n,0,pw q,0⟩:=by unfold kf uj;rw [<-cJ (show cD ⟨10,a,b,c⟩=true from rfl),hs];first|rfl|(simp [hf];done)|(simp [hf,zY];done)
 have ea:(q==a)=true:=sU eP
 have eb:(q==b)=false:=sU pc
 clear hf eP pc
 exact jn
theorem aaD (fP:0<=q) (gK:q<=3) (gF:0<=a) (iH:a<=3) (ir:0<=b) (ji:b<=3) (hs:gQ ⟨10,a,b,c⟩ q=true) (hf:dO ⟨10,a,b,c⟩ q=false) (eP:q≠a) (pc:q=b):IM 10 a b c n q false w:=by
 have EI:kf n ⟨10,a,b,c⟩ q false=⟨n,pw q,pw a,0⟩:=by unfold kf ui;rw [<-cJ (show cD ⟨10,a,b,c⟩=true from rfl),hs];first|rfl|(simp [hf];done)|(simp [hf,zY];done)
 have ea:(q==a)=false:=sU eP
 have eb:(q==b)=true:=sU pc
 have s1:IntKind.i64.wrap (a+b)=a+b:=lH _ aa;have s2:IntKind.i64.wrap (a+b - q)=a:=oU
 clear hf eP pc;have Lo:=hY EI;clear EI;have HF:=hY (iF9 w 2 (iI (pw a)) (iI n) (iI (pw q)) (iI (pw a)) (iI 0))
 exact Zu
theorem aaE (fP:0<=q) (gK:q<=3) (gF:0<=a) (iH:a<=3) (ir:0<=b) (ji:b<=3) (hs:gQ ⟨10,a,b,c⟩ q=true) (hf:dO ⟨10,a,b,c⟩ q=false) (eP:q≠a) (pc:q=b):IM 10 a b c n q true w:=by
 have EI:kf n ⟨10,a,b,c⟩ q true=⟨n,0,pw q,0⟩:=by unfold kf uj;rw [<-cJ (show cD ⟨10,a,b,c⟩=true from rfl),hs];first|rfl|(simp [hf];done)|(simp [hf,zY];done)
 have ea:(q==a)=false:=sU eP
 have eb:(q==b)=true:=sU pc
 clear hf eP pc
 exact jn
theorem aaF (fP:0<=q) (gK:q<=3) (gF:0<=a) (iH:a<=3) (ir:0<=b) (ji:b<=3) (hs:gQ ⟨11,a,b,c⟩ q=true) (hf:dO ⟨11,a,b,c⟩ q=true) (eP:q=a) (pc:q≠b):IM 11 a b c n q false w:=by
 have EI:kf n ⟨11,a,b,c⟩ q false=⟨n,pw b,0,0⟩:=by unfold kf ui;rw [<-cJ (show cD ⟨11,a,b,c⟩=true from rfl),hs];first|rfl|(simp [hf];done)|(simp [hf,zY];done)
 have ea:(q==a)=true:=sU eP
 have eb:(q==b)=false:=sU pc
 have s1:IntKind.i64.wrap (a+b)=a+b:=lH _ aa;have s2:IntKind.i64.wrap (a+b - q)=b:=oT
 clear hf eP pc;have Lo:=hY EI;clear EI;have HC3:Hid (∀w',Calls prog 140 #[iI n,iI b,.bool false] w' fun e w''=>e=.returned (.agg #[iI n,iI (pw b),iI 0,iI 0])/\Ext w' w''):=fun w'=>bW n b false w' ir ji
 have HF:=hY (iF0 w (iI n) (iI (pw b)) (iI 0) (iI 0))
 exact Zu
theorem aaG (fP:0<=q) (gK:q<=3) (gF:0<=a) (iH:a<=3) (ir:0<=b) (ji:b<=3) (hs:gQ ⟨11,a,b,c⟩ q=true) (hf:dO ⟨11,a,b,c⟩ q=true) (eP:q=a) (pc:q≠b):IM 11 a b c n q true w:=by
 have EI:kf n ⟨11,a,b,c⟩ q true=⟨n,0,pw b,0⟩:=by unfold kf uj;rw [<-cJ (show cD ⟨11,a,b,c⟩=true from rfl),hs];first|rfl|(simp [hf];done)|(simp [hf,zY];done)
 have ea:(q==a)=true:=sU eP
 have eb:(q==b)=false:=sU pc
 have s1:IntKind.i64.wrap (a+b)=a+b:=lH _ aa;have s2:IntKind.i64.wrap (a+b - q)=b:=oT
 clear hf eP pc;have Lo:=hY EI;clear EI;have HC3:Hid (∀w',Calls prog 140 #[iI n,iI b,.bool true] w' fun e w''=>e=.returned (.agg #[iI n,iI 0,iI (pw b),iI 0])/\Ext w' w''):=fun w'=>bW n b true w' ir ji
 have HF:=hY (iF0 w (iI n) (iI 0) (iI (pw b)) (iI 0))
 exact imt
theorem aaH (fP:0<=q) (gK:q<=3) (gF:0<=a) (iH:a<=3) (ir:0<=b) (ji:b<=3) (hs:gQ ⟨11,a,b,c⟩ q=true) (hf:dO ⟨11,a,b,c⟩ q=false) (eP:q≠a) (pc:q=b):IM 11 a b c n q false w:=by
 have EI:kf n ⟨11,a,b,c⟩ q false=⟨n,pw a,0,0⟩:=by unfold kf ui;rw [<-cJ (show cD ⟨11,a,b,c⟩=true from rfl),hs];first|rfl|(simp [hf];done)|(simp [hf,zY];done)
 have ea:(q==a)=false:=sU eP
 have eb:(q==b)=true:=sU pc
 have s1:IntKind.i64.wrap (a+b)=a+b:=lH _ aa;have s2:IntKind.i64.wrap (a+b - q)=a:=oU
 clear hf eP pc;have Lo:=hY EI;clear EI;have HC3:Hid (∀w',Calls prog 140 #[iI n,iI a,.bool false] w' fun e w''=>e=.returned (.agg #[iI n,iI (pw a),iI 0,iI 0])/\Ext w' w''):=fun w'=>bW n a false w' gF iH
 have HF:=hY (iF0 w (iI n) (iI (pw a)) (iI 0) (iI 0))
 exact Zu
theorem aaI (fP:0<=q) (gK:q<=3) (gF:0<=a) (iH:a<=3) (ir:0<=b) (ji:b<=3) (hs:gQ ⟨11,a,b,c⟩ q=true) (hf:dO ⟨11,a,b,c⟩ q=false) (eP:q≠a) (pc:q=b):IM 11 a b c n q true w:=by
 have EI:kf n ⟨11,a,b,c⟩ q true=⟨n,0,pw a,0⟩:=by unfold kf uj;rw [<-cJ (show cD ⟨11,a,b,c⟩=true from rfl),hs];first|rfl|(simp [hf];done)|(simp [hf,zY];done)
 have ea:(q==a)=false:=sU eP
 have eb:(q==b)=true:=sU pc
 have s1:IntKind.i64.wrap (a+b)=a+b:=lH _ aa;have s2:IntKind.i64.wrap (a+b - q)=a:=oU
 clear hf eP pc;have Lo:=hY EI;clear EI;have HC3:Hid (∀w',Calls prog 140 #[iI n,iI a,.bool true] w' fun e w''=>e=.returned (.agg #[iI n,iI 0,iI (pw a),iI 0])/\Ext w' w''):=fun w'=>bW n a true w' gF iH
 have HF:=hY (iF0 w (iI n) (iI 0) (iI (pw a)) (iI 0))
 exact imt
end
theorem oa (g:Gt) (n q:Int) (z:Bool) (w:World) (fP:0<=q) (gK:q<=3) (gF:0<=g.a) (iH:g.a<=3) (ir:0<=g.b) (ji:g.b<=3) (hc:cD g=true) (hne:ar g.k=2->g.a≠g.b):
  Calls prog 157 #[iI n,g.val,iI q,.bool z] w fun e w'=>e=.returned (kf n g q z).val/\Ext w w':=by
 have hk:=Ql hc;have hac:=cJ hc q;obtain ⟨k,a,b,c⟩:=g;dsimp only at gF iH ir ji hne hk;show IM k a b c n q z w
 cases hs:gQ ⟨k,a,b,c⟩ q
 ·cases z
  ·exact aiV fP gK gF iH ir ji hc hs
  ·exact aiW fP gK gF iH ir ji hc hs
 rw [hs] at hac
 cases hf:dO ⟨k,a,b,c⟩ q
 ·have h2:ar k=2/\q=b:=by rw [hf] at hac;simpa [KU] using hac.symm
  have eP:q≠a:=by simpa [dO] using hf
  have h4:k=9\/k=10\/k=11:=by have h3:=h2.1;unfold ar at h3;omega
  rcases h4 with rfl|rfl|rfl<;>cases z
  ·exact aer fP gK gF iH ir ji hs hf eP h2.2
  ·exact aes fP gK gF iH ir ji hs hf eP h2.2
  ·exact aaD fP gK gF iH ir ji hs hf eP h2.2
  ·exact aaE fP gK gF iH ir ji hs hf eP h2.2
  ·exact aaH fP gK gF iH ir ji hs hf eP h2.2
  ·exact aaI fP gK gF iH ir ji hs hf eP h2.2
 ·have eP:q=a:=by simpa [dO] using hf
  rcases hk with rfl|rfl|rfl|rfl|rfl|rfl|rfl|rfl|rfl<;>cases z
  ·exact aiX fP gK gF iH ir ji hs hf eP
  ·exact aiY fP gK gF iH ir ji hs hf eP
  ·exact aiZ fP gK gF iH ir ji hs hf eP
  ·exact ai0 fP gK gF iH ir ji hs hf eP
  ·exact ai1 fP gK gF iH ir ji hs hf eP
  ·exact ai2 fP gK gF iH ir ji hs hf eP
  ·exact ai3 fP gK gF iH ir ji hs hf eP
  ·exact ai4 fP gK gF iH ir ji hs hf eP
  ·exact ai5 fP gK gF iH ir ji hs hf eP
  ·exact ai6 fP gK gF iH ir ji hs hf eP
  ·exact ai7 fP gK gF iH ir ji hs hf eP
  ·exact ai8 fP gK gF iH ir ji hs hf eP
  ·exact aep fP gK gF iH ir ji hs hf eP gm
  ·exact aeq fP gK gF iH ir ji hs hf eP gm
  ·exact aaB fP gK gF iH ir ji hs hf eP gm
  ·exact aaC fP gK gF iH ir ji hs hf eP gm
  ·exact aaF fP gK gF iH ir ji hs hf eP gm
  ·exact aaG fP gK gF iH ir ji hs hf eP gm
theorem ai9 {g:Gt} {n:Int} (h:vg g n=true):(0<=g.a/\g.a<=3)/\(0<=g.b/\g.b<=3)/\(ar g.k=2->g.a≠g.b):=by
 unfold vg IP at h;simp only [lF,lu] at h;obtain ⟨⟨⟨⟨⟨h1,h2⟩,h3⟩,ha⟩,hb⟩,hc⟩:=h;obtain ⟨r0,r3⟩:=fY g.k;rcases (show ar g.k=1\/ar g.k=2\/ar g.k=3 by omega) with e|e|e<;>rw [e] at ha hb<;>simp [qs] at ha hb<;>refine ⟨aa,aa,fun h=>?_⟩<;>first|omega|(have:=hb.2;intro hh;exact this hh.symm)
def Lq (p:Pa) (g:Gt) (e:Ending):Prop:=e=.returned (.tuple #[(cj p g).val,.bool (rD p g)])
theorem Da {p:Pa} {g:Gt} {e:Ending} (h:rD p g=false) (he:e=.returned (.tuple #[P0.val,.bool false])):Lq p g e:=by
 unfold Lq cj;rw [he,h];rfl
theorem RR {p:Pa} {g:Gt} {e:Ending} {r:Pa} (h:rD p g=true) (hr:Zq p g p.n.toNat=r) (he:e=.returned (.tuple #[r.val,.bool true])):Lq p g e:=by
 unfold Lq cj;rw [he,h,aX rfl,hr]
def CjW (w W:World) (p:Pa) (g:Gt) (q:Nat) (r:Pa):Prop:=
 ay W w.heap.size 187 (jF p)/\ay W (w.heap.size+1) 54 (gA g)/\ay W (w.heap.size+2) 187 zO/\ay W q 187 (jF r)/\Ext w W/\w.heap.size+3<=q
theorem CjW.ext {w W W':World} {p:Pa} {g:Gt} {q:Nat} {r:Pa} (h:CjW w W p g q r) (hx:Ext W W'):CjW w W' p g q r:=
 ⟨h.1.ext hx,h.2.1.ext hx,h.2.2.1.ext hx,h.2.2.2.1.ext hx,h.2.2.2.2.1.trans hx,h.2.2.2.2.2⟩
theorem CjW.put {w W:World} {p:Pa} {g:Gt} {q:Nat} {r:Pa} (h:CjW w W p g q r) (m:Pa):CjW w ((((W.setCell (aA q 0) (iI m.n)).setCell (aA q 1) (iI m.x)).setCell (aA q 2) (iI m.z)).setCell (aA q 3) (iI m.p)) p g q m:=
 ⟨dh h.1 (oM h.2.2.2.2.2) _ _ _ _,dh h.2.1 (oM h.2.2.2.2.2) _ _ _ _,dh h.2.2.1 (oM h.2.2.2.2.2) _ _ _ _,h.2.2.2.1.bP _ _ _ _,br (g:=q) h.2.2.2.2.1 (oM h.2.2.2.2.2) _ _ _ _,h.2.2.2.2.2⟩
theorem Vq (p:Pa) (g:Gt) (k:Nat):Zq p g (k+1)=Zp p g k (cjX p g k (Zq p g k)):=rfl
theorem aet {p:Pa} {g:Gt} {q:Int} {r:Pa} (h:Ct p.x q=false):cjX p g q r=r:=by unfold cjX;rw [h];rfl
theorem aaJ {p:Pa} {g:Gt} {q:Int} {r:Pa} (h:Ct p.x q=true):cjX p g q r=mulR r (ui p.n g q):=by unfold cjX;rw [h];rfl
theorem Vr {p:Pa} {g:Gt} {q:Int} {r:Pa} (h:Ct p.z q=false):Zp p g q r=r:=by unfold Zp;rw [h];rfl
theorem ZL {p:Pa} {g:Gt} {q:Int} {r:Pa} (h:Ct p.z q=true):Zp p g q r=mulR r (uj p.n g q):=by unfold Zp;rw [h];rfl
theorem RS {gs:List Gt} {k:Nat} {g:Gt} (h:gs[k]?=some g) (ha:(gs.take k).all cD=true) (hc:cD g=true):(gs.take (k+1)).all cD=true:=by
 rw [aL h,nX,ha];simp [hc]
theorem aaK {gs:List Gt} {k:Nat} {g:Gt} (h:gs[k]?=some g) (hc:cD g=false):gs.all cD=false:=by
 rw [Gl];intro ha;have:=kc.1 ha g (lG h);rw [hc] at this
 cases this
theorem sX (A:OA) (n c:Nat) (gs:List Gt) (w:World) (h:Rd w w.heap.size 4 A n (ak gs)) (hn:n<=2000000000000):
  Calls prog 94 #[.slice A n c] w fun e w'=>e=.returned (.bool (gs.all cD))/\Ext w w':=by
 have hlen:=hY (h.len Gt.aE aa);have HR:=hY h;clear h;go_enter func94,ntmps94;go_wp2
 go_loopw [3] (fun iv wr=>∃k:Nat,iv=iI k/\k<=n/\Hid ((gs.take k).all cD=true)/\Hid (Ext w wr)) (fun iv _=>n - (intOf iv).toNat)
 case atStart=>exact ⟨0,rfl,lJ _,rfl,xZ _⟩
 case round=>
  obtain ⟨k,rfl,hk,HQ,HE⟩:=hrel
  by_cases bh:k<n
  ·obtain ⟨b,o,g,rfl,hb,hg,h0,h1,h2,h3⟩:=bE (HR.u.ext HE.u) bh;have HG:=hY hg;have bS:=hY bh;have eM:=wA k aa;have iG:=wB k aa;clear hg;go_wp2_with fail;refine (mj g _).mono ?_;rintro e w3 ⟨rfl,bT⟩;have Ob:Hid (Ext w w3):=HE.u.trans bT;clear bT h0 h1 h2 h3
   cases hc:cD g
   ·have HV:Hid (gs.all cD=false):=aaK HG.u hc;clear hc;go_wp2;go_ret
    exact ⟨aT HV.u.symm,Ob.u⟩
   ·have mr:Hid ((gs.take (k+1)).all cD=true):=RS HG.u HQ.u hc;clear hc;go_wp2;go_roundw
    case rel=>exact ⟨k+1,by first|rfl|rw [eM]|rw [iG],oM bS.u,mr,Ob⟩
    case measure=>simp [intOf,iG];have:=bS.u;omega
  ·have HV:Hid (gs.all cD=true):=by
    have:=HQ.u;rw [lE bN] at this
    exact this
   go_wp2;go_ret
   exact ⟨aT HV.u.symm,HE.u⟩
end Go.Proofs.YtiajdbllccmokaaGreatDoor
