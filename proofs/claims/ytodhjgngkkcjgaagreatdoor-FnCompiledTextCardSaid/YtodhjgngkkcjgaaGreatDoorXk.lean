import Derived.Test.YtodhjgngkkcjgaaGreatDoorXf
namespace Go.Proofs.YtodhjgngkkcjgaaGreatDoor
open Go.ChangeShapes Go.WideShapes Go.ChangeAt Go.RowKit Go.Deep Go.Proofs.Tryz
set_option linter.unusedVariables false
set_option linter.unusedSimpArgs false
set_option maxRecDepth 100000
set_option maxHeartbeats 16000000
theorem akt {P:Program} {fn:Func} {p u:Tmp} {ty:TypeId} (h:fn.results=#[.cell p ty,.cell u ty]) (tmps:Array Value) (w:World) (g g':Nat) (t t':TypeId) (cs cs':Array Value) (d:TypeDesc)
  (hp:tmps.getD p undef=.pointer (some ⟨g,0,none⟩)) (hq:tmps.getD u undef=.pointer (some ⟨g',0,none⟩)) (hg:au w g t cs) (Bc:au w g' t' cs')
  (hu:P.underlying ty=some d) (hd:(match d with| .struct _| .array _ _=>true|_=>false)=true) (hi:(P.info? ty).map (·.size)=some cs.size) (hi':cs'.size=cs.size):
  (results fn tmps).run P w=.ok (.tuple #[.agg cs,.agg cs']) w:=by
 simp only [results,h];have hp':tmps[p]?.getD undef=.pointer (some ⟨g,0,none⟩):=sU hp
 have Gl:tmps[u]?.getD undef=.pointer (some ⟨g',0,none⟩):=sU hq
 have e1:=TQ w g t ty cs (0,0) d hg hu hd hi;have e2:=TQ w g' t' ty cs' (0,0) d Bc hu hd (by rw [hi,hi']);simp [Sem.run_bind,Result.andThen,asAddr,hp',Gl,e1,e2]
theorem oz (g:Gt) (w:World):Calls prog 171 #[g.val] w fun e w'=>e=.returned (.bool (cL g))/\Ext w w':=by
 obtain ⟨gV,jl⟩:=eL g.k;have HE:Hid (cL g=(decide (0<ar g.k) && !(g.k==7) && !(g.k==8) && !(g.k==12))):=rfl;obtain ⟨A,hA⟩:=ey (ar g.k);have HAr:=hY hA;rw [<-hA] at HE gV jl;clear hA
 by_cases h0:A=0
 ·subst h0;go_enter func171,ntmps171;go_wp2_with fail;refine (bc g.k _).mono ?_;rintro e w1 ⟨rfl,rfl⟩;rw [<-HAr.u];go_wp2;go_ret
  exact ⟨aI (by rw [HE.u];rfl),xx⟩
 have iV:(A !=0)=true:=by simp [h0]
 have kz:decide (A>0)=true:=ai
 have hz3:decide (0<A)=true:=ai
 clear h0;rw [hz3] at HE;clear hz3;have q7:(g.k !=7)=!(g.k==7):=rfl;have q8:(g.k !=8)=!(g.k==8):=rfl;have q12:(g.k !=12)=!(g.k==12):=rfl
 cases k7:(g.k==7)<;>cases k8:(g.k==8)<;>cases k12:(g.k==12)<;>
 (rw [k7] at q7 HE
  rw [k8] at q8 HE;rw [k12] at q12 HE;simp only [Bool.not_true,Bool.not_false] at q7 q8 q12;clear k7 k8 k12;go_enter func171,ntmps171;go_wp2_with fail;refine (bc g.k _).mono ?_;rintro e w1 ⟨rfl,rfl⟩;rw [<-HAr.u];go_wp2;go_ret
  exact ⟨aI (by rw [HE.u];rfl),xx⟩)
theorem Wq {g:Gt} (h:cL g=true):g.k=1\/g.k=2\/g.k=3\/g.k=4\/g.k=5\/g.k=6\/g.k=9\/g.k=10\/g.k=11:=by
 unfold cL ar at h;simp at h;omega
theorem tG {q:Int} (h0:0<=q) (h3:q<=3):wrap64 (2 ^ q.toNat)=pw q:=by
 rcases (show q=0\/q=1\/q=2\/q=3 by omega) with rfl|rfl|rfl|rfl<;>kernel_rfl
theorem pQ {q:Int} (h0:0<=q) (h3:q<=3):IntKind.i64.wrap (2 ^ q.toNat)=pw q:=by
 rcases (show q=0\/q=1\/q=2\/q=3 by omega) with rfl|rfl|rfl|rfl<;>kernel_rfl
def sgl (n q:Int) (z:Bool):Pa:=if z=true then ⟨n,0,pw q,0⟩ else ⟨n,pw q,0,0⟩
def lW (n:Int) (g:Gt) (q:Int) (z:Bool):Pa:=if z=true then xU n g q else xT n g q
theorem aoM {fn:Func} {p:Tmp} (hf:fn.results=#[.cell p 251]) {W:World} {q:Nat} {cs:Array Value} (hB:au W q 251 cs) (tmps:Array Value)
  (hp:tmps.getD p undef=.pointer (some ⟨q,0,none⟩)) (hs:cs.size=4):(results fn tmps).run prog W=.ok (.agg cs) W:=
 pc hf tmps _ q 251 _ (0,0) _ hp hB Bq rfl (by rw [hs];exact iY)
theorem acf {q:Int} (h0:0<=q) (h3:q<=3):bits .or .i64 (pw q) 0=pw q:=by
 rcases (show q=0\/q=1\/q=2\/q=3 by omega) with rfl|rfl|rfl|rfl<;>kernel_rfl
theorem acg {q:Int} (h0:0<=q) (h3:q<=3):bits .or .i64 0 (pw q)=pw q:=by
 rcases (show q=0\/q=1\/q=2\/q=3 by omega) with rfl|rfl|rfl|rfl<;>kernel_rfl
theorem zR {q:Int} (h0:0<=q) (h3:q<=3):IntKind.u64.wrap q=q:=IntWalk.u64_in _ aa
theorem cC (n q:Int) (z:Bool) (w:World) (fc:0<=q) (eO:q<=3):
  Calls prog 201 #[iI n,iI q,.bool z] w fun e w'=>e=.returned (sgl n q z).val/\Ext w w':=by
 have sq:wrap64 (2 ^ q.toNat)=pw q:=tG fc eO;have sq2:IntKind.i64.wrap (2 ^ q.toNat)=pw q:=pQ fc eO;have su:=zR fc eO
 cases z
 ·go_enter func201,ntmps201;go_wp2
  exact bJ (v:=.agg #[iI n,iI (pw q),iI 0,iI 0]) (by simp [results,results201,go_sem]) rfl ⟨rfl,xx⟩
 ·go_enter func201,ntmps201;go_wp2
  exact bJ (v:=.agg #[iI n,iI 0,iI (pw q),iI 0]) (by simp [results,results201,go_sem]) rfl ⟨rfl,xx⟩
theorem cR {g:Gt} (hc:cL g=true) (q:Int):iN g q=(dS g q||QR g q):=by
 have hk:=Wq hc;unfold iN kf gf dS QR ar;rcases hk with h|h|h|h|h|h|h|h|h<;>(rw [h];simp [qs,FJ]<;>rw [Nx]<;>simp)
def IM (k a b c n q:Int) (z:Bool) (w:World):Prop:=Calls prog 218 #[iI n,.agg #[iI k,iI a,iI b,iI c],iI q,.bool z] w fun e w'=>e=.returned (lW n (⟨k,a,b,c⟩:Gt) q z).val/\Ext w w'
def IF (w:World) (f:World->Nat->Nat->World) (a b c d:Value):Prop:=∀(W:World) (p9 Mo:Nat),au W (w.heap.size+1) 251 #[iI 0,iI 0,iI 0,iI 0]->Ext w W->w.heap.size+1<p9->p9<Mo->au (bR (f W p9 Mo) (w.heap.size+1) a b c d) (w.heap.size+1) 251 #[a,b,c,d]/\Ext w (bR (f W p9 Mo) (w.heap.size+1) a b c d)
theorem iF0 (w:World) (a b c d:Value):IF w (fun W _ _=>W) a b c d:=fun W p9 Mo hb hx _ _=>⟨hb.bR _ _ _ _,aW (g:=w.heap.size+1) hx aa _ _ _ _⟩
theorem iF9 (w:World) (j:Nat) (u a b c d:Value):IF w (fun W p _=>W.setCell (aA p j) u) a b c d:=fun W p9 Mo hb hx _ _=>⟨(hb.cB (p:=(aA p9 j)) ai _).bR _ _ _ _,aW (g:=w.heap.size+1) (hx.setCell (p:=(aA p9 j)) ai _) aa _ _ _ _⟩
theorem aoN (w:World) (j:Nat) (u a b c d:Value):IF w (fun W _ p=>W.setCell (aA (p+1) j) u) a b c d:=fun W p9 Mo hb hx _ _=>⟨(hb.cB (p:=(aA (Mo+1) j)) ai _).bR _ _ _ _,aW (g:=w.heap.size+1) (hx.setCell (p:=(aA (Mo+1) j)) ai _) aa _ _ _ _⟩
theorem imA {P:Prop} (h:P:=by
 go_wp2;obtain ⟨wh,HXX⟩:=HF.u w3 p9 Mo Mp.u fD.u aa aa
 exact bJ (aoM rfl wh _ af rfl) rfl ⟨by rw [Rn.u],HXX⟩):P:=h
theorem imB {P:Prop} (h:P:=by
 go_wp2_with fail;refine (HC3.u _).mono ?_;rintro e w4 ⟨rfl,fy⟩;clear r0 r1 r2 r3 rf0 rf1 rf2 rf3;obtain ⟨⟨r0,r1,r2,r3⟩,rf0,rf1,rf2,rf3⟩:=aB (Mp.u.ext fy);go_wp2;obtain ⟨wh,HXX⟩:=HF.u w4 p9 Mo (Mp.u.ext fy) (fD.u.trans fy) aa aa
 exact bJ (aoM rfl wh _ af rfl) rfl ⟨by rw [Rn.u],HXX⟩):P:=h
theorem imf {P:Prop} (h:P:=by
 unfold IM;have sq:wrap64 (2 ^ q.toNat)=pw q:=tG fc eO;have sq2:IntKind.i64.wrap (2 ^ q.toNat)=pw q:=pQ fc eO;have squ:IntKind.u64.wrap q=q:=zR fc eO;have sa:wrap64 (2 ^ a.toNat)=pw a:=tG gV jl;have sa2:IntKind.i64.wrap (2 ^ a.toNat)=pw a:=pQ gV jl;have sau:IntKind.u64.wrap a=a:=zR gV jl;have sb:wrap64 (2 ^ b.toNat)=pw b:=tG eT iP;have sb2:IntKind.i64.wrap (2 ^ b.toNat)=pw b:=pQ eT iP;have sbu:IntKind.u64.wrap b=b:=zR eT iP;have Mq:Hid (∀w',Calls prog 201 #[iI n,iI q,.bool false] w' fun e w''=>e=.returned (.agg #[iI n,iI (pw q),iI 0,iI 0])/\Ext w' w''):=fun w'=>cC n q false w' fc eO
 have Qf:Hid (∀w',Calls prog 201 #[iI n,iI q,.bool true] w' fun e w''=>e=.returned (.agg #[iI n,iI 0,iI (pw q),iI 0])/\Ext w' w''):=fun w'=>cC n q true w' fc eO
 have or1:bits .or .i64 (pw q) 0=pw q:=acf fc eO;have or2:bits .or .i64 0 (pw q)=pw q:=acg fc eO;go_enter func218,ntmps218;go_wp2_with fail;refine (Mq.u _).mono ?_;rintro e w1 ⟨rfl,aK⟩;have HG1:=hY (((au.new w _ _).alloc _).ext aK);have mC:Hid (au w1 (w.heap.size+1) 251 zO):=(au.newAt (b:=w.heap.size+1) ag).ext aK;have cH:Hid (Ext w w1):=Ext.trans aw aK;have pR:w.heap.size+2<=w1.heap.size:=iq
 clear aK;obtain ⟨p9,hp9⟩:=ey (w1.heap.size);rw [<-hp9] at pR;go_wp2_with fail;refine (Qf.u _).mono ?_;rintro e w2 ⟨rfl,bz⟩;have HG2:=hY ((HG1.u.alloc _).ext bz);have jN:=hY ((mC.u.alloc _).ext bz);have H92:Hid (au w2 p9 251 #[iI n,iI (pw q),iI 0,iI 0]):=(au.newAt (b:=p9) hp9).ext bz;have eK:=hY ((cH.u.alloc _).trans bz);have qw:p9+1<=w2.heap.size:=by have:=bz.size;simp at this;omega
 clear bz HG1 mC cH;rw [<-hp9];clear hp9;obtain ⟨Mo,Lc⟩:=ey (w2.heap.size);rw [<-Lc] at qw;obtain ⟨⟨x0,x1,x2,x3⟩,-⟩:=aB (H92.u.alloc (cO #[iI n,iI 0,iI (pw q),iI 0] 251));have B10:=au.new w2 251 #[iI n,iI 0,iI (pw q),iI 0];obtain ⟨⟨y0,y1,y2,y3⟩,-⟩:=aB B10;obtain ⟨⟨g0,g1,g2,g3⟩,-⟩:=aB ((HG2.u.alloc (cO #[iI n,iI 0,iI (pw q),iI 0] 251)).alloc (cO #[iI n,iI (pw q),iI (pw q),iI 0] 251));go_wp2_with fail;refine (bC ⟨_,a,b,c⟩ q _).mono ?_;rintro e w3 ⟨rfl,bO⟩;rw [hs,<-Lc];have HG3:=hY (((HG2.u.alloc _).alloc _).ext bO);have Mp:=hY (((jN.u.alloc _).alloc _).ext bO);have H93:=hY (((H92.u.alloc _).alloc _).ext bO);have akw:Hid (au w3 Mo 251 #[iI n,iI 0,iI (pw q),iI 0]):=by rw [Lc];exact ((B10.alloc _).ext bO)
 have akx:Hid (au w3 (Mo+1) 251 #[iI n,iI (pw q),iI (pw q),iI 0]):=zi
 have fD:=hY (((eK.u.alloc _).alloc _).trans bO);have CQ:Mo+2<=w3.heap.size:=by have:=bO.size;simp at this;omega
 clear bO HG2 jN eK H92 x0 x1 x2 x3 y0 y1 y2 y3 g0 g1 g2 g3 B10 Lc Mq Qf hs;obtain ⟨⟨g0,g1,g2,g3⟩,-⟩:=aB HG3.u;obtain ⟨⟨r0,r1,r2,r3⟩,rf0,rf1,rf2,rf3⟩:=aB Mp.u;obtain ⟨⟨x0,x1,x2,x3⟩,xf0,xf1,xf2,xf3⟩:=aB H93.u;obtain ⟨⟨y0,y1,y2,y3⟩,yf0,yf1,yf2,yf3⟩:=aB akw.u;obtain ⟨⟨z0,z1,z2,z3⟩,zf0,zf1,zf2,zf3⟩:=aB akx.u;have n1:w.heap.size+1≠p9:=aa
 have n2:w.heap.size+1≠Mo+1:=aa
 first
  |(have _h:=HC3;exact imB)
  |exact imA):P:=h
theorem imt {P:Prop} (h:P:=by
 unfold IM;have sq:wrap64 (2 ^ q.toNat)=pw q:=tG fc eO;have sq2:IntKind.i64.wrap (2 ^ q.toNat)=pw q:=pQ fc eO;have squ:IntKind.u64.wrap q=q:=zR fc eO;have sa:wrap64 (2 ^ a.toNat)=pw a:=tG gV jl;have sa2:IntKind.i64.wrap (2 ^ a.toNat)=pw a:=pQ gV jl;have sau:IntKind.u64.wrap a=a:=zR gV jl;have sb:wrap64 (2 ^ b.toNat)=pw b:=tG eT iP;have sb2:IntKind.i64.wrap (2 ^ b.toNat)=pw b:=pQ eT iP;have sbu:IntKind.u64.wrap b=b:=zR eT iP;have Mq:Hid (∀w',Calls prog 201 #[iI n,iI q,.bool true] w' fun e w''=>e=.returned (.agg #[iI n,iI 0,iI (pw q),iI 0])/\Ext w' w''):=fun w'=>cC n q true w' fc eO
 have Qf:Hid (∀w',Calls prog 201 #[iI n,iI q,.bool false] w' fun e w''=>e=.returned (.agg #[iI n,iI (pw q),iI 0,iI 0])/\Ext w' w''):=fun w'=>cC n q false w' fc eO
 have or1:bits .or .i64 (pw q) 0=pw q:=acf fc eO;have or2:bits .or .i64 0 (pw q)=pw q:=acg fc eO;go_enter func218,ntmps218;go_wp2_with fail;refine (Mq.u _).mono ?_;rintro e w1 ⟨rfl,aK⟩;have HG1:=hY (((au.new w _ _).alloc _).ext aK);have mC:Hid (au w1 (w.heap.size+1) 251 zO):=(au.newAt (b:=w.heap.size+1) ag).ext aK;have cH:Hid (Ext w w1):=Ext.trans aw aK;have pR:w.heap.size+2<=w1.heap.size:=iq
 clear aK;obtain ⟨p9,hp9⟩:=ey (w1.heap.size);rw [<-hp9] at pR;go_wp2_with fail;refine (Qf.u _).mono ?_;rintro e w2 ⟨rfl,bz⟩;have HG2:=hY ((HG1.u.alloc _).ext bz);have jN:=hY ((mC.u.alloc _).ext bz);have H92:Hid (au w2 p9 251 #[iI n,iI 0,iI (pw q),iI 0]):=(au.newAt (b:=p9) hp9).ext bz;have eK:=hY ((cH.u.alloc _).trans bz);have qw:p9+1<=w2.heap.size:=by have:=bz.size;simp at this;omega
 clear bz HG1 mC cH;rw [<-hp9];clear hp9;obtain ⟨Mo,Lc⟩:=ey (w2.heap.size);rw [<-Lc] at qw;obtain ⟨⟨x0,x1,x2,x3⟩,-⟩:=aB (H92.u.alloc (cO #[iI n,iI (pw q),iI 0,iI 0] 251));have B10:=au.new w2 251 #[iI n,iI (pw q),iI 0,iI 0];obtain ⟨⟨y0,y1,y2,y3⟩,-⟩:=aB B10;obtain ⟨⟨g0,g1,g2,g3⟩,-⟩:=aB ((HG2.u.alloc (cO #[iI n,iI (pw q),iI 0,iI 0] 251)).alloc (cO #[iI n,iI (pw q),iI (pw q),iI 0] 251));go_wp2_with fail;refine (bC ⟨_,a,b,c⟩ q _).mono ?_;rintro e w3 ⟨rfl,bO⟩;rw [hs,<-Lc];have HG3:=hY (((HG2.u.alloc _).alloc _).ext bO);have Mp:=hY (((jN.u.alloc _).alloc _).ext bO);have H93:=hY (((H92.u.alloc _).alloc _).ext bO);have akw:Hid (au w3 Mo 251 #[iI n,iI (pw q),iI 0,iI 0]):=by rw [Lc];exact ((B10.alloc _).ext bO)
 have akx:Hid (au w3 (Mo+1) 251 #[iI n,iI (pw q),iI (pw q),iI 0]):=zi
 have fD:=hY (((eK.u.alloc _).alloc _).trans bO);have CQ:Mo+2<=w3.heap.size:=by have:=bO.size;simp at this;omega
 clear bO HG2 jN eK H92 x0 x1 x2 x3 y0 y1 y2 y3 g0 g1 g2 g3 B10 Lc Mq Qf hs;obtain ⟨⟨g0,g1,g2,g3⟩,-⟩:=aB HG3.u;obtain ⟨⟨r0,r1,r2,r3⟩,rf0,rf1,rf2,rf3⟩:=aB Mp.u;obtain ⟨⟨x0,x1,x2,x3⟩,xf0,xf1,xf2,xf3⟩:=aB H93.u;obtain ⟨⟨y0,y1,y2,y3⟩,yf0,yf1,yf2,yf3⟩:=aB akw.u;obtain ⟨⟨z0,z1,z2,z3⟩,zf0,zf1,zf2,zf3⟩:=aB akx.u;have n1:w.heap.size+1≠p9:=aa
 have n2:w.heap.size+1≠Mo+1:=aa
 first
  |(have _h:=HC3;exact imB)
  |exact imA):P:=h
section
variable {a b c n q:Int} {w:World}
theorem zS {P:Prop} (h:P:=by
 have Rn:=hY EI;clear EI;have HF:=hY (iF0 w (iI n) (iI (pw q)) (iI 0) (iI 0))
 exact imf):P:=h
theorem aoP {k:Int} (fc:0<=q) (eO:q<=3) (gV:0<=a) (jl:a<=3) (eT:0<=b) (iP:b<=3) (hc:cL (⟨k,a,b,c⟩:Gt)=true) (hs:iN ⟨k,a,b,c⟩ q=false):IM k a b c n q false w:=by
 have EI:lW n ⟨k,a,b,c⟩ q false=⟨n,pw q,0,0⟩:=by unfold lW xT;rw [<-cR hc,hs];rfl
 clear hc
 exact zS
theorem kl {P:Prop} (h:P:=by
 have Rn:=hY EI;clear EI;have HF:=hY (iF0 w (iI n) (iI 0) (iI (pw q)) (iI 0))
 exact imt):P:=h
theorem aoQ {k:Int} (fc:0<=q) (eO:q<=3) (gV:0<=a) (jl:a<=3) (eT:0<=b) (iP:b<=3) (hc:cL (⟨k,a,b,c⟩:Gt)=true) (hs:iN ⟨k,a,b,c⟩ q=false):IM k a b c n q true w:=by
 have EI:lW n ⟨k,a,b,c⟩ q true=⟨n,0,pw q,0⟩:=by unfold lW xU;rw [<-cR hc,hs];rfl
 clear hc
 exact kl
theorem aoR (fc:0<=q) (eO:q<=3) (gV:0<=a) (jl:a<=3) (eT:0<=b) (iP:b<=3) (hs:iN ⟨1,a,b,c⟩ q=true) (hf:dS ⟨1,a,b,c⟩ q=true) (fx:q=a):IM 1 a b c n q false w:=by
 have EI:lW n ⟨1,a,b,c⟩ q false=⟨n,pw q,0,0⟩:=by unfold lW xT;rw [<-cR (show cL ⟨1,a,b,c⟩=true from rfl),hs];first|rfl|(simp [hf];done)|(simp [hf,DU];done)
 have ea:(q==a)=true:=sU fx
 clear hf fx
 exact zS
theorem Hq {P:Prop} (h:P:=by
 have ea:(q==a)=true:=sU fx
 clear hf fx;have Rn:=hY EI;clear EI;have HF:=hY (iF9 w 3 (iI 2) (iI n) (iI 0) (iI (pw q)) (iI 2))
 exact imt):P:=h
theorem aoS (fc:0<=q) (eO:q<=3) (gV:0<=a) (jl:a<=3) (eT:0<=b) (iP:b<=3) (hs:iN ⟨1,a,b,c⟩ q=true) (hf:dS ⟨1,a,b,c⟩ q=true) (fx:q=a):IM 1 a b c n q true w:=by
 have EI:lW n ⟨1,a,b,c⟩ q true=⟨n,0,pw q,2⟩:=by unfold lW xU;rw [<-cR (show cL ⟨1,a,b,c⟩=true from rfl),hs];first|rfl|(simp [hf];done)|(simp [hf,DU];done)
 exact Hq
theorem Hr {P:Prop} (h:P:=by
 have ea:(q==a)=true:=sU fx
 clear hf fx;have Rn:=hY EI;clear EI;have HF:=hY (iF9 w 3 (iI 2) (iI n) (iI (pw q)) (iI 0) (iI 2))
 exact imf):P:=h
theorem aoT (fc:0<=q) (eO:q<=3) (gV:0<=a) (jl:a<=3) (eT:0<=b) (iP:b<=3) (hs:iN ⟨2,a,b,c⟩ q=true) (hf:dS ⟨2,a,b,c⟩ q=true) (fx:q=a):IM 2 a b c n q false w:=by
 have EI:lW n ⟨2,a,b,c⟩ q false=⟨n,pw q,0,2⟩:=by unfold lW xT;rw [<-cR (show cL ⟨2,a,b,c⟩=true from rfl),hs];first|rfl|(simp [hf];done)|(simp [hf,DU];done)
 exact Hr
theorem aoU (fc:0<=q) (eO:q<=3) (gV:0<=a) (jl:a<=3) (eT:0<=b) (iP:b<=3) (hs:iN ⟨2,a,b,c⟩ q=true) (hf:dS ⟨2,a,b,c⟩ q=true) (fx:q=a):IM 2 a b c n q true w:=by
 have EI:lW n ⟨2,a,b,c⟩ q true=⟨n,0,pw q,2⟩:=by unfold lW xU;rw [<-cR (show cL ⟨2,a,b,c⟩=true from rfl),hs];first|rfl|(simp [hf];done)|(simp [hf,DU];done)
 exact Hq
theorem aoV (fc:0<=q) (eO:q<=3) (gV:0<=a) (jl:a<=3) (eT:0<=b) (iP:b<=3) (hs:iN ⟨3,a,b,c⟩ q=true) (hf:dS ⟨3,a,b,c⟩ q=true) (fx:q=a):IM 3 a b c n q false w:=by
 have EI:lW n ⟨3,a,b,c⟩ q false=⟨n,pw q,0,2⟩:=by unfold lW xT;rw [<-cR (show cL ⟨3,a,b,c⟩=true from rfl),hs];first|rfl|(simp [hf];done)|(simp [hf,DU];done)
 exact Hr
theorem aoW (fc:0<=q) (eO:q<=3) (gV:0<=a) (jl:a<=3) (eT:0<=b) (iP:b<=3) (hs:iN ⟨3,a,b,c⟩ q=true) (hf:dS ⟨3,a,b,c⟩ q=true) (fx:q=a):IM 3 a b c n q true w:=by
 have EI:lW n ⟨3,a,b,c⟩ q true=⟨n,0,pw q,0⟩:=by unfold lW xU;rw [<-cR (show cL ⟨3,a,b,c⟩=true from rfl),hs];first|rfl|(simp [hf];done)|(simp [hf,DU];done)
 have ea:(q==a)=true:=sU fx
 clear hf fx
 exact kl
theorem aoX (fc:0<=q) (eO:q<=3) (gV:0<=a) (jl:a<=3) (eT:0<=b) (iP:b<=3) (hs:iN ⟨4,a,b,c⟩ q=true) (hf:dS ⟨4,a,b,c⟩ q=true) (fx:q=a):IM 4 a b c n q false w:=by
 have EI:lW n ⟨4,a,b,c⟩ q false=⟨n,0,pw q,0⟩:=by unfold lW xT;rw [<-cR (show cL ⟨4,a,b,c⟩=true from rfl),hs];first|rfl|(simp [hf];done)|(simp [hf,DU];done)
 have ea:(q==a)=true:=sU fx
 clear hf fx;have Rn:=hY EI;clear EI;have HF:=hY (iF0 w (iI n) (iI 0) (iI (pw q)) (iI 0))
 exact imf
theorem aoY (fc:0<=q) (eO:q<=3) (gV:0<=a) (jl:a<=3) (eT:0<=b) (iP:b<=3) (hs:iN ⟨4,a,b,c⟩ q=true) (hf:dS ⟨4,a,b,c⟩ q=true) (fx:q=a):IM 4 a b c n q true w:=by
 have EI:lW n ⟨4,a,b,c⟩ q true=⟨n,pw q,0,0⟩:=by unfold lW xU;rw [<-cR (show cL ⟨4,a,b,c⟩=true from rfl),hs];first|rfl|(simp [hf];done)|(simp [hf,DU];done)
 have ea:(q==a)=true:=sU fx
 clear hf fx;have Rn:=hY EI;clear EI;have HF:=hY (iF0 w (iI n) (iI (pw q)) (iI 0) (iI 0))
 exact imt
theorem aoZ (fc:0<=q) (eO:q<=3) (gV:0<=a) (jl:a<=3) (eT:0<=b) (iP:b<=3) (hs:iN ⟨5,a,b,c⟩ q=true) (hf:dS ⟨5,a,b,c⟩ q=true) (fx:q=a):IM 5 a b c n q false w:=by
 have EI:lW n ⟨5,a,b,c⟩ q false=⟨n,pw q,pw q,1⟩:=by unfold lW xT;rw [<-cR (show cL ⟨5,a,b,c⟩=true from rfl),hs];first|rfl|(simp [hf];done)|(simp [hf,DU];done)
 have ea:(q==a)=true:=sU fx
 clear hf fx;have Rn:=hY EI;clear EI;have HF:=hY (aoN w 3 (iI 1) (iI n) (iI (pw q)) (iI (pw q)) (iI 1))
 exact imf
theorem ao0 (fc:0<=q) (eO:q<=3) (gV:0<=a) (jl:a<=3) (eT:0<=b) (iP:b<=3) (hs:iN ⟨5,a,b,c⟩ q=true) (hf:dS ⟨5,a,b,c⟩ q=true) (fx:q=a):IM 5 a b c n q true w:=by
 have EI:lW n ⟨5,a,b,c⟩ q true=⟨n,0,pw q,0⟩:=by unfold lW xU;rw [<-cR (show cL ⟨5,a,b,c⟩=true from rfl),hs];first|rfl|(simp [hf];done)|(simp [hf,DU];done)
 have ea:(q==a)=true:=sU fx
 clear hf fx
 exact kl
theorem ao1 (fc:0<=q) (eO:q<=3) (gV:0<=a) (jl:a<=3) (eT:0<=b) (iP:b<=3) (hs:iN ⟨6,a,b,c⟩ q=true) (hf:dS ⟨6,a,b,c⟩ q=true) (fx:q=a):IM 6 a b c n q false w:=by
 have EI:lW n ⟨6,a,b,c⟩ q false=⟨n,pw q,pw q,3⟩:=by unfold lW xT;rw [<-cR (show cL ⟨6,a,b,c⟩=true from rfl),hs];first|rfl|(simp [hf];done)|(simp [hf,DU];done)
 have ea:(q==a)=true:=sU fx
 clear hf fx;have Rn:=hY EI;clear EI;have HF:=hY (aoN w 3 (iI 3) (iI n) (iI (pw q)) (iI (pw q)) (iI 3))
 exact imf
theorem ao2 (fc:0<=q) (eO:q<=3) (gV:0<=a) (jl:a<=3) (eT:0<=b) (iP:b<=3) (hs:iN ⟨6,a,b,c⟩ q=true) (hf:dS ⟨6,a,b,c⟩ q=true) (fx:q=a):IM 6 a b c n q true w:=by
 have EI:lW n ⟨6,a,b,c⟩ q true=⟨n,0,pw q,0⟩:=by unfold lW xU;rw [<-cR (show cL ⟨6,a,b,c⟩=true from rfl),hs];first|rfl|(simp [hf];done)|(simp [hf,DU];done)
 have ea:(q==a)=true:=sU fx
 clear hf fx
 exact kl
theorem aky (fc:0<=q) (eO:q<=3) (gV:0<=a) (jl:a<=3) (eT:0<=b) (iP:b<=3) (hs:iN ⟨9,a,b,c⟩ q=true) (hf:dS ⟨9,a,b,c⟩ q=true) (fx:q=a) (rN:q≠b):IM 9 a b c n q false w:=by
 have EI:lW n ⟨9,a,b,c⟩ q false=⟨n,bits .or .i64 (pw q) (pw b),0,0⟩:=by unfold lW xT;rw [<-cR (show cL ⟨9,a,b,c⟩=true from rfl),hs];first|rfl|(simp [hf];done)|(simp [hf,DU];done)
 have ea:(q==a)=true:=sU fx
 have eb:(q==b)=false:=sU rN
 clear hf fx rN;have Rn:=hY EI;clear EI;have HF:=hY (iF9 w 1 (iI (bits .or .i64 (pw q) (pw b))) (iI n) (iI (bits .or .i64 (pw q) (pw b))) (iI 0) (iI 0))
 exact imf
theorem akz (fc:0<=q) (eO:q<=3) (gV:0<=a) (jl:a<=3) (eT:0<=b) (iP:b<=3) (hs:iN ⟨9,a,b,c⟩ q=true) (hf:dS ⟨9,a,b,c⟩ q=true) (fx:q=a) (rN:q≠b):IM 9 a b c n q true w:=by
 have EI:lW n ⟨9,a,b,c⟩ q true=⟨n,0,pw q,0⟩:=by unfold lW xU;rw [<-cR (show cL ⟨9,a,b,c⟩=true from rfl),hs];first|rfl|(simp [hf];done)|(simp [hf,DU];done)
 have ea:(q==a)=true:=sU fx
 have eb:(q==b)=false:=sU rN
 clear hf fx rN
 exact kl
theorem akA (fc:0<=q) (eO:q<=3) (gV:0<=a) (jl:a<=3) (eT:0<=b) (iP:b<=3) (hs:iN ⟨9,a,b,c⟩ q=true) (hf:dS ⟨9,a,b,c⟩ q=false) (fx:q≠a) (rN:q=b):IM 9 a b c n q false w:=by
 have EI:lW n ⟨9,a,b,c⟩ q false=⟨n,pw q,0,0⟩:=by unfold lW xT;rw [<-cR (show cL ⟨9,a,b,c⟩=true from rfl),hs];first|rfl|(simp [hf];done)|(simp [hf,DU];done)
 have ea:(q==a)=false:=sU fx
 have eb:(q==b)=true:=sU rN
 clear hf fx rN
 exact zS
theorem akB (fc:0<=q) (eO:q<=3) (gV:0<=a) (jl:a<=3) (eT:0<=b) (iP:b<=3) (hs:iN ⟨9,a,b,c⟩ q=true) (hf:dS ⟨9,a,b,c⟩ q=false) (fx:q≠a) (rN:q=b):IM 9 a b c n q true w:=by
 have EI:lW n ⟨9,a,b,c⟩ q true=⟨n,0,bits .or .i64 (pw q) (pw a),0⟩:=by unfold lW xU;rw [<-cR (show cL ⟨9,a,b,c⟩=true from rfl),hs];first|rfl|(simp [hf];done)|(simp [hf,DU];done)
 have ea:(q==a)=false:=sU fx
 have eb:(q==b)=true:=sU rN
 clear hf fx rN;have Rn:=hY EI;clear EI;have HF:=hY (iF9 w 2 (iI (bits .or .i64 (pw q) (pw a))) (iI n) (iI 0) (iI (bits .or .i64 (pw q) (pw a))) (iI 0))
 exact imt
theorem agQ (fc:0<=q) (eO:q<=3) (gV:0<=a) (jl:a<=3) (eT:0<=b) (iP:b<=3) (hs:iN ⟨10,a,b,c⟩ q=true) (hf:dS ⟨10,a,b,c⟩ q=true) (fx:q=a) (rN:q≠b):IM 10 a b c n q false w:=by
 have EI:lW n ⟨10,a,b,c⟩ q false=⟨n,pw q,pw b,0⟩:=by unfold lW xT;rw [<-cR (show cL ⟨10,a,b,c⟩=true from rfl),hs];first|rfl|(simp [hf];done)|(simp [hf,DU];done)
 have ea:(q==a)=true:=sU fx
 have eb:(q==b)=false:=sU rN
 have s1:IntKind.i64.wrap (a+b)=a+b:=lH _ aa;have s2:IntKind.i64.wrap (a+b - q)=b:=rz
 clear hf fx rN;have Rn:=hY EI;clear EI;have HF:=hY (iF9 w 2 (iI (pw b)) (iI n) (iI (pw q)) (iI (pw b)) (iI 0))
 exact imf
theorem agR (fc:0<=q) (eO:q<=3) (gV:0<=a) (jl:a<=3) (eT:0<=b) (iP:b<=3) (hs:iN ⟨10,a,b,c⟩ q=true) (hf:dS ⟨10,a,b,c⟩ q=true) (fx:q=a) (rN:q≠b):IM 10 a b c n q true w:=by
 have EI:lW n ⟨10,a,b,c⟩ q true=⟨n,0,pw q,0⟩:=by unfold lW xU;rw [<-cR (show cL ⟨10,a,b,c⟩=true from rfl),hs];first|rfl|(simp [hf];done)|(simp [hf,DU];done)
 have ea:(q==a)=true:=sU fx
 have eb:(q==b)=false:=sU rN
 clear hf fx rN
 exact kl
theorem agS (fc:0<=q) (eO:q<=3) (gV:0<=a) (jl:a<=3) (eT:0<=b) (iP:b<=3) (hs:iN ⟨10,a,b,c⟩ q=true) (hf:dS ⟨10,a,b,c⟩ q=false) (fx:q≠a) (rN:q=b):IM 10 a b c n q false w:=by
 have EI:lW n ⟨10,a,b,c⟩ q false=⟨n,pw q,pw a,0⟩:=by unfold lW xT;rw [<-cR (show cL ⟨10,a,b,c⟩=true from rfl),hs];first|rfl|(simp [hf];done)|(simp [hf,DU];done)
 have ea:(q==a)=false:=sU fx
 have eb:(q==b)=true:=sU rN
 have s1:IntKind.i64.wrap (a+b)=a+b:=lH _ aa;have s2:IntKind.i64.wrap (a+b - q)=a:=rA
 clear hf fx rN;have Rn:=hY EI;clear EI;have HF:=hY (iF9 w 2 (iI (pw a)) (iI n) (iI (pw q)) (iI (pw a)) (iI 0))
 exact imf
theorem agT (fc:0<=q) (eO:q<=3) (gV:0<=a) (jl:a<=3) (eT:0<=b) (iP:b<=3) (hs:iN ⟨10,a,b,c⟩ q=true) (hf:dS ⟨10,a,b,c⟩ q=false) (fx:q≠a) (rN:q=b):IM 10 a b c n q true w:=by
 have EI:lW n ⟨10,a,b,c⟩ q true=⟨n,0,pw q,0⟩:=by unfold lW xU;rw [<-cR (show cL ⟨10,a,b,c⟩=true from rfl),hs];first|rfl|(simp [hf];done)|(simp [hf,DU];done)
 have ea:(q==a)=false:=sU fx
 have eb:(q==b)=true:=sU rN
 clear hf fx rN
 exact kl
theorem agU (fc:0<=q) (eO:q<=3) (gV:0<=a) (jl:a<=3) (eT:0<=b) (iP:b<=3) (hs:iN ⟨11,a,b,c⟩ q=true) (hf:dS ⟨11,a,b,c⟩ q=true) (fx:q=a) (rN:q≠b):IM 11 a b c n q false w:=by
 have EI:lW n ⟨11,a,b,c⟩ q false=⟨n,pw b,0,0⟩:=by unfold lW xT;rw [<-cR (show cL ⟨11,a,b,c⟩=true from rfl),hs];first|rfl|(simp [hf];done)|(simp [hf,DU];done)
 have ea:(q==a)=true:=sU fx
 have eb:(q==b)=false:=sU rN
 have s1:IntKind.i64.wrap (a+b)=a+b:=lH _ aa;have s2:IntKind.i64.wrap (a+b - q)=b:=rz
 clear hf fx rN;have Rn:=hY EI;clear EI;have HC3:Hid (∀w',Calls prog 201 #[iI n,iI b,.bool false] w' fun e w''=>e=.returned (.agg #[iI n,iI (pw b),iI 0,iI 0])/\Ext w' w''):=fun w'=>cC n b false w' eT iP
 have HF:=hY (iF0 w (iI n) (iI (pw b)) (iI 0) (iI 0))
 exact imf
theorem agV (fc:0<=q) (eO:q<=3) (gV:0<=a) (jl:a<=3) (eT:0<=b) (iP:b<=3) (hs:iN ⟨11,a,b,c⟩ q=true) (hf:dS ⟨11,a,b,c⟩ q=true) (fx:q=a) (rN:q≠b):IM 11 a b c n q true w:=by
 have EI:lW n ⟨11,a,b,c⟩ q true=⟨n,0,pw b,0⟩:=by unfold lW xU;rw [<-cR (show cL ⟨11,a,b,c⟩=true from rfl),hs];first|rfl|(simp [hf];done)|(simp [hf,DU];done)
 have ea:(q==a)=true:=sU fx
 have eb:(q==b)=false:=sU rN
 have s1:IntKind.i64.wrap (a+b)=a+b:=lH _ aa;have s2:IntKind.i64.wrap (a+b - q)=b:=rz
 clear hf fx rN;have Rn:=hY EI;clear EI;have HC3:Hid (∀w',Calls prog 201 #[iI n,iI b,.bool true] w' fun e w''=>e=.returned (.agg #[iI n,iI 0,iI (pw b),iI 0])/\Ext w' w''):=fun w'=>cC n b true w' eT iP
 have HF:=hY (iF0 w (iI n) (iI 0) (iI (pw b)) (iI 0))
 exact imt
theorem agW (fc:0<=q) (eO:q<=3) (gV:0<=a) (jl:a<=3) (eT:0<=b) (iP:b<=3) (hs:iN ⟨11,a,b,c⟩ q=true) (hf:dS ⟨11,a,b,c⟩ q=false) (fx:q≠a) (rN:q=b):IM 11 a b c n q false w:=by
 have EI:lW n ⟨11,a,b,c⟩ q false=⟨n,pw a,0,0⟩:=by unfold lW xT;rw [<-cR (show cL ⟨11,a,b,c⟩=true from rfl),hs];first|rfl|(simp [hf];done)|(simp [hf,DU];done)
 have ea:(q==a)=false:=sU fx
 have eb:(q==b)=true:=sU rN
 have s1:IntKind.i64.wrap (a+b)=a+b:=lH _ aa;have s2:IntKind.i64.wrap (a+b - q)=a:=rA
 clear hf fx rN;have Rn:=hY EI;clear EI;have HC3:Hid (∀w',Calls prog 201 #[iI n,iI a,.bool false] w' fun e w''=>e=.returned (.agg #[iI n,iI (pw a),iI 0,iI 0])/\Ext w' w''):=fun w'=>cC n a false w' gV jl
 have HF:=hY (iF0 w (iI n) (iI (pw a)) (iI 0) (iI 0))
 exact imf
theorem agX (fc:0<=q) (eO:q<=3) (gV:0<=a) (jl:a<=3) (eT:0<=b) (iP:b<=3) (hs:iN ⟨11,a,b,c⟩ q=true) (hf:dS ⟨11,a,b,c⟩ q=false) (fx:q≠a) (rN:q=b):IM 11 a b c n q true w:=by
 have EI:lW n ⟨11,a,b,c⟩ q true=⟨n,0,pw a,0⟩:=by unfold lW xU;rw [<-cR (show cL ⟨11,a,b,c⟩=true from rfl),hs];first|rfl|(simp [hf];done)|(simp [hf,DU];done)
 have ea:(q==a)=false:=sU fx
 have eb:(q==b)=true:=sU rN
 have s1:IntKind.i64.wrap (a+b)=a+b:=lH _ aa;have s2:IntKind.i64.wrap (a+b - q)=a:=rA
 clear hf fx rN;have Rn:=hY EI;clear EI;have HC3:Hid (∀w',Calls prog 201 #[iI n,iI a,.bool true] w' fun e w''=>e=.returned (.agg #[iI n,iI 0,iI (pw a),iI 0])/\Ext w' w''):=fun w'=>cC n a true w' gV jl
 have HF:=hY (iF0 w (iI n) (iI 0) (iI (pw a)) (iI 0))
 exact imt
end
theorem qI (g:Gt) (n q:Int) (z:Bool) (w:World) (fc:0<=q) (eO:q<=3) (gV:0<=g.a) (jl:g.a<=3) (eT:0<=g.b) (iP:g.b<=3) (hc:cL g=true) (hne:ar g.k=2->g.a≠g.b):
  Calls prog 218 #[iI n,g.val,iI q,.bool z] w fun e w'=>e=.returned (lW n g q z).val/\Ext w w':=by
 have hk:=Wq hc;have hac:=cR hc q;obtain ⟨k,a,b,c⟩:=g;dsimp only at gV jl eT iP hne hk;show IM k a b c n q z w
 cases hs:iN ⟨k,a,b,c⟩ q
 ·cases z
  ·exact aoP fc eO gV jl eT iP hc hs
  ·exact aoQ fc eO gV jl eT iP hc hs
 rw [hs] at hac
 cases hf:dS ⟨k,a,b,c⟩ q
 ·have h2:ar k=2/\q=b:=by rw [hf] at hac;simpa [QR] using hac.symm
  have fx:q≠a:=by simpa [dS] using hf
  have h4:k=9\/k=10\/k=11:=by have h3:=h2.1;unfold ar at h3;omega
  rcases h4 with rfl|rfl|rfl<;>cases z
  ·exact akA fc eO gV jl eT iP hs hf fx h2.2
  ·exact akB fc eO gV jl eT iP hs hf fx h2.2
  ·exact agS fc eO gV jl eT iP hs hf fx h2.2
  ·exact agT fc eO gV jl eT iP hs hf fx h2.2
  ·exact agW fc eO gV jl eT iP hs hf fx h2.2
  ·exact agX fc eO gV jl eT iP hs hf fx h2.2
 ·have fx:q=a:=by simpa [dS] using hf
  rcases hk with rfl|rfl|rfl|rfl|rfl|rfl|rfl|rfl|rfl<;>cases z
  ·exact aoR fc eO gV jl eT iP hs hf fx
  ·exact aoS fc eO gV jl eT iP hs hf fx
  ·exact aoT fc eO gV jl eT iP hs hf fx
  ·exact aoU fc eO gV jl eT iP hs hf fx
  ·exact aoV fc eO gV jl eT iP hs hf fx
  ·exact aoW fc eO gV jl eT iP hs hf fx
  ·exact aoX fc eO gV jl eT iP hs hf fx
  ·exact aoY fc eO gV jl eT iP hs hf fx
  ·exact aoZ fc eO gV jl eT iP hs hf fx
  ·exact ao0 fc eO gV jl eT iP hs hf fx
  ·exact ao1 fc eO gV jl eT iP hs hf fx
  ·exact ao2 fc eO gV jl eT iP hs hf fx
  ·exact aky fc eO gV jl eT iP hs hf fx ir
  ·exact akz fc eO gV jl eT iP hs hf fx ir
  ·exact agQ fc eO gV jl eT iP hs hf fx ir
  ·exact agR fc eO gV jl eT iP hs hf fx ir
  ·exact agU fc eO gV jl eT iP hs hf fx ir
  ·exact agV fc eO gV jl eT iP hs hf fx ir
theorem ao3 {g:Gt} {n:Int} (h:vg g n=true):(0<=g.a/\g.a<=3)/\(0<=g.b/\g.b<=3)/\(ar g.k=2->g.a≠g.b):=by
 unfold vg DS at h;simp only [lF,kh] at h;obtain ⟨⟨⟨⟨⟨h1,h2⟩,h3⟩,ha⟩,hb⟩,hc⟩:=h;obtain ⟨r0,r3⟩:=eL g.k;rcases (show ar g.k=1\/ar g.k=2\/ar g.k=3 by omega) with e|e|e<;>rw [e] at ha hb<;>simp [qs] at ha hb<;>refine ⟨aa,aa,fun h=>?_⟩<;>first|omega|(have:=hb.2;intro hh;exact this hh.symm)
def Ro (p:Pa) (g:Gt) (e:Ending):Prop:=e=.returned (.tuple #[(cj p g).val,.bool (uT p g)])
theorem Hs {p:Pa} {g:Gt} {e:Ending} (h:uT p g=false) (he:e=.returned (.tuple #[P0.val,.bool false])):Ro p g e:=by
 unfold Ro cj;rw [he,h];rfl
theorem YS {p:Pa} {g:Gt} {e:Ending} {r:Pa} (h:uT p g=true) (hr:cjN p g p.n.toNat=r) (he:e=.returned (.tuple #[r.val,.bool true])):Ro p g e:=by
 unfold Ro cj;rw [he,h,aY rfl,hr]
def CjW (w W:World) (p:Pa) (g:Gt) (q:Nat) (r:Pa):Prop:=
 au W w.heap.size 251 (jF p)/\au W (w.heap.size+1) 39 (gA g)/\au W (w.heap.size+2) 251 zO/\au W q 251 (jF r)/\Ext w W/\w.heap.size+3<=q
theorem CjW.ext {w W W':World} {p:Pa} {g:Gt} {q:Nat} {r:Pa} (h:CjW w W p g q r) (hx:Ext W W'):CjW w W' p g q r:=
 ⟨h.1.ext hx,h.2.1.ext hx,h.2.2.1.ext hx,h.2.2.2.1.ext hx,h.2.2.2.2.1.trans hx,h.2.2.2.2.2⟩
theorem CjW.put {w W:World} {p:Pa} {g:Gt} {q:Nat} {r:Pa} (h:CjW w W p g q r) (m:Pa):CjW w ((((W.setCell (aA q 0) (iI m.n)).setCell (aA q 1) (iI m.x)).setCell (aA q 2) (iI m.z)).setCell (aA q 3) (iI m.p)) p g q m:=
 ⟨ed h.1 (oM h.2.2.2.2.2) _ _ _ _,ed h.2.1 (oM h.2.2.2.2.2) _ _ _ _,ed h.2.2.1 (oM h.2.2.2.2.2) _ _ _ _,h.2.2.2.1.bR _ _ _ _,aW (g:=q) h.2.2.2.2.1 (oM h.2.2.2.2.2) _ _ _ _,h.2.2.2.2.2⟩
theorem aci (p:Pa) (g:Gt) (k:Nat):cjN p g (k+1)=cjZ p g k (cjX p g k (cjN p g k)):=rfl
theorem akC {p:Pa} {g:Gt} {q:Int} {r:Pa} (h:GJ p.x q=false):cjX p g q r=r:=by unfold cjX;rw [h];rfl
theorem agY {p:Pa} {g:Gt} {q:Int} {r:Pa} (h:GJ p.x q=true):cjX p g q r=mulR r (xT p.n g q):=by unfold cjX;rw [h];rfl
theorem acj {p:Pa} {g:Gt} {q:Int} {r:Pa} (h:GJ p.z q=false):cjZ p g q r=r:=by unfold cjZ;rw [h];rfl
theorem af8 {p:Pa} {g:Gt} {q:Int} {r:Pa} (h:GJ p.z q=true):cjZ p g q r=mulR r (xU p.n g q):=by unfold cjZ;rw [h];rfl
theorem YT {gs:List Gt} {k:Nat} {g:Gt} (h:gs[k]?=some g) (ha:(gs.take k).all cL=true) (hc:cL g=true):(gs.take (k+1)).all cL=true:=by
 rw [aS h,qG,ha];simp [hc]
theorem agZ {gs:List Gt} {k:Nat} {g:Gt} (h:gs[k]?=some g) (hc:cL g=false):gs.all cL=false:=by
 rw [Qq];intro ha;have:=lq.1 ha g (lG h);rw [hc] at this
 cases this
theorem wD (A:OA) (n c:Nat) (gs:List Gt) (w:World) (h:Rd w w.heap.size 4 A n (aq gs)) (hn:n<=2000000000000):
  Calls prog 153 #[.slice A n c] w fun e w'=>e=.returned (.bool (gs.all cL))/\Ext w w':=by
 have hlen:=hY (h.len Gt.aG aa);have HR:=hY h;clear h;go_enter func153,ntmps153;go_wp2
 go_loopw [3] (fun iv wr=>∃k:Nat,iv=iI k/\k<=n/\Hid ((gs.take k).all cL=true)/\Hid (Ext w wr)) (fun iv _=>n - (intOf iv).toNat)
 case atStart=>exact ⟨0,rfl,lJ _,rfl,xZ _⟩
 case round=>
  obtain ⟨k,rfl,hk,HQ,HE⟩:=hrel
  by_cases ba:k<n
  ·obtain ⟨b,o,g,rfl,hb,hg,h0,h1,h2,h3⟩:=bT (HR.u.ext HE.u) ba;have HG:=hY hg;have bZ:=hY ba;have et:=wA k aa;have iM:=wB k aa;clear hg;go_wp2_with fail;refine (oz g _).mono ?_;rintro e w3 ⟨rfl,bO⟩;have Uu:Hid (Ext w w3):=HE.u.trans bO;clear bO h0 h1 h2 h3
   cases hc:cL g
   ·have HV:Hid (gs.all cL=false):=agZ HG.u hc;clear hc;go_wp2;go_ret
    exact ⟨aI HV.u.symm,Uu.u⟩
   ·have oH:Hid ((gs.take (k+1)).all cL=true):=YT HG.u HQ.u hc;clear hc;go_wp2;go_roundw
    case rel=>exact ⟨k+1,by first|rfl|rw [et]|rw [iM],oM bZ.u,oH,Uu⟩
    case measure=>simp [intOf,iM];have:=bZ.u;omega
  ·have HV:Hid (gs.all cL=true):=by
    have:=HQ.u;rw [lE bQ] at this
    exact this
   go_wp2;go_ret
   exact ⟨aI HV.u.symm,HE.u⟩
end Go.Proofs.YtodhjgngkkcjgaaGreatDoor
