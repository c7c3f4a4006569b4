import Derived.Test.YtodhjgngkkcjgaaGreatDoorXa
import Derived.Laws.StructEq
namespace Go.Proofs.YtodhjgngkkcjgaaGreatDoor
open Go.ChangeShapes Go.WideShapes Go.ChangeAt Go.RowKit Go.Deep Go.Proofs.Tryz
set_option linter.unusedVariables false
set_option linter.unusedSimpArgs false
set_option maxRecDepth 100000
set_option maxHeartbeats 16000000
def g1 (k a:Int):Gt:=⟨k,a,0,0⟩
def hU (a b:Int):Gt:=⟨9,a,b,0⟩
def dec (g:Gt):List Gt:=
 if (g.k==10)=true then [g1 4 g.b,hU g.a g.b,g1 4 g.b]
 else if (g.k==11)=true then [hU g.a g.b,hU g.b g.a,hU g.a g.b]
 else if (g.k==12)=true then [g1 4 g.c,hU g.b g.c,g1 8 g.c,hU g.a g.c,g1 7 g.c,hU g.b g.c,g1 8 g.c,hU g.a g.c,g1 7 g.b,g1 7 g.c,g1 4 g.c,hU g.a g.b,g1 7 g.a,g1 8 g.b,hU g.a g.b]
 else [g]
theorem abE {g:Gt} (h:(g.k==10)=true):dec g=[g1 4 g.b,hU g.a g.b,g1 4 g.b]:=aY h
theorem QI {g:Gt} (h0:(g.k==10)=false) (h:(g.k==11)=true):dec g=[hU g.a g.b,hU g.b g.a,hU g.a g.b]:=by unfold dec;rw [aM (by simp [h0]),aY h]
theorem abF {g:Gt} (h0:(g.k==10)=false) (h1:(g.k==11)=false) (h:(g.k==12)=true):dec g=[g1 4 g.c,hU g.b g.c,g1 8 g.c,hU g.a g.c,g1 7 g.c,hU g.b g.c,g1 8 g.c,hU g.a g.c]++[g1 7 g.b,g1 7 g.c,g1 4 g.c,hU g.a g.b,g1 7 g.a,g1 8 g.b,hU g.a g.b]:=by unfold dec;rw [aM (by simp [h0]),aM dC,aY h];rfl
theorem abG {g:Gt} (h0:(g.k==10)=false) (h1:(g.k==11)=false) (h2:(g.k==12)=false):dec g=[g]:=by unfold dec;rw [aM (by simp [h0]),aM dC,aM eY]
theorem xz (g:Gt):(dec g).length<=15:=by unfold dec;split<;>(try split)<;>(try split)<;>simp
def hct (g:Gt):Nat:=if (g.k==4)=true then 1 else 0
def mW (gs:List Gt):Nat:=(gs.map hct).sum
theorem wk (g:Gt) (gs:List Gt):mW (g::gs)=hct g+mW gs:=by unfold mW;rw [DL,NA]
theorem VV (gs hs:List Gt):mW (gs++hs)=mW gs+mW hs:=by unfold mW;rw [qF,TS]
theorem abH (g:Gt):hct g<=1:=by unfold hct;split<;>omega
theorem atH (gs:List Gt):mW gs<=gs.length:=by
 induction gs with
 |nil=>exact lI _
 |cons g gs ih=>rw [wk,ki];have:=abH g;omega
theorem abI (gs:List Gt) (g:Gt):mW (gs++[g])=mW gs+hct g:=by rw [VV,wk];rfl
theorem agm (g:Gt):mW (dec g)<=2:=by
 cases h0:(g.k==10)
 ·cases h1:(g.k==11)
  ·cases h2:(g.k==12)
   ·rw [abG h0 h1 h2,wk];have:=abH g;show hct g+0<=2;omega
   ·rw [abF h0 h1 h2];exact lI 2
  ·rw [QI h0 h1];exact lJ 2
 ·rw [abE h0];exact lI 2
theorem aP {w0:World} (a b:Int) (w:World) (hx:Ext w0 w):Calls prog 126 #[iI a,iI b] w fun e w'=>e=.returned (.agg #[iI a,iI b,iI 0,iI 0])/\Ext w0 w':=by
 have H:=hY hx;clear hx;go_enter func126,ntmps126;go_wp2
 exact bJ (v:=.agg #[iI a,iI b,iI 0,iI 0]) (by simp [results,results126,go_sem]) rfl ⟨rfl,H.u.alloc _⟩
theorem dI {w0:World} (a b:Int) (w:World) (hx:Ext w0 w):Calls prog 127 #[iI a,iI b] w fun e w'=>e=.returned (.agg #[iI 9,iI a,iI b,iI 0])/\Ext w0 w':=by
 have H:=hY hx;clear hx;go_enter func127,ntmps127;go_wp2
 exact bJ (v:=.agg #[iI 9,iI a,iI b,iI 0]) (by simp [results,results127,go_sem]) rfl ⟨rfl,H.u.alloc _⟩
theorem kU (g:Gt) (w:World):Calls prog 104 #[g.val] w fun e w'=>∃v,e=.returned v/\w'.ownsRow w.heap.size 39 4 v (dec g).length (aq (dec g))/\Ext w w':=by
 have hx:Ext w (w.alloc (cO (gA g) 39)):=(xZ w).alloc _
 cases h10:(g.k==10)
 ·cases h11:(g.k==11)
  ·cases h12:(g.k==12)
   ·rw [abG h10 h11 h12];go_enter func104,ntmps104;go_wp2_with (first|(go_at_call 126;refine (aP _ _ _ hx).mono ?_;clear hx;rintro e w' ⟨rfl,hx⟩)|(go_at_call 127;refine (dI _ _ _ hx).mono ?_;clear hx;rintro e w' ⟨rfl,hx⟩))
    go_ret
    exact ⟨_,rfl,bS hx _ _ 4 1 (gA g) _ ag rfl rfl aa,hx.alloc _⟩
   ·rw [abF h10 h11 h12];go_enter func104,ntmps104;go_upto_region 11 with ((first|(go_at_call 126;refine (aP _ _ _ hx).mono ?_;clear hx;rintro e w' ⟨rfl,hx⟩)|(go_at_call 127;refine (dI _ _ _ hx).mono ?_;clear hx;rintro e w' ⟨rfl,hx⟩)))
    have ho:=bS hx _ 39 4 8 #[iI 4,iI g.c,iI 0,iI 0,iI 9,iI g.b,iI g.c,iI 0,iI 8,iI g.c,iI 0,iI 0,iI 9,iI g.a,iI g.c,iI 0,iI 7,iI g.c,iI 0,iI 0,iI 9,iI g.b,iI g.c,iI 0,iI 8,iI g.c,iI 0,iI 0,iI 9,iI g.a,iI g.c,iI 0] (aq [g1 4 g.c,hU g.b g.c,g1 8 g.c,hU g.a g.c,g1 7 g.c,hU g.b g.c,g1 8 g.c,hU g.a g.c]) rfl rfl rfl aa;have bz:=xZ (w'.alloc (cO #[iI 4,iI g.c,iI 0,iI 0,iI 9,iI g.b,iI g.c,iI 0,iI 8,iI g.c,iI 0,iI 0,iI 9,iI g.a,iI g.c,iI 0,iI 7,iI g.c,iI 0,iI 0,iI 9,iI g.b,iI g.c,iI 0,iI 8,iI g.c,iI 0,iI 0,iI 9,iI g.a,iI g.c,iI 0] 39));have cD:=hx.alloc (cO #[iI 4,iI g.c,iI 0,iI 0,iI 9,iI g.b,iI g.c,iI 0,iI 8,iI g.c,iI 0,iI 0,iI 9,iI g.a,iI g.c,iI 0,iI 7,iI g.c,iI 0,iI 0,iI 9,iI g.b,iI g.c,iI 0,iI 8,iI g.c,iI 0,iI 0,iI 9,iI g.a,iI g.c,iI 0] 39);clear hx;go_wp2_with (first|(at_builtin;refine dm (w0:=w) rfl _ _ rfl _ 8 [g1 4 g.c,hU g.b g.c,g1 8 g.c,hU g.a g.c,g1 7 g.c,hU g.b g.c,g1 8 g.c,hU g.a g.c] rfl ((aj ho bz).alloc _) ((cD.trans bz).alloc _) _ 7 7 [g1 7 g.b,g1 7 g.c,g1 4 g.c,hU g.a g.b,g1 7 g.a,g1 8 g.b,hU g.a g.b] rfl (eC _ _ _ _ 7 4 _ rfl rD rfl) aa ?_;intro v1 w1 eu aK Be ky)|(go_at_call 126;refine (aP _ _ _ bz).mono ?_;clear bz;rintro e w' ⟨rfl,bz⟩)|(go_at_call 127;refine (dI _ _ _ bz).mono ?_;clear bz;rintro e w' ⟨rfl,bz⟩))
    go_ret
    exact ⟨v1,rfl,eu,aK⟩
  ·rw [QI h10 h11];go_enter func104,ntmps104;go_wp2_with (first|(go_at_call 126;refine (aP _ _ _ hx).mono ?_;clear hx;rintro e w' ⟨rfl,hx⟩)|(go_at_call 127;refine (dI _ _ _ hx).mono ?_;clear hx;rintro e w' ⟨rfl,hx⟩))
   go_ret
   exact ⟨_,rfl,bS hx _ _ 4 3 _ _ rfl (by simp [Gt.cells,hU]) rfl aa,hx.alloc _⟩
 ·rw [abE h10];go_enter func104,ntmps104;go_wp2_with (first|(go_at_call 126;refine (aP _ _ _ hx).mono ?_;clear hx;rintro e w' ⟨rfl,hx⟩)|(go_at_call 127;refine (dI _ _ _ hx).mono ?_;clear hx;rintro e w' ⟨rfl,hx⟩))
  go_ret
  exact ⟨_,rfl,bS hx _ _ _ _ _ _ rfl rD rfl ag,hx.alloc _⟩
structure Oq where
 k:Int
 g:Gt
 q:Int
 bit:Int
 cond:Int
abbrev jE (x:Oq):Array Value:=#[iI x.k,iI x.g.k,iI x.g.a,iI x.g.b,iI x.g.c,iI x.q,iI x.bit,iI x.cond]
def Br (x y:Oq):Bool:=x.k==y.k && FY x.g y.g && x.q==y.q && x.bit==y.bit && x.cond==y.cond
def Oq.ok (x:Oq):Prop:=po x.k/\x.g.ok/\po x.q/\po x.bit/\po x.cond
abbrev Oq.val (x:Oq):Value:=.agg #[iI x.k,iI x.g.k,iI x.g.a,iI x.g.b,iI x.g.c,iI x.q,iI x.bit,iI x.cond]
def Oq.cells (x:Oq):List Value:=[iI x.k,iI x.g.k,iI x.g.a,iI x.g.b,iI x.g.c,iI x.q,iI x.bit,iI x.cond]
abbrev aJ (xs:List Oq):List Value:=xs.flatMap Oq.cells
theorem Oq.aG (x:Oq):x.cells.length=8:=rfl
theorem nB {w:World} {B n i:Nat} {A:OA} {xs:List Oq} (h:Rd w B 8 A n (aJ xs)) (hi:i<n):
  ∃b o x,A=some ⟨b,o,none⟩/\b<B/\xs[i]?=some x/\w.cell? (aA b (o+i*8))=some (iI x.k)/\w.cell? (aA b (o+i*8+1))=some (iI x.g.k)/\w.cell? (aA b (o+i*8+2))=some (iI x.g.a)/\w.cell? (aA b (o+i*8+3))=some (iI x.g.b)/\w.cell? (aA b (o+i*8+4))=some (iI x.g.c)/\w.cell? (aA b (o+i*8+5))=some (iI x.q)/\w.cell? (aA b (o+i*8+6))=some (iI x.bit)/\w.cell? (aA b (o+i*8+7))=some (iI x.cond):=by
 obtain ⟨b,o,x,rfl,hb,hx,hc⟩:=kQ Oq.aG aa h hi
 exact ⟨b,o,x,rfl,hb,hx,hc 0 _ rfl,hc 1 _ rfl,hc 2 _ rfl,hc 3 _ rfl,hc 4 _ rfl,hc 5 _ rfl,hc 6 _ rfl,hc 7 _ rfl⟩
theorem Ug:(prog.info? 41).map (fun i=>(i.zero,i.size,i.bytes))=some (some (.agg #[iI 0,iI 0,iI 0,iI 0,iI 0,iI 0,iI 0,iI 0]),8,64):=af
theorem Oq.one (xs:List Oq):∀u∈aJ xs,u.oneCell'=true:=by
 intro u hu;obtain ⟨x,_,hx⟩:=vN.1 hu;simp [Oq.cells] at hx;rcases hx with rfl|rfl|rfl|rfl|rfl|rfl|rfl|rfl<;>rfl
theorem NU {w0 w:World} {ops:Array Oper} {rest:List Oper} {o:Oper} {a:Act} {Q:Exit->Act->World->Prop} (fX:o.guard=none) (s x:Operand)
  (ho:aO o s x 24) (v:Value) (n:Nat) (xs:List Oq) (hs:a.eval s=v)
  (bj:w.ownsRow w0.heap.size 41 8 v n (aJ xs)) (cD:Ext w0 w) (A:OA) (m c:Nat) (ys:List Oq) (hx:a.eval x=.slice A m c) (hr:Rd w w.heap.size 8 A m (aJ ys)) (hn:n+m<=2000000000000)
  (h:aH w0 w v 41 8 (n+m) (aJ (xs++ys)) (wpList prog ops Q rest) a o):wpList prog ops Q (o::rest) a w:=by
 obtain ⟨i0,hi,fH,iV,kz⟩:=jH Ug
 exact fp fX s x _ ho 41 i0 _ 8 64 underlying24 hi fH iV kz rfl ae ae v n _ hs bj cD A m c _ hx hr (Oq.one ys) hn (fun v' w' h1=>h v' w' (by unfold aJ;rw [lR];exact h1))
theorem NV {w0 w:World} {ops:Array Oper} {o:Oper} {a:Act} {K:Act->World->Prop} {Q:Exit->Act->World->Prop} {E:Prop} (fX:o.guard=none) (s x:Operand)
  (ho:aO o s x 24) (v:Value) (n:Nat) (xs:List Oq) (hs:a.eval s=v)
  (bj:w.ownsRow w0.heap.size 41 8 v n (aJ xs)) (cD:Ext w0 w) (A:OA) (m c:Nat) (ys:List Oq) (hx:a.eval x=.slice A m c) (hr:Rd w w.heap.size 8 A m (aJ ys)) (hn:n+m<=2000000000000)
  (h:aH w0 w v 41 8 (n+m) (aJ (xs++ys)) K a o):if Region.wanted o (yielded ops a.tmps)=true then Oper.wp prog o a w K Q else E:=by
 obtain ⟨i0,hi,fH,iV,kz⟩:=jH Ug
 exact nz fX s x _ ho 41 i0 _ 8 64 underlying24 hi fH iV kz rfl ae ae v n _ hs bj cD A m c _ hx hr (Oq.one ys) hn (fun v' w' h1=>h v' w' (by unfold aJ;rw [lR];exact h1))
theorem GA {w0 w:World} {ops:Array Oper} {rest:List Oper} {o:Oper} {a:Act} {Q:Exit->Act->World->Prop} (fX:o.guard=none) (s x:Operand)
  (ho:aO o s x 24) (v:Value) (n:Nat) (xs:List Oq) (hs:a.eval s=v)
  (bj:w.ownsRow w0.heap.size 41 8 v n (aJ xs)) (cD:Ext w0 w) (y:Oq) (e:TypeId) (b:Nat) (hx:a.eval x=.slice (some ⟨b,0,none⟩) 1 1) (sg:b=w.heap.size) (hn:n<=1800000000000)
  (h:∀v' w',w'.ownsRow w0.heap.size 41 8 v' (n+1) (aJ (xs++[y]))->Ext w0 w'->(w.alloc (cO (jE y) e)).grownBy w' v.ownBlock->(v'.ownBlock=v.ownBlock\/v'.ownBlock=some (w.heap.size+1))->wpList prog ops Q rest (a.put o.dst v') w'):wpList prog ops Q (o::rest) a (w.alloc (cO (jE y) e)):=by
 subst sg;refine NU fX s x ho v n xs hs (bj.alloc _) (cD.alloc _) _ 1 1 [y] hx (dZ w _ e 8 _ eW eW) aa ?_;intro v' w' h1 h2 h3 h4
 exact h v' w' h1 h2 h3 (sU h4)
theorem QJ (x:Oq):Br x x=true:=by simp [Br,abt]
theorem LX:prog.stoodInHeld 39=false:=af
theorem ago:prog.stoodInHeld 41=false:=af
theorem VW:prog.eqGuardType prog.depth 39=false:=af
theorem aiJ:prog.eqGuardType prog.depth 41=false:=af
theorem LY (x y:Gt) (w:World):(Op.equalIn 10000 39 x.val y.val).run prog w=.ok (FY x y) w:=by
 have h1:=LX;unfold FY
 by_cases e1:x.k=y.k<;>by_cases e2:x.a=y.a<;>by_cases e3:x.b=y.b<;>by_cases e4:x.c=y.c<;>(go_simp<;>simp [*])
theorem VX (x y:Oq) (w:World):(Op.equalIn 10000 41 x.val y.val).run prog w=.ok (Br x y) w:=by
 have h1:=LX;have h2:=ago;unfold Br FY;go_simp
 by_cases e0:x.k=y.k<;>by_cases e1:x.g.k=y.g.k<;>by_cases e2:x.g.a=y.g.a<;>by_cases e3:x.g.b=y.g.b<;>by_cases e4:x.g.c=y.g.c<;>by_cases e5:x.q=y.q<;>by_cases e6:x.bit=y.bit<;>by_cases e7:x.cond=y.cond<;>simp [*]
theorem GC {P:Prop} (h:P:=by
 go_wp2;go_quiet (fail);go_wp2;go_roundw
 case rel=>exact ⟨k+1,aa,az,zk,_,rfl⟩
 case measure=>simp [intOf];omega):P:=h
theorem GD (A B:OA) (n m c d:Nat) (xs ys:List Int) (w:World) (h:Rd w w.heap.size 1 A n (aD xs)) (h':Rd w w.heap.size 1 B m (aD ys)) (hn:n<=2000000000000) (hm:m<=2000000000000):
  Calls prog 38 #[.slice A n c,.slice B m d] w fun e w'=>e=.returned (.bool (vY VM xs ys))/\Ext w w':=by
 by_cases QK:n=m
 ·subst QK;go_enter func38,ntmps38;go_wp2
  go_loopw [5] (fun i wr=>∃k:Nat,k<=n/\i=iI k/\Hid (vY VM (xs.take k) (ys.take k)=true)/\∃q,wr=w.drewN q) (fun i _=>n - (intOf i).toNat)
  case atStart=>exact ⟨0,lJ _,rfl,by simp [Hid,vY],0,rfl⟩
  case round=>
   obtain ⟨k,hk,rfl,HQ,q,rfl⟩:=hrel
   by_cases ba:k<n
   ·obtain ⟨b,o,g,rfl,hb,hg,h0⟩:=du h ba;obtain ⟨b',o',g',rfl,rJ,Bc,r0⟩:=du h' ba;have HG:=hY hg;have VJ:=hY Bc;clear hg Bc
    cases hq:VM g g'
    ·have HF:=hY (xu VM HG.u VJ.u hq);have HN:=(show (g !=g')=true from by simpa [VM,bne] using hq);go_wp2;go_quiet (fail);go_wp2;go_ret
     exact ⟨aI HF.u.symm,xx⟩
    ·have HN:=(show (g !=g')=false from by simpa [VM,bne] using hq)
     exact GC
   ·have:k=n:=aa
    subst this;rw [lE (by rw [h.len bG aa];omega),lE (by rw [h'.len bG aa];omega)] at HQ;go_wp2;go_ret
    exact ⟨aI HQ.u.symm,xx⟩
 ·have atI:((n:Int) !=(m:Int))=true:=rC
  have HF:=hY (EY VM xs ys (by rw [h.len bG aa,h'.len bG aa];exact QK));go_enter func38,ntmps38;go_wp2;go_ret
  exact ⟨aI HF.u.symm,xZ _⟩
theorem QL (A B:OA) (n m c d:Nat) (xs ys:List Oq) (w:World) (h:Rd w w.heap.size 8 A n (aJ xs)) (h':Rd w w.heap.size 8 B m (aJ ys)) (hn:n<=2000000000000) (hm:m<=2000000000000):
  Calls prog 37 #[.slice A n c,.slice B m d] w fun e w'=>e=.returned (.bool (vY Br xs ys))/\Ext w w':=by
 by_cases QK:n=m
 ·subst QK;go_enter func37,ntmps37;go_wp2
  go_loopw [5] (fun i wr=>∃k:Nat,k<=n/\i=iI k/\Hid (vY Br (xs.take k) (ys.take k)=true)/\∃q,wr=w.drewN q) (fun i _=>n - (intOf i).toNat)
  case atStart=>exact ⟨0,lJ _,rfl,by simp [Hid,vY],0,rfl⟩
  case round=>
   obtain ⟨k,hk,rfl,HQ,q,rfl⟩:=hrel
   by_cases ba:k<n
   ·obtain ⟨b,o,g,rfl,hb,hg,h0,h1,h2,h3,h4,h5,h6,h7⟩:=nB h ba;obtain ⟨b',o',g',rfl,rJ,Bc,r0,r1,r2,r3,r4,r5,r6,r7⟩:=nB h' ba;have HG:=hY hg;have VJ:=hY Bc;clear hg Bc
    cases hq:Br g g'
    ·have HF:=hY (xu Br HG.u VJ.u hq);have HN:=(show ∀w,(Op.equalIn 10000 41 g.val g'.val).run prog w=.ok false w from fun w=>by rw [VX,hq]);have HE:=aiJ;go_wp2;go_quiet (fail);go_wp2;go_ret
     exact ⟨aI HF.u.symm,xx⟩
    ·have HN:=(show ∀w,(Op.equalIn 10000 41 g.val g'.val).run prog w=.ok true w from fun w=>by rw [VX,hq]);have HE:=aiJ
     exact GC
   ·have:k=n:=aa
    subst this;rw [lE (by rw [h.len Oq.aG aa];omega),lE (by rw [h'.len Oq.aG aa];omega)] at HQ;go_wp2;go_ret
    exact ⟨aI HQ.u.symm,xx⟩
 ·have atI:((n:Int) !=(m:Int))=true:=rC
  have HF:=hY (EY Br xs ys (by rw [h.len Oq.aG aa,h'.len Oq.aG aa];exact QK));go_enter func37,ntmps37;go_wp2;go_ret
  exact ⟨aI HF.u.symm,xZ _⟩
section
variable {α β:Type} {xs:List α} {x:α} {k m:Nat}
theorem akc {f:α->Bool} (h:xs[k]?=some x) (hf:f x=false):xs.all f=false:=by
 rw [FN]
 exact ⟨x,lG h,by simp [hf]⟩
theorem abJ {f:α->Bool} (h:xs[k]?=some x) (hq:(xs.take k).all f=true) (hf:f x=true):(xs.take (k+1)).all f=true:=by
 rw [aS h,qG,hq];simp [hf]
theorem agp (f:α->List β) (h:xs[k]?=some x):(xs.take (k+1)).flatMap f=(xs.take k).flatMap f++f x:=by
 rw [aS h,lR];simp
theorem akd (f:α->List β) (hf:∀x,(f x).length<=m) (xs:List α):(xs.flatMap f).length<=m*xs.length:=by
 induction xs with
 |nil=>simp
 |cons o xs ih=>have:=hf o;rw [jQ,lA,ki,Nat.mul_succ];omega
theorem agq (f:α->List β) (hf:∀x,(f x).length<=m) (xs:List α) (k:Nat):((xs.take k).flatMap f).length<=m*k:=
 lK (akd f hf _) (Nat.mul_le_mul_left _ (qE _ _))
end
def aov {α β:Type} (ok:α->Bool) (f:α->List β) (xs:List α):List β:=if xs.all ok=true then xs.flatMap f else []
theorem ar4 {α β:Type} {ok:α->Bool} {f:α->List β} {xs:List α} (h:xs.all ok=false):aov ok f xs=[]:=aM aZ
theorem aow {α β:Type} {ok:α->Bool} {f:α->List β} {xs:List α} (h:xs.all ok=true):aov ok f xs=xs.flatMap f:=aY h
def YD {α:Type} (T size:Nat) (cells:List α->List Value) (w:World) (ok:Bool) (r:List α) (e:Ending) (w':World):Prop:=∃v,e=.returned (.tuple #[v,.bool ok])/\w'.ownsRow w.heap.size T size v r.length (cells r)/\Ext w w'
theorem YD.mk {α:Type} {T size:Nat} {cells:List α->List Value} {w w':World} {v:Value} {ok b:Bool} {r xs:List α} (hb:ok=b) (hx:r=xs) (ho:w'.ownsRow w.heap.size T size v xs.length (cells xs)) (hw:Ext w w'):YD T size cells w ok r (.returned (.tuple #[v,.bool b])) w':=by
 subst hb hx;exact ⟨v,rfl,ho,hw⟩
def gop (c:Int) (g:Gt):Oq:=⟨1,g,0,0,c⟩
def nU (gs:List Gt) (c:Int):List Oq:=gs.map (gop c)
theorem YE {gs:List Gt} {k:Nat} {g:Gt} (c:Int) (h:gs[k]?=some g):nU (gs.take (k+1)) c=nU (gs.take k) c++[gop c g]:=by
 unfold nU;rw [aS h];simp
theorem kV (gs:List Gt) (c:Int):(nU gs c).length=gs.length:=by simp [nU]
theorem YF (gs:List Gt) (c:Int) (k:Nat):(nU (gs.take k) c).length<=k:=by rw [kV];exact qE _ _
theorem zH {P:Prop} (h:P:=by
 rw [lE bQ] at bj;go_wp2;go_ret
 exact ⟨_,rfl,bj,hx⟩):P:=h
theorem GF {P:Prop} (h:P:=by
 go_roundw
 case rel=>exact ⟨k+1,aa,az,by rw [HS.u,lA];exact ox,aK⟩
 case measure=>simp [intOf];omega):P:=h
theorem mA (A:OA) (n c:Nat) (gs:List Gt) (q:Int) (w:World) (h:Rd w w.heap.size 4 A n (aq gs)) (hn:n<=200000000000):
  Calls prog 103 #[.slice A n c,iI q] w fun e w'=>∃v,e=.returned v/\w'.ownsRow w.heap.size 41 8 v (nU gs q).length (aJ (nU gs q))/\Ext w w':=by
 have hlen:=hY (h.len Gt.aG aa);go_enter func103,ntmps103;go_wp2
 go_loopw [5,6] (fun v i wr=>∃k:Nat,k<=n/\i=iI k/\wr.ownsRow w.heap.size 41 8 v (nU (gs.take k) q).length (aJ (nU (gs.take k) q))/\Ext w wr) (fun _ i _=>n - (intOf i).toNat)
 case atStart=>exact ⟨0,lJ _,rfl,aN w w _ _ (xZ _),xx⟩
 case round=>
  obtain ⟨k,hk,rfl,bj,hx⟩:=hrel
  by_cases ba:k<n
  ·obtain ⟨b,o,x,rfl,hb,hg,h0,h1,h2,h3⟩:=bT (h.ext hx) ba;have HS:=hY (YE q hg);clear hg;have hle:=YF gs q k;go_wp2_with (at_builtin;refine GA rfl _ _ rfl _ _ (nU (gs.take k) q) rfl bj hx (gop q x) _ _ rfl rfl aa ?_;intro v1 w1 ox aK Be ky)
   exact GF
  ·exact zH
structure Cm where
 n:Int
 bits:Int
 ops:List Oq
 st:List Int
 fin:List Int
def tr (w:World) (B:Nat) (v:Value) (x:Cm):Prop:=
 ∃(A1 A2 A3:OA) (c1 c2 c3:Nat),v=.agg #[iI x.n,iI x.bits,.slice A1 x.ops.length c1,.slice A2 x.st.length c2,.slice A3 x.fin.length c3]/\Rd w B 8 A1 x.ops.length (aJ x.ops)/\Rd w B 1 A2 x.st.length (aD x.st)/\Rd w B 1 A3 x.fin.length (aD x.fin)
def GG (w:World) (b0 b1 b2 b3:Nat) (v:Value) (x:Cm):Prop:=
 ∃(A1 A2 A3:OA) (c1 c2 c3:Nat),v=.agg #[iI x.n,iI x.bits,.slice A1 x.ops.length c1,.slice A2 x.st.length c2,.slice A3 x.fin.length c3]/\w.ownsRow b0 41 8 (.slice A1 x.ops.length c1) x.ops.length (aJ x.ops)/\(∀g,(Value.slice A1 x.ops.length c1).ownBlock=some g->g<b1)/\w.ownsRow b1 3 1 (.slice A2 x.st.length c2) x.st.length (aD x.st)/\(∀g,(Value.slice A2 x.st.length c2).ownBlock=some g->g<b2)/\w.ownsRow b2 3 1 (.slice A3 x.fin.length c3) x.fin.length (aD x.fin)/\(∀g,(Value.slice A3 x.fin.length c3).ownBlock=some g->g<b3)
theorem tr.up {w w':World} {B:Nat} {v:Value} {x:Cm} (h:tr w B v x) (hx:Ext w w') (hB:B<=w.heap.size):tr w' B v x:=by
 obtain ⟨A1,A2,A3,c1,c2,c3,hv,h1,h2,h3⟩:=h
 exact ⟨A1,A2,A3,c1,c2,c3,hv,h1.up hx hB,h2.up hx hB,h3.up hx hB⟩
theorem tr.more {w:World} {B B':Nat} {v:Value} {x:Cm} (h:tr w B v x) (hB:B<=B'):tr w B' v x:=by
 obtain ⟨A1,A2,A3,c1,c2,c3,hv,h1,h2,h3⟩:=h
 exact ⟨A1,A2,A3,c1,c2,c3,hv,h1.more hB,h2.more hB,h3.more hB⟩
theorem tr.grown {w w':World} {B:Nat} {v:Value} {x:Cm} {row:Option Nat} (h:tr w B v x) (hg:w.grownBy w' row) (hB:B<=w.heap.size) (hr:∀g,row=some g->B<=g):tr w' B v x:=by
 obtain ⟨A1,A2,A3,c1,c2,c3,hv,h1,h2,h3⟩:=h
 exact ⟨A1,A2,A3,c1,c2,c3,hv,h1.grown hg hB hr,h2.grown hg hB hr,h3.grown hg hB hr⟩
theorem GG.at_ {w:World} {b0 b1 b2 b3:Nat} {v:Value} {x:Cm} (h:GG w b0 b1 b2 b3 v x):tr w w.heap.size v x:=by
 obtain ⟨A1,A2,A3,c1,c2,c3,hv,h1,l1,h2,l2,h3,l3⟩:=h
 exact ⟨A1,A2,A3,c1,c2,c3,hv,Rd.own h1,Rd.own h2,Rd.own h3⟩
theorem GG.ext {w w':World} {b0 b1 b2 b3:Nat} {v:Value} {x:Cm} (h:GG w b0 b1 b2 b3 v x) (hx:Ext w w'):GG w' b0 b1 b2 b3 v x:=by
 obtain ⟨A1,A2,A3,c1,c2,c3,hv,h1,l1,h2,l2,h3,l3⟩:=h
 exact ⟨A1,A2,A3,c1,c2,c3,hv,aj h1 hx,l1,aj h2 hx,l2,aj h3 hx,l3⟩
def Cm.small (x:Cm):Prop:=x.ops.length<=1048576/\x.st.length<=1048576/\x.fin.length<=1048576
def zB (x y:Cm):Bool:=(x.n==y.n) && (x.bits==y.bits) && (vY Br x.ops y.ops) && (vY VM x.st y.st) && (vY VM x.fin y.fin)
theorem YG (x:Cm):zB x x=true:=by
 unfold zB;simp [sf VM abr,sf Br QJ]
theorem Uh:prog.cellsOf 25=1:=af
def Cm.ok (x:Cm):Prop:=po x.n/\po x.bits/\x.ops.length<=maxLen/\(∀g∈x.ops,g.ok)/\x.st.length<=maxLen/\(∀g∈x.st,po g)/\x.fin.length<=maxLen/\(∀g∈x.fin,po g)
def aE (xs:List Oq):List Gt:=(xs.filter fun o=>o.k==1).map Oq.g
theorem QM {xs:List Oq} {k:Nat} {o:Oq} (h:xs[k]?=some o) (hk:(o.k==1)=true):aE (xs.take (k+1))=aE (xs.take k)++[o.g]:=by
 unfold aE;rw [aS h];simp [FK,hk]
theorem GH {xs:List Oq} {k:Nat} {o:Oq} (h:xs[k]?=some o) (hk:(o.k==1)=false):aE (xs.take (k+1))=aE (xs.take k):=by
 unfold aE;rw [aS h];simp [FK,hk]
theorem QN (xs:List Oq) (k:Nat):(aE (xs.take k)).length<=k:=by
 unfold aE;rw [jK]
 exact lK (List.length_filter_le _ _) (qE _ _)
theorem mB (A:OA) (n c:Nat) (xs:List Oq) (w:World) (h:Rd w w.heap.size 8 A n (aJ xs)) (hn:n<=200000000000):
  Calls prog 86 #[.slice A n c] w fun e w'=>∃v,e=.returned v/\w'.ownsRow w.heap.size 39 4 v (aE xs).length (aq (aE xs))/\Ext w w':=by
 have hlen:=hY (h.len Oq.aG aa);go_enter func86,ntmps86;go_wp2
 go_loopw [3,4] (fun v i wr=>∃k:Nat,k<=n/\i=iI k/\wr.ownsRow w.heap.size 39 4 v (aE (xs.take k)).length (aq (aE (xs.take k)))/\Ext w wr) (fun _ i _=>n - (intOf i).toNat)
 case atStart=>exact ⟨0,lJ _,rfl,aN w w _ _ (xZ _),xx⟩
 case round=>
  obtain ⟨k,hk,rfl,bj,hx⟩:=hrel
  by_cases ba:k<n
  ·obtain ⟨b,o,x,rfl,hb,hg,h0,h1,h2,h3,h4,h5,h6,h7⟩:=nB (h.ext hx) ba;have HG:=hY hg;clear hg;have hle:=QN xs k
   cases et:(x.k==1)
   ·have HS:=hY (GH HG.u et);go_wp2;go_roundw
    case rel=>exact ⟨k+1,aa,az,by rw [HS.u];exact bj,hx⟩
    case measure=>simp [intOf];omega
   ·have HS:=hY (QM HG.u et);go_wp2_with (at_builtin;refine fJ rfl _ _ rfl _ _ (aE (xs.take k)) rfl bj hx x.g _ _ rfl rfl aa ?_;intro v1 w1 ox aK Be ky)
    exact GF
  ·exact zH
def Bx (o:Oq):List Oq:=if (o.k==1)=true then nU (dec o.g) o.cond else if (o.k==3)=true then [] else [o]
def br (xs:List Oq):List Oq:=xs.flatMap Bx
theorem QO {xs:List Oq} {k:Nat} {o:Oq} (h:xs[k]?=some o):br (xs.take (k+1))=br (xs.take k)++Bx o:=by
 unfold br;rw [aS h,lR];simp
theorem abK (o:Oq):(Bx o).length<=15:=by
 unfold Bx;split
 ·rw [kV];exact xz _
 ·split<;>simp
theorem Ui (xs:List Oq):(br xs).length<=15*xs.length:=by
 unfold br
 induction xs with
 |nil=>simp
 |cons o xs ih=>have:=abK o;rw [jQ,lA,ki];omega
theorem QP (xs:List Oq) (k:Nat):(br (xs.take k)).length<=15*k:=by
 have h1:=Ui (xs.take k);have h2:(xs.take k).length<=k:=qE _ _;omega
theorem ake {o:Oq} (h:(o.k==1)=true):Bx o=nU (dec o.g) o.cond:=aY h
theorem akf {o:Oq} (h:(o.k==1)=false) (h3:(o.k==3)=true):Bx o=[]:=by unfold Bx;rw [aM aZ,aY h3]
theorem akg {o:Oq} (h:(o.k==1)=false) (h3:(o.k==3)=false):Bx o=[o]:=by unfold Bx;rw [aM aZ,aM (by simp [h3])]
theorem mi (A:OA) (n c:Nat) (xs:List Oq) (w:World) (h:Rd w w.heap.size 8 A n (aJ xs)) (hn:n<=100000000000):
  Calls prog 83 #[.slice A n c] w fun e w'=>∃v,e=.returned v/\w'.ownsRow w.heap.size 41 8 v (br xs).length (aJ (br xs))/\Ext w w':=by
 have hlen:=hY (h.len Oq.aG aa);go_enter func83,ntmps83;go_wp2
 go_loopw [3,4] (fun v i wr=>∃k:Nat,k<=n/\i=iI k/\wr.ownsRow w.heap.size 41 8 v (br (xs.take k)).length (aJ (br (xs.take k)))/\Ext w wr) (fun _ i _=>n - (intOf i).toNat)
 case atStart=>exact ⟨0,lJ _,rfl,aN w w _ _ (xZ _),xx⟩
 case round=>
  obtain ⟨k,hk,rfl,bj,hx⟩:=hrel
  by_cases ba:k<n
  ·obtain ⟨b,o,x,rfl,hb,hg,r0,r1,r2,r3,r4,r5,r6,r7⟩:=nB h ba;have HS:=hY (QO hg);clear hg;have hle:=QP xs k;have KP:=xz x.g;have HK:Hid (∀w',Ext w w'->w'.cell? (aA b (o+k*8))=some (iI x.k)/\w'.cell? (aA b (o+k*8+1))=some (iI x.g.k)/\w'.cell? (aA b (o+k*8+2))=some (iI x.g.a)/\w'.cell? (aA b (o+k*8+3))=some (iI x.g.b)/\w'.cell? (aA b (o+k*8+4))=some (iI x.g.c)/\w'.cell? (aA b (o+k*8+5))=some (iI x.q)/\w'.cell? (aA b (o+k*8+6))=some (iI x.bit)/\w'.cell? (aA b (o+k*8+7))=some (iI x.cond)):=
    fun w' sr=>⟨(sr.cell (p:=(aA b (o+k*8))) hb).trans r0,(sr.cell (p:=(aA b (o+k*8+1))) hb).trans r1,(sr.cell (p:=(aA b (o+k*8+2))) hb).trans r2,(sr.cell (p:=(aA b (o+k*8+3))) hb).trans r3,(sr.cell (p:=(aA b (o+k*8+4))) hb).trans r4,(sr.cell (p:=(aA b (o+k*8+5))) hb).trans r5,(sr.cell (p:=(aA b (o+k*8+6))) hb).trans r6,(sr.cell (p:=(aA b (o+k*8+7))) hb).trans r7⟩
   clear r0 r1 r2 r3 r4 r5 r6 r7;obtain ⟨h0,h1,h2,h3,h4,h5,h6,h7⟩:=HK.u wr hx;have lu:(0:Int)<=(k:Int):=aa
   have et:(k:Int)<(n:Int):=aa
   cases et:(x.k==1)
   ·cases Qt:(x.k==3)
    ·have HD:=hY (akg et Qt);go_wp2_with (at_builtin;refine GA rfl _ _ rfl _ _ (br (xs.take k)) rfl bj hx x _ _ rfl rfl aa ?_;intro v1 w1 ox aK Be ky)
     go_roundw
     case rel=>exact ⟨k+1,aa,az,by rw [HS.u,HD.u,lA];exact ox,aK⟩
     case measure=>simp [intOf];omega
    ·have HD:=hY (akf et Qt);go_wp2;go_roundw
     case rel=>exact ⟨k+1,aa,az,by rw [HS.u,HD.u,yt];exact bj,hx⟩
     case measure=>simp [intOf];omega
   ·have HD:=hY (ake et);have di:=kV (dec x.g) x.cond;have HL:=hY di;clear di;go_wp2
    go_region_held3 (fun w'=>w'.cell? (aA b (o+k*8))=some (iI x.k)/\w'.cell? (aA b (o+k*8+1))=some (iI x.g.k)/\w'.cell? (aA b (o+k*8+2))=some (iI x.g.a)/\w'.cell? (aA b (o+k*8+3))=some (iI x.g.b)/\w'.cell? (aA b (o+k*8+4))=some (iI x.g.c)/\w'.cell? (aA b (o+k*8+5))=some (iI x.q)/\w'.cell? (aA b (o+k*8+6))=some (iI x.bit)/\w'.cell? (aA b (o+k*8+7))=some (iI x.cond))
     (first|go_keep|exact HK.u _ aL)
     (first
      |(go_at_call 104;refine (kU x.g _).mono ?_;rintro e w1 ⟨v1,rfl,eu,aK⟩;have iV:Ext w w1:=Ext.trans hx.drew aK;have dw:Ext wr w1:=Ext.trans (xZ wr).drew aK;obtain ⟨A1,c1,rfl,kG⟩:=ak eu)
      |(go_at_call 103;refine (mA A1 _ c1 (dec x.g) x.cond _ kG aa).mono ?_;rintro e w2 ⟨v2,rfl,fg,bz⟩;have kz:Ext w w2:=Ext.trans iV bz;obtain ⟨A2,c2,rfl,jk⟩:=ak fg)
      |(refine NV (w0:=w) ah _ _ ah _ _ (br (xs.take k)) ah (aj (aj bj dw) bz) kz A2 _ c2 (nU (dec x.g) x.cond) ah jk mZ ?_;intro v3 w3 ie hz3 KS iP))
    go_wp2;go_roundw
    case rel=>exact ⟨k+1,aa,az,by rw [HS.u,HD.u,lA];exact ie,hz3⟩
    case measure=>simp [intOf];omega
  ·exact zH
structure Rt where
 n:Int
 Lh:Int
 bits:Int
 ops:List Oq
def Li (w:World) (B:Nat) (v:Value) (x:Rt):Prop:=
 ∃(A1:OA) (c1:Nat),v=.agg #[iI x.n,iI x.Lh,iI x.bits,.slice A1 x.ops.length c1]/\Rd w B 8 A1 x.ops.length (aJ x.ops)
def QQ (w:World) (b0 b1:Nat) (v:Value) (x:Rt):Prop:=
 ∃(A1:OA) (c1:Nat),v=.agg #[iI x.n,iI x.Lh,iI x.bits,.slice A1 x.ops.length c1]/\w.ownsRow b0 41 8 (.slice A1 x.ops.length c1) x.ops.length (aJ x.ops)/\(∀g,(Value.slice A1 x.ops.length c1).ownBlock=some g->g<b1)
theorem Li.up {w w':World} {B:Nat} {v:Value} {x:Rt} (h:Li w B v x) (hx:Ext w w') (hB:B<=w.heap.size):Li w' B v x:=by
 obtain ⟨A1,c1,hv,h1⟩:=h
 exact ⟨A1,c1,hv,h1.up hx hB⟩
theorem Li.more {w:World} {B B':Nat} {v:Value} {x:Rt} (h:Li w B v x) (hB:B<=B'):Li w B' v x:=by
 obtain ⟨A1,c1,hv,h1⟩:=h
 exact ⟨A1,c1,hv,h1.more hB⟩
theorem Li.grown {w w':World} {B:Nat} {v:Value} {x:Rt} {row:Option Nat} (h:Li w B v x) (hg:w.grownBy w' row) (hB:B<=w.heap.size) (hr:∀g,row=some g->B<=g):Li w' B v x:=by
 obtain ⟨A1,c1,hv,h1⟩:=h
 exact ⟨A1,c1,hv,h1.grown hg hB hr⟩
theorem QQ.at_ {w:World} {b0 b1:Nat} {v:Value} {x:Rt} (h:QQ w b0 b1 v x):Li w w.heap.size v x:=by
 obtain ⟨A1,c1,hv,h1,l1⟩:=h
 exact ⟨A1,c1,hv,Rd.own h1⟩
theorem QQ.ext {w w':World} {b0 b1:Nat} {v:Value} {x:Rt} (h:QQ w b0 b1 v x) (hx:Ext w w'):QQ w' b0 b1 v x:=by
 obtain ⟨A1,c1,hv,h1,l1⟩:=h
 exact ⟨A1,c1,hv,aj h1 hx,l1⟩
def Rt.small (x:Rt):Prop:=x.ops.length<=1048576
def aox (x y:Rt):Bool:=(x.n==y.n) && (x.Lh==y.Lh) && (x.bits==y.bits) && (vY Br x.ops y.ops)
theorem ana (x:Rt):aox x x=true:=by
 unfold aox;simp [sf Br QJ]
def Rt.ok (x:Rt):Prop:=po x.n/\po x.Lh/\po x.bits/\x.ops.length<=maxLen/\(∀g∈x.ops,g.ok)
theorem tu {P:Prop} (h:P:=by
 go_wp2;go_ret
 exact ⟨aI HE.u.symm,hy⟩):P:=h
theorem tx (v u:Value) (x y:Cm) (w:World) (h:tr w w.heap.size v x) (h':tr w w.heap.size u y) (hs:x.ops.length<=2000000000000/\y.ops.length<=2000000000000/\x.st.length<=2000000000000/\y.st.length<=2000000000000/\x.fin.length<=2000000000000/\y.fin.length<=2000000000000):
  Calls prog 13 #[v,u] w fun e w'=>e=.returned (.bool (zB x y))/\Ext w w':=by
 obtain ⟨A1,A2,A3,c1,c2,c3,rfl,h1,h2,h3⟩:=h;obtain ⟨B1,B2,B3,d1,d2,d3,rfl,r1,r2,r3⟩:=h';obtain ⟨s1,t1,s2,t2,s3,t3⟩:=hs;go_enter func13,ntmps13
 cases i0:(x.n==y.n)
 ·have HE:Hid (zB x y=false):=by unfold Hid zB;rw [i0]<;>simp
  have j0:(x.n !=y.n)=true:=by simp [bne,i0]
  go_wp2;go_ret
  exact ⟨aI HE.u.symm,aw⟩
 have j0:(x.n !=y.n)=false:=by simp [bne,i0]
 cases i1:(x.bits==y.bits)
 ·have HE:Hid (zB x y=false):=by unfold Hid zB;rw [i0,i1]<;>simp
  have j1:(x.bits !=y.bits)=true:=by simp [bne,i1]
  go_wp2;go_ret
  exact ⟨aI HE.u.symm,aw⟩
 have j1:(x.bits !=y.bits)=false:=by simp [bne,i1]
 go_wp2_with fail;refine (QL A1 B1 _ _ c1 d1 x.ops y.ops _ (h1.ext aw) (r1.ext aw) s1 t1).mono ?_;rintro e w1 ⟨rfl,aK⟩;have bx:au w1 w.heap.size 27 #[iI x.n,iI x.bits,.slice A1 x.ops.length c1,.slice A2 x.st.length c2,.slice A3 x.fin.length c3]:=((au.new w _ _).alloc _).ext aK;have by_:au w1 (w.heap.size+1) 27 #[iI y.n,iI y.bits,.slice B1 y.ops.length d1,.slice B2 y.st.length d2,.slice B3 y.fin.length d3]:=(au.newAt (b:=w.heap.size+1) (by first|omega|(simp;done)|(simp;omega))).ext aK;have hy:Ext w w1:=Ext.trans aw aK;have azZ:=bx.ck 3;have az0:=by_.ck 3;have az1:=bx.ck 4;have az2:=by_.ck 4
 cases i2:vY Br x.ops y.ops
 ·have HE:Hid (zB x y=false):=by unfold Hid zB;rw [i0,i1,i2]<;>simp
  exact tu
 go_wp2_with fail;refine (GD A2 B2 _ _ c2 d2 x.st y.st _ (h2.ext hy) (r2.ext hy) s2 t2).mono ?_;rintro e w2 ⟨rfl,bz⟩;replace bx:=bx.ext bz;replace by_:=by_.ext bz;replace hy:=hy.trans bz;have az3:=bx.ck 4;have az4:=by_.ck 4
 cases i3:vY VM x.st y.st
 ·have HE:Hid (zB x y=false):=by unfold Hid zB;rw [i0,i1,i2,i3]<;>simp
  exact tu
 go_wp2_with fail;refine (GD A3 B3 _ _ c3 d3 x.fin y.fin _ (h3.ext hy) (r3.ext hy) s3 t3).mono ?_;rintro e w3 ⟨rfl,bO⟩;replace bx:=bx.ext bO;replace by_:=by_.ext bO;replace hy:=hy.trans bO
 cases i4:vY VM x.fin y.fin
 ·have HE:Hid (zB x y=false):=zj
  exact tu
 have HE:Hid (zB x y=true):=zj
 exact tu
end Go.Proofs.YtodhjgngkkcjgaaGreatDoor
