import Derived.Test.YtiajdbllccmokaaGreatDoorXa
import Derived.Laws.StructEq
namespace Go.Proofs.YtiajdbllccmokaaGreatDoor
open Go.ChangeShapes Go.WideShapes Go.ChangeAt Go.RowKit Go.Deep Go.Proofs.Tryz
set_option linter.unusedVariables false
set_option linter.unusedSimpArgs false
set_option maxRecDepth 100000
set_option maxHeartbeats 16000000
structure Gt where
 k:Int
 a:Int
 b:Int
 c:Int
abbrev gA (x:Gt):Array Value:=#[iI x.k,iI x.a,iI x.b,iI x.c]
def Gn (x y:Gt):Bool:=x.k==y.k && x.a==y.a && x.b==y.b && x.c==y.c
def Gt.ok (g:Gt):Prop:=ob g.k/\ob g.a/\ob g.b/\ob g.c
abbrev Gt.val (x:Gt):Value:=.agg #[iI x.k,iI x.a,iI x.b,iI x.c]
def Gt.cells (x:Gt):List Value:=[iI x.k,iI x.a,iI x.b,iI x.c]
abbrev ak (xs:List Gt):List Value:=xs.flatMap Gt.cells
theorem Gt.aE (x:Gt):x.cells.length=4:=rfl
theorem bE {w:World} {B n i:Nat} {A:OA} {xs:List Gt} (h:Rd w B 4 A n (ak xs)) (hi:i<n):
  ∃b o x,A=some ⟨b,o,none⟩/\b<B/\xs[i]?=some x/\w.cell? (aA b (o+i*4))=some (iI x.k)/\w.cell? (aA b (o+i*4+1))=some (iI x.a)/\w.cell? (aA b (o+i*4+2))=some (iI x.b)/\w.cell? (aA b (o+i*4+3))=some (iI x.c):=by
 obtain ⟨b,o,x,rfl,hb,hx,hc⟩:=jO Gt.aE aa h hi
 exact ⟨b,o,x,rfl,hb,hx,hc 0 _ rfl,hc 1 _ rfl,hc 2 _ rfl,hc 3 _ rfl⟩
theorem KJ:(prog.info? 54).map (fun i=>(i.zero,i.size,i.bytes))=some (some (.agg zO),4,32):=af
theorem Gt.one (xs:List Gt):∀u∈ak xs,u.oneCell'=true:=by
 intro u hu;obtain ⟨x,_,hx⟩:=sH.1 hu;simp [Gt.cells] at hx;rcases hx with rfl|rfl|rfl|rfl<;>rfl
theorem cU {w0 w:World} {ops:Array Oper} {rest:List Oper} {o:Oper} {a:Act} {Q:Exit->Act->World->Prop} (fx:o.guard=none) (s x:Operand)
  (ho:aO o s x 37) (v:Value) (n:Nat) (xs:List Gt) (hs:a.eval s=v)
  (bc:w.ownsRow w0.heap.size 54 4 v n (ak xs)) (cH:Ext w0 w) (A:OA) (m c:Nat) (ys:List Gt) (hx:a.eval x=.slice A m c) (hr:Rd w w.heap.size 4 A m (ak ys)) (hn:n+m<=2000000000000)
  (h:aH w0 w v 54 4 (n+m) (ak (xs++ys)) (wpList prog ops Q rest) a o):wpList prog ops Q (o::rest) a w:=by
 obtain ⟨i0,hi,eX,gX,jK⟩:=iF KJ
 exact eL fx s x _ ho 54 i0 _ 4 32 underlying37 hi eX gX jK rfl ae ae v n _ hs bc cH A m c _ hx hr (Gt.one ys) hn (fun v' w' h1=>h v' w' (by unfold ak;rw [lR];exact h1))
theorem eE {w0 w:World} {ops:Array Oper} {o:Oper} {a:Act} {K:Act->World->Prop} {Q:Exit->Act->World->Prop} {E:Prop} (fx:o.guard=none) (s x:Operand)
  (ho:aO o s x 37) (v:Value) (n:Nat) (xs:List Gt) (hs:a.eval s=v)
  (bc:w.ownsRow w0.heap.size 54 4 v n (ak xs)) (cH:Ext w0 w) (A:OA) (m c:Nat) (ys:List Gt) (hx:a.eval x=.slice A m c) (hr:Rd w w.heap.size 4 A m (ak ys)) (hn:n+m<=2000000000000)
  (h:aH w0 w v 54 4 (n+m) (ak (xs++ys)) K a o):if Region.wanted o (yielded ops a.tmps)=true then Oper.wp prog o a w K Q else E:=by
 obtain ⟨i0,hi,eX,gX,jK⟩:=iF KJ
 exact kT fx s x _ ho 54 i0 _ 4 32 underlying37 hi eX gX jK rfl ae ae v n _ hs bc cH A m c _ hx hr (Gt.one ys) hn (fun v' w' h1=>h v' w' (by unfold ak;rw [lR];exact h1))
theorem er {w0 w:World} {ops:Array Oper} {rest:List Oper} {o:Oper} {a:Act} {Q:Exit->Act->World->Prop} (fx:o.guard=none) (s x:Operand)
  (ho:aO o s x 37) (v:Value) (n:Nat) (xs:List Gt) (hs:a.eval s=v)
  (bc:w.ownsRow w0.heap.size 54 4 v n (ak xs)) (cH:Ext w0 w) (y:Gt) (e:TypeId) (b:Nat) (hx:a.eval x=.slice (some ⟨b,0,none⟩) 1 1) (qc:b=w.heap.size) (hn:n<=1800000000000)
  (h:∀v' w',w'.ownsRow w0.heap.size 54 4 v' (n+1) (ak (xs++[y]))->Ext w0 w'->(w.alloc (cO (gA y) e)).grownBy w' v.ownBlock->(v'.ownBlock=v.ownBlock\/v'.ownBlock=some (w.heap.size+1))->wpList prog ops Q rest (a.put o.dst v') w'):wpList prog ops Q (o::rest) a (w.alloc (cO (gA y) e)):=by
 subst qc;refine cU fx s x ho v n xs hs (bc.alloc _) (cH.alloc _) _ 1 1 [y] hx (eh w _ e 4 _ dT dT) aa ?_;intro v' w' h1 h2 h3 h4
 exact h v' w' h1 h2 h3 (sU h4)
theorem UA (x:Gt):Gn x x=true:=by simp [Gn]
def g1 (k a:Int):Gt:=⟨k,a,0,0⟩
def fL (a b:Int):Gt:=⟨9,a,b,0⟩
def dec (g:Gt):List Gt:=
 if (g.k==10)=true then [g1 4 g.b,fL g.a g.b,g1 4 g.b]
 else if (g.k==11)=true then [fL g.a g.b,fL g.b g.a,fL g.a g.b]
 else if (g.k==12)=true then [g1 4 g.c,fL g.b g.c,g1 8 g.c,fL g.a g.c,g1 7 g.c,fL g.b g.c,g1 8 g.c,fL g.a g.c,g1 7 g.b,g1 7 g.c,g1 4 g.c,fL g.a g.b,g1 7 g.a,g1 8 g.b,fL g.a g.b]
 else [g]
theorem Gq {g:Gt} (h:(g.k==10)=true):dec g=[g1 4 g.b,fL g.a g.b,g1 4 g.b]:=aX h
theorem xH {g:Gt} (h0:(g.k==10)=false) (h:(g.k==11)=true):dec g=[fL g.a g.b,fL g.b g.a,fL g.a g.b]:=by unfold dec;rw [aK (by simp [h0]),aX h]
theorem Gs {g:Gt} (h0:(g.k==10)=false) (h1:(g.k==11)=false) (h:(g.k==12)=true):dec g=[g1 4 g.c,fL g.b g.c,g1 8 g.c,fL g.a g.c,g1 7 g.c,fL g.b g.c,g1 8 g.c,fL g.a g.c]++[g1 7 g.b,g1 7 g.c,g1 4 g.c,fL g.a g.b,g1 7 g.a,g1 8 g.b,fL g.a g.b]:=by unfold dec;rw [aK (by simp [h0]),aK dU,aX h];rfl
theorem FJ {g:Gt} (h0:(g.k==10)=false) (h1:(g.k==11)=false) (h2:(g.k==12)=false):dec g=[g]:=by unfold dec;rw [aK (by simp [h0]),aK dU,aK fp]
theorem mA (g:Gt):(dec g).length<=15:=by unfold dec;split<;>(try split)<;>(try split)<;>simp
def hct (g:Gt):Nat:=if (g.k==4)=true then 1 else 0
def mH (gs:List Gt):Nat:=(gs.map hct).sum
theorem sL (g:Gt) (gs:List Gt):mH (g::gs)=hct g+mH gs:=by unfold mH;rw [KB,Ul]
theorem PT (gs hs:List Gt):mH (gs++hs)=mH gs+mH hs:=by unfold mH;rw [mf,Cc]
theorem UB (g:Gt):hct g<=1:=by unfold hct;split<;>omega
theorem anA (gs:List Gt):mH gs<=gs.length:=by
 induction gs with
 |nil=>exact lI _
 |cons g gs ih=>rw [sL,ij];have:=UB g;omega
theorem UC (gs:List Gt) (g:Gt):mH (gs++[g])=mH gs+hct g:=by rw [PT,sL];rfl
theorem ZR (g:Gt):mH (dec g)<=2:=by
 cases h0:(g.k==10)
 ·cases h1:(g.k==11)
  ·cases h2:(g.k==12)
   ·rw [FJ h0 h1 h2,sL];have:=UB g;show hct g+0<=2;omega
   ·rw [Gs h0 h1 h2];exact lI 2
  ·rw [xH h0 h1];exact lJ 2
 ·rw [Gq h0];exact lI 2
theorem aM {w0:World} (a b:Int) (w:World) (hx:Ext w0 w):Calls prog 58 #[iI a,iI b] w fun e w'=>e=.returned (.agg #[iI a,iI b,iI 0,iI 0])/\Ext w0 w':=by
 have H:=hY hx;clear hx;go_enter func58,ntmps58;go_wp2
 exact bR (v:=.agg #[iI a,iI b,iI 0,iI 0]) (by simp [results,results58,go_sem]) rfl ⟨rfl,H.u.alloc _⟩
theorem dA {w0:World} (a b:Int) (w:World) (hx:Ext w0 w):Calls prog 59 #[iI a,iI b] w fun e w'=>e=.returned (.agg #[iI 9,iI a,iI b,iI 0])/\Ext w0 w':=by
 have H:=hY hx;clear hx;go_enter func59,ntmps59;go_wp2
 exact bR (v:=.agg #[iI 9,iI a,iI b,iI 0]) (by simp [results,results59,go_sem]) rfl ⟨rfl,H.u.alloc _⟩
theorem Cg {P:Prop} (h:P:=by
 go_ret
 exact ⟨_,rfl,bL hx _ _ 4 1 (gA g) _ ag rfl rfl aa,hx.alloc _⟩):P:=h
theorem Ch {P:Prop} (h:P:=by
 go_ret
 exact ⟨_,rfl,bL hx _ _ 4 3 _ _ rfl (by simp [Gt.cells,fL]) rfl aa,hx.alloc _⟩):P:=h
theorem jP (g:Gt) (w:World):Calls prog 35 #[g.val] w fun e w'=>∃v,e=.returned v/\w'.ownsRow w.heap.size 54 4 v (dec g).length (ak (dec g))/\Ext w w':=by
 have hx:Ext w (w.alloc (cO (gA g) 54)):=(xZ w).alloc _
 cases TH:(g.k==10)
 ·cases PL:(g.k==11)
  ·cases h12:(g.k==12)
   ·rw [FJ TH PL h12];go_enter func35,ntmps35;go_wp2_with (first|(go_at_call 58;refine (aM _ _ _ hx).mono ?_;clear hx;rintro e w' ⟨rfl,hx⟩)|(go_at_call 59;refine (dA _ _ _ hx).mono ?_;clear hx;rintro e w' ⟨rfl,hx⟩))
    exact Cg
   ·rw [Gs TH PL h12];go_enter func35,ntmps35;go_upto_region 11 with ((first|(go_at_call 58;refine (aM _ _ _ hx).mono ?_;clear hx;rintro e w' ⟨rfl,hx⟩)|(go_at_call 59;refine (dA _ _ _ hx).mono ?_;clear hx;rintro e w' ⟨rfl,hx⟩)))
    have ho:=bL hx _ 54 4 8 #[iI 4,iI g.c,iI 0,iI 0,iI 9,iI g.b,iI g.c,iI 0,iI 8,iI g.c,iI 0,iI 0,iI 9,iI g.a,iI g.c,iI 0,iI 7,iI g.c,iI 0,iI 0,iI 9,iI g.b,iI g.c,iI 0,iI 8,iI g.c,iI 0,iI 0,iI 9,iI g.a,iI g.c,iI 0] (ak [g1 4 g.c,fL g.b g.c,g1 8 g.c,fL g.a g.c,g1 7 g.c,fL g.b g.c,g1 8 g.c,fL g.a g.c]) rfl rfl rfl aa;have bH:=xZ (w'.alloc (cO #[iI 4,iI g.c,iI 0,iI 0,iI 9,iI g.b,iI g.c,iI 0,iI 8,iI g.c,iI 0,iI 0,iI 9,iI g.a,iI g.c,iI 0,iI 7,iI g.c,iI 0,iI 0,iI 9,iI g.b,iI g.c,iI 0,iI 8,iI g.c,iI 0,iI 0,iI 9,iI g.a,iI g.c,iI 0] 54));have cH:=hx.alloc (cO #[iI 4,iI g.c,iI 0,iI 0,iI 9,iI g.b,iI g.c,iI 0,iI 8,iI g.c,iI 0,iI 0,iI 9,iI g.a,iI g.c,iI 0,iI 7,iI g.c,iI 0,iI 0,iI 9,iI g.b,iI g.c,iI 0,iI 8,iI g.c,iI 0,iI 0,iI 9,iI g.a,iI g.c,iI 0] 54);clear hx;go_wp2_with (first|(at_builtin;refine cU (w0:=w) rfl _ _ rfl _ 8 [g1 4 g.c,fL g.b g.c,g1 8 g.c,fL g.a g.c,g1 7 g.c,fL g.b g.c,g1 8 g.c,fL g.a g.c] rfl ((aq ho bH).alloc _) ((cH.trans bH).alloc _) _ 7 7 [g1 7 g.b,g1 7 g.c,g1 4 g.c,fL g.a g.b,g1 7 g.a,g1 8 g.b,fL g.a g.b] rfl (fN _ _ _ _ 7 4 _ rfl kK rfl) aa ?_;intro v1 w1 eF aS vH mS)|(go_at_call 58;refine (aM _ _ _ bH).mono ?_;clear bH;rintro e w' ⟨rfl,bH⟩)|(go_at_call 59;refine (dA _ _ _ bH).mono ?_;clear bH;rintro e w' ⟨rfl,bH⟩))
    go_ret
    exact ⟨v1,rfl,eF,aS⟩
  ·rw [xH TH PL];go_enter func35,ntmps35;go_wp2_with (first|(go_at_call 58;refine (aM _ _ _ hx).mono ?_;clear hx;rintro e w' ⟨rfl,hx⟩)|(go_at_call 59;refine (dA _ _ _ hx).mono ?_;clear hx;rintro e w' ⟨rfl,hx⟩))
   exact Ch
 ·rw [Gq TH];go_enter func35,ntmps35;go_wp2_with (first|(go_at_call 58;refine (aM _ _ _ hx).mono ?_;clear hx;rintro e w' ⟨rfl,hx⟩)|(go_at_call 59;refine (dA _ _ _ hx).mono ?_;clear hx;rintro e w' ⟨rfl,hx⟩))
  go_ret
  exact ⟨_,rfl,bL hx _ _ _ _ _ _ rfl kK rfl ag,hx.alloc _⟩
theorem qd {w0:World} (a b:Int) (w:World) (hx:Ext w0 w):Calls prog 38 #[iI a,iI b] w fun e w'=>e=.returned (.agg #[iI a,iI b,iI 0,iI 0])/\Ext w0 w':=by
 have H:=hY hx;clear hx;go_enter func38,ntmps38;go_wp2
 exact bR (v:=.agg #[iI a,iI b,iI 0,iI 0]) (by simp [results,results38,go_sem]) rfl ⟨rfl,H.u.alloc _⟩
theorem sM {w0:World} (a b:Int) (w:World) (hx:Ext w0 w):Calls prog 39 #[iI a,iI b] w fun e w'=>e=.returned (.agg #[iI 9,iI a,iI b,iI 0])/\Ext w0 w':=by
 have H:=hY hx;clear hx;go_enter func39,ntmps39;go_wp2
 exact bR (v:=.agg #[iI 9,iI a,iI b,iI 0]) (by simp [results,results39,go_sem]) rfl ⟨rfl,H.u.alloc _⟩
theorem Ci {P:Prop} (h:P:=by
 go_enter func23,ntmps23;go_wp2_with (first|(go_at_call 38;refine (qd _ _ _ hx).mono ?_;clear hx;rintro e w' ⟨rfl,hx⟩)|(go_at_call 39;refine (sM _ _ _ hx).mono ?_;clear hx;rintro e w' ⟨rfl,hx⟩))
 go_ret
 exact ⟨_,rfl,bL hx _ _ _ _ _ _ rfl kK rfl ag,hx.alloc _⟩):P:=h
theorem jQ (g:Gt) (w:World):Calls prog 23 #[g.val] w fun e w'=>∃v,e=.returned v/\w'.ownsRow w.heap.size 54 4 v (dec g).length (ak (dec g))/\Ext w w':=by
 have hx:Ext w (w.alloc (cO (gA g) 54)):=(xZ w).alloc _
 cases TH:(g.k==10)
 ·cases PL:(g.k==11)
  ·cases h12:(g.k==12)
   ·rw [FJ TH PL h12];go_enter func23,ntmps23;go_wp2_with (first|(go_at_call 38;refine (qd _ _ _ hx).mono ?_;clear hx;rintro e w' ⟨rfl,hx⟩)|(go_at_call 39;refine (sM _ _ _ hx).mono ?_;clear hx;rintro e w' ⟨rfl,hx⟩))
    exact Cg
   ·rw [Gs TH PL h12]
    exact Ci
  ·rw [xH TH PL];go_enter func23,ntmps23;go_wp2_with (first|(go_at_call 38;refine (qd _ _ _ hx).mono ?_;clear hx;rintro e w' ⟨rfl,hx⟩)|(go_at_call 39;refine (sM _ _ _ hx).mono ?_;clear hx;rintro e w' ⟨rfl,hx⟩))
   exact Ch
 ·rw [Gq TH]
  exact Ci
structure Oq where
 k:Int
 g:Gt
 q:Int
 bit:Int
 cond:Int
abbrev jE (x:Oq):Array Value:=#[iI x.k,iI x.g.k,iI x.g.a,iI x.g.b,iI x.g.c,iI x.q,iI x.bit,iI x.cond]
def Gm (x y:Oq):Bool:=x.k==y.k && Gn x.g y.g && x.q==y.q && x.bit==y.bit && x.cond==y.cond
def Oq.ok (x:Oq):Prop:=ob x.k/\x.g.ok/\ob x.q/\ob x.bit/\ob x.cond
abbrev Oq.val (x:Oq):Value:=.agg #[iI x.k,iI x.g.k,iI x.g.a,iI x.g.b,iI x.g.c,iI x.q,iI x.bit,iI x.cond]
def Oq.cells (x:Oq):List Value:=[iI x.k,iI x.g.k,iI x.g.a,iI x.g.b,iI x.g.c,iI x.q,iI x.bit,iI x.cond]
abbrev aI (xs:List Oq):List Value:=xs.flatMap Oq.cells
theorem Oq.aE (x:Oq):x.cells.length=8:=rfl
theorem re {w:World} {B n i:Nat} {A:OA} {xs:List Oq} (h:Rd w B 8 A n (aI xs)) (hi:i<n):
  ∃b o x,A=some ⟨b,o,none⟩/\b<B/\xs[i]?=some x/\w.cell? (aA b (o+i*8))=some (iI x.k)/\w.cell? (aA b (o+i*8+1))=some (iI x.g.k)/\w.cell? (aA b (o+i*8+2))=some (iI x.g.a)/\w.cell? (aA b (o+i*8+3))=some (iI x.g.b)/\w.cell? (aA b (o+i*8+4))=some (iI x.g.c)/\w.cell? (aA b (o+i*8+5))=some (iI x.q)/\w.cell? (aA b (o+i*8+6))=some (iI x.bit)/\w.cell? (aA b (o+i*8+7))=some (iI x.cond):=by
 obtain ⟨b,o,x,rfl,hb,hx,hc⟩:=jO Oq.aE aa h hi
 exact ⟨b,o,x,rfl,hb,hx,hc 0 _ rfl,hc 1 _ rfl,hc 2 _ rfl,hc 3 _ rfl,hc 4 _ rfl,hc 5 _ rfl,hc 6 _ rfl,hc 7 _ rfl⟩
theorem NF:(prog.info? 56).map (fun i=>(i.zero,i.size,i.bytes))=some (some (.agg #[iI 0,iI 0,iI 0,iI 0,iI 0,iI 0,iI 0,iI 0]),8,64):=af
theorem Oq.one (xs:List Oq):∀u∈aI xs,u.oneCell'=true:=by
 intro u hu;obtain ⟨x,_,hx⟩:=sH.1 hu;simp [Oq.cells] at hx;rcases hx with rfl|rfl|rfl|rfl|rfl|rfl|rfl|rfl<;>rfl
theorem NG {w0 w:World} {ops:Array Oper} {rest:List Oper} {o:Oper} {a:Act} {Q:Exit->Act->World->Prop} (fx:o.guard=none) (s x:Operand)
  (ho:aO o s x 24) (v:Value) (n:Nat) (xs:List Oq) (hs:a.eval s=v)
  (bc:w.ownsRow w0.heap.size 56 8 v n (aI xs)) (cH:Ext w0 w) (A:OA) (m c:Nat) (ys:List Oq) (hx:a.eval x=.slice A m c) (hr:Rd w w.heap.size 8 A m (aI ys)) (hn:n+m<=2000000000000)
  (h:aH w0 w v 56 8 (n+m) (aI (xs++ys)) (wpList prog ops Q rest) a o):wpList prog ops Q (o::rest) a w:=by
 obtain ⟨i0,hi,eX,gX,jK⟩:=iF NF
 exact eL fx s x _ ho 56 i0 _ 8 64 underlying24 hi eX gX jK rfl ae ae v n _ hs bc cH A m c _ hx hr (Oq.one ys) hn (fun v' w' h1=>h v' w' (by unfold aI;rw [lR];exact h1))
theorem Bk {w0 w:World} {ops:Array Oper} {o:Oper} {a:Act} {K:Act->World->Prop} {Q:Exit->Act->World->Prop} {E:Prop} (fx:o.guard=none) (s x:Operand)
  (ho:aO o s x 24) (v:Value) (n:Nat) (xs:List Oq) (hs:a.eval s=v)
  (bc:w.ownsRow w0.heap.size 56 8 v n (aI xs)) (cH:Ext w0 w) (A:OA) (m c:Nat) (ys:List Oq) (hx:a.eval x=.slice A m c) (hr:Rd w w.heap.size 8 A m (aI ys)) (hn:n+m<=2000000000000)
  (h:aH w0 w v 56 8 (n+m) (aI (xs++ys)) K a o):if Region.wanted o (yielded ops a.tmps)=true then Oper.wp prog o a w K Q else E:=by
 obtain ⟨i0,hi,eX,gX,jK⟩:=iF NF
 exact kT fx s x _ ho 56 i0 _ 8 64 underlying24 hi eX gX jK rfl ae ae v n _ hs bc cH A m c _ hx hr (Oq.one ys) hn (fun v' w' h1=>h v' w' (by unfold aI;rw [lR];exact h1))
theorem xI {w0 w:World} {ops:Array Oper} {rest:List Oper} {o:Oper} {a:Act} {Q:Exit->Act->World->Prop} (fx:o.guard=none) (s x:Operand)
  (ho:aO o s x 24) (v:Value) (n:Nat) (xs:List Oq) (hs:a.eval s=v)
  (bc:w.ownsRow w0.heap.size 56 8 v n (aI xs)) (cH:Ext w0 w) (y:Oq) (e:TypeId) (b:Nat) (hx:a.eval x=.slice (some ⟨b,0,none⟩) 1 1) (qc:b=w.heap.size) (hn:n<=1800000000000)
  (h:∀v' w',w'.ownsRow w0.heap.size 56 8 v' (n+1) (aI (xs++[y]))->Ext w0 w'->(w.alloc (cO (jE y) e)).grownBy w' v.ownBlock->(v'.ownBlock=v.ownBlock\/v'.ownBlock=some (w.heap.size+1))->wpList prog ops Q rest (a.put o.dst v') w'):wpList prog ops Q (o::rest) a (w.alloc (cO (jE y) e)):=by
 subst qc;refine NG fx s x ho v n xs hs (bc.alloc _) (cH.alloc _) _ 1 1 [y] hx (eh w _ e 8 _ gu gu) aa ?_;intro v' w' h1 h2 h3 h4
 exact h v' w' h1 h2 h3 (sU h4)
theorem KK (x:Oq):Gm x x=true:=by simp [Gm,UA]
theorem Gu:prog.stoodInHeld 54=false:=af
theorem ZS:prog.stoodInHeld 56=false:=af
theorem PU:prog.eqGuardType prog.depth 54=false:=af
theorem arb:prog.eqGuardType prog.depth 56=false:=af
theorem Gv (x y:Gt) (w:World):(Op.equalIn 10000 54 x.val y.val).run prog w=.ok (Gn x y) w:=by
 have h1:=Gu;unfold Gn
 by_cases e1:x.k=y.k<;>by_cases e2:x.a=y.a<;>by_cases e3:x.b=y.b<;>by_cases e4:x.c=y.c<;>(go_simp<;>simp [*])
theorem al1 (x y:Oq) (w:World):(Op.equalIn 10000 56 x.val y.val).run prog w=.ok (Gm x y) w:=by
 have h1:=Gu;have h2:=ZS;unfold Gm Gn;go_simp
 by_cases e0:x.k=y.k<;>by_cases e1:x.g.k=y.g.k<;>by_cases e2:x.g.a=y.g.a<;>by_cases e3:x.g.b=y.g.b<;>by_cases e4:x.g.c=y.g.c<;>by_cases e5:x.q=y.q<;>by_cases e6:x.bit=y.bit<;>by_cases e7:x.cond=y.cond<;>simp [*]
def yY (c:Int) (g:Gt):Oq:=⟨1,g,0,0,c⟩
def gB (gs:List Gt) (c:Int):List Oq:=gs.map (yY c)
theorem Gw {gs:List Gt} {k:Nat} {g:Gt} (c:Int) (h:gs[k]?=some g):gB (gs.take (k+1)) c=gB (gs.take k) c++[yY c g]:=by
 unfold gB;rw [aL h];simp
theorem iW (gs:List Gt) (c:Int):(gB gs c).length=gs.length:=by simp [gB]
theorem Gx (gs:List Gt) (c:Int) (k:Nat):(gB (gs.take k) c).length<=k:=by rw [iW];exact qU _ _
theorem kp {P:Prop} (h:P:=by
 rw [lE bN] at bc;go_wp2;go_ret
 exact ⟨_,rfl,bc,hx⟩):P:=h
theorem qe {P:Prop} (h:P:=by
 go_roundw
 case rel=>exact ⟨k+1,aa,az,by rw [HS.u,lA];exact kV,aS⟩
 case measure=>simp [intOf];omega):P:=h
theorem kq (A:OA) (n c:Nat) (gs:List Gt) (q:Int) (w:World) (h:Rd w w.heap.size 4 A n (ak gs)) (hn:n<=200000000000):
  Calls prog 34 #[.slice A n c,iI q] w fun e w'=>∃v,e=.returned v/\w'.ownsRow w.heap.size 56 8 v (gB gs q).length (aI (gB gs q))/\Ext w w':=by
 have hlen:=hY (h.len Gt.aE aa);go_enter func34,ntmps34;go_wp2
 go_loopw [5,6] (fun v i wr=>∃k:Nat,k<=n/\i=iI k/\wr.ownsRow w.heap.size 56 8 v (gB (gs.take k) q).length (aI (gB (gs.take k) q))/\Ext w wr) (fun _ i _=>n - (intOf i).toNat)
 case atStart=>exact ⟨0,lJ _,rfl,aJ w w _ _ (xZ _),xx⟩
 case round=>
  obtain ⟨k,hk,rfl,bc,hx⟩:=hrel
  by_cases bh:k<n
  ·obtain ⟨b,o,x,rfl,hb,hg,h0,h1,h2,h3⟩:=bE (h.ext hx) bh;have HS:=hY (Gw q hg);clear hg;have hle:=Gx gs q k;go_wp2_with (at_builtin;refine xI rfl _ _ rfl _ _ (gB (gs.take k) q) rfl bc hx (yY q x) _ _ rfl rfl aa ?_;intro v1 w1 kV aS vH mS)
   exact qe
  ·exact kp
theorem yZ (A:OA) (n c:Nat) (gs:List Gt) (q:Int) (w:World) (h:Rd w w.heap.size 4 A n (ak gs)) (hn:n<=200000000000):
  Calls prog 22 #[.slice A n c,iI q] w fun e w'=>∃v,e=.returned v/\w'.ownsRow w.heap.size 56 8 v (gB gs q).length (aI (gB gs q))/\Ext w w':=by
 have hlen:=hY (h.len Gt.aE aa);go_enter func22,ntmps22;go_wp2
 go_loopw [5,11] (fun v i wr=>∃k:Nat,k<=n/\i=iI k/\wr.ownsRow w.heap.size 56 8 v (gB (gs.take k) q).length (aI (gB (gs.take k) q))/\Ext w wr) (fun _ i _=>n - (intOf i).toNat)
 case atStart=>exact ⟨0,lJ _,rfl,aJ w w _ _ (xZ _),xx⟩
 case round=>
  obtain ⟨k,hk,rfl,bc,hx⟩:=hrel
  by_cases bh:k<n
  ·obtain ⟨b,o,x,rfl,hb,hg,h0,h1,h2,h3⟩:=bE (h.ext hx) bh;have HS:=hY (Gw q hg);clear hg;have hle:=Gx gs q k;go_wp2_with (at_builtin;refine xI rfl _ _ rfl _ _ (gB (gs.take k) q) rfl (bc.alloc _) (hx.alloc _) (yY q x) _ _ rfl ag aa ?_;intro v1 w1 kV aS vH mS)
   exact qe
  ·exact kp
def ai (xs:List Oq):List Gt:=(xs.filter fun o=>o.k==1).map Oq.g
theorem sN {xs:List Oq} {k:Nat} {o:Oq} (h:xs[k]?=some o) (hk:(o.k==1)=true):ai (xs.take (k+1))=ai (xs.take k)++[o.g]:=by
 unfold ai;rw [aL h];simp [zR,hk]
theorem mT {xs:List Oq} {k:Nat} {o:Oq} (h:xs[k]?=some o) (hk:(o.k==1)=false):ai (xs.take (k+1))=ai (xs.take k):=by
 unfold ai;rw [aL h];simp [zR,hk]
theorem eZ (xs:List Oq) (k:Nat):(ai (xs.take k)).length<=k:=by
 unfold ai;rw [jk]
 exact lK (List.length_filter_le _ _) (qU _ _)
theorem ik (A:OA) (n c:Nat) (xs:List Oq) (w:World) (h:Rd w w.heap.size 8 A n (aI xs)) (hn:n<=200000000000):
  Calls prog 16 #[.slice A n c] w fun e w'=>∃v,e=.returned v/\w'.ownsRow w.heap.size 54 4 v (ai xs).length (ak (ai xs))/\Ext w w':=by
 have hlen:=hY (h.len Oq.aE aa);go_enter func16,ntmps16;go_wp2
 go_loopw [3,4] (fun v i wr=>∃k:Nat,k<=n/\i=iI k/\wr.ownsRow w.heap.size 54 4 v (ai (xs.take k)).length (ak (ai (xs.take k)))/\Ext w wr) (fun _ i _=>n - (intOf i).toNat)
 case atStart=>exact ⟨0,lJ _,rfl,aJ w w _ _ (xZ _),xx⟩
 case round=>
  obtain ⟨k,hk,rfl,bc,hx⟩:=hrel
  by_cases bh:k<n
  ·obtain ⟨b,o,x,rfl,hb,hg,h0,h1,h2,h3,h4,h5,h6,h7⟩:=re (h.ext hx) bh;have HG:=hY hg;clear hg;have hle:=eZ xs k
   cases eM:(x.k==1)
   ·have HS:=hY (mT HG.u eM);go_wp2;go_roundw
    case rel=>exact ⟨k+1,aa,az,by rw [HS.u];exact bc,hx⟩
    case measure=>simp [intOf];omega
   ·have HS:=hY (sN HG.u eM);go_wp2_with (at_builtin;refine er rfl _ _ rfl _ _ (ai (xs.take k)) rfl bc hx x.g _ _ rfl rfl aa ?_;intro v1 w1 kV aS vH mS)
    exact qe
  ·exact kp
theorem il (A:OA) (n c:Nat) (xs:List Oq) (w:World) (h:Rd w w.heap.size 8 A n (aI xs)) (hn:n<=200000000000):
  Calls prog 10 #[.slice A n c] w fun e w'=>∃v,e=.returned v/\w'.ownsRow w.heap.size 54 4 v (ai xs).length (ak (ai xs))/\Ext w w':=by
 have hlen:=hY (h.len Oq.aE aa);go_enter func10,ntmps10;go_wp2
 go_loopw [3,9] (fun v i wr=>∃k:Nat,k<=n/\i=iI k/\wr.ownsRow w.heap.size 54 4 v (ai (xs.take k)).length (ak (ai (xs.take k)))/\Ext w wr) (fun _ i _=>n - (intOf i).toNat)
 case atStart=>exact ⟨0,lJ _,rfl,aJ w w _ _ (xZ _),xx⟩
 case round=>
  obtain ⟨k,hk,rfl,bc,hx⟩:=hrel
  by_cases bh:k<n
  ·obtain ⟨b,o,x,rfl,hb,hg,h0,h1,h2,h3,h4,h5,h6,h7⟩:=re (h.ext hx) bh;have HG:=hY hg;clear hg;have hle:=eZ xs k
   cases eM:(x.k==1)
   ·have HS:=hY (mT HG.u eM);go_wp2;go_roundw
    case rel=>exact ⟨k+1,aa,az,by rw [HS.u];exact bc.alloc _,hx.alloc _⟩
    case measure=>simp [intOf];omega
   ·have HS:=hY (sN HG.u eM);go_wp2_with (at_builtin;refine er rfl _ _ rfl _ _ (ai (xs.take k)) rfl (bc.alloc _) (hx.alloc _) x.g _ _ rfl ag aa ?_;intro v1 w1 kV aS vH mS)
    exact qe
  ·exact kp
def jl (o:Oq):List Oq:=if (o.k==1)=true then gB (dec o.g) o.cond else if (o.k==3)=true then [] else [o]
def aP (xs:List Oq):List Oq:=xs.flatMap jl
theorem zU {xs:List Oq} {k:Nat} {o:Oq} (h:xs[k]?=some o):aP (xs.take (k+1))=aP (xs.take k)++jl o:=by
 unfold aP;rw [aL h,lR];simp
theorem UD (o:Oq):(jl o).length<=15:=by
 unfold jl;split
 ·rw [iW];exact mA _
 ·split<;>simp
theorem NH (xs:List Oq):(aP xs).length<=15*xs.length:=by
 unfold aP
 induction xs with
 |nil=>simp
 |cons o xs ih=>have:=UD o;rw [fK,lA,ij];omega
theorem oc (xs:List Oq) (k:Nat):(aP (xs.take k)).length<=15*k:=by
 have h1:=NH (xs.take k);have h2:(xs.take k).length<=k:=qU _ _;omega
theorem NI {o:Oq} (h:(o.k==1)=true):jl o=gB (dec o.g) o.cond:=aX h
theorem NJ {o:Oq} (h:(o.k==1)=false) (h3:(o.k==3)=true):jl o=[]:=by unfold jl;rw [aK aW,aX h3]
theorem UE {o:Oq} (h:(o.k==1)=false) (h3:(o.k==3)=false):jl o=[o]:=by unfold jl;rw [aK aW,aK (by simp [h3])]
theorem Cj {P:Prop} (h:P:=by
 go_wp2;go_roundw
 case rel=>exact ⟨k+1,aa,az,by rw [HS.u,HD.u,lA];exact jm,hz3⟩
 case measure=>simp [intOf];omega):P:=h
theorem Ck {P:Prop} (h:P:=by
 go_roundw
 case rel=>exact ⟨k+1,aa,az,by rw [HS.u,HD.u,lA];exact kV,aS⟩
 case measure=>simp [intOf];omega):P:=h
theorem gD (A:OA) (n c:Nat) (xs:List Oq) (w:World) (h:Rd w w.heap.size 8 A n (aI xs)) (hn:n<=100000000000):
  Calls prog 17 #[.slice A n c] w fun e w'=>∃v,e=.returned v/\w'.ownsRow w.heap.size 56 8 v (aP xs).length (aI (aP xs))/\Ext w w':=by
 have hlen:=hY (h.len Oq.aE aa);go_enter func17,ntmps17;go_wp2
 go_loopw [3,4] (fun v i wr=>∃k:Nat,k<=n/\i=iI k/\wr.ownsRow w.heap.size 56 8 v (aP (xs.take k)).length (aI (aP (xs.take k)))/\Ext w wr) (fun _ i _=>n - (intOf i).toNat)
 case atStart=>exact ⟨0,lJ _,rfl,aJ w w _ _ (xZ _),xx⟩
 case round=>
  obtain ⟨k,hk,rfl,bc,hx⟩:=hrel
  by_cases bh:k<n
  ·obtain ⟨b,o,x,rfl,hb,hg,r0,r1,r2,r3,r4,r5,r6,r7⟩:=re h bh;have HS:=hY (zU hg);clear hg;have hle:=oc xs k;have NC:=mA x.g;have HK:Hid (∀w',Ext w w'->w'.cell? (aA b (o+k*8))=some (iI x.k)/\w'.cell? (aA b (o+k*8+1))=some (iI x.g.k)/\w'.cell? (aA b (o+k*8+2))=some (iI x.g.a)/\w'.cell? (aA b (o+k*8+3))=some (iI x.g.b)/\w'.cell? (aA b (o+k*8+4))=some (iI x.g.c)/\w'.cell? (aA b (o+k*8+5))=some (iI x.q)/\w'.cell? (aA b (o+k*8+6))=some (iI x.bit)/\w'.cell? (aA b (o+k*8+7))=some (iI x.cond)):=
    fun w' rF=>⟨(rF.cell (p:=(aA b (o+k*8))) hb).trans r0,(rF.cell (p:=(aA b (o+k*8+1))) hb).trans r1,(rF.cell (p:=(aA b (o+k*8+2))) hb).trans r2,(rF.cell (p:=(aA b (o+k*8+3))) hb).trans r3,(rF.cell (p:=(aA b (o+k*8+4))) hb).trans r4,(rF.cell (p:=(aA b (o+k*8+5))) hb).trans r5,(rF.cell (p:=(aA b (o+k*8+6))) hb).trans r6,(rF.cell (p:=(aA b (o+k*8+7))) hb).trans r7⟩
   clear r0 r1 r2 r3 r4 r5 r6 r7;obtain ⟨h0,h1,h2,h3,h4,h5,h6,h7⟩:=HK.u wr hx;have rE:(0:Int)<=(k:Int):=aa
   have eM:(k:Int)<(n:Int):=aa
   cases eM:(x.k==1)
   ·cases NA:(x.k==3)
    ·have HD:=hY (UE eM NA);go_wp2_with (at_builtin;refine xI rfl _ _ rfl _ _ (aP (xs.take k)) rfl bc hx x _ _ rfl rfl aa ?_;intro v1 w1 kV aS vH mS)
     exact Ck
    ·have HD:=hY (NJ eM NA);go_wp2;go_roundw
     case rel=>exact ⟨k+1,aa,az,by rw [HS.u,HD.u,qZ];exact bc,hx⟩
     case measure=>simp [intOf];omega
   ·have HD:=hY (NI eM);have df:=iW (dec x.g) x.cond;have HL:=hY df;clear df;go_wp2
    go_region_held3 (fun w'=>w'.cell? (aA b (o+k*8))=some (iI x.k)/\w'.cell? (aA b (o+k*8+1))=some (iI x.g.k)/\w'.cell? (aA b (o+k*8+2))=some (iI x.g.a)/\w'.cell? (aA b (o+k*8+3))=some (iI x.g.b)/\w'.cell? (aA b (o+k*8+4))=some (iI x.g.c)/\w'.cell? (aA b (o+k*8+5))=some (iI x.q)/\w'.cell? (aA b (o+k*8+6))=some (iI x.bit)/\w'.cell? (aA b (o+k*8+7))=some (iI x.cond))
     (first|go_keep|exact HK.u _ aQ)
     (first
      |(go_at_call 35;refine (jP x.g _).mono ?_;rintro e w1 ⟨v1,rfl,eF,aS⟩;have gX:Ext w w1:=Ext.trans hx.drew aS;have ki:Ext wr w1:=Ext.trans (xZ wr).drew aS;obtain ⟨A1,c1,rfl,pD⟩:=au eF)
      |(go_at_call 34;refine (kq A1 _ c1 (dec x.g) x.cond _ pD aa).mono ?_;rintro e w2 ⟨v2,rfl,ep,bH⟩;have jK:Ext w w2:=Ext.trans gX bH;obtain ⟨A2,c2,rfl,mg⟩:=au ep)
      |(refine Bk (w0:=w) ah _ _ ah _ _ (aP (xs.take k)) ah (aq (aq bc ki) bH) jK A2 _ c2 (gB (dec x.g) x.cond) ah mg iU ?_;intro v3 w3 jm hz3 Bl ji))
    exact Cj
  ·exact kp
theorem rG (A:OA) (n c:Nat) (xs:List Oq) (w:World) (h:Rd w w.heap.size 8 A n (aI xs)) (hn:n<=100000000000):
  Calls prog 11 #[.slice A n c] w fun e w'=>∃v,e=.returned v/\w'.ownsRow w.heap.size 56 8 v (aP xs).length (aI (aP xs))/\Ext w w':=by
 have hlen:=hY (h.len Oq.aE aa);go_enter func11,ntmps11;go_wp2
 go_loopw [3,9] (fun v i wr=>∃k:Nat,k<=n/\i=iI k/\wr.ownsRow w.heap.size 56 8 v (aP (xs.take k)).length (aI (aP (xs.take k)))/\Ext w wr) (fun _ i _=>n - (intOf i).toNat)
 case atStart=>exact ⟨0,lJ _,rfl,aJ w w _ _ (xZ _),xx⟩
 case round=>
  obtain ⟨k,hk,rfl,bc,hx⟩:=hrel
  by_cases bh:k<n
  ·obtain ⟨b,o,x,rfl,hb,hg,h0,h1,h2,h3,h4,h5,h6,h7⟩:=re (h.ext hx) bh;have HS:=hY (zU hg);clear hg;have hle:=oc xs k;have NC:=mA x.g
   cases eM:(x.k==1)
   ·cases NA:(x.k==3)
    ·have HD:=hY (UE eM NA);go_wp2_with (at_builtin;refine xI rfl _ _ rfl _ _ (aP (xs.take k)) rfl (bc.alloc _) (hx.alloc _) x _ _ rfl ag aa ?_;intro v1 w1 kV aS vH mS)
     exact Ck
    ·have HD:=hY (NJ eM NA);go_wp2;go_roundw
     case rel=>exact ⟨k+1,aa,az,by rw [HS.u,HD.u,qZ];exact bc.alloc _,hx.alloc _⟩
     case measure=>simp [intOf];omega
   ·have HD:=hY (NI eM);have HL:=hY (iW (dec x.g) x.cond);have HK:Hid (∀w',ay w' wr.heap.size 56 (jE x)->w'.cell? (aA wr.z 0)=some (iI x.k)/\w'.cell? (aA wr.z 1)=some (iI x.g.k)/\w'.cell? (aA wr.z 2)=some (iI x.g.a)/\w'.cell? (aA wr.z 3)=some (iI x.g.b)/\w'.cell? (aA wr.z 4)=some (iI x.g.c)/\w'.cell? (aA wr.z 7)=some (iI x.cond)):=
     fun w' hb=>⟨hb.cell 0,hb.cell 1,hb.cell 2,hb.cell 3,hb.cell 4,hb.cell 7⟩
    have hB:=hY (ay.new wr 56 (jE x));have hX:=hx.alloc (cO (jE x) 56);have hO:=bc.alloc (cO (jE x) 56);have ZT:=bc.lt;have HR:=hY ZT;clear ZT;go_wp2
    go_region_held3 (fun w'=>w'.cell? (aA wr.z 0)=some (iI x.k)/\w'.cell? (aA wr.z 1)=some (iI x.g.k)/\w'.cell? (aA wr.z 2)=some (iI x.g.a)/\w'.cell? (aA wr.z 3)=some (iI x.g.b)/\w'.cell? (aA wr.z 4)=some (iI x.g.c)/\w'.cell? (aA wr.z 7)=some (iI x.cond))
     (first|go_keep|exact HK.u _ aQ)
     (first
      |(go_at_call 23;refine (jQ x.g _).mono ?_;rintro e w1 ⟨v1,rfl,eF,aS⟩;have ki:=Ext.trans (xZ (wr.alloc (cO (jE x) 56))).drew aS;have gX:Ext w w1:=Ext.trans hX ki;have mS:=hB.u.ext ki;obtain ⟨A1,c1,rfl,pD⟩:=au eF)
      |(go_at_call 22;refine (yZ A1 _ c1 (dec x.g) x.cond _ pD aa).mono ?_;rintro e w2 ⟨v2,rfl,ep,bH⟩;have jK:Ext w w2:=Ext.trans gX bH;have vG:=mS.ext bH;obtain ⟨A2,c2,rfl,mg⟩:=au ep)
      |(refine Bk (w0:=w) ah _ _ ah _ _ (aP (xs.take k)) ah (aq (aq hO ki) bH) jK A2 _ c2 (gB (dec x.g) x.cond) ah mg iU ?_;intro v3 w3 jm hz3 Bl Gy;have ji:=vG.grown Bl (fun k hk=>oM (HR.u k hk))))
    exact Cj
  ·exact kp
structure Cm where
 n:Int
 bits:Int
 ops:List Oq
 st:List Int
 fin:List Int
def zc (w:World) (B:Nat) (v:Value) (x:Cm):Prop:=
 ∃(A1 A2 A3:OA) (c1 c2 c3:Nat),v=.agg #[iI x.n,iI x.bits,.slice A1 x.ops.length c1,.slice A2 x.st.length c2,.slice A3 x.fin.length c3]/\Rd w B 8 A1 x.ops.length (aI x.ops)/\Rd w B 1 A2 x.st.length (aG x.st)/\Rd w B 1 A3 x.fin.length (aG x.fin)
def KL (w:World) (b0 b1 b2 b3:Nat) (v:Value) (x:Cm):Prop:=
 ∃(A1 A2 A3:OA) (c1 c2 c3:Nat),v=.agg #[iI x.n,iI x.bits,.slice A1 x.ops.length c1,.slice A2 x.st.length c2,.slice A3 x.fin.length c3]/\w.ownsRow b0 56 8 (.slice A1 x.ops.length c1) x.ops.length (aI x.ops)/\(∀g,(Value.slice A1 x.ops.length c1).ownBlock=some g->g<b1)/\w.ownsRow b1 3 1 (.slice A2 x.st.length c2) x.st.length (aG x.st)/\(∀g,(Value.slice A2 x.st.length c2).ownBlock=some g->g<b2)/\w.ownsRow b2 3 1 (.slice A3 x.fin.length c3) x.fin.length (aG x.fin)/\(∀g,(Value.slice A3 x.fin.length c3).ownBlock=some g->g<b3)
theorem zc.up {w w':World} {B:Nat} {v:Value} {x:Cm} (h:zc w B v x) (hx:Ext w w') (hB:B<=w.heap.size):zc w' B v x:=by
 obtain ⟨A1,A2,A3,c1,c2,c3,hv,h1,h2,h3⟩:=h
 exact ⟨A1,A2,A3,c1,c2,c3,hv,h1.up hx hB,h2.up hx hB,h3.up hx hB⟩
theorem zc.more {w:World} {B B':Nat} {v:Value} {x:Cm} (h:zc w B v x) (hB:B<=B'):zc w B' v x:=by
 obtain ⟨A1,A2,A3,c1,c2,c3,hv,h1,h2,h3⟩:=h
 exact ⟨A1,A2,A3,c1,c2,c3,hv,h1.more hB,h2.more hB,h3.more hB⟩
theorem zc.grown {w w':World} {B:Nat} {v:Value} {x:Cm} {row:Option Nat} (h:zc w B v x) (hg:w.grownBy w' row) (hB:B<=w.heap.size) (hr:∀g,row=some g->B<=g):zc w' B v x:=by
 obtain ⟨A1,A2,A3,c1,c2,c3,hv,h1,h2,h3⟩:=h
 exact ⟨A1,A2,A3,c1,c2,c3,hv,h1.grown hg hB hr,h2.grown hg hB hr,h3.grown hg hB hr⟩
theorem KL.at_ {w:World} {b0 b1 b2 b3:Nat} {v:Value} {x:Cm} (h:KL w b0 b1 b2 b3 v x):zc w w.heap.size v x:=by
 obtain ⟨A1,A2,A3,c1,c2,c3,hv,h1,l1,h2,l2,h3,l3⟩:=h
 exact ⟨A1,A2,A3,c1,c2,c3,hv,Rd.own h1,Rd.own h2,Rd.own h3⟩
theorem KL.ext {w w':World} {b0 b1 b2 b3:Nat} {v:Value} {x:Cm} (h:KL w b0 b1 b2 b3 v x) (hx:Ext w w'):KL w' b0 b1 b2 b3 v x:=by
 obtain ⟨A1,A2,A3,c1,c2,c3,hv,h1,l1,h2,l2,h3,l3⟩:=h
 exact ⟨A1,A2,A3,c1,c2,c3,hv,aq h1 hx,l1,aq h2 hx,l2,aq h3 hx,l3⟩
def Cm.small (x:Cm):Prop:=x.ops.length<=1048576/\x.st.length<=1048576/\x.fin.length<=1048576
def aih (x y:Cm):Bool:=(x.n==y.n) && (x.bits==y.bits) && (zS Gm x.ops y.ops) && (zS eqI x.st y.st) && (zS eqI x.fin y.fin)
theorem agY (x:Cm):aih x x=true:=by
 unfold aih;simp [pC eqI Uz,pC Gm KK]
theorem NK:prog.cellsOf 27=1:=af
def Cm.ok (x:Cm):Prop:=ob x.n/\ob x.bits/\x.ops.length<=maxLen/\(∀g∈x.ops,g.ok)/\x.st.length<=maxLen/\(∀g∈x.st,ob g)/\x.fin.length<=maxLen/\(∀g∈x.fin,ob g)
def isX (o:Oq):Bool:=o.k==1 && o.g.k==1 && o.cond==0
def np:List Oq->Nat
 |[]=>0
 |o::r=>(if isX o=true then 0 else 1)+np r
theorem NL:∀(a b:List Oq),np (a++b)=np a+np b
 |[],b=>by simp [np]
 |o::a,b=>by rw [nY,np,np,NL a];omega
theorem PV:∀xs:List Oq,np xs<=xs.length
 |[]=>lI _
 |o::r=>by
  have:=PV r;rw [np,ij];split<;>omega
theorem ad0 (o:Oq):np [o]<=1:=PV [o]
theorem ZU (xs:List Oq) (o:Oq):np (xs++[o])<=np xs+1:=by
 rw [NL];have:=ad0 o;omega
theorem anB (xs:List Oq) {o:Oq} (h:isX o=true):np (xs++[o])=np xs:=by
 rw [NL,np,aX h];rfl
end Go.Proofs.YtiajdbllccmokaaGreatDoor
