import Derived.Test.YtiajdbllccmokaaGreatDoorXa
import Derived.Laws.ResultCell
import Derived.Lib.AppendStr
import Derived.Laws.IdiomStrings
namespace Go.Proofs.YtiajdbllccmokaaGreatDoor
open Go.ChangeShapes Go.WideShapes Go.ChangeAt Go.RowKit Go.Deep Go.Proofs.Tryz
set_option linter.unusedVariables false
set_option linter.unusedSimpArgs false
set_option maxRecDepth 100000
set_option maxHeartbeats 16000000
theorem bF {P:Program} {fn:Func} {p u:Tmp} {ty:TypeId} (h:fn.results=#[.cell p ty,.tmp u]) (tmps:Array Value) (w:World) (g:Nat) (t:TypeId) (cs:Array Value) (d:TypeDesc) (z:Value)
  (hp:tmps.getD p undef=.pointer (some ⟨g,0,none⟩)) (hz:tmps.getD u undef=z) (hg:ay w g t cs)
  (hu:P.underlying ty=some d) (hd:(match d with| .struct _| .array _ _=>true|_=>false)=true) (hi:(P.info? ty).map (·.size)=some cs.size):
  (results fn tmps).run P w=.ok (.tuple #[.agg cs,z]) w:=by
 rw [results_cell_tmp h,hp,hz];simp [asAddr,Result.andThen,Nw w g t ty cs (0,0) d hg hu hd hi]
theorem aB {w:World} {g t:Nat} {a b c d:Value} (h:ay w g t #[a,b,c,d]):(w.cell? (aA g 0)=some a/\w.cell? (aA g 1)=some b/\w.cell? (aA g 2)=some c/\w.cell? (aA g 3)=some d)/\w.frozen? (aA g 0)=false/\w.frozen? (aA g 1)=false/\w.frozen? (aA g 2)=false/\w.frozen? (aA g 3)=false:=
 ⟨⟨h.cell 0,h.cell 1,h.cell 2,h.cell 3⟩,h.frozen 0,h.frozen 1,h.frozen 2,h.frozen 3⟩
def bP (w:World) (g:Nat) (a b c d:Value):World:=(((w.setCell (aA g 0) a).setCell (aA g 1) b).setCell (aA g 2) c).setCell (aA g 3) d
theorem ay.bP {w:World} {g t:Nat} {z0 z1 z2 z3:Value} (h:ay w g t #[z0,z1,z2,z3]) (a b c d:Value):ay (bP w g a b c d) g t #[a,b,c,d]:=
 (((h.ba 0 a).ba 1 b).ba 2 c).ba 3 d
theorem br {w0 w:World} (h:Ext w0 w) {g:Nat} (hg:w0.heap.size<=g) (a b c d:Value):Ext w0 (bP w g a b c d):=
 (((h.setCell (p:=(aA g 0)) hg a).setCell (p:=(aA g 1)) hg b).setCell (p:=(aA g 2)) hg c).setCell (p:=(aA g 3)) hg d
theorem dh {w:World} {g k t:Nat} {cs:Array Value} (h:ay w k t cs) (hg:k≠g) (a b c d:Value):ay (bP w g a b c d) k t cs:=
 (((h.bX (p:=(aA g 0)) hg a).bX (p:=(aA g 1)) hg b).bX (p:=(aA g 2)) hg c).bX (p:=(aA g 3)) hg d
structure Ed where
 a:Int
 b:Int
def Kn (x y:Ed):Bool:=x.a==y.a && x.b==y.b
def Ed.ok (x:Ed):Prop:=ob x.a/\ob x.b
abbrev Ed.val (x:Ed):Value:=.agg #[iI x.a,iI x.b]
def Ed.cells (x:Ed):List Value:=[iI x.a,iI x.b]
abbrev bD (xs:List Ed):List Value:=xs.flatMap Ed.cells
theorem Ed.aE (x:Ed):x.cells.length=2:=rfl
theorem IK {w:World} {B n i:Nat} {A:OA} {xs:List Ed} (h:Rd w B 2 A n (bD xs)) (hi:i<n):
  ∃b o x,A=some ⟨b,o,none⟩/\b<B/\xs[i]?=some x/\w.cell? (aA b (o+i*2))=some (iI x.a)/\w.cell? (aA b (o+i*2+1))=some (iI x.b):=by
 obtain ⟨b,o,x,rfl,hb,hx,hc⟩:=jO Ed.aE aa h hi
 exact ⟨b,o,x,rfl,hb,hx,hc 0 _ rfl,hc 1 _ rfl⟩
theorem KR:(prog.info? 95).map (fun i=>(i.zero,i.size,i.bytes))=some (some (.agg #[iI 0,iI 0]),2,16):=af
theorem Ed.one (xs:List Ed):∀u∈bD xs,u.oneCell'=true:=by
 intro u hu;obtain ⟨x,_,hx⟩:=sH.1 hu;simp [Ed.cells] at hx;rcases hx with rfl|rfl<;>rfl
theorem KS {w0 w:World} {ops:Array Oper} {rest:List Oper} {o:Oper} {a:Act} {Q:Exit->Act->World->Prop} (fx:o.guard=none) (s x:Operand)
  (ho:aO o s x 40) (v:Value) (n:Nat) (xs:List Ed) (hs:a.eval s=v)
  (bc:w.ownsRow w0.heap.size 95 2 v n (bD xs)) (cH:Ext w0 w) (A:OA) (m c:Nat) (ys:List Ed) (hx:a.eval x=.slice A m c) (hr:Rd w w.heap.size 2 A m (bD ys)) (hn:n+m<=2000000000000)
  (h:aH w0 w v 95 2 (n+m) (bD (xs++ys)) (wpList prog ops Q rest) a o):wpList prog ops Q (o::rest) a w:=by
 obtain ⟨i0,hi,eX,gX,jK⟩:=iF KR
 exact eL fx s x _ ho 95 i0 _ 2 16 underlying40 hi eX gX jK rfl ae ae v n _ hs bc cH A m c _ hx hr (Ed.one ys) hn (fun v' w' h1=>h v' w' (by unfold bD;rw [lR];exact h1))
theorem RC {w0 w:World} {ops:Array Oper} {o:Oper} {a:Act} {K:Act->World->Prop} {Q:Exit->Act->World->Prop} {E:Prop} (fx:o.guard=none) (s x:Operand)
  (ho:aO o s x 40) (v:Value) (n:Nat) (xs:List Ed) (hs:a.eval s=v)
  (bc:w.ownsRow w0.heap.size 95 2 v n (bD xs)) (cH:Ext w0 w) (A:OA) (m c:Nat) (ys:List Ed) (hx:a.eval x=.slice A m c) (hr:Rd w w.heap.size 2 A m (bD ys)) (hn:n+m<=2000000000000)
  (h:aH w0 w v 95 2 (n+m) (bD (xs++ys)) K a o):if Region.wanted o (yielded ops a.tmps)=true then Oper.wp prog o a w K Q else E:=by
 obtain ⟨i0,hi,eX,gX,jK⟩:=iF KR
 exact kT fx s x _ ho 95 i0 _ 2 16 underlying40 hi eX gX jK rfl ae ae v n _ hs bc cH A m c _ hx hr (Ed.one ys) hn (fun v' w' h1=>h v' w' (by unfold bD;rw [lR];exact h1))
theorem al5 {w0 w:World} {ops:Array Oper} {rest:List Oper} {o:Oper} {a:Act} {Q:Exit->Act->World->Prop} (fx:o.guard=none) (s x:Operand)
  (ho:aO o s x 40) (v:Value) (n:Nat) (xs:List Ed) (hs:a.eval s=v)
  (bc:w.ownsRow w0.heap.size 95 2 v n (bD xs)) (cH:Ext w0 w) (y:Ed) (e:TypeId) (b:Nat) (hx:a.eval x=.slice (some ⟨b,0,none⟩) 1 1) (qc:b=w.heap.size) (hn:n<=1800000000000)
  (h:∀v' w',w'.ownsRow w0.heap.size 95 2 v' (n+1) (bD (xs++[y]))->Ext w0 w'->(w.alloc (cO #[iI y.a,iI y.b] e)).grownBy w' v.ownBlock->(v'.ownBlock=v.ownBlock\/v'.ownBlock=some (w.heap.size+1))->wpList prog ops Q rest (a.put o.dst v') w'):wpList prog ops Q (o::rest) a (w.alloc (cO #[iI y.a,iI y.b] e)):=by
 subst qc;refine KS fx s x ho v n xs hs (bc.alloc _) (cH.alloc _) _ 1 1 [y] hx (eh w _ e 2 _ eB eB) aa ?_;intro v' w' h1 h2 h3 h4
 exact h v' w' h1 h2 h3 (sU h4)
theorem UN (x:Ed):Kn x x=true:=by simp [Kn]
structure Gr where
 n:Int
 es:List Ed
def eR (w:World) (B:Nat) (v:Value) (x:Gr):Prop:=
 ∃(A1:OA) (c1:Nat),v=.agg #[iI x.n,.slice A1 x.es.length c1]/\Rd w B 2 A1 x.es.length (bD x.es)
def KT (w:World) (b0 b1:Nat) (v:Value) (x:Gr):Prop:=
 ∃(A1:OA) (c1:Nat),v=.agg #[iI x.n,.slice A1 x.es.length c1]/\w.ownsRow b0 95 2 (.slice A1 x.es.length c1) x.es.length (bD x.es)/\(∀g,(Value.slice A1 x.es.length c1).ownBlock=some g->g<b1)
theorem eR.up {w w':World} {B:Nat} {v:Value} {x:Gr} (h:eR w B v x) (hx:Ext w w') (hB:B<=w.heap.size):eR w' B v x:=by
 obtain ⟨A1,c1,hv,h1⟩:=h
 exact ⟨A1,c1,hv,h1.up hx hB⟩
theorem eR.more {w:World} {B B':Nat} {v:Value} {x:Gr} (h:eR w B v x) (hB:B<=B'):eR w B' v x:=by
 obtain ⟨A1,c1,hv,h1⟩:=h
 exact ⟨A1,c1,hv,h1.more hB⟩
theorem eR.grown {w w':World} {B:Nat} {v:Value} {x:Gr} {row:Option Nat} (h:eR w B v x) (hg:w.grownBy w' row) (hB:B<=w.heap.size) (hr:∀g,row=some g->B<=g):eR w' B v x:=by
 obtain ⟨A1,c1,hv,h1⟩:=h
 exact ⟨A1,c1,hv,h1.grown hg hB hr⟩
theorem KT.at_ {w:World} {b0 b1:Nat} {v:Value} {x:Gr} (h:KT w b0 b1 v x):eR w w.heap.size v x:=by
 obtain ⟨A1,c1,hv,h1,l1⟩:=h
 exact ⟨A1,c1,hv,Rd.own h1⟩
theorem KT.ext {w w':World} {b0 b1:Nat} {v:Value} {x:Gr} (h:KT w b0 b1 v x) (hx:Ext w w'):KT w' b0 b1 v x:=by
 obtain ⟨A1,c1,hv,h1,l1⟩:=h
 exact ⟨A1,c1,hv,aq h1 hx,l1⟩
def Gr.small (x:Gr):Prop:=x.es.length<=1048576
def aiu (x y:Gr):Bool:=(x.n==y.n) && (zS Kn x.es y.es)
theorem ag1 (x:Gr):aiu x x=true:=by
 unfold aiu;simp [pC Kn UN]
def Gr.ok (x:Gr):Prop:=ob x.n/\x.es.length<=maxLen/\(∀g∈x.es,g.ok)
def GD (s:ByteArray):List Value:=[.string s]
abbrev jR (xs:List ByteArray):List Value:=xs.flatMap GD
theorem RD (s:ByteArray):(GD s).length=1:=rfl
theorem UO {w:World} {B n i:Nat} {A:OA} {xs:List ByteArray} (h:Rd w B 1 A n (jR xs)) (hi:i<n):
  ∃b o x,A=some ⟨b,o,none⟩/\b<B/\xs[i]?=some x/\w.cell? (aA b (o+i))=some (.string x):=by
 obtain ⟨b,o,x,rfl,hb,hx,hc⟩:=jO RD aa h hi;have:=hc 0 _ rfl;rw [yT,qY] at this
 exact ⟨b,o,x,rfl,hb,hx,this⟩
theorem ZZ (xs:List ByteArray):∀u∈jR xs,u.oneCell'=true:=by
 intro u hu;obtain ⟨x,_,hx⟩:=sH.1 hu;simp [GD] at hx;subst hx;rfl
theorem aaa:(prog.info? 9).map (fun i=>(i.zero,i.size,i.bytes))=some (some (.string ⟨#[]⟩),1,16):=af
theorem aab {w0 w:World} {ops:Array Oper} {rest:List Oper} {o:Oper} {a:Act} {Q:Exit->Act->World->Prop} (fx:o.guard=none) (s x:Operand)
  (ho:aO o s x 33) (v:Value) (n:Nat) (xs:List ByteArray) (hs:a.eval s=v)
  (bc:w.ownsRow w0.heap.size 9 1 v n (jR xs)) (cH:Ext w0 w) (A:OA) (m c:Nat) (ys:List ByteArray) (hx:a.eval x=.slice A m c) (hr:Rd w w.heap.size 1 A m (jR ys)) (hn:n+m<=2000000000000)
  (h:aH w0 w v 9 1 (n+m) (jR (xs++ys)) (wpList prog ops Q rest) a o):wpList prog ops Q (o::rest) a w:=by
 obtain ⟨i0,hi,eX,gX,jK⟩:=iF aaa
 exact eL fx s x _ ho 9 i0 _ 1 16 underlying33 hi eX gX jK rfl ae ae v n _ hs bc cH A m c _ hx hr (ZZ ys) hn (fun v' w' h1=>h v' w' (by unfold jR;rw [lR];exact h1))
theorem UP {w0 w:World} {ops:Array Oper} {rest:List Oper} {o:Oper} {a:Act} {Q:Exit->Act->World->Prop} (fx:o.guard=none) (s x:Operand)
  (ho:aO o s x 33) (v:Value) (n:Nat) (xs:List ByteArray) (hs:a.eval s=v)
  (bc:w.ownsRow w0.heap.size 9 1 v n (jR xs)) (cH:Ext w0 w) (y:ByteArray) (e:TypeId) (b:Nat) (hx:a.eval x=.slice (some ⟨b,0,none⟩) 1 1) (qc:b=w.heap.size) (hn:n<=1800000000000)
  (h:∀v' w',w'.ownsRow w0.heap.size 9 1 v' (n+1) (jR (xs++[y]))->Ext w0 w'->(w.alloc (cO #[.string y] e)).grownBy w' v.ownBlock->(v'.ownBlock=v.ownBlock\/v'.ownBlock=some (w.heap.size+1))->wpList prog ops Q rest (a.put o.dst v') w'):wpList prog ops Q (o::rest) a (w.alloc (cO #[.string y] e)):=by
 subst qc;refine aab fx s x ho v n xs hs (bc.alloc _) (cH.alloc _) _ 1 1 [y] hx (eh w _ e 1 _ (by simp [GD]) (by simp [GD])) aa ?_;intro v' w' h1 h2 h3 h4
 exact h v' w' h1 h2 h3 (sU h4)
theorem IL (a b:ByteArray):Lib.strCells (a++b)=Lib.strCells a++Lib.strCells b:=by
 unfold Lib.strCells;rw [acq,Uh,mf]
theorem infoByte:(prog.info? 5).map (fun i=>(i.zero,i.size,i.bytes))=some (some (.int .u8 0),1,1):=af
theorem aiv {w0 w:World} {ops:Array Oper} {rest:List Oper} {o:Oper} {a:Act} {Q:Exit->Act->World->Prop} (fx:o.guard=none) (sl x:Operand)
  (ho:o.op=.call {callee:=.builtin .append,args:=#[sl,x],argTypes:=#[22,9]}) (v:Value) (s:ByteArray) (hs:a.eval sl=v)
  (bc:w.ownsRow w0.heap.size 5 1 v s.size (Lib.strCells s)) (cH:Ext w0 w) (t:ByteArray) (hx:a.eval x=.string t) (hn:s.size+t.size<=2000000000000)
  (h:∀v' w',w'.ownsRow w0.heap.size 5 1 v' (s++t).size (Lib.strCells (s++t))->Ext w0 w'->wpList prog ops Q rest (a.put o.dst v') w'):wpList prog ops Q (o::rest) a w:=by
 obtain ⟨i0,hi,eX,gX,jK⟩:=iF infoByte;refine Lib.wpList_append_own_string (w:=w) fx sl x _ _ ho w0.heap.size 5 i0 yU Io hi eX gX jK v _ _ hs bc t hx (by unfold maxLen;omega) aa cH.size ?_;intro v' w' h1 h2 _;refine h v' w' ?_ (Below.grown cH h2 cH.size (fun k hk=>(bc.lt k hk).1));rw [lL,IL]
 exact h1
theorem aiw {w:World} {B:Nat} {v:Value} {s:ByteArray} (bc:w.ownsRow B 5 1 v s.size (Lib.strCells s)):(convert 22 9 v).run prog w=.ok (.string s) w:=by
 obtain ⟨A,c,rfl,hr⟩:=au bc;rcases A with _|ad
 ·have h0:s.size=0:=by
   rcases zQ s.size with h|h
   ·exact h
   ·obtain ⟨b,o,h,_⟩:=hr.2 h
    cases h
  have hs:s=⟨#[]⟩:=by
   apply Ug
   exact Array.eq_empty_of_size_eq_zero h0
  subst hs;refine (run_convert_bytes_string w _ _ _ _ _ _ yU IB Io).trans ?_;rfl
 ·have hc:∀j (hj:j<s.data.toList.length),w.cell? (ad.add j)=some (.int .u8 ((s.data.toList[j]).toNat:Int)):=by
   intro j hj;have hp:0<s.size:=by
    have:s.size=s.data.toList.length:=oW
    omega
   obtain ⟨b,o,h,_,hc⟩:=hr.2 hp;injection h with h;subst h;have:=hc j (.int .u8 ((s.data.toList[j]).toNat:Int)) (by unfold Lib.strCells;rw [sF,lB hj];rfl)
   by_cases h0:j=0
   ·subst h0;exact this
   ·simpa [Addr.add,h0] using this
  have hl:s.size=s.data.toList.length:=oW
  have:=run_convert_bytes_back w 22 9 5 ad c s.data.toList yU IB Io hc;rw [hl,this]
end Go.Proofs.YtiajdbllccmokaaGreatDoor
