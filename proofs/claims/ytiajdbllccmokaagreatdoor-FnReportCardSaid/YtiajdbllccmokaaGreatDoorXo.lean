import Derived.Test.YtiajdbllccmokaaGreatDoorXj
import Derived.Test.YtiajdbllccmokaaGreatDoorXl
namespace Go.Proofs.YtiajdbllccmokaaGreatDoor
open Go.ChangeShapes Go.WideShapes Go.ChangeAt Go.RowKit Go.Deep Go.Proofs.Tryz
set_option linter.unusedVariables false
set_option linter.unusedSimpArgs false
set_option maxRecDepth 100000
set_option maxHeartbeats 16000000
abbrev Pt.val (x:Pt):Value:=.agg #[iI x.m,iI x.c]
def Pt.cells (x:Pt):List Value:=[iI x.m,iI x.c]
abbrev aN (xs:List Pt):List Value:=xs.flatMap Pt.cells
theorem Pt.aE (x:Pt):x.cells.length=2:=rfl
theorem Qp {w:World} {B n i:Nat} {A:OA} {xs:List Pt} (h:Rd w B 2 A n (aN xs)) (hi:i<n):
  ∃b o x,A=some ⟨b,o,none⟩/\b<B/\xs[i]?=some x/\w.cell? (aA b (o+i*2))=some (iI x.m)/\w.cell? (aA b (o+i*2+1))=some (iI x.c):=by
 obtain ⟨b,o,x,rfl,hb,hx,hc⟩:=jO Pt.aE aa h hi
 exact ⟨b,o,x,rfl,hb,hx,hc 0 _ rfl,hc 1 _ rfl⟩
theorem VN:(prog.info? 179).map (fun i=>(i.zero,i.size,i.bytes))=some (some (.agg #[iI 0,iI 0]),2,16):=af
theorem Pt.one (xs:List Pt):∀u∈aN xs,u.oneCell'=true:=by
 intro u hu;obtain ⟨x,_,hx⟩:=sH.1 hu;simp [Pt.cells] at hx;rcases hx with rfl|rfl<;>rfl
theorem lW {w0 w:World} {ops:Array Oper} {rest:List Oper} {o:Oper} {a:Act} {Q:Exit->Act->World->Prop} (fx:o.guard=none) (s x:Operand)
  (ho:aO o s x 153) (v:Value) (n:Nat) (xs:List Pt) (hs:a.eval s=v)
  (bc:w.ownsRow w0.heap.size 179 2 v n (aN xs)) (cH:Ext w0 w) (A:OA) (m c:Nat) (ys:List Pt) (hx:a.eval x=.slice A m c) (hr:Rd w w.heap.size 2 A m (aN ys)) (hn:n+m<=2000000000000)
  (h:aH w0 w v 179 2 (n+m) (aN (xs++ys)) (wpList prog ops Q rest) a o):wpList prog ops Q (o::rest) a w:=by
 obtain ⟨i0,hi,eX,gX,jK⟩:=iF VN
 exact eL fx s x _ ho 179 i0 _ 2 16 underlying153 hi eX gX jK rfl ae ae v n _ hs bc cH A m c _ hx hr (Pt.one ys) hn (fun v' w' h1=>h v' w' (by unfold aN;rw [lR];exact h1))
theorem amm {w0 w:World} {ops:Array Oper} {o:Oper} {a:Act} {K:Act->World->Prop} {Q:Exit->Act->World->Prop} {E:Prop} (fx:o.guard=none) (s x:Operand)
  (ho:aO o s x 153) (v:Value) (n:Nat) (xs:List Pt) (hs:a.eval s=v)
  (bc:w.ownsRow w0.heap.size 179 2 v n (aN xs)) (cH:Ext w0 w) (A:OA) (m c:Nat) (ys:List Pt) (hx:a.eval x=.slice A m c) (hr:Rd w w.heap.size 2 A m (aN ys)) (hn:n+m<=2000000000000)
  (h:aH w0 w v 179 2 (n+m) (aN (xs++ys)) K a o):if Region.wanted o (yielded ops a.tmps)=true then Oper.wp prog o a w K Q else E:=by
 obtain ⟨i0,hi,eX,gX,jK⟩:=iF VN
 exact kT fx s x _ ho 179 i0 _ 2 16 underlying153 hi eX gX jK rfl ae ae v n _ hs bc cH A m c _ hx hr (Pt.one ys) hn (fun v' w' h1=>h v' w' (by unfold aN;rw [lR];exact h1))
theorem Lt {w0 w:World} {ops:Array Oper} {rest:List Oper} {o:Oper} {a:Act} {Q:Exit->Act->World->Prop} (fx:o.guard=none) (s x:Operand)
  (ho:aO o s x 153) (v:Value) (n:Nat) (xs:List Pt) (hs:a.eval s=v)
  (bc:w.ownsRow w0.heap.size 179 2 v n (aN xs)) (cH:Ext w0 w) (y:Pt) (e:TypeId) (b:Nat) (hx:a.eval x=.slice (some ⟨b,0,none⟩) 1 1) (qc:b=w.heap.size) (hn:n<=1800000000000)
  (h:∀v' w',w'.ownsRow w0.heap.size 179 2 v' (n+1) (aN (xs++[y]))->Ext w0 w'->(w.alloc (cO #[iI y.m,iI y.c] e)).grownBy w' v.ownBlock->(v'.ownBlock=v.ownBlock\/v'.ownBlock=some (w.heap.size+1))->wpList prog ops Q rest (a.put o.dst v') w'):wpList prog ops Q (o::rest) a (w.alloc (cO #[iI y.m,iI y.c] e)):=by
 subst qc;refine lW fx s x ho v n xs hs (bc.alloc _) (cH.alloc _) _ 1 1 [y] hx (eh w _ e 2 _ (by simp [Pt.cells]) (by simp [Pt.cells])) aa ?_;intro v' w' h1 h2 h3 h4
 exact h v' w' h1 h2 h3 (sU h4)
abbrev Af.val (x:Af):Value:=.agg #[iI x.m,iI x.f]
def Af.cells (x:Af):List Value:=[iI x.m,iI x.f]
abbrev bA (xs:List Af):List Value:=xs.flatMap Af.cells
theorem Af.aE (x:Af):x.cells.length=2:=rfl
theorem Dt {w:World} {B n i:Nat} {A:OA} {xs:List Af} (h:Rd w B 2 A n (bA xs)) (hi:i<n):
  ∃b o x,A=some ⟨b,o,none⟩/\b<B/\xs[i]?=some x/\w.cell? (aA b (o+i*2))=some (iI x.m)/\w.cell? (aA b (o+i*2+1))=some (iI x.f):=by
 obtain ⟨b,o,x,rfl,hb,hx,hc⟩:=jO Af.aE aa h hi
 exact ⟨b,o,x,rfl,hb,hx,hc 0 _ rfl,hc 1 _ rfl⟩
theorem VO:(prog.info? 161).map (fun i=>(i.zero,i.size,i.bytes))=some (some (.agg #[iI 0,iI 0]),2,16):=af
theorem Af.one (xs:List Af):∀u∈bA xs,u.oneCell'=true:=by
 intro u hu;obtain ⟨x,_,hx⟩:=sH.1 hu;simp [Af.cells] at hx;rcases hx with rfl|rfl<;>rfl
theorem Ok {w0 w:World} {ops:Array Oper} {rest:List Oper} {o:Oper} {a:Act} {Q:Exit->Act->World->Prop} (fx:o.guard=none) (s x:Operand)
  (ho:aO o s x 154) (v:Value) (n:Nat) (xs:List Af) (hs:a.eval s=v)
  (bc:w.ownsRow w0.heap.size 161 2 v n (bA xs)) (cH:Ext w0 w) (A:OA) (m c:Nat) (ys:List Af) (hx:a.eval x=.slice A m c) (hr:Rd w w.heap.size 2 A m (bA ys)) (hn:n+m<=2000000000000)
  (h:aH w0 w v 161 2 (n+m) (bA (xs++ys)) (wpList prog ops Q rest) a o):wpList prog ops Q (o::rest) a w:=by
 obtain ⟨i0,hi,eX,gX,jK⟩:=iF VO
 exact eL fx s x _ ho 161 i0 _ 2 16 underlying154 hi eX gX jK rfl ae ae v n _ hs bc cH A m c _ hx hr (Af.one ys) hn (fun v' w' h1=>h v' w' (by unfold bA;rw [lR];exact h1))
theorem amn {w0 w:World} {ops:Array Oper} {o:Oper} {a:Act} {K:Act->World->Prop} {Q:Exit->Act->World->Prop} {E:Prop} (fx:o.guard=none) (s x:Operand)
  (ho:aO o s x 154) (v:Value) (n:Nat) (xs:List Af) (hs:a.eval s=v)
  (bc:w.ownsRow w0.heap.size 161 2 v n (bA xs)) (cH:Ext w0 w) (A:OA) (m c:Nat) (ys:List Af) (hx:a.eval x=.slice A m c) (hr:Rd w w.heap.size 2 A m (bA ys)) (hn:n+m<=2000000000000)
  (h:aH w0 w v 161 2 (n+m) (bA (xs++ys)) K a o):if Region.wanted o (yielded ops a.tmps)=true then Oper.wp prog o a w K Q else E:=by
 obtain ⟨i0,hi,eX,gX,jK⟩:=iF VO
 exact kT fx s x _ ho 161 i0 _ 2 16 underlying154 hi eX gX jK rfl ae ae v n _ hs bc cH A m c _ hx hr (Af.one ys) hn (fun v' w' h1=>h v' w' (by unfold bA;rw [lR];exact h1))
theorem arM {w0 w:World} {ops:Array Oper} {rest:List Oper} {o:Oper} {a:Act} {Q:Exit->Act->World->Prop} (fx:o.guard=none) (s x:Operand)
  (ho:aO o s x 154) (v:Value) (n:Nat) (xs:List Af) (hs:a.eval s=v)
  (bc:w.ownsRow w0.heap.size 161 2 v n (bA xs)) (cH:Ext w0 w) (y:Af) (e:TypeId) (b:Nat) (hx:a.eval x=.slice (some ⟨b,0,none⟩) 1 1) (qc:b=w.heap.size) (hn:n<=1800000000000)
  (h:∀v' w',w'.ownsRow w0.heap.size 161 2 v' (n+1) (bA (xs++[y]))->Ext w0 w'->(w.alloc (cO #[iI y.m,iI y.f] e)).grownBy w' v.ownBlock->(v'.ownBlock=v.ownBlock\/v'.ownBlock=some (w.heap.size+1))->wpList prog ops Q rest (a.put o.dst v') w'):wpList prog ops Q (o::rest) a (w.alloc (cO #[iI y.m,iI y.f] e)):=by
 subst qc;refine Ok fx s x ho v n xs hs (bc.alloc _) (cH.alloc _) _ 1 1 [y] hx (eh w _ e 2 _ kF kF) aa ?_;intro v' w' h1 h2 h3 h4
 exact h v' w' h1 h2 h3 (sU h4)
def Plain (A:OA) (c:Nat):Prop:=(A=none/\c=0)\/∃b o,A=some ⟨b,o,none⟩
theorem GX {w:World} {B e size n c:Nat} {A:OA} {xs:List Value} (h:w.ownsRow B e size (.slice A n c) n xs):Plain A c:=by
 rcases h.2 with ⟨h0,hn⟩|⟨g,iJ,cur,hv,_,_,_,_⟩
 ·injection h0 with h1 h2 h3;subst h1 h3
  exact Or.inl ⟨rfl,rfl⟩
 ·injection hv with h1 h2 h3
  exact Or.inr ⟨g,0,h1⟩
def Lu (w:World) (B:Nat) (v:Value) (p:Pp):Prop:=∃(A1:OA) (c1:Nat) (A2:OA) (c2:Nat),v=.agg #[iI p.n,iI p.ph,.slice A1 p.ts.length c1,.slice A2 p.os.length c2]/\
 Rd w B 2 A1 p.ts.length (aN p.ts)/\Rd w B 2 A2 p.os.length (bA p.os)/\p.ts.length<=c1/\p.os.length<=c2/\Plain A1 c1/\Plain A2 c2
theorem Lu.ext {w w':World} {v:Value} {p:Pp} (h:Lu w w.heap.size v p) (hx:Ext w w'):Lu w' w'.heap.size v p:=by
 obtain ⟨A1,c1,A2,c2,h1,h2,h3,h4⟩:=h
 exact ⟨A1,c1,A2,c2,h1,h2.ext hx,h3.ext hx,h4⟩
def th (w:World) (B:Nat) (v:Value) (p:Pp):Prop:=∃(A1:OA) (c1:Nat) (A2:OA) (c2:Nat),v=.agg #[iI p.n,iI p.ph,.slice A1 p.ts.length c1,.slice A2 p.os.length c2]/\
 w.ownsRow B 179 2 (.slice A1 p.ts.length c1) p.ts.length (aN p.ts)/\w.ownsRow B 161 2 (.slice A2 p.os.length c2) p.os.length (bA p.os)
theorem VP {w:World} {B:Nat} {v:Value} {p:Pp} (h:th w B v p):Lu w w.heap.size v p:=by
 obtain ⟨A1,c1,A2,c2,h1,h2,h3⟩:=h;have l1:p.ts.length<=c1:=by
  rcases h2.2 with ⟨h0,h5⟩|⟨g,cap,cur,hv,_,_,KG,_⟩
  ·omega
  ·injection hv with _ _ h6;omega
 have l2:p.os.length<=c2:=by
  rcases h3.2 with ⟨h0,h5⟩|⟨g,cap,cur,hv,_,_,KG,_⟩
  ·omega
  ·injection hv with _ _ h6;omega
 exact ⟨A1,c1,A2,c2,h1,Rd.own h2,Rd.own h3,l1,l2,GX h2,GX h3⟩
theorem VQ {ts:List Pt} {m:Int} {k:Nat} {x:Pt} (hx:ts[k]?=some x) (hn:∀y∈ts.take k,¬y.m=m) (hm:x.m=m):ld ts m=x.c:=by
 have e:ts=ts.take k++x::ts.drop (k+1):=by
  obtain ⟨hl,rfl⟩:=gU.1 hx;rw [<-xv hl,qW]
 unfold ld;rw [e,List.find?_append];have h0:(ts.take k).find? (fun t=>t.m==m)=none:=Ir.2 fun y hy=>by simpa using hn y hy
 rw [h0];simp [hm]
theorem Sb {ts:List Pt} {m:Int} (hn:∀y∈ts,¬y.m=m):ld ts m=0:=by
 unfold ld;rw [Ir.2 fun y hy=>by simpa using hn y hy]
theorem Lv (v:Value) (p:Pp) (m:Int) (w:World) (h:Lu w w.heap.size v p) (hn:p.ts.length<=200000000000):
  Calls prog 121 #[v,iI m] w fun e w'=>e=.returned (iI (ld p.ts m))/\Ext w w':=by
 obtain ⟨A1,c1,A2,c2,rfl,hr,-,-⟩:=h;obtain ⟨ts,hts⟩:=ey (p.ts);obtain ⟨n,vA⟩:=ey (ts.length);rw [<-hts] at hr hn |-;rw [<-vA] at hr hn |-;have HN:=hY vA.symm;have dk:Hid (Ext w (w.alloc (cO #[iI p.n,iI p.ph,.slice A1 n c1,.slice A2 p.os.length c2] 156))):=fo
 have HB:Hid (ay (w.alloc (cO #[iI p.n,iI p.ph,.slice A1 n c1,.slice A2 p.os.length c2] 156)) w.heap.size 156 #[iI p.n,iI p.ph,.slice A1 n c1,.slice A2 p.os.length c2]):=ay.new w _ _;have HR:=hY (hr.ext dk.u);clear hr hts vA;go_enter func121,ntmps121;go_upto_region 1 with fail;generalize w.alloc (cO #[iI p.n,iI p.ph,.slice A1 n c1,.slice A2 p.os.length c2] 156)=W at*
 obtain ⟨⟨b0,b1,b2,b3⟩,-⟩:=aB HB.u;go_wp2
 go_loop [5] (fun i=>∃k:Nat,k<=n/\i=iI k/\Hid (∀y∈ts.take k,¬y.m=m)) (fun i=>n - (intOf i).toNat)
 case atStart=>exact ⟨0,lJ _,rfl,fun y hy=>by simp at hy⟩
 case round=>
  obtain ⟨k,hk,rfl,HQ⟩:=hrel
  by_cases bh:k<n
  ·obtain ⟨b,o,x,rfl,-,hx,x0,x1⟩:=Qp HR.u bh;have HX:=hY hx;have bS:=hY bh;have eM:=wA k aa;have iG:=wB k aa;clear hx
   by_cases hm:x.m=m
   ·have HV:=hY (VQ HX.u HQ.u hm);have hmb:(x.m==m)=true:=sU hm
    clear hm;go_wp2;go_ret
    exact ⟨dZ HV.u.symm,dk.u⟩
   ·have mr:Hid (∀y∈ts.take (k+1),¬y.m=m):=fun y hy=>by
     rw [aL HX.u] at hy;rcases mM.1 hy with hy|hy
     ·exact HQ.u y hy
     ·rw [xt.1 hy];exact hm
    have hmb:(x.m==m)=false:=sU hm
    clear hm;go_wp2;go_roundw
    case rel=>exact ⟨k+1,oM bS.u,by first|rfl|rw [eM]|rw [iG],mr⟩
    case measure=>simp [intOf,iG];have:=bS.u;omega
  ·have jT:k=n:=aa
   subst jT;have HV:Hid (ld ts m=0):=Sb fun y hy=>HQ.u y (by rw [lE (by rw [HN.u];exact lI _)];exact hy)
   go_wp2;go_ret
   exact ⟨dZ HV.u.symm,dk.u⟩
theorem pI {w:World} {B:Nat} (h:B<=w.heap.size):({w with heap:=w.heap.extract 0 B}:World).heap.size=B:=aj
theorem Du {w:World} {B:Nat} (h:B<=w.heap.size):Ext ({w with heap:=w.heap.extract 0 B}:World) w:=by
 refine ⟨rfl,rfl,rfl,by rw [pI h];exact h,fun k hk=>?_⟩;rw [pI h] at hk;simp [Ng];omega
theorem GY {w w':World} (h:Ext w w') (row:Option Nat):w.grownBy w' row:=⟨h.os,h.tape,h.output,h.size,fun k hk _=>h.block k hk⟩
theorem Je {w:World} {B:Nat} {ops:Array Oper} {rest:List Oper} {o:Oper} {a:Act} {Q:Exit->Act->World->Prop} (fx:o.guard=none) (s x:Operand)
  (ho:aO o s x 154) (v:Value) (n:Nat) (xs:List Af) (hs:a.eval s=v)
  (bc:w.ownsRow B 161 2 v n (bA xs)) (hB:B<=w.heap.size) (y:Af) (e:TypeId) (b:Nat) (hx:a.eval x=.slice (some ⟨b,0,none⟩) 1 1) (qc:b=w.heap.size) (hn:n<=1800000000000)
  (h:∀A' c' w',w'.ownsRow B 161 2 (.slice A' (n+1) c') (n+1) (bA (xs++[y]))->w.grownBy w' v.ownBlock->wpList prog ops Q rest (a.put o.dst (.slice A' (n+1) c')) w'):
  wpList prog ops Q (o::rest) a (w.alloc (cO #[iI y.m,iI y.f] e)):=by
 subst qc;have mH:=pI hB;refine Ok (w0:={w with heap:=w.heap.extract 0 B}) fx s x ho v n xs hs dR ((Du hB).alloc _) _ 1 1 [y] hx (eh w _ e 2 _ kF kF) aa ?_;intro v' w' h1 h2 h3 h4;rw [mH] at h1;obtain ⟨A',c',rfl,_⟩:=au h1
 exact h A' c' w' h1 (yP (GY ((xZ w).alloc _) _) h3)
structure Sc (w0 W:World) (r q:Nat) (n:Int) (A:OA) (k c:Nat) (os:List Af):Prop where
 b0:ay W r 156 jB
 b:ay W q 156 #[iI n,iI 0,nS,.slice A k c]
 o:W.ownsRow (q+1) 161 2 (.slice A k c) k (bA os)
 x:Ext w0 W
 le:w0.heap.size<=r/\r<q
theorem Sc.app {w0 W W':World} {r q:Nat} {n:Int} {A A':OA} {k c c':Nat} {os:List Af} {y:Af} (h:Sc w0 W r q n A k c os) (ho:W'.ownsRow (q+1) 161 2 (.slice A' (k+1) c') (k+1) (bA (os++[y]))) (hg:W.grownBy W' (Value.slice A k c).ownBlock):
  ay W' q 156 #[iI n,iI 0,nS,.slice A k c]/\Sc w0 (W'.setCell (aA q 3) (.slice A' (k+1) c')) r q n A' (k+1) c' (os++[y]):=by
 obtain ⟨l1,l2⟩:=h.le;have hne:∀g,(Value.slice A k c).ownBlock=some g->q<g:=fun g hgk=>oM ((h.o.lt g hgk).1)
 have hb:=h.b.grown hg (fun g hgk=>oM (hne g hgk))
 exact ⟨hb,(h.b0.grown hg (fun g hgk=>oM (hne g hgk))).bX (p:=(aA q 3)) (by show r≠q;omega) _,hb.ba 3 _,bk ho (p:=(aA q 3)) (uH q) _,(h.x.grown hg (fun g hgk=>oM (hne g hgk))).setCell (p:=(aA q 3)) (by show w0.heap.size<=q;omega) _,h.le⟩
def Lw (k:Nat):List Af:=(List.range k).map fun (q:Nat)=>⟨pw (q:Int),0⟩
theorem Us (k:Nat):Lw (k+1)=Lw k++[⟨pw (k:Int),0⟩]:=by unfold Lw;rw [BW,mf];rfl
theorem Qq (k:Nat):(Lw k).length=k:=by unfold Lw;rw [jk,Nt]
theorem fh (n:Int) (w:World) (h1:1<=n) (h4:n<=4):Calls prog 118 #[iI n] w fun e w'=>(∃v,e=.returned v/\th w' w.heap.size v (Bs n))/\Ext w w':=by
 go_enter func118,ntmps118;go_wp2_with fail;refine (aF _ _ _ _ h1 h4).mono ?_;rintro e w' ⟨rfl,rfl⟩;have HP0:Hid (Sc w ((w.alloc (cO jB 156)).alloc (cO #[iI n,iI 0,nS,nS] 156)) w.heap.size (w.heap.size+1) n none 0 0 []):=⟨(ay.new w _ _).alloc _,ay.newAt ag,⟨ag,.inl ⟨rfl,rfl⟩⟩,aD,lI _,uH _⟩;go_upto_region 5 with fail;generalize (w.alloc (cO jB 156)).alloc (cO #[iI n,iI 0,nS,nS] 156)=W at*
 have HN:Hid (1<=n/\n<=4):=⟨h1,h4⟩
 go_loopw [4] (fun iv wr=>∃(k:Nat) (A:OA) (c:Nat),iv=iI k/\(k:Int)<=n/\Hid (Sc w wr w.heap.size (w.heap.size+1) n A k c (Lw k))) (fun iv _=>n.toNat - (intOf iv).toNat)
 case atStart=>exact ⟨0,none,0,rfl,aa,HP0⟩
 case round=>
  obtain ⟨k,A,c,rfl,hk,HD⟩:=hrel;clear HP0
  by_cases bh:(k:Int)<n
  ·have bS:=hY bh;have hk4:k=0\/k=1\/k=2\/k=3:=aa
   rcases hk4 with rfl|rfl|rfl|rfl
   ·have h0:=HD.u.b;have b3:=h0.ck 3;have UM:=h0.lt;clear h0;go_wp2_with (at_builtin;refine Je (B:=w.heap.size+1+1) rfl _ _ rfl _ 0 (Lw 0) rfl HD.u.o aa ⟨pw (0:Nat),0⟩ _ _ rfl rfl aa ?_;intro A9 c9 w9 g1 g2;have HA:=hY (Sc.app HD.u g1 g2);have k3:w9.cell? (aA (w.z+1) 3)=some (.slice A 0 c):=HA.u.1.cell 3;have f3:w9.frozen? (aA (w.z+1) 3)=false:=HA.u.1.frozen 3;clear g1 g2)
    have yH:Hid (Sc w (w9.setCell (aA (w.heap.size+1) 3) (.slice A9 (0+1) c9)) w.heap.size (w.heap.size+1) n A9 (0+1) c9 (Lw (0+1))):=kE
    clear k3 f3 b3;go_wp2;go_roundw
    case rel=>exact ⟨1,A9,c9,rfl,oM HN.u,yH⟩
    case measure=>simp [intOf];have:=bS.u;omega
   ·have h0:=HD.u.b;have b3:=h0.ck 3;have UM:=h0.lt;clear h0;go_wp2_with (at_builtin;refine Je (B:=w.heap.size+1+1) rfl _ _ rfl _ 1 (Lw 1) rfl HD.u.o aa ⟨pw (1:Nat),0⟩ _ _ rfl rfl aa ?_;intro A9 c9 w9 g1 g2;have HA:=hY (Sc.app HD.u g1 g2);have k3:w9.cell? (aA (w.z+1) 3)=some (.slice A 1 c):=HA.u.1.cell 3;have f3:w9.frozen? (aA (w.z+1) 3)=false:=HA.u.1.frozen 3;clear g1 g2)
    have yH:Hid (Sc w (w9.setCell (aA (w.heap.size+1) 3) (.slice A9 (1+1) c9)) w.heap.size (w.heap.size+1) n A9 (1+1) c9 (Lw (1+1))):=kE
    clear k3 f3 b3;go_wp2;go_roundw
    case rel=>exact ⟨2,A9,c9,rfl,oM HN.u,yH⟩
    case measure=>simp [intOf];have:=bS.u;omega
   ·have h0:=HD.u.b;have b3:=h0.ck 3;have UM:=h0.lt;clear h0;go_wp2_with (at_builtin;refine Je (B:=w.heap.size+1+1) rfl _ _ rfl _ 2 (Lw 2) rfl HD.u.o aa ⟨pw (2:Nat),0⟩ _ _ rfl rfl aa ?_;intro A9 c9 w9 g1 g2;have HA:=hY (Sc.app HD.u g1 g2);have k3:w9.cell? (aA (w.z+1) 3)=some (.slice A 2 c):=HA.u.1.cell 3;have f3:w9.frozen? (aA (w.z+1) 3)=false:=HA.u.1.frozen 3;clear g1 g2)
    have yH:Hid (Sc w (w9.setCell (aA (w.heap.size+1) 3) (.slice A9 (2+1) c9)) w.heap.size (w.heap.size+1) n A9 (2+1) c9 (Lw (2+1))):=kE
    clear k3 f3 b3;go_wp2;go_roundw
    case rel=>exact ⟨3,A9,c9,rfl,oM HN.u,yH⟩
    case measure=>simp [intOf];have:=bS.u;omega
   ·have h0:=HD.u.b;have b3:=h0.ck 3;have UM:=h0.lt;clear h0;go_wp2_with (at_builtin;refine Je (B:=w.heap.size+1+1) rfl _ _ rfl _ 3 (Lw 3) rfl HD.u.o aa ⟨pw (3:Nat),0⟩ _ _ rfl rfl aa ?_;intro A9 c9 w9 g1 g2;have HA:=hY (Sc.app HD.u g1 g2);have k3:w9.cell? (aA (w.z+1) 3)=some (.slice A 3 c):=HA.u.1.cell 3;have f3:w9.frozen? (aA (w.z+1) 3)=false:=HA.u.1.frozen 3;clear g1 g2)
    have yH:Hid (Sc w (w9.setCell (aA (w.heap.size+1) 3) (.slice A9 (3+1) c9)) w.heap.size (w.heap.size+1) n A9 (3+1) c9 (Lw (3+1))):=kE
    clear k3 f3 b3;go_wp2;go_roundw
    case rel=>exact ⟨4,A9,c9,rfl,oM HN.u,yH⟩
    case measure=>simp [intOf];have:=bS.u;omega
  ·have jT:n=(k:Int):=aa
   subst jT;have hz:=HD.u.le;obtain ⟨⟨b0,b1,b2,b3⟩,-⟩:=aB HD.u.b;obtain ⟨⟨d0,d1,d2,d3⟩,z0,z1,z2,z3⟩:=aB HD.u.b0;have HB:Hid (ay (bP wr w.heap.size (iI k) (iI 0) (nS) (.slice A k c)) w.heap.size 156 #[iI k,iI 0,nS,.slice A k c]):=HD.u.b0.bP _ _ _ _;have HX:Hid (Ext w (bP wr w.heap.size (iI k) (iI 0) (nS) (.slice A k c))):=br (g:=w.heap.size) HD.u.x (lI _) _ _ _ _;have HO:Hid ((bP wr w.heap.size (iI k) (iI 0) (nS) (.slice A k c)).ownsRow (w.heap.size+1+1) 161 2 (.slice A k c) k (bA (Lw k))):=
    bk (bk (bk (bk HD.u.o (p:=(aA w.heap.size 0)) (by show w.heap.size<_;omega) _) (p:=(aA w.heap.size 1)) (by show w.heap.size<_;omega) _) (p:=(aA w.heap.size 2)) (by show w.heap.size<_;omega) _) (p:=(aA w.heap.size 3)) (by show w.heap.size<_;omega) _
   go_wp2;refine bR (v:=.agg #[iI k,iI 0,nS,.slice A k c]) ?_ rfl ?_
   rotate_left
   ·have ho:(Bs k).os=Lw k:=by unfold Bs Lw;rw [uG]
    refine ⟨⟨_,rfl,none,0,A,c,?_,⟨rfl,Or.inl ⟨rfl,rfl⟩⟩,?_⟩,HX.u⟩
    ·rw [ho,Qq];rfl
    ·rw [ho,Qq];exact aC HO.u aa
   ·exact nU rfl _ _ w.heap.size 156 _ (0,0) _ af HB.u underlying156 rfl af
theorem Lx (v:Value) (p:Pp) (w:World) (h:Lu w w.heap.size v p) (hn:p.ts.length<=200000000000) (hm:p.os.length<=200000000000):
  Calls prog 131 #[v] w fun e w'=>(∃v',e=.returned v'/\th w' w.heap.size v' p)/\Ext w w':=by
 obtain ⟨A1,c1,A2,c2,rfl,pD,mg,-,-,-,-⟩:=h;obtain ⟨N,F,ts,os⟩:=p;simp only at pD mg hn hm |-;obtain ⟨n1,nM⟩:=ey (ts.length);obtain ⟨n2,GC⟩:=ey (os.length);rw [<-nM] at pD hn |-;rw [<-GC] at mg hm |-;have HN:=hY (lQ nM GC);have dk:Hid (Ext w ((w.alloc (cO #[iI N,iI F,.slice A1 n1 c1,.slice A2 n2 c2] 156)).alloc (cO jB 156))):=fo
 have HB:Hid (ay ((w.alloc (cO #[iI N,iI F,.slice A1 n1 c1,.slice A2 n2 c2] 156)).alloc (cO jB 156)) w.heap.size 156 #[iI N,iI F,.slice A1 n1 c1,.slice A2 n2 c2]/\ay ((w.alloc (cO #[iI N,iI F,.slice A1 n1 c1,.slice A2 n2 c2] 156)).alloc (cO jB 156)) (w.heap.size+1) 156 jB):=⟨(ay.new w _ _).alloc _,ay.newAt ag⟩;have hs:w.heap.size+1+1=((w.alloc (cO #[iI N,iI F,.slice A1 n1 c1,.slice A2 n2 c2] 156)).alloc (cO jB 156)).heap.size:=ag
 have mI:=hY pD;have iL:=hY mg;clear pD mg nM GC;go_enter func131,ntmps131;go_upto_region 1 with fail;generalize ((w.alloc (cO #[iI N,iI F,.slice A1 n1 c1,.slice A2 n2 c2] 156)).alloc (cO jB 156))=W at*
 have a2:(W.alloc (cO #[] 179)).cell? (aA w.z 2)=some (.slice A1 n1 c1):=(HB.u.1.alloc _).cell 2;go_upto_region 2 with (at_builtin;refine lW (w0:=W) rfl _ _ rfl _ 0 [] rfl (aJ W W _ 2 (xZ _)) ((xZ W).alloc _) A1 n1 c1 ts rfl ((mI.u.ext dk.u).ext ((xZ _).alloc _)) aa ?_;intro v5 w5 g1 g2 g3 g4;rw [lM,lN] at g1;obtain ⟨A5,c5,rfl,-⟩:=au g1;have k2:w5.cell? (aA w.z 2)=some (.slice A1 n1 c1):=(HB.u.1.ext g2).cell 2;have f2:w5.frozen? (aA w.z 2)=false:=(HB.u.1.ext g2).frozen 2)
 have aeJ:w.heap.size<W.heap.size:=aa
 have vB:Hid (ay (w5.setCell (aA w.heap.size 2) (.slice A5 n1 c5)) w.heap.size 156 #[iI N,iI F,.slice A5 n1 c5,.slice A2 n2 c2]/\ay (w5.setCell (aA w.heap.size 2) (.slice A5 n1 c5)) (w.heap.size+1) 156 jB):=⟨(HB.u.1.ext g2).ba 2 _,(HB.u.2.ext g2).bX (p:=(aA w.heap.size 2)) (by show w.heap.size+1≠w.heap.size;omega) _⟩;have iK:Hid ((w5.setCell (aA w.heap.size 2) (.slice A5 n1 c5)).ownsRow W.heap.size 179 2 (.slice A5 n1 c5) n1 (aN ts)):=bk g1 (p:=(aA w.heap.size 2)) aeJ _;have iN:Hid (Ext w (w5.setCell (aA w.heap.size 2) (.slice A5 n1 c5))):=(dk.u.trans g2).setCell (p:=(aA w.heap.size 2)) (lI _) _;have Ol:W.heap.size<=(w5.setCell (aA w.heap.size 2) (.slice A5 n1 c5)).heap.size:=by have:=g2.size;simpa using this
 (try rw [lM])
 clear a2 k2 f2 g1 g2 g3 g4 HB;generalize w5.setCell (aA w.heap.size 2) (.slice A5 n1 c5)=W2 at*
 have a3:(W2.alloc (cO #[] 161)).cell? (aA w.z 3)=some (.slice A2 n2 c2):=(vB.u.1.alloc _).cell 3;go_upto_region 3 with (at_builtin;refine Ok (w0:=W2) rfl _ _ rfl _ 0 [] rfl (aJ W2 W2 _ 2 (xZ _)) ((xZ W2).alloc _) A2 n2 c2 os rfl ((iL.u.ext iN.u).ext ((xZ _).alloc _)) aa ?_;intro v6 w6 g1 g2 g3 g4;rw [lM,lN] at g1;obtain ⟨A6,c6,rfl,-⟩:=au g1;have k2:w6.cell? (aA w.z 3)=some (.slice A2 n2 c2):=(vB.u.1.ext g2).cell 3;have f2:w6.frozen? (aA w.z 3)=false:=(vB.u.1.ext g2).frozen 3)
 have dL:Hid (ay (w6.setCell (aA w.heap.size 3) (.slice A6 n2 c6)) w.heap.size 156 #[iI N,iI F,.slice A5 n1 c5,.slice A6 n2 c6]/\ay (w6.setCell (aA w.heap.size 3) (.slice A6 n2 c6)) (w.heap.size+1) 156 jB):=⟨(vB.u.1.ext g2).ba 3 _,(vB.u.2.ext g2).bX (p:=(aA w.heap.size 3)) (by show w.heap.size+1≠w.heap.size;omega) _⟩;have km:Hid ((w6.setCell (aA w.heap.size 3) (.slice A6 n2 c6)).ownsRow W.heap.size 161 2 (.slice A6 n2 c6) n2 (bA os)/\(w6.setCell (aA w.heap.size 3) (.slice A6 n2 c6)).ownsRow W.heap.size 179 2 (.slice A5 n1 c5) n1 (aN ts)):=⟨bk (aC g1 Ol) (p:=(aA w.heap.size 3)) aeJ _,bk (aq iK.u g2) (p:=(aA w.heap.size 3)) aeJ _⟩;have dG:Hid (Ext w (w6.setCell (aA w.heap.size 3) (.slice A6 n2 c6))):=(iN.u.trans g2).setCell (p:=(aA w.heap.size 3)) (lI _) _
 (try rw [lM])
 clear a3 k2 f2 g1 g2 g3 g4 vB iK iN;generalize w6.setCell (aA w.heap.size 3) (.slice A6 n2 c6)=W3 at*
 obtain ⟨⟨b0,b1,b2,b3⟩,-⟩:=aB dL.u.1;obtain ⟨⟨d0,d1,d2,d3⟩,z0,z1,z2,z3⟩:=aB dL.u.2;have lX:Hid (ay (bP W3 (w.heap.size+1) (iI N) (iI F) (.slice A5 n1 c5) (.slice A6 n2 c6)) (w.heap.size+1) 156 #[iI N,iI F,.slice A5 n1 c5,.slice A6 n2 c6]):=dL.u.2.bP _ _ _ _;have eQ:Hid (Ext w (bP W3 (w.heap.size+1) (iI N) (iI F) (.slice A5 n1 c5) (.slice A6 n2 c6))):=br (g:=w.heap.size+1) dG.u aa _ _ _ _;have nQ:w.heap.size+1<W.heap.size:=aa
 have bc:∀{e size n:Nat} {u:Value} {xs:List Value},W3.ownsRow W.heap.size e size u n xs->(bP W3 (w.heap.size+1) (iI N) (iI F) (.slice A5 n1 c5) (.slice A6 n2 c6)).ownsRow w.heap.size e size u n xs:=fun ho=>aC (bk (bk (bk (bk ho (p:=(aA (w.heap.size+1) 0)) nQ _) (p:=(aA (w.heap.size+1) 1)) nQ _) (p:=(aA (w.heap.size+1) 2)) nQ _) (p:=(aA (w.heap.size+1) 3)) nQ _) aa
 have fF:=hY (lQ (bc km.u.1) (bc km.u.2));clear bc;go_wp2;refine bR (v:=.agg #[iI N,iI F,.slice A5 n1 c5,.slice A6 n2 c6]) ?_ rfl ?_
 rotate_left
 ·refine ⟨⟨_,rfl,A5,c5,A6,c6,?_,?_,?_⟩,eQ.u⟩
  ·rw [HN.u.1,HN.u.2]
  ·show World.ownsRow _ _ _ 2 (.slice A5 ts.length c5) ts.length (aN ts);rw [<-HN.u.1]
   exact fF.u.2
  ·show World.ownsRow _ _ _ 2 (.slice A6 os.length c6) os.length (bA os);rw [<-HN.u.2]
   exact fF.u.1
 ·exact nU rfl _ _ (w.heap.size+1) 156 _ (0,0) _ af lX.u underlying156 rfl af
def okP (p:List Int) (i:Nat) (x:Int):Bool:=decide (0<=x) && decide (x<=(p.length:Int) - 1) && !(fC (p.take i) x)
def tj (p:List Int) (k:Nat):Bool:=(List.range k).all fun i=>okP p i (p.getD i 0)
def perm (p:List Int):Bool:=tj p p.length && (decide (1<=p.length) && decide (p.length<=4))
theorem Om {p:List Int} {k:Nat} {x:Int} (h:p[k]?=some x):tj p (k+1)=(tj p k && okP p k x):=by
 unfold tj;rw [BW,nX];simp [h]
theorem Qr {p:List Int} {k:Nat} {x:Int} (h:p[k]?=some x) (hx:okP p k x=false):perm p=false:=by
 have hk:=(gU.1 h).1;have:tj p p.length=false:=by
  rw [Gl];intro ha;unfold tj at ha;rw [lO] at ha;have:=ha k cG;rw [lP,h] at this;simp [hx] at this
 simp [perm,this]
theorem VR {p:List Int} (h:p.length<1\/4<p.length):perm p=false:=by
 unfold perm;rcases h with h|h
 ·have e:decide (1<=p.length)=false:=kP aa;rw [e];simp
 ·have e:decide (p.length<=4)=false:=kP aa;rw [e];simp
theorem VS {p:List Int} (h:tj p p.length=true) (h1:1<=p.length) (h2:p.length<=4):perm p=true:=by
 simp [perm,h,h1,h2]
theorem aaW {p:List Int} {k n:Nat} {x:Int} (hn:p.length=n) (h:x<0\/(n:Int) - 1<x):okP p k x=false:=by
 subst hn;unfold okP;rcases h with h|h
 ·have e:decide (0<=x)=false:=aj
  simp [e]
 ·have e:decide (x<=(p.length:Int) - 1)=false:=aj
  simp [e]
theorem VT {p:List Int} {k n:Nat} {x:Int} {s:Bool} (hn:p.length=n) (h1:0<=x) (h2:x<=(n:Int) - 1) (hs:fC (p.take k) x=s):okP p k x=!s:=by
 subst hn;unfold okP;rw [hs];simp [h1,h2]
def Qs (p:List Int) (k:Nat):Array Value:=#[.bool (fC (p.take k) 0),.bool (fC (p.take k) 1),.bool (fC (p.take k) 2),.bool (fC (p.take k) 3)]
theorem Sd {p:List Int} {k:Nat} {x:Int} (h:p[k]?=some x) (y:Int):fC (p.take (k+1)) y=(fC (p.take k) y||y==x):=by
 unfold fC;rw [aL h];simp [BQ]
 by_cases e:y=x<;>simp [e]
theorem ahk {p:List Int} {k j:Nat} (h:p[k]?=some (j:Int)) (hj:j<4):(Qs p k).setIfInBounds j (.bool true)=Qs p (k+1):=by
 unfold Qs;simp only [Sd h];rcases (aa:j=0\/j=1\/j=2\/j=3) with rfl|rfl|rfl|rfl<;>simp [Array.setIfInBounds]<;>rfl
theorem ajm (p:List Int) (k j:Nat) (hj:j<4):(Qs p k)[j]?=some (.bool (fC (p.take k) (j:Int))):=by
 rcases (aa:j=0\/j=1\/j=2\/j=3) with rfl|rfl|rfl|rfl<;>rfl
theorem om {P:Prop} (h:P:=by
 go_wp2;go_ret
 exact ⟨aT HF.u.symm,xx⟩):P:=h
theorem cK (A:OA) (n c:Nat) (p:List Int) (w:World) (h:Rd w w.heap.size 1 A n (aG p)) (hn:n<=2000000000000) (hc:n<=c):
  Calls prog 69 #[.slice A n c] w fun e w'=>e=.returned (.bool (perm p))/\Ext w w':=by
 have hlen:=hY (h.len bO aa);go_enter func69,ntmps69;go_wp2
 go_loopw [3] (fun i wr=>∃k:Nat,k<=n/\i=iI k/\Hid (tj p k=true)/\∃r,wr=w.drewN r) (fun i _=>n - (intOf i).toNat)
 case atStart=>exact ⟨0,aa,rfl,hY (by simp [tj]),0,rfl⟩
 case round=>
  obtain ⟨k,hk,rfl,HQ,r,rfl⟩:=hrel
  by_cases bh:k<n
  ·obtain ⟨b,o,x,rfl,hb,cH,h0⟩:=eT h bh;have HG:=hY cH;clear cH;have Vu:(k:Int)<=(c:Int):=aa
   have NC:decide ((k:Int)<(n:Int))=true:=aj
   by_cases hr:x<0\/(n:Int) - 1<x
   ·have HF:=hY (Qr HG.u (aaW hlen.u hr));have HR:=hY hr;clear hr;go_wp2;go_quiet ((go_at_call 60;(with_reducible refine fr (bI _ _ _ _ ?_));exact HR.u))
    exact om
   ·have HH1:Hid (0<=x):=bZ
    have HH2:Hid (x<=(n:Int) - 1):=bZ
    clear hr;have hRk:=zf h (nZ bh);rw [sP] at hRk;have HRk:Hid (∀z,Rd (w.drewN z) (w.drewN z).heap.size 1 (some ⟨b,o,none⟩) k (aG (p.take k))):=fun z=>hRk.ext ((xZ w).drewN z)
    clear hRk
    cases hs:fC (p.take k) x
    ·have HN:=hY (Om HG.u);rw [HQ.u,VT hlen.u HH1.u HH2.u hs] at HN;go_wp2;go_quiet (first|(go_at_call 60;(with_reducible refine fr (aF _ _ _ _ HH1.u ?_));exact HH2.u)|(go_at_call 81;(with_reducible refine fr (dv _ k c (p.take k) x _ (HRk.u _) ?_));omega));go_wp2;go_roundw
     case rel=>exact ⟨k+1,aa,az,HN,_,rfl⟩
     case measure=>simp [intOf];omega
    ·have HF:=hY (Qr HG.u (VT hlen.u HH1.u HH2.u hs));go_wp2;go_quiet (first|(go_at_call 60;(with_reducible refine fr (aF _ _ _ _ HH1.u ?_));exact HH2.u)|(go_at_call 81;(with_reducible refine fr (dv _ k c (p.take k) x _ (HRk.u _) ?_));omega))
     exact om
  ·obtain rfl:k=n:=aa
   by_cases hb:k<1\/4<k
   ·have HF:=hY (VR (p:=p) (by rw [hlen.u];exact hb));have HR:Hid ((k:Int)<1\/(4:Int)<k):=bZ
    clear hb;go_wp2_with fail;refine (bI _ _ _ _ HR.u).mono ?_;rintro e w1 ⟨rfl,rfl⟩
    exact om
   ·have HF:=hY (VS (p:=p) (by rw [hlen.u];exact HQ.u) bN bN);go_wp2_with fail;refine (aF _ _ _ _ aa aa).mono ?_;rintro e w1 ⟨rfl,rfl⟩
    exact om
def FV (a b x:Int):Int:=if (x==a)=true then b else if (x==b)=true then a else x
theorem ajn {a b x:Int} (h:(x==a)=true):FV a b x=b:=aX h
theorem ajo {a b x:Int} (h:(x==a)=false) (h':(x==b)=true):FV a b x=a:=by unfold FV;rw [aK aW,aX h']
theorem ac1 {a b x:Int} (h:(x==a)=false) (h':(x==b)=false):FV a b x=x:=by unfold FV;rw [aK aW,aK (by simp [h'])]
def nu (p:List Int) (a b:Int):List Int:=if perm p=true then p.map (FV a b) else []
theorem VU {p:List Int} {a b:Int} (h:perm p=false):nu p a b=[]:=aK aW
theorem GZ {p:List Int} {a b:Int} (h:perm p=true):nu p a b=p.map (FV a b):=aX h
theorem Ly {α β:Type} (f:α->β) {p:List α} {k:Nat} {x:α} (h:p[k]?=some x):(p.take (k+1)).map f=(p.take k).map f++[f x]:=by
 rw [aL h,mf];rfl
theorem aaX {α β:Type} (f:α->β) {p:List α} {k n:Nat} (hk:k<=n) (hn:p.length=n):((p.take k).map f).length=k:=by
 rw [jk,lT];omega
theorem ua {p:List Int} (h:perm p=true):1<=p.length/\p.length<=4:=by
 unfold perm at h;simp only [lF,lu] at h
 exact h.2
theorem wh {P:Prop} (h:P:=by
 go_roundw
 case rel=>exact ⟨k+1,aa,az,by rw [Ha.u,HV.u];exact ep,bH⟩
 case measure=>simp [intOf];omega):P:=h
theorem ur (A:OA) (n c:Nat) (p:List Int) (a b:Int) (w:World) (h:Rd w w.heap.size 1 A n (aG p)) (hn:n<=2000000000000) (hc:n<=c):
  Calls prog 99 #[.slice A n c,iI a,iI b] w fun e w'=>∃v,e=.returned v/\w'.ownsRow w.heap.size 3 1 v (nu p a b).length (aG (nu p a b))/\Ext w w':=by
 have hlen:=hY (h.len bO aa);go_enter func99,ntmps99;go_wp2
 cases hp:perm p
 ·have HS:=hY (VU (a:=a) (b:=b) hp)
  go_loopw [7,8] (fun v i wr=>i=iI 0/\wr.ownsRow w.heap.size 3 1 v 0 (aG [])/\Ext w wr) (fun _ _ _=>0)
  case atStart=>exact ⟨rfl,aJ w w _ _ (xZ _),xx⟩
  case round=>
   obtain ⟨rfl,ho,hx⟩:=hrel;go_wp2_with fail;refine (cK A n c p _ (h.ext hx) hn hc).mono ?_;rintro e w1 ⟨rfl,aS⟩;rw [hp];have eF:=aq ho aS;clear hp;go_wp2;go_ret
   exact ⟨_,rfl,by rw [HS.u];exact eF,hx.trans aS⟩
 have HS:=hY (GZ (a:=a) (b:=b) hp);have xT:n<=4:=oN ((ua hp).2) hlen.u
 have HP:=hY hp;clear hp
 go_loopw [7,8] (fun v i wr=>∃k:Nat,k<=n/\i=iI k/\wr.ownsRow w.heap.size 3 1 v k (aG ((p.take k).map (FV a b)))/\Ext w wr) (fun _ i _=>n - (intOf i).toNat)
 case atStart=>exact ⟨0,lJ _,rfl,aJ w w _ _ (xZ _),xx⟩
 case round=>
  obtain ⟨k,hk,rfl,ho,hx⟩:=hrel;go_wp2_with fail;refine (cK A n c p _ (h.ext hx) hn hc).mono ?_;rintro e w1 ⟨rfl,aS⟩;rw [HP.u];have eF:=aq ho aS;replace hx:=hx.trans aS
  by_cases bh:k<n
  ·obtain ⟨bb,o,x,rfl,hb,hq,h0⟩:=eT (h.ext hx) bh;have Ha:=hY (Ly (FV a b) hq);clear hq
   cases ha:(x==a)
   ·cases rb:(x==b)
    ·have HV:=hY (ac1 ha rb);go_wp2_with (at_builtin;refine qb (w0:=w) rfl _ _ rfl _ k ((p.take k).map (FV a b)) rfl eF hx x _ _ rfl ag aa ?_;intro v1 w2 ep bH jL vG)
     exact wh
    ·have HV:=hY (ajo ha rb);go_wp2_with (at_builtin;refine qb (w0:=w) rfl _ _ rfl _ k ((p.take k).map (FV a b)) rfl eF hx a _ _ rfl ag aa ?_;intro v1 w2 ep bH jL vG)
     exact wh
   ·have HV:=hY (ajn (b:=b) ha);go_wp2_with (at_builtin;refine qb (w0:=w) rfl _ _ rfl _ k ((p.take k).map (FV a b)) rfl eF hx b _ _ rfl ag aa ?_;intro v1 w2 ep bH jL vG)
    exact wh
  ·obtain rfl:k=n:=aa
   rw [lE bN] at eF;go_wp2;go_ret
   exact ⟨_,rfl,by rw [HS.u,jk,hlen.u];exact eF,hx⟩
theorem qt {P:Prop} (h:P:=by
 go_wp2;go_ret
 exact ⟨aT HV.u.symm,HX.u⟩):P:=h
theorem qu (g:Gt) (w:World):Calls prog 116 #[g.val] w fun e w'=>e=.returned (.bool (nr g))/\Ext w w':=by
 have HX:Hid (Ext w (w.alloc (cO (gA g) 54))):=fo
 have HB:Hid (ay (w.alloc (cO (gA g) 54)) w.heap.size 54 (gA g)):=ay.new w _ _;go_enter func116,ntmps116;go_upto_region 1 with fail;generalize (w.alloc (cO (gA g) 54))=W at*
 obtain ⟨⟨g0,g1,g2,g3⟩,-⟩:=aB HB.u
 cases e1:(g.k==1)
 ·cases e2:(g.k==9)
  ·cases e3:(g.k==11)
   ·have HV:Hid (nr g=decide (bB g.k>0)):=by
     unfold Hid nr;simp only [e1,e2,e3,iC]<;>rfl
    go_wp2_with fail;refine (bC g.k _).mono ?_;rintro e wq ⟨rfl,rfl⟩
    exact qt
   ·skip;have HV:Hid (nr g=true):=by unfold Hid nr;simp only [e1,e2,e3,kh,mQ,iC]
    exact qt
  ·skip;have HV:Hid (nr g=true):=by unfold Hid nr;simp only [e1,e2,kh,mQ,iC]
   exact qt
 ·skip;have HV:Hid (nr g=true):=by unfold Hid nr;simp only [e1,kh,mQ,iC]
  exact qt
end Go.Proofs.YtiajdbllccmokaaGreatDoor
