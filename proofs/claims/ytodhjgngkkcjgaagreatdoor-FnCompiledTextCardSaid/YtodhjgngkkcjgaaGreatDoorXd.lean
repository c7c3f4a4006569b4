import Derived.Test.YtodhjgngkkcjgaaGreatDoorXa
import Derived.Laws.ResultCell
import Derived.HandedShaped
import Derived.OpenVars
import Derived.ChangeVars
namespace Go.Proofs.YtodhjgngkkcjgaaGreatDoor
open Go.ChangeShapes Go.WideShapes Go.ChangeAt Go.RowKit Go.Deep Go.Proofs.Tryz
set_option linter.unusedVariables false
set_option linter.unusedSimpArgs false
set_option maxRecDepth 100000
set_option maxHeartbeats 16000000
theorem aR {P:Program} {fn:Func} {p u:Tmp} {ty:TypeId} (h:fn.results=#[.cell p ty,.tmp u]) (tmps:Array Value) (w:World) (g:Nat) (t:TypeId) (cs:Array Value) (d:TypeDesc) (z:Value)
  (hp:tmps.getD p undef=.pointer (some ⟨g,0,none⟩)) (hz:tmps.getD u undef=z) (hg:au w g t cs)
  (hu:P.underlying ty=some d) (hd:(match d with| .struct _| .array _ _=>true|_=>false)=true) (hi:(P.info? ty).map (·.size)=some cs.size):
  (results fn tmps).run P w=.ok (.tuple #[.agg cs,z]) w:=by
 rw [results_cell_tmp h,hp,hz];simp [asAddr,Result.andThen,TQ w g t ty cs (0,0) d hg hu hd hi]
theorem aB {w:World} {g t:Nat} {a b c d:Value} (h:au w g t #[a,b,c,d]):(w.cell? (aA g 0)=some a/\w.cell? (aA g 1)=some b/\w.cell? (aA g 2)=some c/\w.cell? (aA g 3)=some d)/\w.frozen? (aA g 0)=false/\w.frozen? (aA g 1)=false/\w.frozen? (aA g 2)=false/\w.frozen? (aA g 3)=false:=
 ⟨⟨h.cell 0,h.cell 1,h.cell 2,h.cell 3⟩,h.frozen 0,h.frozen 1,h.frozen 2,h.frozen 3⟩
def bR (w:World) (g:Nat) (a b c d:Value):World:=(((w.setCell (aA g 0) a).setCell (aA g 1) b).setCell (aA g 2) c).setCell (aA g 3) d
theorem au.bR {w:World} {g t:Nat} {z0 z1 z2 z3:Value} (h:au w g t #[z0,z1,z2,z3]) (a b c d:Value):au (bR w g a b c d) g t #[a,b,c,d]:=
 (((h.aU 0 a).aU 1 b).aU 2 c).aU 3 d
theorem aW {w0 w:World} (h:Ext w0 w) {g:Nat} (hg:w0.heap.size<=g) (a b c d:Value):Ext w0 (bR w g a b c d):=
 (((h.setCell (p:=(aA g 0)) hg a).setCell (p:=(aA g 1)) hg b).setCell (p:=(aA g 2)) hg c).setCell (p:=(aA g 3)) hg d
theorem ed {w:World} {g k t:Nat} {cs:Array Value} (h:au w k t cs) (hg:k≠g) (a b c d:Value):au (bR w g a b c d) k t cs:=
 (((h.cB (p:=(aA g 0)) hg a).cB (p:=(aA g 1)) hg b).cB (p:=(aA g 2)) hg c).cB (p:=(aA g 3)) hg d
def xR (g:Gt):Gt:=⟨if g.k=5 then 6 else if g.k=6 then 5 else if g.k=7 then 8 else if g.k=8 then 7 else g.k,g.a,g.b,g.c⟩
def iF (gs:List Gt):List Gt:=gs.reverse.map xR
theorem YB:(prog.info? 39).map (·.size)=some 4:=af
theorem abD {fn:Func} {p:Tmp} (hf:fn.results=#[.cell p 39]) {W:World} {q:Nat} {cs:Array Value} (hB:au W q 39 cs) (tmps:Array Value)
  (hp:tmps.getD p undef=.pointer (some ⟨q,0,none⟩)) (hs:cs.size=4):(results fn tmps).run prog W=.ok (.agg cs) W:=
 pc hf tmps _ q 39 _ (0,0) _ hp hB kP rfl (by rw [hs];exact YB)
theorem zF {k a b c:Int} (h5:k≠5) (h6:k≠6) (h7:k≠7) (h8:k≠8):xR ⟨k,a,b,c⟩=⟨k,a,b,c⟩:=by unfold xR;simp only [aM h5,aM h6,aM h7,aM h8]
theorem aot (g:Gt):xR (xR g)=g:=by
 obtain ⟨k,a,b,c⟩:=g
 by_cases h5:k=5
 ·subst h5;rfl
 by_cases h6:k=6
 ·subst h6;rfl
 by_cases h7:k=7
 ·subst h7;rfl
 by_cases h8:k=8
 ·subst h8;rfl
 rw [zF h5 h6 h7 h8,zF h5 h6 h7 h8]
theorem fK (g:Gt) (w:World):Calls prog 207 #[g.val] w fun e w'=>e=.returned (xR g).val/\Ext w w':=by
 obtain ⟨k,a,b,c⟩:=g
 by_cases h5:k=5
 ·subst h5;go_enter func207,ntmps207;go_upto_region 1 with fail;have HB:Hid (au ((w.alloc (cO #[iI 5,iI a,iI b,iI c] 39)).alloc (cO zO 39)) w.heap.size 39 #[iI 5,iI a,iI b,iI c]):=(au.new w _ _).alloc _;have HR:Hid (au ((w.alloc (cO #[iI 5,iI a,iI b,iI c] 39)).alloc (cO zO 39)) (w.heap.size+1) 39 zO):=au.newAt ag;have HE:Hid (Ext w ((w.alloc (cO #[iI 5,iI a,iI b,iI c] 39)).alloc (cO zO 39))):=xx;generalize ((w.alloc (cO #[iI 5,iI a,iI b,iI c] 39)).alloc (cO zO 39))=w2 at*
  obtain ⟨⟨b0,b1,b2,b3⟩,e0,e1,e2,e3⟩:=aB HB.u;obtain ⟨⟨r0,r1,r2,r3⟩,f0,f1,f2,f3⟩:=aB HR.u;go_upto_region 10 with fail;have dv:Hid (au (w2.setCell (aA w.heap.size 0) (iI 6)) w.heap.size 39 #[iI 6,iI a,iI b,iI c]):=HB.u.aU 0 _;have jN:Hid (au (w2.setCell (aA w.heap.size 0) (iI 6)) (w.heap.size+1) 39 zO):=HR.u.cB (p:=(aA w.heap.size 0)) (show w.heap.size+1≠w.heap.size by omega) _;have Qd:Hid (Ext w (w2.setCell (aA w.heap.size 0) (iI 6))):=HE.u.setCell (p:=(aA w.heap.size 0)) (lI _) _;clear b0 b1 b2 b3 e0 e1 e2 e3 r0 r1 r2 r3 f0 f1 f2 f3 HB HR HE;generalize w2.setCell (aA w.heap.size 0) (iI 6)=w3 at*
  obtain ⟨⟨b0,b1,b2,b3⟩,-⟩:=aB dv.u;obtain ⟨⟨r0,r1,r2,r3⟩,f0,f1,f2,f3⟩:=aB jN.u;go_wp2;have wh:Hid (au (bR w3 (w.heap.size+1) (iI 6) (iI a) (iI b) (iI c)) (w.heap.size+1) 39 #[iI 6,iI a,iI b,iI c]):=jN.u.bR _ _ _ _;refine bJ (v:=.agg #[iI 6,iI a,iI b,iI c]) ?_ rfl ?_
  rotate_left
  ·exact ⟨rfl,aW (g:=w.heap.size+1) Qd.u aa _ _ _ _⟩
  ·exact abD rfl wh.u _ af rfl
 by_cases h6:k=6
 ·subst h6;go_enter func207,ntmps207;go_upto_region 1 with fail;have HB:Hid (au ((w.alloc (cO #[iI 6,iI a,iI b,iI c] 39)).alloc (cO zO 39)) w.heap.size 39 #[iI 6,iI a,iI b,iI c]):=(au.new w _ _).alloc _;have HR:Hid (au ((w.alloc (cO #[iI 6,iI a,iI b,iI c] 39)).alloc (cO zO 39)) (w.heap.size+1) 39 zO):=au.newAt ag;have HE:Hid (Ext w ((w.alloc (cO #[iI 6,iI a,iI b,iI c] 39)).alloc (cO zO 39))):=xx;generalize ((w.alloc (cO #[iI 6,iI a,iI b,iI c] 39)).alloc (cO zO 39))=w2 at*
  obtain ⟨⟨b0,b1,b2,b3⟩,e0,e1,e2,e3⟩:=aB HB.u;obtain ⟨⟨r0,r1,r2,r3⟩,f0,f1,f2,f3⟩:=aB HR.u;go_upto_region 10 with fail;have dv:Hid (au (w2.setCell (aA w.heap.size 0) (iI 5)) w.heap.size 39 #[iI 5,iI a,iI b,iI c]):=HB.u.aU 0 _;have jN:Hid (au (w2.setCell (aA w.heap.size 0) (iI 5)) (w.heap.size+1) 39 zO):=HR.u.cB (p:=(aA w.heap.size 0)) (show w.heap.size+1≠w.heap.size by omega) _;have Qd:Hid (Ext w (w2.setCell (aA w.heap.size 0) (iI 5))):=HE.u.setCell (p:=(aA w.heap.size 0)) (lI _) _;clear b0 b1 b2 b3 e0 e1 e2 e3 r0 r1 r2 r3 f0 f1 f2 f3 HB HR HE;generalize w2.setCell (aA w.heap.size 0) (iI 5)=w3 at*
  obtain ⟨⟨b0,b1,b2,b3⟩,-⟩:=aB dv.u;obtain ⟨⟨r0,r1,r2,r3⟩,f0,f1,f2,f3⟩:=aB jN.u;go_wp2;have wh:Hid (au (bR w3 (w.heap.size+1) (iI 5) (iI a) (iI b) (iI c)) (w.heap.size+1) 39 #[iI 5,iI a,iI b,iI c]):=jN.u.bR _ _ _ _;refine bJ (v:=.agg #[iI 5,iI a,iI b,iI c]) ?_ rfl ?_
  rotate_left
  ·exact ⟨rfl,aW (g:=w.heap.size+1) Qd.u aa _ _ _ _⟩
  ·exact abD rfl wh.u _ af rfl
 by_cases h7:k=7
 ·subst h7;go_enter func207,ntmps207;go_upto_region 1 with fail;have HB:Hid (au ((w.alloc (cO #[iI 7,iI a,iI b,iI c] 39)).alloc (cO zO 39)) w.heap.size 39 #[iI 7,iI a,iI b,iI c]):=(au.new w _ _).alloc _;have HR:Hid (au ((w.alloc (cO #[iI 7,iI a,iI b,iI c] 39)).alloc (cO zO 39)) (w.heap.size+1) 39 zO):=au.newAt ag;have HE:Hid (Ext w ((w.alloc (cO #[iI 7,iI a,iI b,iI c] 39)).alloc (cO zO 39))):=xx;generalize ((w.alloc (cO #[iI 7,iI a,iI b,iI c] 39)).alloc (cO zO 39))=w2 at*
  obtain ⟨⟨b0,b1,b2,b3⟩,e0,e1,e2,e3⟩:=aB HB.u;obtain ⟨⟨r0,r1,r2,r3⟩,f0,f1,f2,f3⟩:=aB HR.u;go_upto_region 10 with fail;have dv:Hid (au (w2.setCell (aA w.heap.size 0) (iI 8)) w.heap.size 39 #[iI 8,iI a,iI b,iI c]):=HB.u.aU 0 _;have jN:Hid (au (w2.setCell (aA w.heap.size 0) (iI 8)) (w.heap.size+1) 39 zO):=HR.u.cB (p:=(aA w.heap.size 0)) (show w.heap.size+1≠w.heap.size by omega) _;have Qd:Hid (Ext w (w2.setCell (aA w.heap.size 0) (iI 8))):=HE.u.setCell (p:=(aA w.heap.size 0)) (lI _) _;clear b0 b1 b2 b3 e0 e1 e2 e3 r0 r1 r2 r3 f0 f1 f2 f3 HB HR HE;generalize w2.setCell (aA w.heap.size 0) (iI 8)=w3 at*
  obtain ⟨⟨b0,b1,b2,b3⟩,-⟩:=aB dv.u;obtain ⟨⟨r0,r1,r2,r3⟩,f0,f1,f2,f3⟩:=aB jN.u;go_wp2;have wh:Hid (au (bR w3 (w.heap.size+1) (iI 8) (iI a) (iI b) (iI c)) (w.heap.size+1) 39 #[iI 8,iI a,iI b,iI c]):=jN.u.bR _ _ _ _;refine bJ (v:=.agg #[iI 8,iI a,iI b,iI c]) ?_ rfl ?_
  rotate_left
  ·exact ⟨rfl,aW (g:=w.heap.size+1) Qd.u aa _ _ _ _⟩
  ·exact abD rfl wh.u _ af rfl
 by_cases h8:k=8
 ·subst h8;go_enter func207,ntmps207;go_upto_region 1 with fail;have HB:Hid (au ((w.alloc (cO #[iI 8,iI a,iI b,iI c] 39)).alloc (cO zO 39)) w.heap.size 39 #[iI 8,iI a,iI b,iI c]):=(au.new w _ _).alloc _;have HR:Hid (au ((w.alloc (cO #[iI 8,iI a,iI b,iI c] 39)).alloc (cO zO 39)) (w.heap.size+1) 39 zO):=au.newAt ag;have HE:Hid (Ext w ((w.alloc (cO #[iI 8,iI a,iI b,iI c] 39)).alloc (cO zO 39))):=xx;generalize ((w.alloc (cO #[iI 8,iI a,iI b,iI c] 39)).alloc (cO zO 39))=w2 at*
  obtain ⟨⟨b0,b1,b2,b3⟩,e0,e1,e2,e3⟩:=aB HB.u;obtain ⟨⟨r0,r1,r2,r3⟩,f0,f1,f2,f3⟩:=aB HR.u;go_upto_region 10 with fail;have dv:Hid (au (w2.setCell (aA w.heap.size 0) (iI 7)) w.heap.size 39 #[iI 7,iI a,iI b,iI c]):=HB.u.aU 0 _;have jN:Hid (au (w2.setCell (aA w.heap.size 0) (iI 7)) (w.heap.size+1) 39 zO):=HR.u.cB (p:=(aA w.heap.size 0)) (show w.heap.size+1≠w.heap.size by omega) _;have Qd:Hid (Ext w (w2.setCell (aA w.heap.size 0) (iI 7))):=HE.u.setCell (p:=(aA w.heap.size 0)) (lI _) _;clear b0 b1 b2 b3 e0 e1 e2 e3 r0 r1 r2 r3 f0 f1 f2 f3 HB HR HE;generalize w2.setCell (aA w.heap.size 0) (iI 7)=w3 at*
  obtain ⟨⟨b0,b1,b2,b3⟩,-⟩:=aB dv.u;obtain ⟨⟨r0,r1,r2,r3⟩,f0,f1,f2,f3⟩:=aB jN.u;go_wp2;have wh:Hid (au (bR w3 (w.heap.size+1) (iI 7) (iI a) (iI b) (iI c)) (w.heap.size+1) 39 #[iI 7,iI a,iI b,iI c]):=jN.u.bR _ _ _ _;refine bJ (v:=.agg #[iI 7,iI a,iI b,iI c]) ?_ rfl ?_
  rotate_left
  ·exact ⟨rfl,aW (g:=w.heap.size+1) Qd.u aa _ _ _ _⟩
  ·exact abD rfl wh.u _ af rfl
 have HO:=hY (zF (a:=a) (b:=b) (c:=c) h5 h6 h7 h8);have g5:(k==5)=false:=DE.2 h5;have g6:(k==6)=false:=DE.2 h6;have g7:(k==7)=false:=DE.2 h7;have g8:(k==8)=false:=DE.2 h8;clear h5 h6 h7 h8;go_enter func207,ntmps207;go_upto_region 1 with fail;have HB:Hid (au ((w.alloc (cO #[iI k,iI a,iI b,iI c] 39)).alloc (cO zO 39)) w.heap.size 39 #[iI k,iI a,iI b,iI c]):=(au.new w _ _).alloc _;have HR:Hid (au ((w.alloc (cO #[iI k,iI a,iI b,iI c] 39)).alloc (cO zO 39)) (w.heap.size+1) 39 zO):=au.newAt ag;have HE:Hid (Ext w ((w.alloc (cO #[iI k,iI a,iI b,iI c] 39)).alloc (cO zO 39))):=xx;generalize ((w.alloc (cO #[iI k,iI a,iI b,iI c] 39)).alloc (cO zO 39))=w2 at*
 obtain ⟨⟨b0,b1,b2,b3⟩,e0,e1,e2,e3⟩:=aB HB.u;obtain ⟨⟨r0,r1,r2,r3⟩,f0,f1,f2,f3⟩:=aB HR.u;have jN:=HR;have Qd:=HE;go_wp2;have wh:Hid (au (bR w2 (w.heap.size+1) (iI k) (iI a) (iI b) (iI c)) (w.heap.size+1) 39 #[iI k,iI a,iI b,iI c]):=jN.u.bR _ _ _ _;refine bJ (v:=.agg #[iI k,iI a,iI b,iI c]) ?_ rfl ?_
 rotate_left
 ·exact ⟨by rw [HO.u],aW (g:=w.heap.size+1) Qd.u aa _ _ _ _⟩
 ·exact abD rfl wh.u _ af rfl
theorem wj (A:OA) (n c:Nat) (xs:List Gt) (w:World) (h:Rd w w.heap.size 4 A n (aq xs)) (hn:n<=1048576):
  Calls prog 191 #[.slice A n c] w fun e w'=>∃v,e=.returned v/\w'.ownsRow w.heap.size 39 4 v n (aq (iF xs))/\Ext w w':=by
 have hlen:=h.len Gt.aG aa;have atC:Hid (∀j i x,j<n->i=n - 1 - j->xs[i]?=some x->(iF xs)[j]?=some (xR x)):=fun j i x hj hi hx=>by
  unfold iF;rw [rY,List.getElem?_reverse aa,hlen,<-hi,hx];rfl
 have atD:Hid ((iF xs).length=n):=by unfold Hid iF;rw [jK,List.length_reverse];exact hlen
 clear hlen;go_enter func191,ntmps191;have KU:(w.alloc (cO #[] 39)).ownsRow w.heap.size 39 4 (.slice (some ⟨w.heap.size,0,none⟩) 0 0) 0 (aq ((iF xs).take 0)):=bS (xZ _) _ _ 4 0 #[] _ rfl rfl rfl aa;have hw0:IntKind.i64.wrap ((n:Int) - 1)=(n:Int) - 1:=lH _ aa;go_wp2;have Bg:Hid ((w.alloc (cO #[] 39)).ownsRow w.heap.size 39 4 (.slice (some ⟨w.heap.size,0,none⟩) 0 0) 0 (aq ((iF xs).take 0))/\Ext w (w.alloc (cO #[] 39))):=⟨KU,(xZ _).alloc _⟩;clear KU;generalize w.alloc (cO #[] 39)=w1 at*
 go_loopw [3,4] (fun rv iv wr=>∃(j:Nat) (A':OA) (cap:Nat),rv=.slice A' j cap/\iv=iI ((n:Int) - 1 - j)/\j<=n/\Hid (wr.ownsRow w.heap.size 39 4 (.slice A' j cap) j (aq ((iF xs).take j))/\Ext w wr)) (fun _ i _=>(intOf i+1).toNat)
 case atStart=>exact ⟨0,_,0,rfl,by simp [hw0],lJ _,Bg⟩
 case round=>
  obtain ⟨j,A',cap,rfl,rfl,hj,HDj⟩:=hrel;clear Bg hw0
  by_cases ba:j<n
  ·have bZ:Hid (j<n/\n<=1048576):=⟨ba,hn⟩;obtain ⟨i,hi⟩:∃i:Nat,(n:Int) - 1 - j=i:=⟨n - 1 - j,aa⟩;have zG:i<n:=aa
   have et:IntKind.i64.wrap ((i:Int) - 1)=(n:Int) - 1 - ((j+1:Nat):Int):=rE
   have iM:wrap64 ((i:Int) - 1)=(n:Int) - 1 - ((j+1:Nat):Int):=bk
   have TW:(0:Int)<=(i:Int):=aa
   have hi1:(i:Int)>=0:=TW;have HI:Hid (i=n - 1 - j):=by show i=n - 1 - j;omega
   rw [hi];clear hi ba hj;obtain ⟨b,oo,x,rfl,hb,hx,x0,x1,x2,x3⟩:=bT (h.ext HDj.u.2) zG;have HG:=hY (atC.u j i x bZ.u.1 HI.u hx);clear hx hb;go_wp2_with fail;refine (fK x _).mono ?_;rintro e w5 ⟨rfl,cI⟩;have iy:Hid (w5.ownsRow w.heap.size 39 4 (.slice A' j cap) j (aq ((iF xs).take j))/\Ext w w5):=⟨aj HDj.u.1 cI,HDj.u.2.trans cI⟩;clear HDj cI x0 x1 x2 x3;go_wp2_with (at_builtin;refine fJ (w0:=w) rfl _ _ rfl _ j ((iF xs).take j) rfl iy.u.1 iy.u.2 (xR x) _ _ rfl rfl (oM bZ.u) ?_;intro v' w9 g1 g2 g3 g4)
   obtain ⟨A9,c9,rfl,-⟩:=ak g1;have Cz:Hid (w9.ownsRow w.heap.size 39 4 (.slice A9 (j+1) c9) (j+1) (aq ((iF xs).take (j+1)))/\Ext w w9):=⟨by rw [aS HG.u];exact g1,g2⟩;clear g1 g2 g3 g4;go_wp2;go_roundw
   case rel=>exact ⟨j+1,A9,c9,rfl,by first|rfl|rw [et]|rw [iM],oM bZ.u,Cz⟩
   case measure=>have h5:=iM;have h6:i=n - 1 - j:=HI.u;have h7:=bZ.u;simp [intOf];omega
  ·have VU:j=n:=aa
   subst VU;have pH:¬((j:Int) - 1 - j>=0):=aa
   have QH:¬(0<=(j:Int) - 1 - j):=aa
   have HE:Hid ((iF xs).take j=iF xs):=lE (by rw [atD.u];exact lI _);rw [HE.u] at HDj;go_wp2;go_ret
   exact ⟨_,rfl,HDj.u.1,HDj.u.2⟩
theorem Bv {H:Type} {enc:TypeId ×Value->H} {a:Assume} {C:Checked} {os:Os} {f:FuncId} {fn:Func} {s:ChangeSpec} {conds:List PathCond} {apart fresh handsOn again:Bool} {X:World->Array Value->Prop}
  (hX:∀(w w':World) (args:Array Value),w.heap=w'.heap->X w args->X w' args)
  (own:ownKnob C.prog.godebug=none) (started:os.Started) (aka:C.prog.inits.idxOf? f=none) (hfn:C.prog.funcs[f]?=some fn)
  (witness:∃(w:World) (tape:Tape) (i:Input),w.os=os/\(w.forCall tape i).Shaped C.prog/\i.vars=[]/\Input.okWide C.prog (w.forCall tape i) .any w.heap.size f i/\
   ((s.pre enc C.prog fn conds apart (w.forCall tape i).memory i.args/\X (w.forCall tape i).memory i.args)/\sizedMet enc C.prog fn (OpenSpec.ofChange s) apart (w.forCall tape i).memory i.args)/\a.holds C.prog (lone (Frame.enter C.prog f i.args .normal) [] (w.forCall tape i)))
  (contract:∀(W:World) (base:Nat) (args:Array Value) (ds gs:List (DataW H)) (before:List MemPlace),
   (∀(j:Nat) t v,fn.params[j]?=some t->args[j]?=some v->Value.okWide C.prog W .any base t v)->
   DataW.Whole enc C.prog fn.params.toList s.vars apart W args.toList ds gs before->
   X W args->W.ShapedOpen C.prog->
   Calls C.prog f args W fun e W'=>∃v,e=.returned v/\s.post enc C.prog fn apart fresh handsOn again W args v W'):
  ReturnsInHanded a C os f .any (fun w args=>(s.pre enc C.prog fn conds apart w args/\X w args)/\sizedMet enc C.prog fn (OpenSpec.ofChange s) apart w args) (s.post enc C.prog fn apart fresh handsOn again):=by
 refine returnsInHanded_of_calls own started aka witness ?_;intro w tape i _ hsh _ sj atF _;obtain ⟨_,_,_,fn',atG,_,_,_,_,hval⟩:=sj;obtain rfl:fn'=fn:=kx (atG.symm.trans hfn);obtain ⟨⟨⟨ds,gs,before,hw,_⟩,hx⟩,_⟩:=atF;have hw':=DataW.Whole.of_heap (w':=w.forCall tape i) ah hw;refine (contract (w.forCall tape i) w.heap.size i.args ds gs before hval hw' (hX _ _ _ ah hx) hsh).mono fun e W' ⟨v,he,hp⟩=>?_
 subst he
 exact ChangeSpec.post_blind hp
theorem YC {H:Type} {enc:TypeId ×Value->H} {f:Func} {s:ChangeSpec} {W W':World} {args:Array Value} {ds gs:List (DataW H)} {before:List MemPlace}
  (hvr:varsRowed prog s.vars=true) (NL:∀t∈f.params.toList,t<prog.types.size) (hrt:f.resultTypes=#[4])
  (hW:DataW.Whole enc prog f.params.toList s.vars false W args.toList ds gs before)
  (bD:(s.fn H (ds++gs)).results=[.lit (.bool true)]) (VK:(s.fn H (ds++gs)).args=ds) (abq:(s.fn H (ds++gs)).vars=gs)
  (hb:Ext W W'):s.post enc prog f false true false false W args (.bool true) W':=by
 have hW':=hW;obtain ⟨p,q,hA,hV,rfl,VL,hnd⟩:=hW;have ba:∀x∈p,x.block<W.heap.size:=hA.lt;have hA2:DataW.TrodAll enc prog W' 0 (fun b=>decide (b<W.heap.size)) true f.params.toList args.toList ds p:=
  rL (DataW.TrodAll.respare (T:=fun t=>t<prog.types.size) kids Gc NL hA (fun x hx=>by simpa using ba x hx)) (fun x hx=>hb.same (ba x hx))
 have hV2:=Below.trodVars (enc:=enc) laidOut hb hvr hV;have hk:W.keptBut W' (fun x=>x∈p++q/\(x∈([]:List MemPlace)\/x∈p\/x∈q)):=
  World.keptBut_mono (may:=(·∈p++q)) (fun x hx=>lQ hx (Or.inr (iT.1 hx))) (hb.frame (·∈p++q))
 refine ⟨ds,gs,p++q,[],p,q,hW',?_,?_,?_,hk,fun h=>Bool.noConfusion h⟩
 ·rw [hrt,bD]
  exact trodAll_cons_mk (shut_bool FV _) trodAll_mk0
 ·rw [VK]
  exact hA2
 ·rw [abq]
  exact hV2
end Go.Proofs.YtodhjgngkkcjgaaGreatDoor
