import Derived.Test.YtiajdbllccmokaaGreatDoorXe
import Derived.Test.YtiajdbllccmokaaGreatDoorXb
import Derived.Test.YtiajdbllccmokaaGreatDoorXc
namespace Go.Proofs.YtiajdbllccmokaaGreatDoor
open Go.ChangeShapes Go.WideShapes Go.ChangeAt Go.RowKit Go.Deep Go.Proofs.Tryz
set_option linter.unusedVariables false
set_option linter.unusedSimpArgs false
set_option maxRecDepth 100000
set_option maxHeartbeats 16000000
def uk (g:Gt):Gt:=⟨if g.k=5 then 6 else if g.k=6 then 5 else if g.k=7 then 8 else if g.k=8 then 7 else g.k,g.a,g.b,g.c⟩
def gG (gs:List Gt):List Gt:=gs.reverse.map uk
theorem RG:(prog.info? 54).map (·.size)=some 4:=af
theorem UZ {fn:Func} {p:Tmp} (hf:fn.results=#[.cell p 54]) {W:World} {q:Nat} {cs:Array Value} (hB:ay W q 54 cs) (tmps:Array Value)
  (hp:tmps.getD p undef=.pointer (some ⟨q,0,none⟩)) (hs:cs.size=4):(results fn tmps).run prog W=.ok (.agg cs) W:=
 nU hf tmps _ q 54 _ (0,0) _ hp hB underlying54 rfl (by rw [hs];exact RG)
theorem vK {k a b c:Int} (h5:k≠5) (h6:k≠6) (h7:k≠7) (h8:k≠8):uk ⟨k,a,b,c⟩=⟨k,a,b,c⟩:=by unfold uk;simp only [aK h5,aK h6,aK h7,aK h8]
theorem aiG (g:Gt):uk (uk g)=g:=by
 obtain ⟨k,a,b,c⟩:=g
 by_cases h5:k=5
 ·subst h5;rfl
 by_cases h6:k=6
 ·subst h6;rfl
 by_cases h7:k=7
 ·subst h7;rfl
 by_cases h8:k=8
 ·subst h8;rfl
 rw [vK h5 h6 h7 h8,vK h5 h6 h7 h8]
theorem fc (g:Gt) (w:World):Calls prog 146 #[g.val] w fun e w'=>e=.returned (uk g).val/\Ext w w':=by
 obtain ⟨k,a,b,c⟩:=g
 by_cases h5:k=5
 ·subst h5;go_enter func146,ntmps146;go_upto_region 1 with fail;have HB:Hid (ay ((w.alloc (cO #[iI 5,iI a,iI b,iI c] 54)).alloc (cO zO 54)) w.heap.size 54 #[iI 5,iI a,iI b,iI c]):=(ay.new w _ _).alloc _;have HR:Hid (ay ((w.alloc (cO #[iI 5,iI a,iI b,iI c] 54)).alloc (cO zO 54)) (w.heap.size+1) 54 zO):=ay.newAt ag;have HE:Hid (Ext w ((w.alloc (cO #[iI 5,iI a,iI b,iI c] 54)).alloc (cO zO 54))):=xx;generalize ((w.alloc (cO #[iI 5,iI a,iI b,iI c] 54)).alloc (cO zO 54))=w2 at*
  obtain ⟨⟨b0,b1,b2,b3⟩,e0,e1,e2,e3⟩:=aB HB.u;obtain ⟨⟨r0,r1,r2,r3⟩,f0,f1,f2,f3⟩:=aB HR.u;go_upto_region 10 with fail;have fV:Hid (ay (w2.setCell (aA w.heap.size 0) (iI 6)) w.heap.size 54 #[iI 6,iI a,iI b,iI c]):=HB.u.ba 0 _;have iL:Hid (ay (w2.setCell (aA w.heap.size 0) (iI 6)) (w.heap.size+1) 54 zO):=HR.u.bX (p:=(aA w.heap.size 0)) (show w.heap.size+1≠w.heap.size by omega) _;have AW:Hid (Ext w (w2.setCell (aA w.heap.size 0) (iI 6))):=HE.u.setCell (p:=(aA w.heap.size 0)) (lI _) _;clear b0 b1 b2 b3 e0 e1 e2 e3 r0 r1 r2 r3 f0 f1 f2 f3 HB HR HE;generalize w2.setCell (aA w.heap.size 0) (iI 6)=w3 at*
  obtain ⟨⟨b0,b1,b2,b3⟩,-⟩:=aB fV.u;obtain ⟨⟨r0,r1,r2,r3⟩,f0,f1,f2,f3⟩:=aB iL.u;go_wp2;have sR:Hid (ay (bP w3 (w.heap.size+1) (iI 6) (iI a) (iI b) (iI c)) (w.heap.size+1) 54 #[iI 6,iI a,iI b,iI c]):=iL.u.bP _ _ _ _;refine bR (v:=.agg #[iI 6,iI a,iI b,iI c]) ?_ rfl ?_
  rotate_left
  ·exact ⟨rfl,br (g:=w.heap.size+1) AW.u aa _ _ _ _⟩
  ·exact UZ rfl sR.u _ af rfl
 by_cases h6:k=6
 ·subst h6;go_enter func146,ntmps146;go_upto_region 1 with fail;have HB:Hid (ay ((w.alloc (cO #[iI 6,iI a,iI b,iI c] 54)).alloc (cO zO 54)) w.heap.size 54 #[iI 6,iI a,iI b,iI c]):=(ay.new w _ _).alloc _;have HR:Hid (ay ((w.alloc (cO #[iI 6,iI a,iI b,iI c] 54)).alloc (cO zO 54)) (w.heap.size+1) 54 zO):=ay.newAt ag;have HE:Hid (Ext w ((w.alloc (cO #[iI 6,iI a,iI b,iI c] 54)).alloc (cO zO 54))):=xx;generalize ((w.alloc (cO #[iI 6,iI a,iI b,iI c] 54)).alloc (cO zO 54))=w2 at*
  obtain ⟨⟨b0,b1,b2,b3⟩,e0,e1,e2,e3⟩:=aB HB.u;obtain ⟨⟨r0,r1,r2,r3⟩,f0,f1,f2,f3⟩:=aB HR.u;go_upto_region 10 with fail;have fV:Hid (ay (w2.setCell (aA w.heap.size 0) (iI 5)) w.heap.size 54 #[iI 5,iI a,iI b,iI c]):=HB.u.ba 0 _;have iL:Hid (ay (w2.setCell (aA w.heap.size 0) (iI 5)) (w.heap.size+1) 54 zO):=HR.u.bX (p:=(aA w.heap.size 0)) (show w.heap.size+1≠w.heap.size by omega) _;have AW:Hid (Ext w (w2.setCell (aA w.heap.size 0) (iI 5))):=HE.u.setCell (p:=(aA w.heap.size 0)) (lI _) _;clear b0 b1 b2 b3 e0 e1 e2 e3 r0 r1 r2 r3 f0 f1 f2 f3 HB HR HE;generalize w2.setCell (aA w.heap.size 0) (iI 5)=w3 at*
  obtain ⟨⟨b0,b1,b2,b3⟩,-⟩:=aB fV.u;obtain ⟨⟨r0,r1,r2,r3⟩,f0,f1,f2,f3⟩:=aB iL.u;go_wp2;have sR:Hid (ay (bP w3 (w.heap.size+1) (iI 5) (iI a) (iI b) (iI c)) (w.heap.size+1) 54 #[iI 5,iI a,iI b,iI c]):=iL.u.bP _ _ _ _;refine bR (v:=.agg #[iI 5,iI a,iI b,iI c]) ?_ rfl ?_
  rotate_left
  ·exact ⟨rfl,br (g:=w.heap.size+1) AW.u aa _ _ _ _⟩
  ·exact UZ rfl sR.u _ af rfl
 by_cases h7:k=7
 ·subst h7;go_enter func146,ntmps146;go_upto_region 1 with fail;have HB:Hid (ay ((w.alloc (cO #[iI 7,iI a,iI b,iI c] 54)).alloc (cO zO 54)) w.heap.size 54 #[iI 7,iI a,iI b,iI c]):=(ay.new w _ _).alloc _;have HR:Hid (ay ((w.alloc (cO #[iI 7,iI a,iI b,iI c] 54)).alloc (cO zO 54)) (w.heap.size+1) 54 zO):=ay.newAt ag;have HE:Hid (Ext w ((w.alloc (cO #[iI 7,iI a,iI b,iI c] 54)).alloc (cO zO 54))):=xx;generalize ((w.alloc (cO #[iI 7,iI a,iI b,iI c] 54)).alloc (cO zO 54))=w2 at*
  obtain ⟨⟨b0,b1,b2,b3⟩,e0,e1,e2,e3⟩:=aB HB.u;obtain ⟨⟨r0,r1,r2,r3⟩,f0,f1,f2,f3⟩:=aB HR.u;go_upto_region 10 with fail;have fV:Hid (ay (w2.setCell (aA w.heap.size 0) (iI 8)) w.heap.size 54 #[iI 8,iI a,iI b,iI c]):=HB.u.ba 0 _;have iL:Hid (ay (w2.setCell (aA w.heap.size 0) (iI 8)) (w.heap.size+1) 54 zO):=HR.u.bX (p:=(aA w.heap.size 0)) (show w.heap.size+1≠w.heap.size by omega) _;have AW:Hid (Ext w (w2.setCell (aA w.heap.size 0) (iI 8))):=HE.u.setCell (p:=(aA w.heap.size 0)) (lI _) _;clear b0 b1 b2 b3 e0 e1 e2 e3 r0 r1 r2 r3 f0 f1 f2 f3 HB HR HE;generalize w2.setCell (aA w.heap.size 0) (iI 8)=w3 at*
  obtain ⟨⟨b0,b1,b2,b3⟩,-⟩:=aB fV.u;obtain ⟨⟨r0,r1,r2,r3⟩,f0,f1,f2,f3⟩:=aB iL.u;go_wp2;have sR:Hid (ay (bP w3 (w.heap.size+1) (iI 8) (iI a) (iI b) (iI c)) (w.heap.size+1) 54 #[iI 8,iI a,iI b,iI c]):=iL.u.bP _ _ _ _;refine bR (v:=.agg #[iI 8,iI a,iI b,iI c]) ?_ rfl ?_
  rotate_left
  ·exact ⟨rfl,br (g:=w.heap.size+1) AW.u aa _ _ _ _⟩
  ·exact UZ rfl sR.u _ af rfl
 by_cases h8:k=8
 ·subst h8;go_enter func146,ntmps146;go_upto_region 1 with fail;have HB:Hid (ay ((w.alloc (cO #[iI 8,iI a,iI b,iI c] 54)).alloc (cO zO 54)) w.heap.size 54 #[iI 8,iI a,iI b,iI c]):=(ay.new w _ _).alloc _;have HR:Hid (ay ((w.alloc (cO #[iI 8,iI a,iI b,iI c] 54)).alloc (cO zO 54)) (w.heap.size+1) 54 zO):=ay.newAt ag;have HE:Hid (Ext w ((w.alloc (cO #[iI 8,iI a,iI b,iI c] 54)).alloc (cO zO 54))):=xx;generalize ((w.alloc (cO #[iI 8,iI a,iI b,iI c] 54)).alloc (cO zO 54))=w2 at*
  obtain ⟨⟨b0,b1,b2,b3⟩,e0,e1,e2,e3⟩:=aB HB.u;obtain ⟨⟨r0,r1,r2,r3⟩,f0,f1,f2,f3⟩:=aB HR.u;go_upto_region 10 with fail;have fV:Hid (ay (w2.setCell (aA w.heap.size 0) (iI 7)) w.heap.size 54 #[iI 7,iI a,iI b,iI c]):=HB.u.ba 0 _;have iL:Hid (ay (w2.setCell (aA w.heap.size 0) (iI 7)) (w.heap.size+1) 54 zO):=HR.u.bX (p:=(aA w.heap.size 0)) (show w.heap.size+1≠w.heap.size by omega) _;have AW:Hid (Ext w (w2.setCell (aA w.heap.size 0) (iI 7))):=HE.u.setCell (p:=(aA w.heap.size 0)) (lI _) _;clear b0 b1 b2 b3 e0 e1 e2 e3 r0 r1 r2 r3 f0 f1 f2 f3 HB HR HE;generalize w2.setCell (aA w.heap.size 0) (iI 7)=w3 at*
  obtain ⟨⟨b0,b1,b2,b3⟩,-⟩:=aB fV.u;obtain ⟨⟨r0,r1,r2,r3⟩,f0,f1,f2,f3⟩:=aB iL.u;go_wp2;have sR:Hid (ay (bP w3 (w.heap.size+1) (iI 7) (iI a) (iI b) (iI c)) (w.heap.size+1) 54 #[iI 7,iI a,iI b,iI c]):=iL.u.bP _ _ _ _;refine bR (v:=.agg #[iI 7,iI a,iI b,iI c]) ?_ rfl ?_
  rotate_left
  ·exact ⟨rfl,br (g:=w.heap.size+1) AW.u aa _ _ _ _⟩
  ·exact UZ rfl sR.u _ af rfl
 have HO:=hY (vK (a:=a) (b:=b) (c:=c) h5 h6 h7 h8);have g5:(k==5)=false:=zP.2 h5;have g6:(k==6)=false:=zP.2 h6;have g7:(k==7)=false:=zP.2 h7;have g8:(k==8)=false:=zP.2 h8;clear h5 h6 h7 h8;go_enter func146,ntmps146;go_upto_region 1 with fail;have HB:Hid (ay ((w.alloc (cO #[iI k,iI a,iI b,iI c] 54)).alloc (cO zO 54)) w.heap.size 54 #[iI k,iI a,iI b,iI c]):=(ay.new w _ _).alloc _;have HR:Hid (ay ((w.alloc (cO #[iI k,iI a,iI b,iI c] 54)).alloc (cO zO 54)) (w.heap.size+1) 54 zO):=ay.newAt ag;have HE:Hid (Ext w ((w.alloc (cO #[iI k,iI a,iI b,iI c] 54)).alloc (cO zO 54))):=xx;generalize ((w.alloc (cO #[iI k,iI a,iI b,iI c] 54)).alloc (cO zO 54))=w2 at*
 obtain ⟨⟨b0,b1,b2,b3⟩,e0,e1,e2,e3⟩:=aB HB.u;obtain ⟨⟨r0,r1,r2,r3⟩,f0,f1,f2,f3⟩:=aB HR.u;have iL:=HR;have AW:=HE;go_wp2;have sR:Hid (ay (bP w2 (w.heap.size+1) (iI k) (iI a) (iI b) (iI c)) (w.heap.size+1) 54 #[iI k,iI a,iI b,iI c]):=iL.u.bP _ _ _ _;refine bR (v:=.agg #[iI k,iI a,iI b,iI c]) ?_ rfl ?_
 rotate_left
 ·exact ⟨by rw [HO.u],br (g:=w.heap.size+1) AW.u aa _ _ _ _⟩
 ·exact UZ rfl sR.u _ af rfl
theorem sS (A:OA) (n c:Nat) (xs:List Gt) (w:World) (h:Rd w w.heap.size 4 A n (ak xs)) (hn:n<=1048576):
  Calls prog 130 #[.slice A n c] w fun e w'=>∃v,e=.returned v/\w'.ownsRow w.heap.size 54 4 v n (ak (gG xs))/\Ext w w':=by
 have hlen:=h.len Gt.aE aa;have anM:Hid (∀j i x,j<n->i=n - 1 - j->xs[i]?=some x->(gG xs)[j]?=some (uk x)):=fun j i x hj hi hx=>by
  unfold gG;rw [sF,List.getElem?_reverse aa,hlen,<-hi,hx];rfl
 have anN:Hid ((gG xs).length=n):=by unfold Hid gG;rw [jk,List.length_reverse];exact hlen
 clear hlen;go_enter func130,ntmps130;have Ft:(w.alloc (cO #[] 54)).ownsRow w.heap.size 54 4 (.slice (some ⟨w.heap.size,0,none⟩) 0 0) 0 (ak ((gG xs).take 0)):=bL (xZ _) _ _ 4 0 #[] _ rfl rfl rfl aa;have hw0:IntKind.i64.wrap ((n:Int) - 1)=(n:Int) - 1:=lH _ aa;go_wp2;have xj:Hid ((w.alloc (cO #[] 54)).ownsRow w.heap.size 54 4 (.slice (some ⟨w.heap.size,0,none⟩) 0 0) 0 (ak ((gG xs).take 0))/\Ext w (w.alloc (cO #[] 54))):=⟨Ft,(xZ _).alloc _⟩;clear Ft;generalize w.alloc (cO #[] 54)=w1 at*
 go_loopw [3,4] (fun rv iv wr=>∃(j:Nat) (A':OA) (cap:Nat),rv=.slice A' j cap/\iv=iI ((n:Int) - 1 - j)/\j<=n/\Hid (wr.ownsRow w.heap.size 54 4 (.slice A' j cap) j (ak ((gG xs).take j))/\Ext w wr)) (fun _ i _=>(intOf i+1).toNat)
 case atStart=>exact ⟨0,_,0,rfl,by simp [hw0],lJ _,xj⟩
 case round=>
  obtain ⟨j,A',cap,rfl,rfl,hj,HDj⟩:=hrel;clear xj hw0
  by_cases bh:j<n
  ·have bS:Hid (j<n/\n<=1048576):=⟨bh,hn⟩;obtain ⟨i,hi⟩:∃i:Nat,(n:Int) - 1 - j=i:=⟨n - 1 - j,aa⟩;have zh:i<n:=aa
   have eM:IntKind.i64.wrap ((i:Int) - 1)=(n:Int) - 1 - ((j+1:Nat):Int):=oV
   have iG:wrap64 ((i:Int) - 1)=(n:Int) - 1 - ((j+1:Nat):Int):=bo
   have NB:(0:Int)<=(i:Int):=aa
   have hi1:(i:Int)>=0:=NB;have HI:Hid (i=n - 1 - j):=by show i=n - 1 - j;omega
   rw [hi];clear hi bh hj;obtain ⟨b,oo,x,rfl,hb,hx,x0,x1,x2,x3⟩:=bE (h.ext HDj.u.2) zh;have HG:=hY (anM.u j i x bS.u.1 HI.u hx);clear hx hb;go_wp2_with fail;refine (fc x _).mono ?_;rintro e w5 ⟨rfl,cN⟩;have gv:Hid (w5.ownsRow w.heap.size 54 4 (.slice A' j cap) j (ak ((gG xs).take j))/\Ext w w5):=⟨aq HDj.u.1 cN,HDj.u.2.trans cN⟩;clear HDj cN x0 x1 x2 x3;go_wp2_with (at_builtin;refine er (w0:=w) rfl _ _ rfl _ j ((gG xs).take j) rfl gv.u.1 gv.u.2 (uk x) _ _ rfl rfl (oM bS.u) ?_;intro v' w9 g1 g2 g3 g4)
   obtain ⟨A9,c9,rfl,-⟩:=au g1;have yH:Hid (w9.ownsRow w.heap.size 54 4 (.slice A9 (j+1) c9) (j+1) (ak ((gG xs).take (j+1)))/\Ext w w9):=⟨by rw [aL HG.u];exact g1,g2⟩;clear g1 g2 g3 g4;go_wp2;go_roundw
   case rel=>exact ⟨j+1,A9,c9,rfl,by first|rfl|rw [eM]|rw [iG],oM bS.u,yH⟩
   case measure=>have h5:=iG;have h6:i=n - 1 - j:=HI.u;have h7:=bS.u;simp [intOf];omega
  ·have Qa:j=n:=aa
   subst Qa;have na:¬((j:Int) - 1 - j>=0):=aa
   have KX:¬(0<=(j:Int) - 1 - j):=aa
   have HE:Hid ((gG xs).take j=gG xs):=lE (by rw [anN.u];exact lI _);rw [HE.u] at HDj;go_wp2;go_ret
   exact ⟨_,rfl,HDj.u.1,HDj.u.2⟩
def ju (gs:List Gt):List Gt:=gs.flatMap dec
theorem Va {gs:List Gt} {k:Nat} {g:Gt} (h:gs[k]?=some g):ju (gs.take (k+1))=ju (gs.take k)++dec g:=by
 unfold ju;rw [aL h,lR];simp
theorem Bp (gs:List Gt):(ju gs).length<=15*gs.length:=by
 unfold ju
 induction gs with
 |nil=>simp
 |cons o xs ih=>have:=mA o;rw [fK,lA,ij];omega
theorem Vb (gs:List Gt) (k:Nat):(ju (gs.take k)).length<=15*k:=by
 have h1:=Bp (gs.take k);have h2:(gs.take k).length<=k:=qU _ _;omega
theorem FN (gs:List Gt) (c:Int):ai (gB gs c)=gs:=by
 unfold ai gB
 induction gs with
 |nil=>rfl
 |cons g xs ih=>simpa [yY] using ih
theorem sT (xs:List Oq):ai (aP xs)=ju (ai xs):=by
 induction xs with
 |nil=>rfl
 |cons o xs ih=>
  have e:aP (o::xs)=jl o++aP xs:=by unfold aP;rw [fK]
  have ea:∀(a b:List Oq),ai (a++b)=ai a++ai b:=fun a b=>by simp [ai]
  rw [e,ea,ih]
  by_cases h1:(o.k==1)=true
  ·rw [NI h1,FN];simp [ai,ju,h1]
  ·have h1':(o.k==1)=false:=sU h1
   by_cases h3:(o.k==3)=true
   ·rw [NJ h1' h3];simp [ai,ju,h1']
   ·have ed:jl o=[o]:=by unfold jl;rw [aK (by simp [h1']),aK h3]
    rw [ed];simp [ai,ju,h1']
theorem pF (A:OA) (n c:Nat) (gs:List Gt) (w:World) (h:Rd w w.heap.size 4 A n (ak gs)) (hn:n<=1048576):
  Calls prog 14 #[.slice A n c] w fun e w'=>∃v,e=.returned v/\w'.ownsRow w.heap.size 54 4 v (ju gs).length (ak (ju gs))/\Ext w w':=by
 have hlen:=hY (h.len Gt.aE aa);go_enter func14,ntmps14;go_wp2
 go_loopw [3,9] (fun v i wr=>∃k:Nat,k<=n/\i=iI k/\wr.ownsRow w.heap.size 54 4 v (ju (gs.take k)).length (ak (ju (gs.take k)))/\Ext w wr) (fun _ i _=>n - (intOf i).toNat)
 case atStart=>exact ⟨0,lJ _,rfl,aJ w w _ _ (xZ _),xx⟩
 case round=>
  obtain ⟨k,hk,rfl,bc,hx⟩:=hrel
  by_cases bh:k<n
  ·obtain ⟨b,o,g,rfl,hb,hg,r0,r1,r2,r3⟩:=bE (h.ext hx) bh;have HS:=hY (Va hg);clear hg;have hle:=Vb gs k;have NC:=mA g;go_wp2_with fail;refine (jQ g _).mono ?_;rintro e w1 ⟨v1,rfl,eF,aS⟩;replace aS:Ext wr w1:=Ext.trans ((xZ wr).alloc _) aS;obtain ⟨A1,c1,rfl,pD⟩:=au eF;clear r0 r1 r2 r3;go_wp2_with (at_builtin;refine cU (w0:=w) rfl _ _ rfl _ _ (ju (gs.take k)) rfl (aq bc aS) (hx.trans aS) A1 _ c1 (dec g) rfl pD aa ?_;intro v2 w2 ep Qb jL oF)
   go_roundw
   case rel=>exact ⟨k+1,aa,az,by rw [HS.u,lA];exact ep,Qb⟩
   case measure=>simp [intOf];omega
  ·rw [lE bN] at bc;go_wp2;go_ret
   exact ⟨_,rfl,bc,hx⟩
theorem GH (s:ByteArray) (a b:Nat):(s.extract a b).data.toList=(s.data.toList.drop a).take (b - a):=by
 rw [Lib.extract_data]
theorem Vc (s:ByteArray) (k:Nat) (h:k<s.size):s.data.toList[k]?=some s[k]:=by
 rw [lB (by rw [PH];exact h),Array.getElem_toList];rfl
theorem NR (xs:List ByteArray):xs.map Value.string=jR xs:=by
 induction xs with
 |nil=>rfl
 |cons x r ih=>
  show Value.string x::r.map Value.string=GD x++jR r;rw [ih];rfl
theorem aef (xs:List ByteArray):(jR xs).length=xs.length:=by rw [<-NR,jk]
def Vd (w:World):Prop:=∃g m,prog.globalNamed "internal/bytealg.MaxLen" =some g/\w.cell? ⟨g,0,none⟩=some (.int .i64 m)
theorem Vd.ext {w w':World} (h:Vd w) (hx:Ext w w'):Vd w':=by
 obtain ⟨g,m,hg,hc⟩:=h
 exact ⟨g,m,hg,(hx.cell (p:=(aA g 0)) (World.block_lt_of_cell? _ _ hc)).trans hc⟩
theorem ag6 {name:String} {g k:Nat} {w:World} {v:Value} (hg:prog.globalNamed name=some g) (hc:w.cell? (aA g 0)=some v) (hk:prog.globalNamed name=some k):w.cell? (aA k 0)=some v:=by
 obtain rfl:=nT (hg.symm.trans hk)
 exact hc
theorem vO (s:ByteArray) (c:UInt8) (n:Int) (hn:(c.toNat:Int)=n) (w:World) (hs:s.size<=2000000):
  Calls prog 7 #[.string s,.int .u8 n] w fun e w'=>∃v,e=.returned v/\w'.ownsRow w.heap.size 9 1 v (cut c s).length (jR (cut c s))/\Ext w w':=by
 go_enter func7,ntmps7;go_wp2
 go_loopw [5,6,7] (fun v fv iv wr=>∃(ys:List ByteArray) (k:Nat),iv=iI k/\ys.length<=k/\wr.ownsRow w.heap.size 9 1 v ys.length (jR ys)/\Ext w wr/\((∃f:Nat,fv=iI f/\f<=k/\k<=s.size/\Hid (mY c s.data.toList (ys.map (·.data.toList)) f k))\/(k=s.size+1/\(∃f,fv=iI f)/\Hid (cut c s=ys)))) (fun _ _ i _=>s.size+1 - (intOf i).toNat)
 case atStart=>exact ⟨[],0,rfl,lI _,aJ w w _ _ (xZ _),xx,.inl ⟨0,rfl,lI _,lJ _,mY.start _ _⟩⟩
 case round=>
  obtain ⟨ys,k,rfl,hyk,bc,hx,⟨f,rfl,hf,hks,HA⟩|⟨rfl,⟨f,rfl⟩,HF⟩⟩:=hrel
  ·have rE:(0:Int)<=(k:Int):=aa
   have jT:(k:Int)<=(s.size:Int):=aa
   have xl:(0:Int)<=(f:Int):=aa
   have hfk:(f:Int)<=(k:Int):=aa
   by_cases bh:k<s.size
   ·have hne:((k:Int)==(s.size:Int))=false:=aj
    have Zm:(k:Int)<(s.size:Int):=aa
    have HB:=hY (Vc s k bh);have hys:ys.length<=2000001:=aa
    by_cases hb:s[k]=c
    ·have hbq:((s[k].toNat:Int)==(c.toNat:Int))=true:=by rw [hb];simp
     rw [hb] at HB;clear hb;go_wp2_with (at_builtin;refine UP rfl _ _ rfl _ ys.length ys rfl bc hx (s.extract f k) _ _ rfl rfl aa ?_;intro v1 w1 kV aS vH mS)
     go_roundw
     case rel=>exact ⟨ys++[s.extract f k],k+1,az,aj,sU kV,aS,.inl ⟨k+1,az,lI _,aa,by
      have:=HA.u.cut HB.u;rw [mf];show mY _ _ (_++[(s.extract f k).data.toList]) _ _;rw [GH]
      exact this⟩⟩
     case measure=>simp [intOf];omega
    ·have hbq:((s[k].toNat:Int)==(c.toNat:Int))=false:=by
      simp;intro h
      exact hb (UInt8.toNat_inj.1 aa)
     have HNE:=hY hb;clear hb;go_wp2;go_roundw
     case rel=>exact ⟨ys,k+1,az,aa,bc,hx,.inl ⟨f,rfl,aa,aa,HA.u.skip HB.u HNE.u⟩⟩
     case measure=>simp [intOf];omega
   ·have hke:k=s.size:=aa
    subst hke;have hne:((s.size:Int)==(s.size:Int))=true:=ag
    go_wp2_with (at_builtin;refine UP rfl _ _ rfl _ ys.length ys rfl bc hx (s.extract f s.size) _ _ rfl rfl aa ?_;intro v1 w1 kV aS vH mS)
    go_roundw
    case rel=>exact ⟨ys++[s.extract f s.size],s.size+1,az,aj,sU kV,aS,.inr ⟨rfl,⟨_,az⟩,by
      have h1:=HA.u.anF oW;refine (UJ ?_).symm;rw [mf,h1];show _++[(s.extract f s.size).data.toList]=_
      rw [GH]⟩⟩
    case measure=>simp [intOf]
  ·have hgt:¬(((s.size+1:Nat):Int)<=(s.size:Int)):=aa
   rw [<-HF.u] at bc;go_wp2;go_ret
   exact ⟨_,rfl,bc,hx⟩
end Go.Proofs.YtiajdbllccmokaaGreatDoor
