import Derived.Test.YtodhjgngkkcjgaaGreatDoorXl
import Derived.Test.YtodhjgngkkcjgaaGreatDoorXk
import Derived.Test.YtodhjgngkkcjgaaGreatDoorXj
namespace Go.Proofs.YtodhjgngkkcjgaaGreatDoor
open Go.ChangeShapes Go.WideShapes Go.ChangeAt Go.RowKit Go.Deep Go.Proofs.Tryz
set_option linter.unusedVariables false
set_option linter.unusedSimpArgs false
set_option maxRecDepth 100000
set_option maxHeartbeats 16000000
theorem gZ:(prog.info? 207).map (·.size)=some 2:=af
theorem apj {fn:Func} {p:Tmp} (hf:fn.results=#[.cell p 207]) {W:World} {q:Nat} {cs:Array Value} (hB:au W q 207 cs) (tmps:Array Value)
  (hp:tmps.getD p undef=.pointer (some ⟨q,0,none⟩)) (hs:cs.size=2):(results fn tmps).run prog W=.ok (.agg cs) W:=
 pc hf tmps _ q 207 _ (0,0) _ hp hB yv rfl (by rw [hs];exact gZ)
def eh (w:World) (g:Nat) (a b:Value):World:=(w.setCell (aA g 0) a).setCell (aA g 1) b
theorem au.eh {w:World} {g t:Nat} {z0 z1:Value} (h:au w g t #[z0,z1]) (a b:Value):au (eh w g a b) g t #[a,b]:=(h.aU 0 a).aU 1 b
theorem dK {w0 w:World} (h:Ext w0 w) {g:Nat} (hg:w0.heap.size<=g) (a b:Value):Ext w0 (eh w g a b):=(h.setCell (p:=(aA g 0)) hg a).setCell (p:=(aA g 1)) hg b
theorem WH {w:World} {B e size n c:Nat} {A:OA} {xs:List Value} (h:w.ownsRow B e size (.slice A n c) n xs):n<=c:=by
 rcases h.2 with ⟨h0,rfl⟩|⟨g,cap,cur,hv,_,_,LR,_⟩
 ·omega
 ·injection hv with _ _ h3;omega
structure DT (W1 w:World) (g:Nat) (N:Int) (A:OA) (len cap:Nat) (xs:List Pa):Prop where
 b:au w g 207 #[iI N,.slice A len cap]
 o:w.ownsRow (g+1) 251 4 (.slice A len cap) len (aX xs)
 x:Ext W1 w
 s:W1.heap.size<=g
theorem DT.ext {W1 w w':World} {g:Nat} {N:Int} {A:OA} {len cap:Nat} {xs:List Pa} (h:DT W1 w g N A len cap xs) (hx:Ext w w'):DT W1 w' g N A len cap xs:=⟨h.b.ext hx,aj h.o hx,h.x.trans hx,h.s⟩
theorem DT.len_ {W1 w:World} {g:Nat} {N:Int} {A:OA} {len cap:Nat} {xs:List Pa} (h:DT W1 w g N A len cap xs):xs.length=len:=(Rd.own h.o).len Pa.aG aa
theorem DT.cap_ {W1 w:World} {g:Nat} {N:Int} {A:OA} {len cap:Nat} {xs:List Pa} (h:DT W1 w g N A len cap xs):len<=cap:=WH h.o
theorem xG {w:World} {B:Nat} (h:B<=w.heap.size):({w with heap:=w.heap.extract 0 B}:World).heap.size=B:=ai
theorem RD {w:World} {B:Nat} (h:B<=w.heap.size):Ext ({w with heap:=w.heap.extract 0 B}:World) w:=by
 refine ⟨rfl,rfl,rfl,by rw [xG h];exact h,fun k hk=>?_⟩;rw [xG h] at hk;simp [Nl];omega
theorem DT.left {W1 w w':World} {g:Nat} {N:Int} {A A':OA} {len cap c':Nat} {xs:List Pa} {y:Pa} (D:DT W1 w g N A len cap xs) (hB:g+1<=w.heap.size)
  (h1:w'.ownsRow (g+1) 251 4 (.slice A' (len+1) c') (len+1) (aX (xs++[y]))) (pU:w.grownBy w' (Value.slice A len cap).ownBlock):
  au w' g 207 #[iI N,.slice A len cap]/\DT W1 (w'.setCell (aA g 1) (.slice A' (len+1) c')) g N A' (len+1) c' (xs++[y])/\∀(k t:Nat) (cs:Array Value),k<g->au w k t cs->au (w'.setCell (aA g 1) (.slice A' (len+1) c')) k t cs:=by
 have hne:∀k,(Value.slice A len cap).ownBlock=some k->g≠k:=fun k hk=>oM ((D.o.lt k hk).1)
 have rJ:au w' g 207 #[iI N,.slice A len cap]:=D.b.grown pU hne;have sr:Ext W1 w':=D.x.grown pU (fun k hk=>oN ((D.o.lt k hk).1) D.s);refine ⟨rJ,⟨rJ.aU 1 _,bo h1 (p:=(aA g 1)) (yq g) _,sr.setCell (p:=(aA g 1)) D.s _,D.s⟩,fun k t cs hk hb=>?_⟩
 exact (hb.grown pU (fun j hj=>oM ((D.o.lt j hj).1))).cB (p:=(aA g 1)) (show k≠g by omega) _
theorem Iw {P:Prop} (h:P:=by
 intro v' w' h1 h2 h3 h4;rw [mW] at h1;obtain ⟨A',c',rfl,_⟩:=ak h1
 exact h A' c' w' (D.left hB h1 h3)):P:=h
theorem DT.app {W1 w:World} {g:Nat} {N:Int} {A:OA} {len cap:Nat} {xs:List Pa} (D:DT W1 w g N A len cap xs) {ops:Array Oper} {rest:List Oper} {o:Oper} {a:Act} {Q:Exit->Act->World->Prop} (fX:o.guard=none) (s x:Operand)
  (ho:aO o s x 205) (hs:a.eval s=.slice A len cap)
  (y:Pa) (b:Nat) (hx:a.eval x=.slice (some ⟨b,0,none⟩) 1 1) (hr:Rd w w.heap.size 4 (some ⟨b,0,none⟩) 1 (aX [y])) (hn:len<=1800000000000)
  (h:∀A' c' w',(au w' g 207 #[iI N,.slice A len cap]/\DT W1 (w'.setCell (aA g 1) (.slice A' (len+1) c')) g N A' (len+1) c' (xs++[y])/\∀(k t:Nat) (cs:Array Value),k<g->au w k t cs->au (w'.setCell (aA g 1) (.slice A' (len+1) c')) k t cs)->wpList prog ops Q rest (a.put o.dst (.slice A' (len+1) c')) w'):
  wpList prog ops Q (o::rest) a w:=by
 have hB:g+1<=w.heap.size:=D.b.lt;have mW:=xG hB;refine CO (w0:={w with heap:=w.heap.extract 0 (g+1)}) fX s x ho _ len xs hs (by rw [mW];exact D.o) (RD hB) _ 1 1 [y] hx hr aa ?_
 exact Iw
theorem DT.step {W1 w:World} {g:Nat} {N:Int} {A:OA} {len cap:Nat} {xs:List Pa} (D:DT W1 w g N A len cap xs) {ops:Array Oper} {o:Oper} {a:Act} {K:Act->World->Prop} {Q:Exit->Act->World->Prop} {E:Prop} (fX:o.guard=none) (s x:Operand)
  (ho:aO o s x 205) (hs:a.eval s=.slice A len cap)
  (y:Pa) (b:Nat) (hx:a.eval x=.slice (some ⟨b,0,none⟩) 1 1) (hr:Rd w w.heap.size 4 (some ⟨b,0,none⟩) 1 (aX [y])) (hn:len<=1800000000000)
  (h:∀A' c' w',(au w' g 207 #[iI N,.slice A len cap]/\DT W1 (w'.setCell (aA g 1) (.slice A' (len+1) c')) g N A' (len+1) c' (xs++[y])/\∀(k t:Nat) (cs:Array Value),k<g->au w k t cs->au (w'.setCell (aA g 1) (.slice A' (len+1) c')) k t cs)->K (a.put o.dst (.slice A' (len+1) c')) w'):
  if Region.wanted o (yielded ops a.tmps)=true then Oper.wp prog o a w K Q else E:=by
 have hB:g+1<=w.heap.size:=D.b.lt;have mW:=xG hB;refine GK (w0:={w with heap:=w.heap.extract 0 (g+1)}) fX s x ho _ len xs hs (by rw [mW];exact D.o) (RD hB) _ 1 1 [y] hx hr aa ?_
 exact Iw
def kY (n:Int) (rs:List Pa) (v:Value) (w:World):Prop:=∃(A:OA) (c:Nat),v=.agg #[iI n,.slice A rs.length c]/\Rd w w.heap.size 4 A rs.length (aX rs)/\rs.length<=c
theorem DT.u {W1 w:World} {g:Nat} {N:Int} {A:OA} {len cap:Nat} {xs:List Pa} (h:DT W1 w g N A len cap xs):kY N xs (.agg #[iI N,.slice A len cap]) w:=by
 have hl:=h.len_;have hr:=Rd.own h.o;have hc:=h.cap_;subst hl
 exact ⟨A,cap,rfl,hr,hc⟩
theorem kY.ext {n:Int} {rs:List Pa} {v:Value} {w w':World} (h:kY n rs v w) (hx:Ext w w'):kY n rs v w':=by
 obtain ⟨A,c,hv,hr,hc⟩:=h
 exact ⟨A,c,hv,hr.ext hx,hc⟩
theorem kY.put {n:Int} {rs:List Pa} {N:Int} {A:OA} {len cap:Nat} {xs:List Pa} {W1 w:World} {g r:Nat} (h:DT W1 w g N A len cap xs) (hr:r<g) (a b:Value):kY N xs (.agg #[iI N,.slice A len cap]) (eh w r a b):=by
 have hl:=h.len_;have ho:=bo (bo h.o (p:=(aA r 0)) (by show r<g+1;omega) a) (p:=(aA r 1)) (by show r<g+1;omega) b;have hrd:=Rd.own ho;have hc:=h.cap_;subst hl
 exact ⟨A,cap,rfl,hrd,hc⟩
def pV (n:Int) (t:Option (List Pa)) (e:Ending) (w:World):Prop:=
 match t with
 |none=>e=.returned (.tuple #[.agg jC,.bool false])
 |some rs=>∃v,e=.returned (.tuple #[v,.bool true])/\kY n rs v w
def WI (n:Int) (k:Nat):Pa:=if (k:Int)<n then ⟨n,pw k,0,0⟩ else ⟨n,0,pw ((k:Int) - n),0⟩
def idL (n:Int) (k:Nat):List Pa:=(List.range k).map (WI n)
theorem acT (n:Int) (k:Nat):idL n (k+1)=idL n k++[WI n k]:=by unfold idL;rw [FR,qF];rfl
theorem ahd {n:Int} (h1:1<=n) (h4:n<=4):idL n (2*n.toNat)=YI n.toNat:=by
 rcases (show n=1\/n=2\/n=3\/n=4 by omega) with rfl|rfl|rfl|rfl<;>rfl
theorem ahe {n:Int} {rs:List Pa} {g:Gt} (h:oO n rs=false):fL n rs g=none:=by unfold fL;rw [h];rfl
theorem acU {n:Int} {rs:List Pa} {g:Gt} {k:Nat} {p:Pa} (hp:rs[k]?=some p) (h:uT p g=false):fL n rs g=none:=by
 unfold fL;have:rs.all (fun p=>uT p g)=false:=by
  rw [FN]
  exact ⟨p,lG hp,aZ⟩
 rw [this,ic];rfl
theorem Zj {n:Int} {rs:List Pa} {g:Gt} {k:Nat} (hv:oO n rs=true) (hk:rs.length=k) (h:(rs.take k).all (fun p=>uT p g)=true):fL n rs g=some ((rs.take k).map fun p=>cj p g):=by
 subst hk;rw [pg] at h |-;unfold fL;rw [hv,h];rfl
theorem acV {n:Int} {rs:List Pa} (h:oO n rs=true):(1<=n/\n<=4)/\(rs.length:Int)=2*n:=by
 unfold oO at h;simp only [lF,kh,eS] at h
 exact ⟨⟨h.1.1.1,h.1.1.2⟩,h.1.2⟩
theorem Zk {α β:Type} (f:α->β) {xs:List α} {k:Nat} {x:α} (h:xs[k]?=some x):(xs.take (k+1)).map f=(xs.take k).map f++[f x]:=by
 rw [TJ,h,qF];rfl
def AG (w W:World) (A:OA) (l c:Nat) (n:Int) (g:Gt) (q:Nat):Prop:=
 au W w.heap.size 207 #[iI n,.slice A l c]/\au W (w.heap.size+1) 39 (gA g)/\au W (w.heap.size+2) 207 jC/\w.heap.size+3<=q
theorem AG.left {w W W':World} {A:OA} {l c q:Nat} {n:Int} {g:Gt} (h:AG w W A l c n g q) (hb:∀(k t:Nat) (cs:Array Value),k<q->au W k t cs->au W' k t cs):AG w W' A l c n g q:=
 ⟨hb _ _ _ (oM h.2.2.2) h.1,hb _ _ _ (oM h.2.2.2) h.2.1,hb _ _ _ (oM h.2.2.2) h.2.2.1,h.2.2.2⟩
theorem AG.ext {w W W':World} {A:OA} {l c q:Nat} {n:Int} {g:Gt} (h:AG w W A l c n g q) (hx:Ext W W'):AG w W' A l c n g q:=h.left (fun _ _ _ _ hb=>hb.ext hx)
theorem wK {n:Int} {t:Option (List Pa)} {e:Ending} {w:World} (h:t=none) (he:e=.returned (.tuple #[.agg jC,.bool false])):pV n t e w:=by subst h;exact he
theorem Ef {n:Int} {t:Option (List Pa)} {rs:List Pa} {e:Ending} {w:World} {v:Value} (h:t=some rs) (he:e=.returned (.tuple #[v,.bool true])) (ho:kY n rs v w):pV n t e w:=by subst h;exact ⟨v,he,ho⟩
theorem ahf {n:Int} {k:Nat} (h1:1<=n) (h4:n<=4) (hk:(k:Int)<2*n):∃(q:Int) (z:Bool),(k:Int).tmod n=q/\(0<=q/\q<=3)/\decide (n<=(k:Int))=z/\sgl n q z=WI n k:=by
 rcases (show n=1\/n=2\/n=3\/n=4 by omega) with rfl|rfl|rfl|rfl<;>
 rcases (show k=0\/k=1\/k=2\/k=3\/k=4\/k=5\/k=6\/k=7 by omega) with rfl|rfl|rfl|rfl|rfl|rfl|rfl|rfl<;>first|(exfalso;omega)|exact ⟨_,_,rfl,ae,rfl,rfl⟩
theorem gj (n:Int) (w:World) (h1:1<=n) (h4:n<=4):Calls prog 188 #[iI n] w fun e w'=>(∃v,e=.returned v/\kY n (YI n.toNat) v w')/\Ext w w':=by
 have hw2:IntKind.i64.wrap (2*n)=2*n:=lH _ aa;have HN:Hid (1<=n/\n<=4):=⟨h1,h4⟩;have Tk:(n==0)=false:=dV
 have hnz:¬n=0:=aa
 go_enter func188,ntmps188;go_wp2_with fail;refine (aF _ _ _ _ h1 h4).mono ?_;rintro e w1 ⟨rfl,rfl⟩;go_wp2;have HR:Hid (au ((w.alloc (cO jC 207)).alloc (cO #[iI n,nS] 207)) w.heap.size 207 jC):=(au.new w _ _).alloc _;have HD:Hid (DT w ((w.alloc (cO jC 207)).alloc (cO #[iI n,nS] 207)) (w.heap.size+1) n none 0 0 []):=⟨au.newAt ag,⟨rfl,Or.inl ⟨rfl,rfl⟩⟩,xx,aa⟩;generalize ((w.alloc (cO jC 207)).alloc (cO #[iI n,nS] 207))=w2 at*
 go_loopw [4] (fun iv wr=>∃(k:Nat) (A:OA) (cap:Nat),iv=iI k/\(k:Int)<=2*n/\Hid (DT w wr (w.heap.size+1) n A k cap (idL n k))/\Hid (au wr w.heap.size 207 jC)) (fun i _=>8 - (intOf i).toNat)
 case atStart=>exact ⟨0,none,0,rfl,aa,HD,HR⟩
 case round=>
  obtain ⟨k,A,cap,rfl,hk,Bg,Zl⟩:=hrel;clear HD HR
  by_cases ba:(k:Int)<2*n
  ·obtain ⟨q,z,hq,akW,hz,hy⟩:=ahf h1 h4 ba;have kz:decide ((k:Int)>=n)=z:=hz;have hqw:IntKind.i64.wrap q=q:=lH _ aa;obtain ⟨y,hyy⟩:=ex (WI n k);rw [hyy] at hy;have HYY:=hY hyy;have HS:Hid (∀w',Calls prog 201 #[iI n,iI q,.bool z] w' fun e w''=>e=.returned (.agg (jF y))/\Ext w' w''):=fun w'=>by rw [<-hy];exact cC n q z w' akW.1 akW.2
   clear hyy hy akW;have hk8:k<8:=aa
   have HK8:Hid (k<8/\(k:Int)<2*n):=⟨hk8,ba⟩;go_upto_region 7 with fail;clear ba hk hk8 hw2;have HDd:=hY (Bg.u.ext (xZ _).drew);have HRd:=hY (Zl.u.ext (xZ _).drew);have aEQ:True:=trivial;refine dt (S:=fun _=>True) af trivial (fun aEQ=>?_);refine tq 0 ?_;refine tq 2 ?_;refine tq 3 ?_;refine tq 4 ?_;refine tq 5 ?_;refine tq 6 ?_;refine tq 7 ?_;refine tq 8 ?_;refine o2 1 9 (fun K hK=>?wL) fun K hK=>?wC
   case' wL=>
    have c1:=HDd.u.b.cell 1;have Zm:_=some (Value.slice A (k) cap):=c1;clear c1;go_simp;refine hK.out _ _ trivial (fun aEQ=>?_);clear hK K aEQ;have aEQ:True:=trivial
    (try refine pt ?_)
    clear Zm;refine o1 9 fun K hK=>?_
    go_simp;refine (HS.u _).mono ?_;rintro e v5 ⟨rfl,cf⟩;have Eb:=hY (HDd.u.ext cf);have mC:=hY (HRd.u.ext cf);clear cf;refine hK.out _ _ trivial (fun aEQ=>?_);clear hK K aEQ;have aEQ:True:=trivial
    (try refine pt ?_)
    refine o1 10 fun K hK=>?_
    go_simp;have NN:=hY (Eb.u.ext ((xZ _).alloc (cO (jF y) 251)));have jN:=hY (mC.u.alloc (cO (jF y) 251));refine hK.out _ _ trivial (fun aEQ=>?_);clear hK K aEQ;have aEQ:True:=trivial
    (try refine pt ?_)
   case' wC=>
    go_simp;refine (HS.u _).mono ?_;rintro e v5 ⟨rfl,cf⟩;have Eb:=hY (HDd.u.ext cf);have mC:=hY (HRd.u.ext cf);clear cf;refine hK.out _ _ trivial (fun aEQ=>?_);clear hK K aEQ;have aEQ:True:=trivial
    (try refine pt ?_)
    refine o2 1 10 (fun K hK=>?wL2) fun K hK=>?wC2
   case' wL2=>
    have c1:=Eb.u.b.cell 1;have Zm:_=some (Value.slice A (k) cap):=c1;clear c1;go_simp;refine hK.out _ _ trivial (fun aEQ=>?_);clear hK K aEQ;have aEQ:True:=trivial
    (try refine pt ?_)
    clear Zm;refine o1 10 fun K hK=>?_
    go_simp;have NN:=hY (Eb.u.ext ((xZ _).alloc (cO (jF y) 251)));have jN:=hY (mC.u.alloc (cO (jF y) 251));refine hK.out _ _ trivial (fun aEQ=>?_);clear hK K aEQ;have aEQ:True:=trivial
    (try refine pt ?_)
   case' wC2=>
    go_simp;have NN:=hY (Eb.u.ext ((xZ _).alloc (cO (jF y) 251)));have jN:=hY (mC.u.alloc (cO (jF y) 251));refine hK.out _ _ trivial (fun aEQ=>?_);clear hK K aEQ;have aEQ:True:=trivial
    (try refine pt ?_)
    refine o1 1 fun K hK=>?_
    have c1:=NN.u.b.cell 1;have Zm:_=some (Value.slice A (k) cap):=c1;clear c1;go_simp;refine hK.out _ _ trivial (fun aEQ=>?_);clear hK K aEQ;have aEQ:True:=trivial
    (try refine pt ?_)
    clear Zm
   all_goals
    refine o1 11 fun K hK=>?_
    refine DT.step NN.u ah _ _ ah ah y _ ah (dZ v5 _ _ 4 _ eV eV) (oN HN.u HK8.u) ?_;intro A' c' w7 ⟨Mc,hD7,Lp⟩;have HD7:=hY hD7;have vh:=hY (Lp _ _ _ (yq _) jN.u);have k6:=Mc.ck 1;have f6:=Mc.frozen 1;clear Mc hD7 Lp;refine hK.out _ _ trivial (fun aEQ=>?_);clear hK K aEQ;have aEQ:True:=trivial
    (try refine pt ?_)
    refine tq 12 ?_;refine o1 13 fun K hK=>?_
    go_simp;refine hK.out _ _ trivial (fun aEQ=>?_);clear hK K aEQ;have aEQ:True:=trivial
    (try refine pt ?_)
    refine dn ?_;clear k6 f6 aEQ;have et:IntKind.i64.wrap ((k:Int)+1)=((k+1:Nat):Int):=by have:=HK8.u;rw [lH _ aa];rfl
    have iM:=wB k (oM HK8.u);go_wp2;go_roundw
    case rel=>exact ⟨k+1,A',c',by first|rfl|rw [et]|rw [iM],oM HK8.u.2,by rw [acT,HYY.u];exact HD7,vh⟩
    case measure=>simp [intOf,iM];have:=HK8.u;omega
  ·have iM:k=2*n.toNat:=aa
   have HID:Hid (idL n k=YI n.toNat):=by unfold Hid;rw [iM];exact ahd h1 h4
   clear iM;obtain ⟨⟨c0,c1⟩,-⟩:=bu Bg.u.b;obtain ⟨⟨d0,d1⟩,f0,f1⟩:=bu Zl.u;go_wp2;have wh:Hid (au (eh wr w.heap.size (iI n) (.slice A k cap)) w.heap.size 207 #[iI n,.slice A k cap]):=Zl.u.eh _ _;refine bJ (v:=.agg #[iI n,.slice A k cap]) ?_ rfl ?_
   rotate_left
   ·exact ⟨⟨_,rfl,HID.u ▸ kY.put (rs:=[]) (n:=0) Bg.u (yq _) _ _⟩,dK (g:=w.heap.size) Bg.u.x (lI _) _ _⟩
   ·exact apj rfl wh.u _ af rfl
def zZ (n:Int) (gs:List Gt):Option (List Pa):=if Tl n gs=true then uV n gs else none
theorem WJ {n:Int} {gs:List Gt} (h:Tl n gs=false):zZ n gs=none:=by unfold zZ;rw [h];rfl
theorem Ix {n:Int} {gs:List Gt} (h:Tl n gs=true):zZ n gs=uV n gs:=by unfold zZ;rw [h];rfl
theorem acW {n:Int} {gs:List Gt} (h:Tl n gs=true):1<=n/\n<=4:=by
  unfold Tl at h;simp only [lF,kh] at h
  exact ⟨h.1.1.1,h.1.1.2⟩
theorem Zn (n:Int) (gs:List Gt) (g:Gt):uV n (gs++[g])=(uV n gs).bind fun rs=>fL n rs g:=by unfold uV;rw [rZ];rfl
theorem Zo (n:Int) (gs:List Gt):uV n (gs.take 0)=some (YI n.toNat):=by rw [CF];rfl
theorem Mu {n:Int} {gs:List Gt} {k:Nat} {g:Gt} {rs:List Pa} (hg:gs[k]?=some g) (h:uV n (gs.take k)=some rs):uV n (gs.take (k+1))=fL n rs g:=by
  rw [TJ,hg];show uV n (gs.take k++[g])=_;rw [Zn,h];rfl
theorem Iy (n:Int):∀gs:List Gt,gs.foldl (fun t g=>t.bind fun rs=>fL n rs g) (none:Option (List Pa))=none
  |[]=>rfl
  |g::gs=>by rw [vO];exact Iy n gs
theorem Zp {n:Int} {gs:List Gt} {k:Nat} (h:uV n (gs.take k)=none):uV n gs=none:=by
  have e:uV n gs=uV n (gs.take k++gs.drop k):=by rw [yj]
  rw [e];unfold uV at h |-;rw [rZ,h]
  exact Iy n _
theorem Iz {n:Int} {rs Eg:List Pa} {g:Gt} (h:fL n rs g=some Eg):Eg.length=rs.length:=by
  unfold fL at h;split at h
  · injection h with h;subst h;rw [jK]
  · cases h
theorem WL (k:Nat):(YI k).length=2*k:=by unfold YI;rw [lA,jK,jK,TK];omega
theorem tI {W:World} {q t n B:Nat} {z0 z1:Value} {A:OA} {xs:List Value} (h:Rd W B 4 A n xs) (hb:au W q t #[z0,z1]) (a b:Value):Rd (eh W q a b) B 4 A n xs:=by
  refine ⟨h.1,fun hn=>?_⟩;obtain ⟨b',o,e,rJ,hc⟩:=h.2 hn;refine ⟨b',o,e,rJ,fun j u hu=>?_⟩;have hne:b'≠q:=by
    rintro rfl;have hlen:=h.1;have h3:=hc 3 _ (lB aa);rw [hb.cell] at h3;rw [yk ag] at h3
    cases h3
  have e1:(eh W q a b).heap[b']?=W.heap[b']?:=(pa _ ⟨q,1,none⟩ b b' hne).trans (pa _ ⟨q,0,none⟩ a b' hne)
  exact (uB (a:=⟨b',o+j,none⟩) e1).trans (hc j u hu)
theorem mE (W:World) (q:Nat) (a b:Value):(eh W q a b).heap.size=W.heap.size:=by simp [eh]
def CG (w W:World) (A:OA) (l c:Nat) (n:Int) (q:Nat):Prop:=
  au W w.heap.size 183 #[iI n,.slice A l c]/\au W (w.heap.size+1) 207 jC/\w.heap.size+2<=q/\Ext w W
theorem CG.ext {w W W':World} {A:OA} {l c q:Nat} {n:Int} (h:CG w W A l c n q) (hx:Ext W W'):CG w W' A l c n q:=⟨h.1.ext hx,h.2.1.ext hx,h.2.2.1,h.2.2.2.trans hx⟩
theorem CG.put {w W:World} {A:OA} {l c q:Nat} {n:Int} (h:CG w W A l c n q) (a b:Value):CG w (eh W q a b) A l c n q:=
  ⟨(h.1.cB (p:=(aA q 0)) mS a).cB (p:=(aA q 1)) mS b,
   (h.2.1.cB (p:=(aA q 0)) mS a).cB (p:=(aA q 1)) mS b,h.2.2.1,dK (g:=q) h.2.2.2 (oM h.2.2.1) a b⟩
def CT (W:World) (n:Int) (q:Nat) (A:OA) (m c:Nat) (rs:List Pa):Prop:=
  au W q 207 #[iI n,.slice A m c]/\Rd W W.heap.size 4 A m (aX rs)/\m<=c/\m<=8/\rs.length=m
theorem CT.ext {W W':World} {n:Int} {q m c:Nat} {A:OA} {rs:List Pa} (h:CT W n q A m c rs) (hx:Ext W W'):CT W' n q A m c rs:=⟨h.1.ext hx,h.2.1.ext hx,h.2.2⟩
theorem CT.copy {W:World} {n:Int} {q s m c:Nat} {A:OA} {rs:List Pa} {z0 z1:Value} (h:CT W n s A m c rs) (hb:au W q 207 #[z0,z1]):CT (eh W q (iI n) (.slice A m c)) n q A m c rs:=
  ⟨hb.eh _ _,by rw [mE];exact tI h.2.1 hb _ _,h.2.2⟩
theorem CT.fill {W:World} {n:Int} {s m c:Nat} {A:OA} {rs:List Pa} {z0 z1:Value} (hr:Rd W W.heap.size 4 A m (aX rs)) (hc:m<=c) (h8:m<=8) (hl:rs.length=m) (hb:au W s 207 #[z0,z1]):CT (eh W s (iI n) (.slice A m c)) n s A m c rs:=
  ⟨hb.eh _ _,by rw [mE];exact tI hr hb _ _,hc,h8,hl⟩
theorem CT.u {W:World} {n:Int} {q m c r:Nat} {A:OA} {rs:List Pa} {z0 z1:Value} (h:CT W n q A m c rs) (hb:au W r 207 #[z0,z1]) (a b:Value):kY n rs (.agg #[iI n,.slice A m c]) (eh W r a b):=by
  obtain ⟨-,h2,h3,-,h5⟩:=h;subst h5
  exact ⟨A,c,rfl,by rw [mE];exact tI h2 hb _ _,h3⟩
theorem ko {n:Int} {rs:List Pa} {e:Ending} {w:World} {t:Option (List Pa)} {m:Nat} (ht:t=some rs) (hm:rs.length=m) (h:pV n t e w):∃(A:OA) (c:Nat),e=.returned (.tuple #[.agg #[iI n,.slice A m c],.bool true])/\Rd w w.heap.size 4 A m (aX rs)/\m<=c:=by
  subst ht hm;obtain ⟨v,he,A,c,rfl,hr,hc⟩:=h
  exact ⟨A,c,he,hr,hc⟩
theorem Ah {n:Int} {e:Ending} {w:World} {t:Option (List Pa)} (ht:t=none) (h:pV n t e w):e=.returned (.tuple #[.agg jC,.bool false]):=by subst ht;exact h
def gz (k:Int):Gt:=⟨k,0,0,0⟩
theorem acX {α:Type} (f:α->α->Bool) (hf:∀a b,f a b=true->a=b):∀xs ys:List α,vY f xs ys=true->xs=ys
 |[],[],_=>rfl
 |[],_::_,h=>by simp [vY] at h
 |_::_,[],h=>by simp [vY] at h
 |x::xs,y::ys,h=>by
  rw [vY,lF] at h;rw [hf x y h.1,acX f hf xs ys h.2]
theorem akX (a b:Pa) (h:VZ a b=true):a=b:=by
 obtain ⟨a1,a2,a3,a4⟩:=a;obtain ⟨b1,b2,b3,b4⟩:=b;simp [VZ] at h;obtain ⟨⟨⟨rfl,rfl⟩,rfl⟩,rfl⟩:=h;rfl
theorem aur (a b:Gt) (h:FY a b=true):a=b:=by
 obtain ⟨a1,a2,a3,a4⟩:=a;obtain ⟨b1,b2,b3,b4⟩:=b;simp [FY] at h;obtain ⟨⟨⟨rfl,rfl⟩,rfl⟩,rfl⟩:=h;rfl
def tJ (a b:List Pa):Bool:=vY VZ a b
theorem IA {a b:List Pa}:tJ a b=true ↔ a=b:=⟨acX VZ akX a b,fun h=>by subst h;exact sf VZ abN a⟩
def rO (s:List (List Gt ×List Pa)) (i:Nat) (k:Int):List (List Gt ×List Pa):=match s[i]? with
 |none=>s
 |some p=>match fL 1 p.2 (gz k) with
  |none=>s
  |some u=>if (s.any fun q=>tJ q.2 u)=true then s else s++[(p.1++[gz k],u)]
def kJ:Nat->List (List Gt ×List Pa)
 |0=>[([],YI 1)]
 |j+1=>rO (kJ j) (j / 6) ((j % 6:Nat)+1)
def WM:List (List Gt ×List Pa):=[([],[⟨1,1,0,0⟩,⟨1,0,1,0⟩]),([gz 1],[⟨1,1,0,0⟩,⟨1,0,1,2⟩]),([gz 2],[⟨1,1,0,2⟩,⟨1,0,1,2⟩]),([gz 3],[⟨1,1,0,2⟩,⟨1,0,1,0⟩]),([gz 4],[⟨1,0,1,0⟩,⟨1,1,0,0⟩]),([gz 5],[⟨1,1,1,1⟩,⟨1,0,1,0⟩]),([gz 6],[⟨1,1,1,3⟩,⟨1,0,1,0⟩]),([gz 1,gz 4],[⟨1,0,1,0⟩,⟨1,1,0,2⟩]),([gz 1,gz 5],[⟨1,1,1,1⟩,⟨1,0,1,2⟩]),([gz 1,gz 6],[⟨1,1,1,3⟩,⟨1,0,1,2⟩]),([gz 2,gz 4],[⟨1,0,1,2⟩,⟨1,1,0,2⟩]),([gz 3,gz 4],[⟨1,0,1,2⟩,⟨1,1,0,0⟩]),([gz 4,gz 5],[⟨1,0,1,0⟩,⟨1,1,1,1⟩]),([gz 4,gz 6],[⟨1,0,1,0⟩,⟨1,1,1,3⟩]),([gz 5,gz 4],[⟨1,1,1,3⟩,⟨1,1,0,0⟩]),([gz 6,gz 4],[⟨1,1,1,1⟩,⟨1,1,0,0⟩]),([gz 1,gz 5,gz 4],[⟨1,1,1,3⟩,⟨1,1,0,2⟩]),([gz 1,gz 6,gz 4],[⟨1,1,1,1⟩,⟨1,1,0,2⟩]),([gz 2,gz 4,gz 5],[⟨1,0,1,2⟩,⟨1,1,1,3⟩]),([gz 2,gz 4,gz 6],[⟨1,0,1,2⟩,⟨1,1,1,1⟩]),([gz 4,gz 5,gz 4],[⟨1,1,0,0⟩,⟨1,1,1,3⟩]),([gz 4,gz 6,gz 4],[⟨1,1,0,0⟩,⟨1,1,1,1⟩]),([gz 5,gz 4,gz 6],[⟨1,1,0,2⟩,⟨1,1,1,3⟩]),([gz 6,gz 4,gz 5],[⟨1,1,0,2⟩,⟨1,1,1,1⟩])]
def cnt (i:Nat):Nat:=[1,7,10,11,12,14,15,16,16,17,18,20,20,21,22,23,24,24,24,24,24,24,24,24,24].getD i 24
def apm (s:List (List Gt ×List Pa)) (i:Nat):List (List Gt ×List Pa):=rO (rO (rO (rO (rO (rO s i 1) i 2) i 3) i 4) i 5) i 6
theorem aus:(List.range 24).map (fun i=>apm (WM.take (cnt i)) i)=(List.range 24).map (fun i=>WM.take (cnt (i+1))):=af
theorem ahg {i:Nat} (hi:i<24):apm (WM.take (cnt i)) i=WM.take (cnt (i+1)):=by
 have h:=mr (fun l=>l[i]?) aus;simp only [rY,List.getElem?_range hi,TR,iG] at h
 exact h
theorem WN:∀i:Nat,i<=24->kJ (6*i)=WM.take (cnt i)
 |0,_=>rfl
 |i+1,hi=>by
  rw [<-ahg aa,<-WN i aa];have e:6*(i+1)=6*i+5+1:=aa
  have d:∀t,t<6->(6*i+t) / 6=i/\(6*i+t) % 6=t:=fun t ht=>aa
  rw [e];show rO (rO (rO (rO (rO (rO (kJ (6*i)) ((6*i) / 6) (((6*i) % 6:Nat)+1)) ((6*i+1) / 6) (((6*i+1) % 6:Nat)+1)) ((6*i+2) / 6) (((6*i+2) % 6:Nat)+1)) ((6*i+3) / 6) (((6*i+3) % 6:Nat)+1)) ((6*i+4) / 6) (((6*i+4) % 6:Nat)+1)) ((6*i+5) / 6) (((6*i+5) % 6:Nat)+1)=_;rw [show 6*i / 6=i by omega,show 6*i % 6=0 by omega,(d 1 aa).1,(d 1 aa).2,(d 2 aa).1,(d 2 aa).2,(d 3 aa).1,(d 3 aa).2,(d 4 aa).1,(d 4 aa).2,(d 5 aa).1,(d 5 aa).2];rfl
theorem acY (s:List (List Gt ×List Pa)) (i:Nat) (k:Int):s<+:rO s i k:=by
 unfold rO;split
 ·exact Nv _
 ·split
  ·exact Nv _
  ·split
   ·exact Nv _
   ·exact List.prefix_append _ _
theorem Fh:∀(i j:Nat),kJ i<+:kJ (i+j)
 |i,0=>Nv _
 |i,j+1=>(Fh i j).trans (acY _ _ _)
theorem Ow {j:Nat} (hj:j<=144):kJ j<+:WM:=by
 have h:=Fh j (144 - j);rw [show j+(144 - j)=6*24 by omega,WN 24 aa] at h
 exact h
theorem Ox {j:Nat} (hj:j<=144):1<=(kJ j).length/\(kJ j).length<=24:=by
 refine ⟨?_,(Ow hj).length_le⟩;have:=(Fh 0 j).length_le;rw [lM] at this
 exact this
theorem akY {i:Nat} (hi:i<24):i<(kJ (6*i)).length:=by
 rw [WN i aa];have h:(List.range 24).all (fun i=>decide (i<(WM.take (cnt i)).length))=true:=af
 exact DH (lq.1 h i (DJ.2 hi))
def nX (rs:List Pa) (p:Pa):Pa:=
 let o:Pa:=⟨p.n,0,0,p.p⟩
 let o:=if GJ p.x 0=true then mulR o (rs.getD 0 P0) else o
 if GJ p.z 0=true then mulR o (rs.getD 1 P0) else o
def Mv (a b:List Pa):List Pa:=[nX b (a.getD 0 P0),nX b (a.getD 1 P0)]
def nY (rs:List Pa):Int:=if (rs.getD 1 P0).x=0 then 0 else if (rs.getD 0 P0).x=0 then 1 else 2
def ep (k:Int):List Gt:=if k=1 then [gz 4] else if k=2 then [gz 6,gz 4] else []
def mF (gs:List Gt):List Pa:=(uV 1 gs).getD []
def Qk (cl:List Pa):List Pa:=
 if ((Mv (mF (iF (ep (nY cl)))) cl).getD 1 P0).p=2 then (fL 1 (Mv (mF (iF (ep (nY cl)))) cl) (gz 5)).getD [] else Mv (mF (iF (ep (nY cl)))) cl
structure Nf where
 sy:List Int
 cl:List Pa
def RE (s:Nf):Nf:=
 if nY s.cl=0/\0<s.sy.length then ⟨s.sy.take (s.sy.length - 1),Mv (mF (ep (s.sy.getLastD 0)++[gz 5])) (Qk s.cl)⟩ else ⟨s.sy++[nY s.cl],Qk s.cl⟩
def La (s:Nf) (k:Int):Nf:=if k=7 then RE s else if k=8 then RE ⟨s.sy,(fL 1 s.cl (gz 6)).getD []⟩ else ⟨s.sy,(fL 1 s.cl (gz k)).getD []⟩
def nf0:Nf:=⟨[],YI 1⟩
def Ai (ks:List Int):Nf:=ks.foldl La nf0
def T24:List (List Pa):=WM.map (·.2)
def zw (t:List Pa):Bool:=T24.any (tJ t)
theorem ahh {t:List Pa} (h:zw t=true):t∈T24:=by
 obtain ⟨u,hu,he⟩:=CD.1 h;rw [IA.1 he]
 exact hu
theorem Mw {f:List Pa->Bool} (h:T24.all f=true) {t:List Pa} (ht:zw t=true):f t=true:=lq.1 h t (ahh ht)
theorem akZ:zw (YI 1)=true:=af
theorem iJ (t:List Pa) (h:zw t=true):oO 1 t=true/\t.length=2:=by
 have h1:=Mw (f:=fun t=>oO 1 t && t.length==2) af h;rw [lF,eS] at h1
 exact h1
theorem sF {t:List Pa} (h:zw t=true) {k:Int} (hk:1<=k/\k<=6):∃u,fL 1 t (gz k)=some u/\zw u=true:=by
 have h1:=Mw (f:=fun t=>(List.range 6).all fun j=>match fL 1 t (gz ((j:Int)+1)) with|none=>false|some u=>zw u) af h;obtain ⟨j,rfl⟩:∃j:Nat,k=(j:Int)+1:=⟨(k - 1).toNat,aa⟩;have h2:=lq.1 h1 j (DJ.2 aa)
 cases he:fL 1 t (gz ((j:Int)+1)) with
 |none=>rw [he] at h2;cases h2
 |some u=>rw [he] at h2;exact ⟨u,rfl,h2⟩
theorem Fi {t:List Pa} (h:zw t=true):zw (Qk t)=true:=Mw (f:=fun t=>zw (Qk t)) af h
theorem ahi {t:List Pa} (h:zw t=true) {m:Int} (hm:0<=m/\m<=2):zw (Mv (mF (ep m++[gz 5])) t)=true:=by
 have h1:=Mw (f:=fun t=>(List.range 3).all fun j=>zw (Mv (mF (ep (j:Int)++[gz 5])) t)) af h;obtain ⟨j,rfl⟩:=lD hm.1
 exact lq.1 h1 j (DJ.2 aa)
theorem WO (rs:List Pa):0<=nY rs/\nY rs<=2:=by unfold nY;split<;>(try split)<;>omega
theorem wM (k:Int):(ep k).length<=2:=by unfold ep;split<;>(try split)<;>simp
def UJ (sy:List Int):Bool:=sy.all (fun k=>decide (0<=k/\k<=2)) && (sy.drop 1).all (fun k=>!(k==0))
structure Zq (s:Nf) (n:Nat):Prop where
 c:zw s.cl=true
 y:UJ s.sy=true
 l:s.sy.length<=n
theorem acZ {sy:List Int} (h:UJ sy=true) (k:Nat):UJ (sy.take k)=true:=by
 unfold UJ at*
 rw [lF] at*
 refine ⟨lq.2 fun x hx=>lq.1 h.1 x (FI hx),lq.2 fun x hx=>lq.1 h.2 x ?_⟩;rw [List.drop_take] at hx
 exact FI hx
theorem ahj {sy:List Int} (h:UJ sy=true) {k:Int} (hk:0<=k/\k<=2) (h0:sy=[]\/k≠0):UJ (sy++[k])=true:=by
 unfold UJ at*
 rw [lF] at*
 refine ⟨by rw [qG,h.1];simp;exact hk,?_⟩;rcases h0 with rfl|h0
 ·rfl
 ·cases sy with
  |nil=>rfl
  |cons a r=>
   have h2:=h.2;simp only [DI,Np,Bp] at h2 |-;rw [qG,h2];simpa using h0
theorem ac0 {sy:List Int} (h:UJ sy=true) (hl:0<sy.length):0<=sy.getLastD 0/\sy.getLastD 0<=2:=by
 unfold UJ at h;rw [lF] at h;have hne:sy≠[]:=fun e=>by rw [e] at hl;simp at hl
 have e:sy.getLastD 0=sy.getLast hne:=by rw [Tw,abg hne];rfl
 rw [e]
 exact DH (lq.1 h.1 _ (List.getLast_mem hne))
theorem ac1 {s:Nf} {n:Nat} (h:Zq s n):Zq (RE s) (n+1):=by
 unfold RE;split
 ·rename_i hc
  exact ⟨ahi (Fi h.c) (ac0 h.y hc.2),acZ h.y _,by show (s.sy.take _).length<=_;rw [lT];have:=h.l;omega⟩
 ·rename_i hc;refine ⟨Fi h.c,ahj h.y (WO _) ?_,by show (s.sy++[_]).length<=_;rw [lA];have:=h.l;simp;omega⟩
  by_cases hl:0<s.sy.length
  ·right;intro e
   exact hc ⟨e,hl⟩
  ·left
   exact Bm aa
theorem ak0 {s:Nf} {n:Nat} (h:Zq s n) {k:Int} (hk:1<=k/\k<=8):Zq (La s k) (n+1):=by
 unfold La;split
 ·exact ac1 h
 ·split
  ·obtain ⟨u,hu,hi⟩:=sF h.c (k:=6) aa;rw [hu]
   exact ac1 ⟨hi,h.y,h.l⟩
  ·obtain ⟨u,hu,hi⟩:=sF h.c (k:=k) aa;rw [hu]
   exact ⟨hi,h.y,by have:=h.l;show s.sy.length<=_;omega⟩
theorem ak1:Zq nf0 0:=⟨akZ,rfl,lI _⟩
theorem Mx (ks:List Int) (k:Int):Ai (ks++[k])=La (Ai ks) k:=by unfold Ai;rw [rZ];rfl
theorem Fj {ks:List Int} (h:∀k∈ks,1<=k/\k<=8):∀j:Nat,j<=ks.length->Zq (Ai (ks.take j)) j
 |0,_=>by rw [CF];exact ak1
 |j+1,hj=>by
  have hg:ks[j]?=some (ks[j]' aa):=lB _;rw [aS hg,Mx]
  exact ak0 (Fj h j aa) (h _ (FO _))
def cwd (t:List Pa):List Gt:=match WM.find? (fun p=>tJ p.2 t) with
 |none=>[]
 |some p=>p.1
theorem Oy (t:List Pa):(cwd t).length<=3:=by
 unfold cwd;split
 ·simp
 ·rename_i p hp;have h:WM.all (fun p=>decide (p.1.length<=3))=true:=af
  exact DH (lq.1 h p (Tv hp))
def Lq (s:Nf):List Gt:=(s.sy.flatMap fun k=>ep k++[gz 7])++cwd s.cl
theorem Oz:∀sy:List Int,(sy.flatMap fun k=>ep k++[gz 7]).length<=3*sy.length
 |[]=>ag
 |k::sy=>by
  rw [jQ,lA,lA];have:=Oz sy;have:=wM k;simp only [ki,yr];omega
theorem RF (s:Nf):(Lq s).length<=3*s.sy.length+3:=by
 unfold Lq;rw [lA];have:=Oz s.sy;have:=Oy s.cl;omega
def OB (g:Gt):Nat:=if (g.k==7)=true then 100 else if (g.k==8)=true then 100 else 1
def nG (gs:List Gt):Nat:=(gs.map OB).sum
def ahk (xs:List Gt):Bool:=xs.all fun g=>ar g.k==1 && vg g 4 && g.a==(xs.headD ⟨0,0,0,0⟩).a
def OC (xs:List Gt):List Gt:=(Lq (Ai (xs.map Gt.k))).map fun g=>⟨g.k,(xs.headD ⟨0,0,0,0⟩).a,g.b,g.c⟩
def short (xs:List Gt):List Gt:=if (ahk xs && decide (2<=xs.length) && decide (nG (Lq (Ai (xs.map Gt.k)))<nG xs))=true then OC xs else xs
theorem Dc (xs:List Gt):(short xs).length<=6*xs.length:=by
 unfold short;split
 ·rename_i h;simp only [lF,kh] at h;unfold OC;rw [jK];have h1:=RF (Ai (xs.map Gt.k));have h2:∀k∈xs.map Gt.k,1<=k/\k<=8:=fun k hk=>by
   obtain ⟨g,hg,rfl⟩:=qH.1 hk;have h3:=lq.1 h.1.1 g hg;simp only [lF,eS] at h3;have h4:=h3.1.1;unfold ar at h4;split at h4
   ·omega
   ·split at h4
    ·omega
    ·split at h4<;>omega
  have h3:=(Fj h2 _ (lI _)).l;rw [pg,jK] at h3;omega
 ·omega
def WQ (r:Nat->List Gt) (q:Nat) (xs:List Gt):Nat->List Gt:=fun i=>if i=q then xs else r i
def emit (s:List Gt ×(Nat->List Gt)) (q:Nat):List Gt ×(Nat->List Gt):=(s.1++short (s.2 q),WQ s.2 q [])
def nH (s:List Gt ×(Nat->List Gt)) (qs:List Int):List Gt ×(Nat->List Gt):=qs.foldl (fun s q=>emit s q.toNat) s
def Dd (s:List Gt ×(Nat->List Gt)) (g:Gt):List Gt ×(Nat->List Gt):=
 if ar g.k=1 then (s.1,WQ s.2 g.a.toNat (s.2 g.a.toNat++[g])) else ((nH s (kf g)).1++[g],(nH s (kf g)).2)
def vn (xs:List Gt):List Gt ×(Nat->List Gt):=xs.foldl Dd ([],fun _=>[])
def gJ (xs:List Gt) (n:Int):List Gt:=if (xs.all fun g=>vg g n)=true then (nH (vn xs) [0,1,2,3]).1 else xs
def RH (r:Nat->List Gt):Nat:=(r 0).length+(r 1).length+(r 2).length+(r 3).length
theorem ac2 {r:Nat->List Gt} {q:Nat} (hq:q<4) (xs:List Gt):RH (WQ r q xs)+(r q).length=RH r+xs.length:=by
 unfold RH WQ;rcases (show q=0\/q=1\/q=2\/q=3 by omega) with rfl|rfl|rfl|rfl<;>simp<;>omega
theorem ac3 {s:List Gt ×(Nat->List Gt)} {q:Nat} (hq:q<4):(emit s q).1.length+6*RH (emit s q).2<=s.1.length+6*RH s.2:=by
 unfold emit;have h1:=ac2 (r:=s.2) hq [];have h2:=Dc (s.2 q);simp only [lA,yr] at*
 omega
theorem De:∀(qs:List Int) (s:List Gt ×(Nat->List Gt)),(∀q∈qs,0<=q/\q<4)->(nH s qs).1.length+6*RH (nH s qs).2<=s.1.length+6*RH s.2
 |[],s,_=>lI _
 |q::qs,s,h=>by
  have h1:=De qs (emit s q.toNat) fun x hx=>h x (nr _ hx)
  have h2:=ac3 (s:=s) (q:=q.toNat) (oM (h q (rX ..)))
  exact lK h1 h2
theorem eH (k:Int) (w:World):Calls prog 199 #[iI k] w fun e w'=>(∃v,e=.returned v/\w'.ownsRow w.heap.size 39 4 v (ep k).length (aq (ep k)))/\Ext w w':=by
 by_cases h1:k=1
 ·subst h1;go_enter func199,ntmps199;go_wp2_with fail;refine (aP 4 0 _ (xZ _)).mono ?_;rintro e w1 ⟨rfl,aK⟩;have HO:Hid ((w1.alloc (cO #[iI 4,iI 0,iI 0,iI 0] 39)).ownsRow w.heap.size 39 4 (.slice (some ⟨w1.heap.size,0,none⟩) 1 1) 1 (aq [gz 4])/\Ext w (w1.alloc (cO #[iI 4,iI 0,iI 0,iI 0] 39))):=⟨bS aK _ _ 4 1 _ _ rfl rfl rfl aa,aK.alloc _⟩;clear aK;go_wp2;go_ret
  exact ⟨⟨_,rfl,HO.u.1⟩,HO.u.2⟩
 by_cases h2:k=2
 ·subst h2;clear h1;go_enter func199,ntmps199;go_wp2_with fail;refine (aP 6 0 _ (xZ _)).mono ?_;rintro e w1 ⟨rfl,aK⟩;go_wp2_with fail;refine (aP 4 0 _ (xZ _)).mono ?_;rintro e w2 ⟨rfl,bz⟩;have hx:=aK.trans bz;have HO:Hid ((w2.alloc (cO #[iI 6,iI 0,iI 0,iI 0,iI 4,iI 0,iI 0,iI 0] 39)).ownsRow w.heap.size 39 4 (.slice (some ⟨w2.heap.size,0,none⟩) 2 2) 2 (aq [gz 6,gz 4])/\Ext w (w2.alloc (cO #[iI 6,iI 0,iI 0,iI 0,iI 4,iI 0,iI 0,iI 0] 39))):=⟨bS hx _ _ 4 2 _ _ rfl rfl rfl aa,hx.alloc _⟩;clear aK bz hx;go_wp2;go_ret
  exact ⟨⟨_,rfl,HO.u.1⟩,HO.u.2⟩
 have HV:Hid (ep k=[]):=by unfold Hid ep;rw [aM h1,aM h2]
 have e1:(k==1)=false:=sU h1
 have e2:(k==2)=false:=sU h2
 have HO:Hid ((w.alloc (cO #[] 39)).ownsRow w.heap.size 39 4 (.slice (some ⟨w.heap.size,0,none⟩) 0 0) 0 (aq [])):=aN w w _ 4 (xZ _);go_enter func199,ntmps199;go_wp2;go_ret;rw [HV.u]
 exact ⟨⟨_,rfl,HO.u⟩,(xZ _).alloc _⟩
theorem dH (v:Value) (x:Gr) (a b:Int) (w:World) (h:fB w w.heap.size v x) (hn:x.es.length<=2000000000000):
  Calls prog 124 #[v,iI a,iI b] w fun e w'=>e=.returned (.bool (gP x.es a b||gP x.es b a))/\Ext w w':=by
 obtain ⟨A1,c1,rfl,h1⟩:=h;have hG:fB w w.heap.size (.agg #[iI x.n,.slice A1 x.es.length c1]) x:=⟨A1,c1,rfl,h1⟩;clear h1;go_enter func124,ntmps124;go_wp2_with fail;refine (jr _ x a b _ ((hG.up aw (lI _)).more ag) hn).mono ?_;rintro e w1 ⟨rfl,aK⟩;have hB:au w1 w.heap.size 63 #[iI x.n,.slice A1 x.es.length c1]:=(au.new w _ _).ext aK;have hx:Ext w w1:=Ext.trans aw aK;have b0:=hB.ck 0;have b1:=hB.ck 1;clear aK
 cases h1:gP x.es a b
 ·go_wp2_with fail;refine (jr _ x b a _ ((hG.up hx (lI _)).more hx.size) hn).mono ?_;rintro e w2 ⟨rfl,bz⟩;go_wp2;go_ret
  exact ⟨aI (by rw [h1,ju]),hx.trans bz⟩
 ·go_wp2;go_ret
  exact ⟨aI (by rw [h1,ma]),hx⟩
theorem Zr (v:Value) (x:Gr) (g:Gt) (w:World) (h:fB w w.heap.size v x) (hn:x.es.length<=2000000000000):
  Calls prog 134 #[iI g.a,iI g.b,v] w fun e w'=>∃v,e=.returned v/\w'.ownsRow w.heap.size 39 4 v (Da x g).length (aq (Da x g))/\Ext w w':=by
 obtain ⟨A1,c1,rfl,h1⟩:=h;have hG:fB w w.heap.size (.agg #[iI x.n,.slice A1 x.es.length c1]) x:=⟨A1,c1,rfl,h1⟩;clear h1;go_enter func134,ntmps134;go_wp2_with fail;refine (jr _ x g.a g.b _ ((hG.up aw (lI _)).more ag) hn).mono ?_;rintro e w1 ⟨rfl,aK⟩;have hx:Ext w w1:=Ext.trans aw aK;clear aK
 cases h1:gP x.es g.a g.b
 ·have HC:Hid (Da x g=[g1 4 g.a,g1 4 g.b,hU g.b g.a,g1 4 g.a,g1 4 g.b]):=by unfold Hid Da;rw [aM dC]
  go_wp2_with (first|(go_at_call 126;refine (aP _ _ _ hx).mono ?_;clear hx;rintro e w' ⟨rfl,hx⟩)|(go_at_call 127;refine (dI _ _ _ hx).mono ?_;clear hx;rintro e w' ⟨rfl,hx⟩))
  go_ret;refine ⟨_,rfl,?_,hx.alloc _⟩;rw [HC.u]
  exact bS hx _ _ 4 5 _ _ rfl rD rfl aa
 ·have HC:Hid (Da x g=[hU g.a g.b]):=by unfold Hid Da;rw [aY h1]
  go_wp2_with (first|(go_at_call 127;refine (dI _ _ _ hx).mono ?_;clear hx;rintro e w' ⟨rfl,hx⟩))
  go_ret;refine ⟨_,rfl,?_,hx.alloc _⟩;rw [HC.u]
  exact bS hx _ _ 4 1 _ _ rfl (by simp [Gt.cells,hU]) rfl aa
theorem Rd.ahl {w w':World} {B size n:Nat} {A:OA} {xs:List Value} {row:Option Nat} (h:Rd w B size A n xs) (hg:w.grownBy w' row) (hB:B<=w.heap.size) (hne:∀b o,A=some ⟨b,o,none⟩->row≠some b):Rd w' B size A n xs:=
 ⟨h.1,fun hn=>by
  obtain ⟨b,o,e,hb,hc⟩:=h.2 hn
  exact ⟨b,o,e,hb,fun j u hu=>(uB (a:=⟨b,o+j,none⟩) (hg.block b aa (fun e1=>hne b o e e1.symm))).trans (hc j u hu)⟩⟩
theorem Zs {α β:Type} (f:α->List β) {l:List α} {k:Nat} {a:α} (h:l[k]?=some a):(l.take (k+1)).flatMap f=(l.take k).flatMap f++f a:=by
 rw [aS h,lR];simp
theorem IB {P:Prop} (h:P:=by
 have HL:=hY (UC HO.u ha);go_wp2_with fail;refine (kU g _).mono ?_;rintro e w3 ⟨v3,rfl,CQ,ig⟩;obtain ⟨A3,c3,rfl,To⟩:=ak CQ;have bO:=bz.trans ig;have ie:=aj fg ig;have nT:Hid (∀b o,A3=some ⟨b,o,none⟩->w2.heap.size<=b/\b<w3.heap.size):=fun b o e=>CQ.lt b (by rw [e];rfl)
 have dv:Hid (∀q,(Value.slice (some ⟨w.heap.size+1+1,0,none⟩) 0 0).ownBlock=some q->q<w2.heap.size\/w3.heap.size<=q):=fun q hq=> .inl (fg.lt q hq).2
 have hz3:=ig.size;clear ig CQ bz fg b0 b1 b2 b3 d0 d1;have KP:=xz g;generalize hL:(dec g).length=L at*
 have By:=hY hL;clear hL;go_wp2
 go_loopw [6,8] (fun v i wr=>∃k:Nat,k<=L/\i=iI k/\wr.ownsRow W.heap.size 39 4 v (((dec g).take k).flatMap (Da x)).length (aq (((dec g).take k).flatMap (Da x)))/\Hid (∀q,v.ownBlock=some q->q<w2.heap.size\/w3.heap.size<=q)/\Rd wr w3.heap.size 4 A3 L (aq (dec g))/\Ext W wr/\w3.heap.size<=wr.heap.size) (fun _ i _=>L - (intOf i).toNat)
 case atStart=>exact ⟨0,lJ _,rfl,ie,dv,To,bO,lI _⟩
 case round=>
  obtain ⟨k,hk,rfl,bj,HV,hR,hX,hzr⟩:=hrel
  by_cases ba:k<L
  ·obtain ⟨b,o,y,rfl,WS,hg,r0,r1,r2,r3⟩:=bT hR ba;have HG:=hY hg;clear hg;have HS:=hY (Zs (Da x) HG.u);have hf:(((dec g).take k).flatMap (Da x)).length<=100:=by
    have z1:=BQ x ((dec g).take k);have z2:((dec g).take k).length<=k:=qE _ _;omega
   have hc5:=Wu x y;have HK:Hid (∀w',Rd w' w3.heap.size 4 (some ⟨b,o,none⟩) L (aq (dec g))->Ext W w'->w'.cell? (aA b (o+k*4+1))=some (iI y.a)/\w'.cell? (aA b (o+k*4+2))=some (iI y.b)/\w'.cell? (aA (w.z+1) 0)=some (iI x.n)/\w'.cell? (aA (w.z+1) 1)=some (.slice A1 x.es.length c1)):=by
    intro w' hR' hX';obtain ⟨b',o',y',e',_,Lr,z0,z1,z2,z3⟩:=bT hR' ba;injection e' with e';injection e' with e1 e2;subst e1 e2;have hyy:y'=y:=by have:=HG.u;rw [Lr] at this;injection this
    subst hyy
    exact ⟨z1,z2,(ky.ext hX').cell 0,(ky.ext hX').cell 1⟩
   obtain ⟨q1,q2,q3,q4⟩:=HK.u wr hR hX;clear r0 r1 r2 r3;have lu:(0:Int)<=(k:Int):=aa
   have hkL:(k:Int)<(L:Int):=aa
   go_wp2
   go_region_held3 (fun w'=>w'.cell? (aA b (o+k*4+1))=some (iI y.a)/\w'.cell? (aA b (o+k*4+2))=some (iI y.b)/\w'.cell? (aA (w.z+1) 0)=some (iI x.n)/\w'.cell? (aA (w.z+1) 1)=some (.slice A1 x.es.length c1))
    (first|go_keep|exact HK.u _ aL aL)
    (first
     |(go_at_call 134;refine (Zr _ x y _ ((hG.up (cD.trans hX.drew) (lI _)).more (cD.trans hX.drew).size) hn).mono ?_;rintro e w4 ⟨v4,rfl,hl4,Ha⟩;replace Ha:Ext wr w4:=Ext.trans (xZ wr).drew Ha;have hR4:=hR.up Ha hzr;have hX4:=hX.trans Ha;obtain ⟨A4,c4,rfl,YK⟩:=ak hl4)
     |(refine fe (w0:=W) ah _ _ ah _ _ (((dec g).take k).flatMap (Da x)) ah (aj bj Ha) hX4 A4 _ c4 (Da x y) ah YK aa ?_;intro v5 w5 kg hX5 zK UE;have hz4:=Ha.size;have hR5:=hR4.ahl zK aa (fun b' o' e1 e2=>oN (nT.u b' o' e1) (HV.u b' e2))))
   go_wp2;go_roundw
   case rel=>
    refine ⟨k+1,aa,az,by rw [HS.u,lA];exact kg,fun q hq=>?_,hR5,hX5,oM zK.size⟩;rcases UE with e|e
    ·exact HV.u q (e ▸ hq)
    ·rw [e] at hq;injection hq with hq;omega
   case measure=>simp [intOf];omega
  ·rw [lE (by rw [By.u];omega)] at bj;go_wp2;go_ret2;refine ⟨_,jU,?_,cD.trans hX⟩;rw [HL.u]
   exact aC bj cD.size):P:=h
theorem IC {P:Prop} (h:P:=by
 have HL:=hY (Og HO.u);go_wp2;go_ret2;refine ⟨_,jU,?_,cD.trans bz⟩;rw [HL.u]
 exact aC fg cD.size):P:=h
theorem xV (v:Value) (x:Gr) (g:Gt) (w:World) (h:fB w w.heap.size v x) (hn:x.es.length<=2000000000000):
  Calls prog 110 #[g.val,v] w fun e w'=>∃v,e=.returned (.tuple #[v,.bool (eU x g)])/\w'.ownsRow w.heap.size 39 4 v (kI x g).length (aq (kI x g))/\Ext w w':=by
 obtain ⟨A1,c1,rfl,h1⟩:=h;have hG:fB w w.heap.size (.agg #[iI x.n,.slice A1 x.es.length c1]) x:=⟨A1,c1,rfl,h1⟩;clear h1;go_enter func110,ntmps110;go_wp2_with fail;have cD:Ext w ((w.alloc (cO (gA g) 39)).alloc (cO #[iI x.n,.slice A1 x.es.length c1] 63)):=aw
 have eT:au ((w.alloc (cO (gA g) 39)).alloc (cO #[iI x.n,.slice A1 x.es.length c1] 63)) w.heap.size 39 (gA g):=(au.new _ _ _).alloc _;have ky:au ((w.alloc (cO (gA g) 39)).alloc (cO #[iI x.n,.slice A1 x.es.length c1] 63)) (w.heap.size+1) 63 #[iI x.n,.slice A1 x.es.length c1]:=au.newAt ag;have fH:((w.alloc (cO (gA g) 39)).alloc (cO #[iI x.n,.slice A1 x.es.length c1] 63)).heap.size=w.heap.size+1+1:=ag
 generalize ((w.alloc (cO (gA g) 39)).alloc (cO #[iI x.n,.slice A1 x.es.length c1] 63))=W at*
 have KU:(W.alloc (cO #[] 39)).ownsRow W.heap.size 39 4 (.slice (some ⟨w.heap.size+1+1,0,none⟩) 0 0) 0 (aq []):=bS (xZ W) _ _ 4 0 #[] _ (by rw [fH]) rfl rfl aa;have HZ:=hY fH;clear fH;refine (bn g x.n _).mono ?_;rintro e w1 ⟨rfl,dw⟩;have aK:Ext W w1:=Ext.trans ((xZ W).alloc _) dw;have eu:=aj KU dw;clear dw KU;have qJ:=eT.ext aK;have EH:=ky.ext aK;have b0:=qJ.ck 0;have b1:=qJ.ck 1;have b2:=qJ.ck 2;have b3:=qJ.ck 3;have d0:=EH.ck 0;have d1:=EH.ck 1;clear qJ EH
 cases hv:vg g x.n
 ·have HO:Hid (eU x g=false):=by unfold Hid eU;rw [hv];rfl
  have HL:=hY (Og HO.u);go_wp2;go_ret2;refine ⟨_,jU,?_,cD.trans aK⟩;rw [HL.u]
  exact aC eu cD.size
 go_wp2_with fail;refine (bc _ _).mono ?_;rintro e w2 ⟨rfl,rfl⟩
 cases ha:(ar g.k==1)
 ·go_wp2_with fail;refine (dH _ x g.a g.b _ ((hG.up (cD.trans aK) (lI _)).more (cD.trans aK).size) hn).mono ?_;rintro e w2 ⟨rfl,iW⟩;have bz:=aK.trans iW;have fg:=aj eu iW;clear iW eu aK b0 b1 b2 b3 d0 d1;have qJ:=eT.ext bz;have EH:=ky.ext bz;have b0:=qJ.ck 0;have b1:=qJ.ck 1;have b2:=qJ.ck 2;have b3:=qJ.ck 3;have d0:=EH.ck 0;have d1:=EH.ck 1;clear qJ EH
  cases Yt:(gP x.es g.a g.b||gP x.es g.b g.a)
  ·have HO:Hid (eU x g=false):=by unfold Hid eU se;rw [hv,ha,Yt];rfl
   exact IC
  cases h9:(g.k==9)
  ·have h9':(g.k !=9)=true:=by simp [bne,h9]
   cases h11:(g.k==11)
   ·have auv:(g.k !=11)=true:=by simp [bne,h11]
    have HO:Hid (eU x g=false):=yY
    exact IC
   have auv:(g.k !=11)=false:=by simp [bne,h11]
   have HO:Hid (eU x g=true):=yY
   exact IB
  have h9':(g.k !=9)=false:=by simp [bne,h9]
  have HO:Hid (eU x g=true):=by unfold Hid eU se;rw [hv,ha,Yt,h9];rfl
  exact IB
 ·have HO:Hid (eU x g=true):=by unfold Hid eU;rw [hv,ha];rfl
  have HL:=hY (akI HO.u ha);go_wp2_with (at_builtin;refine fJ (w0:=W) rfl _ _ rfl _ _ [] rfl eu aK g _ _ rfl rfl aa ?_;intro v3 w3 ie bO KS iP)
  go_ret2;refine ⟨v3,jU,?_,cD.trans bO⟩;rw [HL.u]
  exact aC ie cD.size
end Go.Proofs.YtodhjgngkkcjgaaGreatDoor
