import Derived.Test.YtiajdbllccmokaaGreatDoorXd
import Derived.Test.YtiajdbllccmokaaGreatDoorXb
import Derived.Test.YtiajdbllccmokaaGreatDoorXc
import Derived.Deep.RegionLaw
namespace Go.Proofs.YtiajdbllccmokaaGreatDoor
open Go.ChangeShapes Go.WideShapes Go.ChangeAt Go.RowKit Go.Deep Go.Proofs.Tryz
set_option linter.unusedVariables false
set_option linter.unusedSimpArgs false
set_option maxRecDepth 100000
set_option maxHeartbeats 16000000
def CH (w:World) (B:Nat):World:={w with heap:=w.heap.extract 0 B}
theorem im {w:World} {B:Nat} (h:B<=w.heap.size):(CH w B).heap.size=B:=by simp [CH];omega
theorem nc {w:World} {B:Nat} (h:B<=w.heap.size):Ext (CH w B) w:=by
 refine ⟨rfl,rfl,rfl,by rw [im h];exact h,fun k hk=>?_⟩;rw [im h] at hk;simp [CH,Ng];omega
theorem bY {a b c:World} {row:Option Nat} (h:a.grownBy b row) (k:b.grownBy c row):a.grownBy c row:=h.trans k
theorem CI {a b c:World} {g:Nat} {row:Option Nat} (h:a.grownBy b (some g)) (k:b.grownBy c row) (hr:∀q,row=some q->a.heap.size<=q):a.grownBy c (some g):=
 ⟨k.os.trans h.os,k.tape.trans h.tape,k.output.trans h.output,lK h.size k.size,fun q hq hne=>(k.block q (sC hq h.size) (fun e=>oM (hr q e.symm))).trans (h.block q hq hne)⟩
theorem vQ {a b c:World} {row:Option Nat} (h:a.grownBy b row) (k:Ext b c):a.grownBy c row:=bY h (k.gr row)
theorem fE {a b:World} {g:Nat} (h:a.grownBy b (some g)) {p:Addr} (hp:a.heap.size<=p.block) (u:Value):a.grownBy (b.setCell p u) (some g):=
 ⟨h.os,h.tape,h.output,oY,fun k hk hne=>(mO b p u k (fun e=>aa)).trans (h.block k hk hne)⟩
theorem gZ {a b:World} {row:Option Nat} (h:a.grownBy b row) (o:Obj):a.grownBy (b.alloc o) row:=vQ h ((xZ b).alloc o)
theorem xS {a b:World} {row:Option Nat} (h:a.grownBy b row):a.heap.size<=b.heap.size:=h.size
theorem dY.ba {w:World} {g:Nat} (h:dY w g) {p:Addr} (hp:g<p.block) (u:Value):dY (w.setCell p u) g:=by
 have hl:=h.lt
 exact h.grown (row:=some p.block) ⟨rfl,rfl,rfl,by simp [World.setCell],fun k hk hne=>mO w p u k (fun e=>hne (by rw [e]))⟩ (fun k hk=>aw)
theorem dY.alloc {w:World} {g:Nat} (h:dY w g) (o:Obj):dY (w.alloc o) g:=h.ext ((xZ w).alloc o)
def eU (w:World) (b cap n:Nat):Prop:=
 n<=cap/\cap<=maxLen/\∃cur:Array Value,w.heap[b]?=some (.cells cur 3 (0,0))/\cur.size=cap/\∃xs:List Int,xs.length=n/\(∀j,ob (xs.getD j 0))/\∀j,j<n->cur[j]?=some (iI (xs.getD j 0))
theorem eU.lt {w:World} {b cap n:Nat} (h:eU w b cap n):b<w.heap.size:=by
 obtain ⟨_,_,cur,hc,_⟩:=h;rcases pA b w.heap.size with bh|tS
 ·exact bh
 ·rw [zL tS] at hc;cases hc
theorem eU.cell {w:World} {b cap n:Nat} (h:eU w b cap n) {j:Nat} (hj:j<n):∃y,w.cell? (aA b j)=some (iI y):=by
 obtain ⟨_,_,cur,hc,_,xs,_,_,hx⟩:=h;rw [sJ w b j cur _ (0,0) hc]
 exact ⟨_,hx j hj⟩
theorem eU.acG {w:World} {b cap n:Nat} (h:eU w b cap n) {j:Nat} (hj:j<n):∃y,w.cell? (aA b j)=some (iI y)/\ob y:=by
 obtain ⟨_,_,cur,hc,_,xs,_,hr,hx⟩:=h;rw [sJ w b j cur _ (0,0) hc]
 exact ⟨_,hx j hj,hr j⟩
theorem Le {xs:List Int} (h:∀x∈xs,ob x) (j:Nat):ob (xs.getD j 0):=by
 rw [lP]
 cases e:xs[j]? with
 |none=>exact ⟨ag,ag⟩
 |some y=>exact h y (lG e)
theorem Qf {xs:List Int} (h:∀j,ob (xs.getD j 0)):∀x∈xs,ob x:=by
 intro x hx;obtain ⟨j,hj⟩:=Ui.1 hx;have:=h j;rwa [lP,hj] at this
theorem eU.frozen {w:World} {b cap n:Nat} (h:eU w b cap n) (j:Nat):w.frozen? (aA b j)=false:=by
 obtain ⟨_,_,cur,hc,_⟩:=h
 exact yS w b j cur _ hc
theorem eU.ba {w:World} {b cap n:Nat} (h:eU w b cap n) (j:Nat) (y:Int) (hy:ob y):eU (w.setCell (aA b j) (iI y)) b cap n:=by
 obtain ⟨h1,h2,cur,hc,hs,xs,hl,hr,hx⟩:=h;refine ⟨h1,h2,cur.setIfInBounds j (iI y),Nq w b j cur _ _ hc,sU hs,xs.set j y,sU hl,Le (fun x hx=>?_),fun q hq=>?_⟩
 ·rcases List.mem_or_eq_of_mem_set hx with h|h
  ·exact Qf hr x h
  ·rw [h];exact hy
 rw [Uq]
 by_cases e:j=q
 ·subst e;rw [aX rfl,aX aa,lP,List.getElem?_set_self aa];rfl
 ·rw [aK e,hx q hq,lP,lP,List.getElem?_set_ne e]
theorem eU.grown {w w':World} {b cap n:Nat} {row:Option Nat} (h:eU w b cap n) (hg:w.grownBy w' row) (hr:∀k,row=some k->b≠k):eU w' b cap n:=by
 have hl:=h.lt;obtain ⟨h1,h2,cur,hc,r⟩:=h
 exact ⟨h1,h2,cur,(hg.block b hl (fun e=>hr b e.symm rfl)).trans hc,r⟩
theorem eU.of {w:World} {B n c:Nat} {A:OA} {xs:List Int} (h:w.ownsRow B 3 1 (.slice A n c) n (aG xs)) (hr:∀x∈xs,ob x) (hn:0<n):∃b,A=some ⟨b,0,none⟩/\B<=b/\eU w b c n:=by
 have hlen:xs.length=n:=by
  have:=h.1;rw [fB bO] at this;omega
 have RL:=Rd.own h;rcases h.2 with ⟨_,h0⟩|⟨b,cap,cur,hv,hB,hc,KG,hmx,hs,hx⟩
 ·omega
 ·injection hv with h1 _ h3;subst h1 h3;refine ⟨b,rfl,hB,KG,hmx,cur,hc,aa,xs,hlen,Le hr,fun j hj=>?_⟩;obtain ⟨b',o',y,e,_,hy,Qg⟩:=eT RL hj;injection e with e;injection e with e1 e2;subst e1 e2;rw [lM,sJ w b j cur _ (0,0) hc] at Qg;rw [Qg,lP,hy];rfl
theorem eU.own {w:World} {B b cap n:Nat} (h:eU w b cap n) (hB:B<=b):∃xs,(∀x∈xs,ob x)/\w.ownsRow B 3 1 (.slice (some ⟨b,0,none⟩) n cap) n (aG xs):=by
 obtain ⟨h1,h2,cur,hc,hs,xs,hl,hr,hx⟩:=h;refine ⟨xs,Qf hr,by rw [fB bO,hl],.inr ⟨b,cap,cur,rfl,hB,hc,h1,h2,aa,?_⟩⟩;apply KA;intro j;rcases pA j n with bh|tS
 ·have h3:=tT bO xs j (xs.getD j 0) (by rw [lP,lB aa];rfl) 0 aa;rw [yT,qY] at h3;rw [zK aa,Array.getElem?_toList,hx j bh]
  exact h3.symm
 ·rw [zJ fq,zJ (by rw [fB bO];omega)]
theorem lV (n:Nat) (hn:1<=n/\n<=4) (w:World):
  Calls prog 52 #[iI n] w fun e w'=>∃v xs,e=.returned v/\(∀x∈xs,ob x)/\w'.ownsRow w.heap.size 3 1 v n (aG xs)/\Ext w w':=by
 obtain ⟨nM,xT⟩:=hn;go_enter func52,ntmps52;go_wp2
 go_loopw [3,4] (fun v i wr=>∃(k:Nat) (xs:List Int),k<=n/\i=iI k/\Hid (∀x∈xs,ob x)/\wr.ownsRow w.heap.size 3 1 v k (aG xs)/\Ext w wr) (fun _ i _=>n - (intOf i).toNat)
 case atStart=>exact ⟨0,[],lJ _,rfl,hY ag,aJ w w _ _ (xZ _),xx⟩
 case round=>
  obtain ⟨k,xs,hk,rfl,HR,bc,hx⟩:=hrel;go_wp2_with fail;refine (aF _ _ _ _ aa aa).mono ?_;rintro e w1 ⟨rfl,rfl⟩
  by_cases bh:k<n
  ·go_wp2_with (at_builtin;refine qb rfl _ _ rfl _ k xs rfl bc hx (k:Int) _ _ rfl rfl aa ?_;intro v1 w1 kV aS vH mS)
   go_roundw
   case rel=>exact ⟨k+1,_,aa,az,hY (fun x hx=>by rcases mM.1 hx with h|h;exact HR.u x h;(simp at h;subst h;unfold ob;omega)),kV,aS⟩
   case measure=>simp [intOf];omega
  ·obtain rfl:k=n:=aa
   go_wp2;go_ret
   exact ⟨_,xs,rfl,HR.u,bc,hx⟩
theorem qm (g n:Nat) (hn:1<=n/\n<=4) (w:World) (h:dY w g):
  Calls prog 28 #[.pointer (some ⟨g,0,none⟩),iI n] w fun e w'=>∃b c,e=.returned (.slice (some ⟨b,0,none⟩) n c)/\w.heap.size<=b/\eU w' b c n/\dY w' g/\w.grownBy w' (some g):=by
 obtain ⟨nM,xT⟩:=hn;have df:=h.lt;go_enter func28,ntmps28;go_wp2_with fail;refine (lV n ⟨nM,xT⟩ _).mono ?_;rintro e w1 ⟨v1,xs,rfl,pD,eF,aS⟩;obtain ⟨A1,c1,rfl,_⟩:=au eF;obtain ⟨b,rfl,hB,hI⟩:=eU.of eF pD aa;clear pD;have hC:=h.ext aS;have hG:=aS.gr (some g);clear eF aS;go_wp2
 go_loopw [6] (fun i wr=>∃k:Nat,k<n/\i=iI k/\eU wr b c1 n/\dY wr g/\w.grownBy wr (some g)) (fun i _=>(intOf i).toNat)
 case atStart=>exact ⟨n - 1,aa,az,hI,hC,hG⟩
 case round=>
  clear hI hC hG;obtain ⟨k,hk,rfl,hI,hC,hG⟩:=hrel
  by_cases h0:0<k
  ·go_wp2_with fail;refine (aU g _ _ hC aa).mono ?_;rintro e w2 ⟨x,rfl,⟨cH,aS,_⟩,CJ,jL⟩;obtain ⟨j,rfl⟩:=lD cH;have hj:j<n:=dS
   clear aS cH;have Zn:=hI.grown jL (fun q hq=>by injection hq;omega);have vv:=bY hG jL;obtain ⟨y,hy,hyR⟩:=Zn.acG hk;obtain ⟨z,hz,hzR⟩:=Zn.acG hj;have HY:=hY hyR;clear hyR;have fk:=Zn.frozen k;have hI3:=Zn.ba k z hzR;clear hzR;obtain ⟨u,hu⟩:=hI3.cell hj;have fj:=hI3.frozen j;go_wp2;go_roundw
   case rel=>exact ⟨k - 1,aa,az,hI3.ba j y HY.u,(CJ.ba (p:=(aA b k)) aj _).ba (p:=(aA b j)) aj _,fE (fE vv (p:=(aA b k)) aj _) (p:=(aA b j)) aj _⟩
   case measure=>simp [intOf];omega
  ·go_wp2;go_ret
   exact ⟨b,c1,rfl,hB,hI,hC,hG⟩
theorem dD {w:World} {g t:Nat} {a b c d:Value} (h:ay w g t #[a,b,c,d]):(w.cell? (aA g 0)=some a/\w.cell? (aA g 1)=some b/\w.cell? (aA g 2)=some c/\w.cell? (aA g 3)=some d)/\w.frozen? (aA g 0)=false/\w.frozen? (aA g 1)=false/\w.frozen? (aA g 2)=false/\w.frozen? (aA g 3)=false:=
 ⟨⟨h.cell 0,h.cell 1,h.cell 2,h.cell 3⟩,h.frozen 0,h.frozen 1,h.frozen 2,h.frozen 3⟩
theorem dY.aro {w w':World} {g:Nat} (h:dY w g) (hx:w.grownBy w' none):dY w' g:=h.grown hx (fun _ h=>by cases h)
theorem ay.vR {w:World} {g t:Nat} {z0 z1 z2 z3:Value} (h:ay w g t #[z0,z1,z2,z3]) (a b c d:Value):ay ((((w.setCell (aA g 0) a).setCell (aA g 1) b).setCell (aA g 2) c).setCell (aA g 3) d) g t #[a,b,c,d]:=
 (((h.ba 0 a).ba 1 b).ba 2 c).ba 3 d
theorem dY.vR {w:World} {g q:Nat} (h:dY w g) (hq:g<q) (a b c d:Value):dY ((((w.setCell (aA q 0) a).setCell (aA q 1) b).setCell (aA q 2) c).setCell (aA q 3) d) g:=
 (((h.ba (p:=(aA q 0)) hq a).ba (p:=(aA q 1)) hq b).ba (p:=(aA q 2)) hq c).ba (p:=(aA q 3)) hq d
theorem od {w0 w:World} {g q:Nat} (h:w0.grownBy w (some g)) (hq:w0.heap.size<=q) (a b c d:Value):w0.grownBy ((((w.setCell (aA q 0) a).setCell (aA q 1) b).setCell (aA q 2) c).setCell (aA q 3) d) (some g):=
 fE (fE (fE (fE h (p:=(aA q 0)) hq a) (p:=(aA q 1)) hq b) (p:=(aA q 2)) hq c) (p:=(aA q 3)) hq d
theorem Vg:(prog.info? 54).map (·.size)=some 4:=af
theorem aam {fn:Func} {p:Tmp} (hf:fn.results=#[.cell p 54]) {W:World} {q:Nat} {z0 z1 z2 z3:Value} (hB:ay W q 54 #[z0,z1,z2,z3]) (a b c d:Value) (tmps:Array Value)
  (hp:tmps.getD p undef=.pointer (some ⟨q,0,none⟩)):(results fn tmps).run prog ((((W.setCell (aA q 0) a).setCell (aA q 1) b).setCell (aA q 2) c).setCell (aA q 3) d)=.ok (.agg #[a,b,c,d]) ((((W.setCell (aA q 0) a).setCell (aA q 1) b).setCell (aA q 2) c).setCell (aA q 3) d):=
 nU hf tmps _ q 54 _ (0,0) _ hp (hB.vR a b c d) underlying54 rfl Vg
theorem xU (g n:Nat) (kind:Int) (hn:1<=n/\n<=4) (hk:ar kind<=n) (w:World) (h:dY w g):
  Calls prog 54 #[.pointer (some ⟨g,0,none⟩),iI kind,iI n] w fun e w'=>∃x:Gt,e=.returned x.val/\dY w' g/\w.grownBy w' (some g):=by
 have df:=h.lt;have Zt:=fY kind;go_enter func54,ntmps54;go_wp2_with fail;refine (qm g n hn _ (h.alloc _)).mono ?_;rintro e w2 ⟨b,c,rfl,hb,hI,hC,hG⟩;simp at hb;have zk:=(ay.new w 54 zO).grown hG (fun k hk=>aw);have Fv:w.grownBy w2 (some g):=bY (((xZ w).alloc _).gr _) hG;have aun:=zk.lt;obtain ⟨p0,h0⟩:=hI.cell (j:=0) aa;have FO:=hI.lt;clear hG;go_wp2_with fail;refine (aY kind _).mono ?_;rintro e w3 ⟨rfl,rfl⟩;have FP:=ay.new w2 54 #[iI kind,iI p0,iI 0,iI 0];have zk:=zk.alloc (cO #[iI kind,iI p0,iI 0,iI 0] 54);have hI:=hI.grown (((xZ w2).alloc (cO #[iI kind,iI p0,iI 0,iI 0] 54)).gr none) ag;have hC:=hC.alloc (cO #[iI kind,iI p0,iI 0,iI 0] 54);have hG:=gZ Fv (cO #[iI kind,iI p0,iI 0,iI 0] 54);clear h0 Fv;generalize w2.alloc (cO #[iI kind,iI p0,iI 0,iI 0] 54)=W at*
 generalize w2.heap.size=s8 at*
 have fi:g<s8:=aa
 have um:w.heap.size<s8:=aa
 by_cases ha1:1<ar kind
 ·obtain ⟨p1,h1⟩:=hI.cell (j:=1) aa;obtain ⟨⟨b0,b1,b2,b3⟩,z0,z1,z2,z3⟩:=dD FP;go_wp2_with fail;refine (aY kind _).mono ?_;rintro e w3 ⟨rfl,rfl⟩;have FP:ay _ _ _ #[iI kind,iI p0,iI p1,iI 0]:=FP.ba 2 (iI p1);have zk:=zk.bX (p:=(aA s8 2)) aj (iI p1);have hI:=hI.grown (cB (jN W (some s8)) 2 (iI p1)) (fun k hk=>aw);have hC:=hC.ba (p:=(aA s8 2)) aj (iI p1);have hG:=fE hG (p:=(aA s8 2)) aj (iI p1);clear b0 b1 b2 b3 z0 z1 z2 z3 h1;generalize W.setCell (aA s8 2) (iI p1)=W1 at*
  by_cases ha2:2<ar kind
  ·obtain ⟨p2,h2⟩:=hI.cell (j:=2) aa;obtain ⟨⟨b0,b1,b2,b3⟩,z0,z1,z2,z3⟩:=dD FP;obtain ⟨⟨a0,a1,a2,a3⟩,y0,y1,y2,y3⟩:=dD zk;go_wp2
   exact bR (v:=.agg #[iI kind,iI p0,iI p1,iI p2]) (aam rfl (zk.bX (p:=(aA s8 3)) aj _) (iI kind) (iI p0) (iI p1) (iI p2) _ rfl) rfl ⟨⟨kind,p0,p1,p2⟩,rfl,dY.vR (hC.ba (p:=(aA s8 3)) fi _) df _ _ _ _,od (fE hG (p:=(aA s8 3)) (nZ um) _) (lI _) _ _ _ _⟩
  ·obtain ⟨⟨b0,b1,b2,b3⟩,z0,z1,z2,z3⟩:=dD FP;obtain ⟨⟨a0,a1,a2,a3⟩,y0,y1,y2,y3⟩:=dD zk;go_wp2
   exact bR (v:=.agg #[iI kind,iI p0,iI p1,iI 0]) (aam rfl zk (iI kind) (iI p0) (iI p1) (iI 0) _ rfl) rfl ⟨⟨kind,p0,p1,0⟩,rfl,dY.vR hC df _ _ _ _,od hG (lI _) _ _ _ _⟩
 ·go_wp2_with fail;refine (aY kind _).mono ?_;rintro e w3 ⟨rfl,rfl⟩;have ha2:¬2<ar kind:=aa
  obtain ⟨⟨b0,b1,b2,b3⟩,z0,z1,z2,z3⟩:=dD FP;obtain ⟨⟨a0,a1,a2,a3⟩,y0,y1,y2,y3⟩:=dD zk;go_wp2
  exact bR (v:=.agg #[iI kind,iI p0,iI 0,iI 0]) (aam rfl zk (iI kind) (iI p0) (iI 0) (iI 0) _ rfl) rfl ⟨⟨kind,p0,0,0⟩,rfl,dY.vR hC df _ _ _ _,od hG (lI _) _ _ _ _⟩
theorem qo {P:Prop} (h:P:=by
 obtain ⟨⟨a0,a1,a2,a3⟩,y0,y1,y2,y3⟩:=dD vS;go_wp2
 exact bR (v:=.agg (gA y)) (aam rfl vS (iI y.k) (iI y.a) (iI y.b) (iI y.c) _ rfl) rfl ⟨y,rfl,dY.vR jV df _ _ _ _,od xV (lI _) _ _ _ _⟩):P:=h
theorem vT (g n:Nat) (hn:1<=n/\n<=4) (w:World) (h:dY w g):
  Calls prog 29 #[.pointer (some ⟨g,0,none⟩),iI n] w fun e w'=>∃x:Gt,e=.returned x.val/\dY w' g/\w.grownBy w' (some g):=by
 have df:=h.lt;obtain ⟨nM,xT⟩:=id hn;have CK:∃m:Int,(1<=m/\m<=12)/\((w.alloc (cO zO 54)).alloc (cO #[iI 0,iI 8,iI 11,iI 12,iI 12] 3)).cell? (aA (w.z+1) n)=some (iI m):=by
  have hB:=ay.new (w.alloc (cO zO 54)) 3 #[iI 0,iI 8,iI 11,iI 12,iI 12];have e1:(w.alloc (cO zO 54)).heap.size=w.heap.size+1:=ag
  rw [e1] at hB;rcases (aa:n=1\/n=2\/n=3\/n=4) with rfl|rfl|rfl|rfl
  ·exact ⟨8,aa,hB.cell 1⟩
  ·exact ⟨11,aa,hB.cell 2⟩
  ·exact ⟨12,aa,hB.cell 3⟩
  ·exact ⟨12,aa,hB.cell 4⟩
 obtain ⟨m,hm,Qg⟩:=CK;go_enter func29,ntmps29;go_wp2_with fail;refine (aU g m _ ((h.alloc _).alloc _) aa).mono ?_;rintro e w2 ⟨x,rfl,⟨cH,aS,_⟩,CJ,vv⟩;have bH:=aS aa;clear aS Qg;have rh:=((ay.new w 54 zO).alloc _).grown vv (fun k hk=>aw);have jL:w.grownBy w2 (some g):=bY ((((xZ w).alloc _).alloc _).gr _) vv;have oF:=rh.lt;clear vv;go_wp2_with fail;refine (fO g _ _ CJ aa).mono ?_;rintro e w3 ⟨bb,rfl,Fw,FQ⟩;have xR:=rh.grown FQ (fun k hk=>aw);have Bl:=bY jL FQ;have Gy:=xR.lt;clear rh jL FQ CJ
 cases bb
 ·go_wp2_with fail;refine (aY _ _).mono ?_;rintro e w4 ⟨rfl,rfl⟩
  by_cases hA:(n:Int)<ar (1+x)
  ·have h41:ar 4=1:=ar1 aa;go_wp2_with fail;refine (xU g n (4) hn aa _ Fw).mono ?_;rintro e w5 ⟨y,rfl,jV,gx⟩;have vS:=xR.grown gx (fun k hk=>aw);have xV:=bY Bl gx
   exact qo
  ·have hle:ar (1+x)<=n:=aa
   go_wp2_with fail;refine (xU g n (1+x) hn (hle) _ Fw).mono ?_;rintro e w5 ⟨y,rfl,jV,gx⟩;have vS:=xR.grown gx (fun k hk=>aw);have xV:=bY Bl gx
   exact qo
 ·go_wp2_with fail;refine (dW g _ 8 _ [4,7,5,8,9,9,9,9] _ (Fw.alloc _) (fN w3 _ _ _ 8 1 _ rfl rfl rfl) iT aa).mono ?_;rintro e w6 ⟨kk,rfl,_,sj,xn⟩;have hB4:=(xR.alloc _).grown xn (fun k hk=>aw);have Bm:=bY (gZ Bl _) xn;clear xR Bl xn Fw;go_wp2_with fail;refine (aY _ _).mono ?_;rintro e w4 ⟨rfl,rfl⟩
  by_cases hA:(n:Int)<ar (kk)
  ·have h41:ar 4=1:=ar1 aa;go_wp2_with fail;refine (xU g n (4) hn aa _ sj).mono ?_;rintro e w5 ⟨y,rfl,jV,gx⟩;have vS:=hB4.grown gx (fun k hk=>aw);have xV:=bY Bm gx
   exact qo
  ·have hle:ar (kk)<=n:=aa
   go_wp2_with fail;refine (xU g n (kk) hn (hle) _ sj).mono ?_;rintro e w5 ⟨y,rfl,jV,gx⟩;have vS:=hB4.grown gx (fun k hk=>aw);have xV:=bY Bm gx
   exact qo

theorem fu {w:World} {g t:Nat} {a b:Value} (h:ay w g t #[a,b]):(w.cell? (aA g 0)=some a/\w.cell? (aA g 1)=some b)/\w.frozen? (aA g 0)=false/\w.frozen? (aA g 1)=false:=
 ⟨⟨h.cell 0,h.cell 1⟩,h.frozen 0,h.frozen 1⟩
theorem ay.nP {w:World} {g t:Nat} {z0 z1:Value} (h:ay w g t #[z0,z1]) (a b:Value):ay ((w.setCell (aA g 0) a).setCell (aA g 1) b) g t #[a,b]:=(h.ba 0 a).ba 1 b
theorem dY.nP {w:World} {g q:Nat} (h:dY w g) (hq:g<q) (a b:Value):dY ((w.setCell (aA q 0) a).setCell (aA q 1) b) g:=
 (h.ba (p:=(aA q 0)) hq a).ba (p:=(aA q 1)) hq b
theorem xW {w0 w:World} {g q:Nat} (h:w0.grownBy w (some g)) (hq:w0.heap.size<=q) (a b:Value):w0.grownBy ((w.setCell (aA q 0) a).setCell (aA q 1) b) (some g):=
 fE (fE h (p:=(aA q 0)) hq a) (p:=(aA q 1)) hq b
theorem Vh:(prog.info? 50).map (·.size)=some 2:=af
theorem arp {fn:Func} {p:Tmp} (hf:fn.results=#[.cell p 50]) {W:World} {q:Nat} {z0 z1:Value} (hB:ay W q 50 #[z0,z1]) (a b:Value) (tmps:Array Value)
  (hp:tmps.getD p undef=.pointer (some ⟨q,0,none⟩)):(results fn tmps).run prog ((W.setCell (aA q 0) a).setCell (aA q 1) b)=.ok (.agg #[a,b]) ((W.setCell (aA q 0) a).setCell (aA q 1) b):=
 nU hf tmps _ q 50 _ (0,0) _ hp (hB.nP a b) underlying50 rfl Vh
theorem CL {P:Prop} (h:P:=by
 intro v' w' h1 h2 h3 h4;rw [mH] at h1;obtain ⟨A',c',rfl,_⟩:=au h1
 exact h A' c' w' h1 (yP (((xZ w).alloc _).gr _) h3) (sU h4)):P:=h
theorem CM {w:World} {B:Nat} {ops:Array Oper} {o:Oper} {a:Act} {K:Act->World->Prop} {Q:Exit->Act->World->Prop} {E:Prop} (fx:o.guard=none) (s x:Operand)
  (ho:aO o s x 37) (v:Value) (n:Nat) (xs:List Gt) (hs:a.eval s=v)
  (bc:w.ownsRow B 54 4 v n (ak xs)) (hB:B<=w.heap.size) (y:Gt) (e:TypeId) (b:Nat) (hx:a.eval x=.slice (some ⟨b,0,none⟩) 1 1) (qc:b=w.heap.size) (hn:n<=1800000000000)
  (h:∀A' c' w',w'.ownsRow B 54 4 (.slice A' (n+1) c') (n+1) (ak (xs++[y]))->w.grownBy w' v.ownBlock->((Value.slice A' (n+1) c').ownBlock=v.ownBlock\/(Value.slice A' (n+1) c').ownBlock=some (w.heap.size+1))->K (a.put o.dst (.slice A' (n+1) c')) w'):
  if Region.wanted o (yielded ops a.tmps)=true then Oper.wp prog o a (w.alloc (cO (gA y) e)) K Q else E:=by
 subst qc;have mH:=im hB;refine eE (w0:=CH w B) fx s x ho v n xs hs dR ((nc hB).alloc _) _ 1 1 [y] hx (eh w _ e 4 _ dT dT) aa ?_
 exact CL
theorem IU {w:World} {B e size n s:Nat} {v:Value} {xs:List Value} (h:w.ownsRow B e size v n xs) (hs:w.heap.size<=s):∀q,v.ownBlock=some q->B<=q/\q≠s:=fun q hq=>by
 have:=h.lt q hq
 exact ⟨this.1,aa⟩
theorem arq {w:World} {B:Nat} {ops:Array Oper} {rest:List Oper} {o:Oper} {a:Act} {Q:Exit->Act->World->Prop} (fx:o.guard=none) (s x:Operand)
  (ho:aO o s x 37) (v:Value) (n:Nat) (xs:List Gt) (hs:a.eval s=v)
  (bc:w.ownsRow B 54 4 v n (ak xs)) (hB:B<=w.heap.size) (y:Gt) (e:TypeId) (b:Nat) (hx:a.eval x=.slice (some ⟨b,0,none⟩) 1 1) (qc:b=w.heap.size) (hn:n<=1800000000000)
  (h:∀A' c' w',w'.ownsRow B 54 4 (.slice A' (n+1) c') (n+1) (ak (xs++[y]))->w.grownBy w' v.ownBlock->((Value.slice A' (n+1) c').ownBlock=v.ownBlock\/(Value.slice A' (n+1) c').ownBlock=some (w.heap.size+1))->wpList prog ops Q rest (a.put o.dst (.slice A' (n+1) c')) w'):
  wpList prog ops Q (o::rest) a (w.alloc (cO (gA y) e)):=by
 subst qc;have mH:=im hB;refine cU (w0:=CH w B) fx s x ho v n xs hs dR ((nc hB).alloc _) _ 1 1 [y] hx (eh w _ e 4 _ dT dT) aa ?_
 exact CL
def DC (w0 w:World) (g s:Nat) (N:Int) (A:OA) (len cap:Nat) (gs:List Gt):Prop:=
 ay w w0.heap.size 50 jC/\ay w s 50 #[iI N,.slice A len cap]/\w.ownsRow (w0.heap.size+1) 54 4 (.slice A len cap) len (ak gs)/\(∀q,(Value.slice A len cap).ownBlock=some q->w0.heap.size+1<=q/\q≠s)/\dY w g/\w0.grownBy w (some g)
theorem DC.grown {w0 w w':World} {g s:Nat} {N:Int} {A:OA} {len cap:Nat} {gs:List Gt} (h:DC w0 w g s N A len cap gs) (hg:w.grownBy w' (some g)) (hC:dY w' g) (hs:g<s) (hl:g<w0.heap.size):DC w0 w' g s N A len cap gs:=by
 obtain ⟨h1,h2,h3,h4,h5,h6⟩:=h
 exact ⟨h1.grown hg (fun k hk=>aw),h2.grown hg (fun k hk=>aw),cT h3 hg (fun k hk=>aw),h4,hC,bY h6 hg⟩
theorem DC.drew {w0 w:World} {g s:Nat} {N:Int} {A:OA} {len cap:Nat} {gs:List Gt} (h:DC w0 w g s N A len cap gs):DC w0 w.drew g s N A len cap gs:=by
 obtain ⟨h1,h2,h3,h4,h5,h6⟩:=h
 exact ⟨h1,h2,aq h3 (xZ w).drew,h4,h5.ext (xZ w).drew,vQ h6 (xZ w).drew⟩
theorem DC.alloc {w0 w:World} {g s:Nat} {N:Int} {A:OA} {len cap:Nat} {gs:List Gt} (h:DC w0 w g s N A len cap gs) (o:Obj):DC w0 (w.alloc o) g s N A len cap gs:=by
 obtain ⟨h1,h2,h3,h4,h5,h6⟩:=h
 exact ⟨h1.alloc o,h2.alloc o,aq h3 ((xZ w).alloc o),h4,h5.alloc o,gZ h6 o⟩
theorem DC.aiP {w0 w:World} {g s:Nat} {N:Int} {A:OA} {len cap:Nat} {gs:List Gt} (h:DC w0 w g s N A len cap gs) (M:Int) (hs:w0.heap.size<s) (hl:g<w0.heap.size):DC w0 (w.setCell (aA s 0) (iI M)) g s M A len cap gs:=by
 obtain ⟨h1,h2,h3,h4,h5,h6⟩:=h;refine ⟨h1.bX (p:=(aA s 0)) aj _,h2.ba 0 _,?_,h4,h5.ba (p:=(aA s 0)) aj _,fE h6 (p:=(aA s 0)) aj _⟩;refine h3.kept (row:=some s) (cB (jN w (some s)) 0 _) ?_
 cases hv:(Value.slice A len cap).ownBlock with
 |none=>exact .inl rfl
 |some q=>exact .inr (fun e=>(h4 q hv).2 dr)
theorem DC.app {w0 w w':World} {g s:Nat} {N:Int} {A A':OA} {len cap c':Nat} {gs:List Gt} {y:Gt} (h:DC w0 w g s N A len cap gs) (hs:w0.heap.size<s) (hl:g<w0.heap.size)
  (ho:w'.ownsRow (w0.heap.size+1) 54 4 (.slice A' (len+1) c') (len+1) (ak (gs++[y]))) (hg:w.grownBy w' (Value.slice A len cap).ownBlock)
  (hb:(Value.slice A' (len+1) c').ownBlock=(Value.slice A len cap).ownBlock\/(Value.slice A' (len+1) c').ownBlock=some (w.heap.size+1)):
  ay w' s 50 #[iI N,.slice A len cap]/\DC w0 (w'.setCell (aA s 1) (.slice A' (len+1) c')) g s N A' (len+1) c' (gs++[y]):=by
 obtain ⟨h1,h2,h3,h4,h5,h6⟩:=h;have Vi:=h2.lt;have hB:=h2.grown hg (fun k hk e=>(h4 k hk).2 e.symm);have TI:∀q,(Value.slice A' (len+1) c').ownBlock=some q->w0.heap.size+1<=q/\q≠s:=by
  intro q hq;rcases hb with hb|hb
  ·rw [hb] at hq;exact h4 q hq
  ·rw [hb] at hq;injection hq with hq;have:=h1.lt;omega
 refine ⟨hB,(h1.grown hg (fun k hk e=>oM ((h4 k hk).1))).bX (p:=(aA s 1)) aj _,hB.ba 1 _,?_,TI,(h5.grown hg (fun k hk=>oM ((h4 k hk).1))).ba (p:=(aA s 1)) aj _,fE (CI h6 hg (fun k hk=>oM ((h4 k hk).1))) (p:=(aA s 1)) aj _⟩;refine ho.kept (row:=some s) (cB (jN w' (some s)) 1 _) ?_
 cases hv:(Value.slice A' (len+1) c').ownBlock with
 |none=>exact .inl rfl
 |some q=>exact .inr (fun e=>(TI q hv).2 dr)
def TK:List Int->List Gt
  |[]=>[]
  |[_]=>[]
  |[a,b]=>[fL a b]
  |a::b::c::r=>(fL a b::TK (b::c::r))++(fL a b::TK (b::c::r))
def lr (way:List Int):List Gt:=if 2<=way.length/\way.length<=4 then TK way else []
theorem aiQ {way:List Int} (h:way.length<2\/4<way.length):lr way=[]:=aK aa
theorem anQ (a b:Int):lr [a,b]=[fL a b]:=rfl
theorem aan {a b c:Int} {r:List Int} (h:r.length<=1):lr (a::b::c::r)=(fL a b::lr (b::c::r))++(fL a b::lr (b::c::r)):=by
  unfold lr;rw [aX aj,aX aj];rfl
theorem NW (way:List Int):(lr way).length<=10:=by
  unfold lr;split
  · rename_i h
    match way,h with
    |[a,b],_=>simp [TK]
    |[a,b,c],_=>simp [TK]
    |[a,b,c,d],_=>simp [TK]
    |a::b::c::d::e::r,h=>simp at h
  · simp
theorem aao {w:World} {B n b o:Nat} {a:Int} {l:List Int} (h:Rd w B 1 (some ⟨b,o,none⟩) (n+1) (aG (a::l))):Rd w B 1 (some ⟨b,o+1,none⟩) n (aG l):=by
  have hl:=h.1;rw [fB bO] at hl;refine ⟨by rw [fB bO];simp at hl |-;omega,fun hn=>?_⟩;obtain ⟨b',o',e,hb,hc⟩:=h.2 aa;injection e with e;injection e with e1 e2;subst e1 e2;refine ⟨b,o+1,rfl,hb,fun j u hu=>?_⟩;have:=hc (j+1) u (by simpa [xF] using hu);rwa [show o+(j+1)=o+1+j from aa] at this
def LrE (w:World) (way:List Int) (e:Ending) (w':World):Prop:=∃v,e=.returned v/\w'.ownsRow w.heap.size 54 4 v (lr way).length (ak (lr way))/\Ext w w'
theorem xX (A:OA) (n c:Nat) (way:List Int) (w:World) (h:Rd w w.heap.size 1 A n (aG way)) (hn:n<=2000000000000) (hc:n<=c)
    (ih:2<=n->∀(A':OA) (c':Nat) (aap:List Int) (w':World),Rd w' w'.heap.size 1 A' (n - 1) (aG aap)->n - 1<=c'->Calls prog 97 #[.slice A' (n - 1) c'] w' (LrE w' aap)):
    Calls prog 97 #[.slice A n c] w (LrE w way):=by
  have hlen:=h.len bO aa;have HIH:=hY ih;clear ih
  by_cases hb:n<2\/4<n
  · have HF:=hY (aiQ (way:=way) aa)
    have HB:Hid ((n:Int)<2\/4<(n:Int)):=bZ
    clear hb hlen;go_enter func97,ntmps97;go_wp2_with fail;refine (bI _ _ _ _ HB.u).mono ?_;rintro e w1 ⟨rfl,rfl⟩;go_wp2;go_ret
    exact ⟨_,rfl,by rw [HF.u];exact bL (xZ _) _ _ 4 0 #[] _ rfl rfl rfl aa,xx⟩
  have GC:2<=n:=aa
  have xT:n<=4:=aa
  clear hb;obtain ⟨a,t1,rfl,ht1⟩:=FH (show way.length=(n - 1)+1 by omega);obtain ⟨b,t2,rfl,ht2⟩:=FH (show t1.length=(n - 2)+1 by omega);obtain ⟨bl,ol,a',rfl,FO,ha',ca⟩:=eT h (show 0<n by omega);obtain ⟨_,_,b',e2,_,rb,cb⟩:=eT h (show 1<n by omega);injection e2 with e2;injection e2 with e3 e4;subst e3 e4;simp at ha' rb;subst ha' rb;rw [qY] at ca;have HA:=hY (lQ ht1 ht2);clear hlen ht1 ht2;have aup:0<n:=aa
  have auq:1<n:=aa
  have aur:(1:Int)<(n:Int):=aa
  have HQ:Hid (∀w',Ext w w'->w'.cell? (aA bl ol)=some (iI a)/\w'.cell? (aA bl (ol+1))=some (iI b)):=fun w' z=>⟨(z.cell (p:=(aA bl ol)) FO).trans ca,(z.cell (p:=(aA bl (ol+1))) FO).trans cb⟩
  go_enter func97,ntmps97;go_wp2_with fail;refine (aF _ _ _ _ aa aa).mono ?_;rintro e w1 ⟨rfl,rfl⟩;go_wp2
  first|go_region_held3 (fun w'=>w'.cell? (aA bl ol)=some (iI a)/\w'.cell? (aA bl (ol+1))=some (iI b))
    (first|(refine HQ.u _ ?_;assumption)|exact HQ.u _ (xZ w).drew|go_keep|exact HQ.u _ (eX.alloc _)|exact HQ.u _ ((((eX.setCell (p:=(aA w.heap.size 0)) (lI _) _).setCell (p:=(aA w.heap.size 1)) (lI _) _).setCell (p:=(aA w.heap.size 2)) (lI _) _).setCell (p:=(aA w.heap.size 3)) (lI _) _)|exact HQ.u _ ((xZ w).alloc _).drew|(refine HQ.u _ ?_;exact xx;done))
    (first
      |(go_at_call 59;(with_reducible refine (dA (w0:=(w.alloc (cO zO 54)).drew) _ _ _ (xZ _)).mono ?_);rintro e w' ⟨rfl,gX⟩;have eX:Ext w w':=Ext.trans (((xZ w).alloc _).drew) gX;have qp:ay w' w.heap.size 54 zO:=ay.ext (w:=(w.alloc (cO zO 54)).drew) (ay.new w _ _) gX;have f0:=qp.frozen 0;have f1:=qp.frozen 1;have f2:=qp.frozen 2;have f3:=qp.frozen 3;have g0:w'.cell? (aA w.z 0)=some (iI 0):=qp.cell 0;have g1:w'.cell? (aA w.z 1)=some (iI 0):=qp.cell 1;have g2:w'.cell? (aA w.z 2)=some (iI 0):=qp.cell 2;have g3:w'.cell? (aA w.z 3)=some (iI 0):=qp.cell 3)
      |(go_at_call 59;(with_reducible refine (dA (w0:=w) _ _ _ (xZ w).drew).mono ?_);rintro e w' ⟨rfl,eX⟩))|fail
  all_goals
    first
      | (have xR:ay ((((w'.setCell (aA w.heap.size 0) (iI 9)).setCell (aA w.heap.size 1) (iI a)).setCell (aA w.heap.size 2) (iI b)).setCell (aA w.heap.size 3) (iI 0)) w.heap.size 54 #[iI 9,iI a,iI b,iI 0]:=ay.vR qp _ _ _ _
         have bT:Ext w ((((w'.setCell (aA w.heap.size 0) (iI 9)).setCell (aA w.heap.size 1) (iI a)).setCell (aA w.heap.size 2) (iI b)).setCell (aA w.heap.size 3) (iI 0)):=(((eX.setCell (p:=(aA w.heap.size 0)) (lI _) _).setCell (p:=(aA w.heap.size 1)) (lI _) _).setCell (p:=(aA w.heap.size 2)) (lI _) _).setCell (p:=(aA w.heap.size 3)) (lI _) _;clear f0 f1 f2 f3 g0 g1 g2 g3 qp gX eX;generalize ((((w'.setCell (aA w.heap.size 0) (iI 9)).setCell (aA w.heap.size 1) (iI a)).setCell (aA w.heap.size 2) (iI b)).setCell (aA w.heap.size 3) (iI 0))=W3 at*
         generalize w.heap.size=fb at xR |-)
      | (have xR:ay (w'.alloc (cO #[iI 9,iI a,iI b,iI 0] 54)) w'.heap.size 54 #[iI 9,iI a,iI b,iI 0]:=ay.new _ _ _
         have bT:Ext w (w'.alloc (cO #[iI 9,iI a,iI b,iI 0] 54)):=eX.alloc _;clear eX;generalize (w'.alloc (cO #[iI 9,iI a,iI b,iI 0] 54))=W3 at*
         generalize w'.heap.size=fb at xR |-)
    obtain ⟨⟨k0,k1,k2,k3⟩,_⟩:=dD xR;have HKF:Hid (∀w'',Ext W3 w''->w''.cell? (aA fb 0)=some (iI 9)/\w''.cell? (aA fb 1)=some (iI a)/\w''.cell? (aA fb 2)=some (iI b)/\w''.cell? (aA fb 3)=some (iI 0)):=fun w'' z=>(dD (xR.ext z)).1
    by_cases h22:n=2
    · have ht2:t2=[]:=xu (oM HA.u.2)
      subst ht2 h22;go_wp2;go_ret
      exact ⟨_,rfl,by rw [anQ];exact bL bT _ _ 4 1 #[iI 9,iI a,iI b,iI 0] (ak [fL a b]) rfl rfl rfl aa,bT.alloc _⟩
    have aus:((n:Int)==2)=false:=eC
    have aut:((1:Int)<=(n:Int)):=aa
    have auu:((1:Int)<=(c:Int)):=aa
    have auv:1<c:=aa
    have auw:¬c=1:=aa
    obtain ⟨c3,t3,rfl,ht3⟩:=FH (show t2.length=(n - 3)+1 by have:=HA.u.2;omega);have HM:=hY (aan (a:=a) (b:=b) (c:=c3) (r:=t3) aa);have Ah:=NW (b::c3::t3);have hRT:Hid (∀w'',Ext w w''->Rd w'' w''.heap.size 1 (some ⟨bl,ol+1,none⟩) (n - 1) (aG (b::c3::t3))):=fun w'' z=>aao (a:=a) (by rw [show n - 1+1=n by omega];exact h.ext z)
    clear h22 ht3;go_wp2
    first|go_region_held3 (fun w''=>w''.cell? (aA fb 0)=some (iI 9)/\w''.cell? (aA fb 1)=some (iI a)/\w''.cell? (aA fb 2)=some (iI b)/\w''.cell? (aA fb 3)=some (iI 0))
      (first|(refine HKF.u _ ?_;assumption)|exact HKF.u _ (xZ W3).drew|go_keep|(refine HKF.u _ ?_;exact xx;done))
      (first
        |(go_at_call 97;refine (HIH.u GC _ _ (b::c3::t3) _ (hRT.u _ (bT.trans aD)) aa).mono ?_;rintro e w4 ⟨v4,rfl,rk,CN⟩;have xo:Ext W3 w4:=Ext.trans aD CN;obtain ⟨A4,c4,rfl,RM⟩:=au rk)
        |(refine eE (w0:=w) ah _ _ ah _ 1 [fL a b] ah (aq (bL bT W3.heap.size 54 4 1 #[iI 9,iI a,iI b,iI 0] _ rfl rfl rfl aa) (Ext.trans ((xZ _).drew) CN)) (bT.trans xo) A4 _ c4 (lr (b::c3::t3)) ah RM aa ?_;intro v5 w5 jM cN xV Qh;have NX:Ext W3 w5:=xo.grown xV (fun k hk=>by simp [Value.ownBlock] at hk;omega))
        |(refine eE (w0:=w) ah _ _ ah _ 1 [fL a b] ah (bL (bT.trans xo) w4.heap.size 54 4 1 #[iI 9,iI a,iI b,iI 0] _ rfl rfl rfl aa) ((bT.trans xo).alloc _) A4 _ c4 (lr (b::c3::t3)) ah (RM.ext ((xZ w4).alloc _)) aa ?_;intro v5 w5 jM cN xV Qh;have NX:Ext W3 w5:=(xo.alloc _).grown xV (fun k hk=>by have:=xo.size;simp [Value.ownBlock] at hk;omega)))|fail
    all_goals
      have acH:1+(lr (b::c3::t3)).length=(fL a b::lr (b::c3::t3)).length:=by simp [Nd]
      have auA:(fL a b::lr (b::c3::t3)).length<=11:=aj
      rw [acH] at jM;replace jM:w5.ownsRow w.heap.size 54 4 v5 (fL a b::lr (b::c3::t3)).length (ak (fL a b::lr (b::c3::t3))):=jM;generalize fL a b::lr (b::c3::t3)=half at*
      obtain ⟨A5,c5,rfl,Fx⟩:=au jM;clear acH k0 k1 k2 k3 xV Qh jM;have Vj:True:=trivial;go_wp2_with (first|(at_builtin;have _t:=Vj;refine cU (w0:=w) rfl _ _ rfl (.slice (some ⟨w5.heap.size,0,none⟩) 0 0) 0 [] rfl (bL cN _ _ 4 0 #[] _ ag rfl rfl aa) (cN.alloc _) A5 _ c5 half rfl (Fx.ext ((xZ w5).alloc _)) aa ?_;intro v6 w6 px mC Lf hb6;have ig:Ext w5 w6:=((xZ w5).alloc _).grown Lf (fun k hk=>by simp [Value.ownBlock] at hk;omega);have anU:w6.ownsRow w.heap.size 54 4 v6 half.length (ak half):=(sU px);clear Vj px Lf hb6)|(at_builtin;refine cU (w0:=w) rfl _ _ rfl _ half.length half rfl anU mC A5 _ c5 half rfl (Fx.ext ig) aa ?_;intro v7 w7 Ai gJ hg7 GM))
      go_ret
      exact ⟨_,rfl,by rw [HM.u,lA];exact Ai,gJ⟩
theorem kZ:∀(n:Nat) (A:OA) (c:Nat) (way:List Int) (w:World),n<=2000000000000->Rd w w.heap.size 1 A n (aG way)->n<=c->Calls prog 97 #[.slice A n c] w (LrE w way)
  |0,A,c,way,w,hn,h,hc=>by
    exact xX A 0 c way w h hn hc (fun h2=>absurd h2 aa)
  |n+1,A,c,way,w,hn,h,hc=>xX A (n+1) c way w h hn hc (fun _ A' c' aap w' h' xG=>kZ n A' c' aap w' aa h' xG)
theorem DC.done {w W:World} {g s:Nat} {N:Int} {A:OA} {len cap:Nat} {gs:List Gt} (h:DC w W g s N A len cap gs) (hl:g<w.heap.size):
  ((W.setCell (aA w.heap.size 0) (iI N)).setCell (aA w.heap.size 1) (.slice A len cap)).ownsRow w.heap.size 54 4 (.slice A len cap) len (ak gs)/\dY ((W.setCell (aA w.heap.size 0) (iI N)).setCell (aA w.heap.size 1) (.slice A len cap)) g/\w.grownBy ((W.setCell (aA w.heap.size 0) (iI N)).setCell (aA w.heap.size 1) (.slice A len cap)) (some g):=
 ⟨aC (bk (bk h.2.2.1 (p:=(aA w.heap.size 0)) ag _) (p:=(aA w.heap.size 1)) ag _) aa,dY.nP h.2.2.2.2.1 hl _ _,xW h.2.2.2.2.2 (lI _) _ _⟩
def acI (w:World) (s:Nat):Nat:=match w.cell? (aA s 1) with|some (.slice _ n _)=>n|_=>0
theorem aha {w:World} {s t:Nat} {a:Value} {A:OA} {n c:Nat} (h:ay w s t #[a,.slice A n c]):acI w s=n:=by
 have:w.cell? (aA s 1)=some (.slice A n c):=h.cell 1;unfold acI;rw [this]
def Lg (w:World) (g bf:Nat) (e:Ending) (w':World):Prop:=
 ∃(N:Int) (A:OA) (len cap:Nat) (gs:List Gt),e=.returned (.agg #[iI N,.slice A len cap])/\(-1<=N/\N<=5)/\len<=bf+61/\w'.ownsRow w.heap.size 54 4 (.slice A len cap) len (ak gs)/\dY w' g/\w.grownBy w' (some g)
theorem Lg.mk {w w':World} {g bf:Nat} (N:Int) (A:OA) (len cap:Nat) (gs:List Gt) (h1: -1<=N/\N<=5) (h2:len<=bf+61) (h3:w'.ownsRow w.heap.size 54 4 (.slice A len cap) len (ak gs)/\dY w' g/\w.grownBy w' (some g)):Lg w g bf (.returned (.agg #[iI N,.slice A len cap])) w':=
 ⟨N,A,len,cap,gs,rfl,h1,h2,h3⟩

end Go.Proofs.YtiajdbllccmokaaGreatDoor
