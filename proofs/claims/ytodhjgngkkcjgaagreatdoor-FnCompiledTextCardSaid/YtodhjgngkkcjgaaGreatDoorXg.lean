import Derived.Test.YtodhjgngkkcjgaaGreatDoorXc
import Derived.Test.YtodhjgngkkcjgaaGreatDoorXb
import Derived.Deep.RegionLaw
import Derived.Test.YtodhjgngkkcjgaaGreatDoorXe
namespace Go.Proofs.YtodhjgngkkcjgaaGreatDoor
open Go.ChangeShapes Go.WideShapes Go.ChangeAt Go.RowKit Go.Deep Go.Proofs.Tryz
set_option linter.unusedVariables false
set_option linter.unusedSimpArgs false
set_option maxRecDepth 100000
set_option maxHeartbeats 16000000
def GP (w:World) (B:Nat):World:={w with heap:=w.heap.extract 0 B}
theorem jo {w:World} {B:Nat} (h:B<=w.heap.size):(GP w B).heap.size=B:=by simp [GP];omega
theorem pI {w:World} {B:Nat} (h:B<=w.heap.size):Ext (GP w B) w:=by
 refine ⟨rfl,rfl,rfl,by rw [jo h];exact h,fun k hk=>?_⟩;rw [jo h] at hk;simp [GP,Nl];omega
theorem cJ {a b c:World} {row:Option Nat} (h:a.grownBy b row) (k:b.grownBy c row):a.grownBy c row:=h.trans k
theorem GQ {a b c:World} {g:Nat} {row:Option Nat} (h:a.grownBy b (some g)) (k:b.grownBy c row) (hr:∀q,row=some q->a.heap.size<=q):a.grownBy c (some g):=
 ⟨k.os.trans h.os,k.tape.trans h.tape,k.output.trans h.output,lK h.size k.size,fun q hq hne=>(k.block q (qD hq h.size) (fun e=>oM (hr q e.symm))).trans (h.block q hq hne)⟩
theorem CP {a b c:World} {row:Option Nat} (h:a.grownBy b row) (k:Ext b c):a.grownBy c row:=cJ h (k.gr row)
theorem gF {a b:World} {g:Nat} (h:a.grownBy b (some g)) {p:Addr} (hp:a.heap.size<=p.block) (u:Value):a.grownBy (b.setCell p u) (some g):=
 ⟨h.os,h.tape,h.output,rH,fun k hk hne=>(pa b p u k (fun e=>aa)).trans (h.block k hk hne)⟩
theorem jY {a b:World} {row:Option Nat} (h:a.grownBy b row) (o:Obj):a.grownBy (b.alloc o) row:=CP h ((xZ b).alloc o)
theorem BC {a b:World} {row:Option Nat} (h:a.grownBy b row):a.heap.size<=b.heap.size:=h.size
theorem dQ.aU {w:World} {g:Nat} (h:dQ w g) {p:Addr} (hp:g<p.block) (u:Value):dQ (w.setCell p u) g:=by
 have hl:=h.lt
 exact h.grown (row:=some p.block) ⟨rfl,rfl,rfl,by simp [World.setCell],fun k hk hne=>pa w p u k (fun e=>hne dU)⟩ (fun k hk=>ay)
theorem dQ.alloc {w:World} {g:Nat} (h:dQ w g) (o:Obj):dQ (w.alloc o) g:=h.ext ((xZ w).alloc o)
def fE (w:World) (b cap n:Nat):Prop:=
 n<=cap/\cap<=maxLen/\∃cur:Array Value,w.heap[b]?=some (.cells cur 3 (0,0))/\cur.size=cap/\∃xs:List Int,xs.length=n/\(∀j,po (xs.getD j 0))/\∀j,j<n->cur[j]?=some (iI (xs.getD j 0))
theorem fE.lt {w:World} {b cap n:Nat} (h:fE w b cap n):b<w.heap.size:=by
 obtain ⟨_,_,cur,hc,_⟩:=h;rcases od b w.heap.size with ba|uU
 ·exact ba
 ·rw [yk uU] at hc;cases hc
theorem fE.cell {w:World} {b cap n:Nat} (h:fE w b cap n) {j:Nat} (hj:j<n):∃y,w.cell? (aA b j)=some (iI y):=by
 obtain ⟨_,_,cur,hc,_,xs,_,_,hx⟩:=h;rw [vR w b j cur _ (0,0) hc]
 exact ⟨_,hx j hj⟩
theorem fE.aiO {w:World} {b cap n:Nat} (h:fE w b cap n) {j:Nat} (hj:j<n):∃y,w.cell? (aA b j)=some (iI y)/\po y:=by
 obtain ⟨_,_,cur,hc,_,xs,_,hr,hx⟩:=h;rw [vR w b j cur _ (0,0) hc]
 exact ⟨_,hx j hj,hr j⟩
theorem QU {xs:List Int} (h:∀x∈xs,po x) (j:Nat):po (xs.getD j 0):=by
 rw [lP]
 cases e:xs[j]? with
 |none=>exact ⟨ag,ag⟩
 |some y=>exact h y (lG e)
theorem Wa {xs:List Int} (h:∀j,po (xs.getD j 0)):∀x∈xs,po x:=by
 intro x hx;obtain ⟨j,hj⟩:=Tz.1 hx;have:=h j;rwa [lP,hj] at this
theorem fE.frozen {w:World} {b cap n:Nat} (h:fE w b cap n) (j:Nat):w.frozen? (aA b j)=false:=by
 obtain ⟨_,_,cur,hc,_⟩:=h
 exact CH w b j cur _ hc
theorem fE.aU {w:World} {b cap n:Nat} (h:fE w b cap n) (j:Nat) (y:Int) (hy:po y):fE (w.setCell (aA b j) (iI y)) b cap n:=by
 obtain ⟨h1,h2,cur,hc,hs,xs,hl,hr,hx⟩:=h;refine ⟨h1,h2,cur.setIfInBounds j (iI y),TH w b j cur _ _ hc,sU hs,xs.set j y,sU hl,QU (fun x hx=>?_),fun q hq=>?_⟩
 ·rcases List.mem_or_eq_of_mem_set hx with h|h
  ·exact Wa hr x h
  ·rw [h];exact hy
 rw [abh]
 by_cases e:j=q
 ·subst e;rw [aY rfl,aY aa,lP,List.getElem?_set_self aa];rfl
 ·rw [aM e,hx q hq,lP,lP,List.getElem?_set_ne e]
theorem fE.grown {w w':World} {b cap n:Nat} {row:Option Nat} (h:fE w b cap n) (hg:w.grownBy w' row) (hr:∀k,row=some k->b≠k):fE w' b cap n:=by
 have hl:=h.lt;obtain ⟨h1,h2,cur,hc,r⟩:=h
 exact ⟨h1,h2,cur,(hg.block b hl (fun e=>hr b e.symm rfl)).trans hc,r⟩
theorem fE.of {w:World} {B n c:Nat} {A:OA} {xs:List Int} (h:w.ownsRow B 3 1 (.slice A n c) n (aD xs)) (hr:∀x∈xs,po x) (hn:0<n):∃b,A=some ⟨b,0,none⟩/\B<=b/\fE w b c n:=by
 have hlen:xs.length=n:=by
  have:=h.1;rw [gB bG] at this;omega
 have hrd:=Rd.own h;rcases h.2 with ⟨_,h0⟩|⟨b,cap,cur,hv,hB,hc,LR,hmx,hs,hx⟩
 ·omega
 ·injection hv with h1 _ h3;subst h1 h3;refine ⟨b,rfl,hB,LR,hmx,cur,hc,aa,xs,hlen,QU hr,fun j hj=>?_⟩;obtain ⟨b',o',y,e,_,hy,Gu⟩:=du hrd hj;injection e with e;injection e with e1 e2;subst e1 e2;rw [lM,vR w b j cur _ (0,0) hc] at Gu;rw [Gu,lP,hy];rfl
theorem fE.own {w:World} {B b cap n:Nat} (h:fE w b cap n) (hB:B<=b):∃xs,(∀x∈xs,po x)/\w.ownsRow B 3 1 (.slice (some ⟨b,0,none⟩) n cap) n (aD xs):=by
 obtain ⟨h1,h2,cur,hc,hs,xs,hl,hr,hx⟩:=h;refine ⟨xs,Wa hr,by rw [gB bG,hl],.inr ⟨b,cap,cur,rfl,hB,hc,h1,h2,aa,?_⟩⟩;apply FM;intro j;rcases od j n with ba|uU
 ·have h3:=xt bG xs j (xs.getD j 0) (by rw [lP,lB aa];rfl) 0 aa;rw [vT,oh] at h3;rw [yi aa,Array.getElem?_toList,hx j ba]
  exact h3.symm
 ·rw [rW fW,rW (by rw [gB bG];omega)]
theorem nV (n:Nat) (hn:1<=n/\n<=4) (w:World):
  Calls prog 90 #[iI n] w fun e w'=>∃v xs,e=.returned v/\(∀x∈xs,po x)/\w'.ownsRow w.heap.size 3 1 v n (aD xs)/\Ext w w':=by
 obtain ⟨jX,zn⟩:=hn;go_enter func90,ntmps90;go_wp2
 go_loopw [3,4] (fun v i wr=>∃(k:Nat) (xs:List Int),k<=n/\i=iI k/\Hid (∀x∈xs,po x)/\wr.ownsRow w.heap.size 3 1 v k (aD xs)/\Ext w wr) (fun _ i _=>n - (intOf i).toNat)
 case atStart=>exact ⟨0,[],lJ _,rfl,hY ag,aN w w _ _ (xZ _),xx⟩
 case round=>
  obtain ⟨k,xs,hk,rfl,HR,bj,hx⟩:=hrel;go_wp2_with fail;refine (aF _ _ _ _ aa aa).mono ?_;rintro e w1 ⟨rfl,rfl⟩
  by_cases ba:k<n
  ·go_wp2_with (at_builtin;refine pq rfl _ _ rfl _ k xs rfl bj hx (k:Int) _ _ rfl rfl aa ?_;intro v1 w1 ox aK Be ky)
   go_roundw
   case rel=>exact ⟨k+1,_,aa,az,hY (fun x hx=>by rcases iT.1 hx with h|h;exact HR.u x h;(simp at h;subst h;unfold po;omega)),ox,aK⟩
   case measure=>simp [intOf];omega
  ·obtain rfl:k=n:=aa
   go_wp2;go_ret
   exact ⟨_,xs,rfl,HR.u,bj,hx⟩
theorem tA (g n:Nat) (hn:1<=n/\n<=4) (w:World) (h:dQ w g):
  Calls prog 57 #[.pointer (some ⟨g,0,none⟩),iI n] w fun e w'=>∃b c,e=.returned (.slice (some ⟨b,0,none⟩) n c)/\w.heap.size<=b/\fE w' b c n/\dQ w' g/\w.grownBy w' (some g):=by
 obtain ⟨jX,zn⟩:=hn;have di:=h.lt;go_enter func57,ntmps57;go_wp2_with fail;refine (nV n ⟨jX,zn⟩ _).mono ?_;rintro e w1 ⟨v1,xs,rfl,kG,eu,aK⟩;obtain ⟨A1,c1,rfl,_⟩:=ak eu;obtain ⟨b,rfl,hB,hI⟩:=fE.of eu kG aa;clear kG;have hC:=h.ext aK;have hG:=aK.gr (some g);clear eu aK;go_wp2
 go_loopw [6] (fun i wr=>∃k:Nat,k<n/\i=iI k/\fE wr b c1 n/\dQ wr g/\w.grownBy wr (some g)) (fun i _=>(intOf i).toNat)
 case atStart=>exact ⟨n - 1,aa,az,hI,hC,hG⟩
 case round=>
  clear hI hC hG;obtain ⟨k,hk,rfl,hI,hC,hG⟩:=hrel
  by_cases h0:0<k
  ·go_wp2_with fail;refine (aT g _ _ hC aa).mono ?_;rintro e w2 ⟨x,rfl,⟨cD,aK,_⟩,DV,jW⟩;obtain ⟨j,rfl⟩:=lD cD;have hj:j<n:=cN
   clear aK cD;have hI2:=hI.grown jW (fun q hq=>by injection hq;omega);have zo:=cJ hG jW;obtain ⟨y,hy,hyR⟩:=hI2.aiO hk;obtain ⟨z,hz,hzR⟩:=hI2.aiO hj;have HY:=hY hyR;clear hyR;have fk:=hI2.frozen k;have hI3:=hI2.aU k z hzR;clear hzR;obtain ⟨u,hu⟩:=hI3.cell hj;have fj:=hI3.frozen j;go_wp2;go_roundw
   case rel=>exact ⟨k - 1,aa,az,hI3.aU j y HY.u,(DV.aU (p:=(aA b k)) ai _).aU (p:=(aA b j)) ai _,gF (gF zo (p:=(aA b k)) ai _) (p:=(aA b j)) ai _⟩
   case measure=>simp [intOf];omega
  ·go_wp2;go_ret
   exact ⟨b,c1,rfl,hB,hI,hC,hG⟩
theorem dJ {w:World} {g t:Nat} {a b c d:Value} (h:au w g t #[a,b,c,d]):(w.cell? (aA g 0)=some a/\w.cell? (aA g 1)=some b/\w.cell? (aA g 2)=some c/\w.cell? (aA g 3)=some d)/\w.frozen? (aA g 0)=false/\w.frozen? (aA g 1)=false/\w.frozen? (aA g 2)=false/\w.frozen? (aA g 3)=false:=
 ⟨⟨h.cell 0,h.cell 1,h.cell 2,h.cell 3⟩,h.frozen 0,h.frozen 1,h.frozen 2,h.frozen 3⟩
theorem dQ.axj {w w':World} {g:Nat} (h:dQ w g) (hx:w.grownBy w' none):dQ w' g:=h.grown hx (fun _ h=>by cases h)
theorem au.BD {w:World} {g t:Nat} {z0 z1 z2 z3:Value} (h:au w g t #[z0,z1,z2,z3]) (a b c d:Value):au ((((w.setCell (aA g 0) a).setCell (aA g 1) b).setCell (aA g 2) c).setCell (aA g 3) d) g t #[a,b,c,d]:=
 (((h.aU 0 a).aU 1 b).aU 2 c).aU 3 d
theorem dQ.BD {w:World} {g q:Nat} (h:dQ w g) (hq:g<q) (a b c d:Value):dQ ((((w.setCell (aA q 0) a).setCell (aA q 1) b).setCell (aA q 2) c).setCell (aA q 3) d) g:=
 (((h.aU (p:=(aA q 0)) hq a).aU (p:=(aA q 1)) hq b).aU (p:=(aA q 2)) hq c).aU (p:=(aA q 3)) hq d
theorem tB {w0 w:World} {g q:Nat} (h:w0.grownBy w (some g)) (hq:w0.heap.size<=q) (a b c d:Value):w0.grownBy ((((w.setCell (aA q 0) a).setCell (aA q 1) b).setCell (aA q 2) c).setCell (aA q 3) d) (some g):=
 gF (gF (gF (gF h (p:=(aA q 0)) hq a) (p:=(aA q 1)) hq b) (p:=(aA q 2)) hq c) (p:=(aA q 3)) hq d
theorem abU:(prog.info? 39).map (·.size)=some 4:=af
theorem agx {fn:Func} {p:Tmp} (hf:fn.results=#[.cell p 39]) {W:World} {q:Nat} {z0 z1 z2 z3:Value} (hB:au W q 39 #[z0,z1,z2,z3]) (a b c d:Value) (tmps:Array Value)
  (hp:tmps.getD p undef=.pointer (some ⟨q,0,none⟩)):(results fn tmps).run prog ((((W.setCell (aA q 0) a).setCell (aA q 1) b).setCell (aA q 2) c).setCell (aA q 3) d)=.ok (.agg #[a,b,c,d]) ((((W.setCell (aA q 0) a).setCell (aA q 1) b).setCell (aA q 2) c).setCell (aA q 3) d):=
 pc hf tmps _ q 39 _ (0,0) _ hp (hB.BD a b c d) kP rfl abU
theorem BF (g n:Nat) (kind:Int) (hn:1<=n/\n<=4) (hk:ar kind<=n) (w:World) (h:dQ w g):
  Calls prog 92 #[.pointer (some ⟨g,0,none⟩),iI kind,iI n] w fun e w'=>∃x:Gt,e=.returned x.val/\dQ w' g/\w.grownBy w' (some g):=by
 have di:=h.lt;have har:=eL kind;go_enter func92,ntmps92;go_wp2_with fail;refine (tA g n hn _ (h.alloc _)).mono ?_;rintro e w2 ⟨b,c,rfl,hb,hI,hC,hG⟩;simp at hb;have Qe:=(au.new w 39 zO).grown hG (fun k hk=>ay);have KV:w.grownBy w2 (some g):=cJ (((xZ w).alloc _).gr _) hG;have atJ:=Qe.lt;obtain ⟨p0,h0⟩:=hI.cell (j:=0) aa;have Ll:=hI.lt;clear hG;go_wp2_with fail;refine (bc kind _).mono ?_;rintro e w3 ⟨rfl,rfl⟩;have hB8:=au.new w2 39 #[iI kind,iI p0,iI 0,iI 0];have Qe:=Qe.alloc (cO #[iI kind,iI p0,iI 0,iI 0] 39);have hI:=hI.grown (((xZ w2).alloc (cO #[iI kind,iI p0,iI 0,iI 0] 39)).gr none) ag;have hC:=hC.alloc (cO #[iI kind,iI p0,iI 0,iI 0] 39);have hG:=jY KV (cO #[iI kind,iI p0,iI 0,iI 0] 39);clear h0 KV;generalize w2.alloc (cO #[iI kind,iI p0,iI 0,iI 0] 39)=W at*
 generalize w2.heap.size=s8 at*
 have fA:g<s8:=aa
 have CA:w.heap.size<s8:=aa
 by_cases ha1:1<ar kind
 ·obtain ⟨p1,h1⟩:=hI.cell (j:=1) aa;obtain ⟨⟨b0,b1,b2,b3⟩,z0,z1,z2,z3⟩:=dJ hB8;go_wp2_with fail;refine (bc kind _).mono ?_;rintro e w3 ⟨rfl,rfl⟩;have hB8:au _ _ _ #[iI kind,iI p0,iI p1,iI 0]:=hB8.aU 2 (iI p1);have Qe:=Qe.cB (p:=(aA s8 2)) ai (iI p1);have hI:=hI.grown (cF (kO W (some s8)) 2 (iI p1)) (fun k hk=>ay);have hC:=hC.aU (p:=(aA s8 2)) ai (iI p1);have hG:=gF hG (p:=(aA s8 2)) ai (iI p1);clear b0 b1 b2 b3 z0 z1 z2 z3 h1;generalize W.setCell (aA s8 2) (iI p1)=W1 at*
  by_cases ha2:2<ar kind
  ·obtain ⟨p2,h2⟩:=hI.cell (j:=2) aa;obtain ⟨⟨b0,b1,b2,b3⟩,z0,z1,z2,z3⟩:=dJ hB8;obtain ⟨⟨a0,a1,a2,a3⟩,y0,y1,y2,y3⟩:=dJ Qe;go_wp2
   exact bJ (v:=.agg #[iI kind,iI p0,iI p1,iI p2]) (agx rfl (Qe.cB (p:=(aA s8 3)) ai _) (iI kind) (iI p0) (iI p1) (iI p2) _ rfl) rfl ⟨⟨kind,p0,p1,p2⟩,rfl,dQ.BD (hC.aU (p:=(aA s8 3)) fA _) di _ _ _ _,tB (gF hG (p:=(aA s8 3)) (yw CA) _) (lI _) _ _ _ _⟩
  ·obtain ⟨⟨b0,b1,b2,b3⟩,z0,z1,z2,z3⟩:=dJ hB8;obtain ⟨⟨a0,a1,a2,a3⟩,y0,y1,y2,y3⟩:=dJ Qe;go_wp2
   exact bJ (v:=.agg #[iI kind,iI p0,iI p1,iI 0]) (agx rfl Qe (iI kind) (iI p0) (iI p1) (iI 0) _ rfl) rfl ⟨⟨kind,p0,p1,0⟩,rfl,dQ.BD hC di _ _ _ _,tB hG (lI _) _ _ _ _⟩
 ·go_wp2_with fail;refine (bc kind _).mono ?_;rintro e w3 ⟨rfl,rfl⟩;have ha2:¬2<ar kind:=aa
  obtain ⟨⟨b0,b1,b2,b3⟩,z0,z1,z2,z3⟩:=dJ hB8;obtain ⟨⟨a0,a1,a2,a3⟩,y0,y1,y2,y3⟩:=dJ Qe;go_wp2
  exact bJ (v:=.agg #[iI kind,iI p0,iI 0,iI 0]) (agx rfl Qe (iI kind) (iI p0) (iI 0) (iI 0) _ rfl) rfl ⟨⟨kind,p0,0,0⟩,rfl,dQ.BD hC di _ _ _ _,tB hG (lI _) _ _ _ _⟩
theorem tC {P:Prop} (h:P:=by
 obtain ⟨⟨a0,a1,a2,a3⟩,y0,y1,y2,y3⟩:=dJ hB5;go_wp2
 exact bJ (v:=.agg (gA y)) (agx rfl hB5 (iI y.k) (iI y.a) (iI y.b) (iI y.c) _ rfl) rfl ⟨y,rfl,dQ.BD kH di _ _ _ _,tB zK (lI _) _ _ _ _⟩):P:=h
theorem zL (g n:Nat) (hn:1<=n/\n<=4) (w:World) (h:dQ w g):
  Calls prog 58 #[.pointer (some ⟨g,0,none⟩),iI n] w fun e w'=>∃x:Gt,e=.returned x.val/\dQ w' g/\w.grownBy w' (some g):=by
 have di:=h.lt;obtain ⟨jX,zn⟩:=id hn;have GR:∃m:Int,(1<=m/\m<=12)/\((w.alloc (cO zO 39)).alloc (cO #[iI 0,iI 8,iI 11,iI 12,iI 12] 3)).cell? (aA (w.z+1) n)=some (iI m):=by
  have hB:=au.new (w.alloc (cO zO 39)) 3 #[iI 0,iI 8,iI 11,iI 12,iI 12];have e1:(w.alloc (cO zO 39)).heap.size=w.heap.size+1:=ag
  rw [e1] at hB;rcases (aa:n=1\/n=2\/n=3\/n=4) with rfl|rfl|rfl|rfl
  ·exact ⟨8,aa,hB.cell 1⟩
  ·exact ⟨11,aa,hB.cell 2⟩
  ·exact ⟨12,aa,hB.cell 3⟩
  ·exact ⟨12,aa,hB.cell 4⟩
 obtain ⟨m,hm,Gu⟩:=GR;go_enter func58,ntmps58;go_wp2_with fail;refine (aT g m _ ((h.alloc _).alloc _) aa).mono ?_;rintro e w2 ⟨x,rfl,⟨cD,aK,_⟩,DV,zo⟩;have bz:=aK aa;clear aK Gu;have xQ:=((au.new w 39 zO).alloc _).grown zo (fun k hk=>ay);have jW:w.grownBy w2 (some g):=cJ ((((xZ w).alloc _).alloc _).gr _) zo;have qw:=xQ.lt;clear zo;go_wp2_with fail;refine (gU g _ _ DV aa).mono ?_;rintro e w3 ⟨bb,rfl,ED,Lm⟩;have KW:=xQ.grown Lm (fun k hk=>ay);have KS:=cJ jW Lm;have CQ:=KW.lt;clear xQ jW Lm DV
 cases bb
 ·go_wp2_with fail;refine (bc _ _).mono ?_;rintro e w4 ⟨rfl,rfl⟩
  by_cases hA:(n:Int)<ar (1+x)
  ·have h41:ar 4=1:=ar1 aa;go_wp2_with fail;refine (BF g n (4) hn aa _ ED).mono ?_;rintro e w5 ⟨y,rfl,kH,hZ⟩;have hB5:=KW.grown hZ (fun k hk=>ay);have zK:=cJ KS hZ
   exact tC
  ·have hle:ar (1+x)<=n:=aa
   go_wp2_with fail;refine (BF g n (1+x) hn (hle) _ ED).mono ?_;rintro e w5 ⟨y,rfl,kH,hZ⟩;have hB5:=KW.grown hZ (fun k hk=>ay);have zK:=cJ KS hZ
   exact tC
 ·go_wp2_with fail;refine (dY g _ 8 _ [4,7,5,8,9,9,9,9] _ (ED.alloc _) (eC w3 _ _ _ 8 1 _ rfl rfl rfl) iu aa).mono ?_;rintro e w6 ⟨kk,rfl,_,uW,zp⟩;have hB4:=(KW.alloc _).grown zp (fun k hk=>ay);have Fa:=cJ (jY KS _) zp;clear KW KS zp ED;go_wp2_with fail;refine (bc _ _).mono ?_;rintro e w4 ⟨rfl,rfl⟩
  by_cases hA:(n:Int)<ar (kk)
  ·have h41:ar 4=1:=ar1 aa;go_wp2_with fail;refine (BF g n (4) hn aa _ uW).mono ?_;rintro e w5 ⟨y,rfl,kH,hZ⟩;have hB5:=hB4.grown hZ (fun k hk=>ay);have zK:=cJ Fa hZ
   exact tC
  ·have hle:ar (kk)<=n:=aa
   go_wp2_with fail;refine (BF g n (kk) hn (hle) _ uW).mono ?_;rintro e w5 ⟨y,rfl,kH,hZ⟩;have hB5:=hB4.grown hZ (fun k hk=>ay);have zK:=cJ Fa hZ
   exact tC

theorem gg {w:World} {g t:Nat} {a b:Value} (h:au w g t #[a,b]):(w.cell? (aA g 0)=some a/\w.cell? (aA g 1)=some b)/\w.frozen? (aA g 0)=false/\w.frozen? (aA g 1)=false:=
 ⟨⟨h.cell 0,h.cell 1⟩,h.frozen 0,h.frozen 1⟩
theorem au.qz {w:World} {g t:Nat} {z0 z1:Value} (h:au w g t #[z0,z1]) (a b:Value):au ((w.setCell (aA g 0) a).setCell (aA g 1) b) g t #[a,b]:=(h.aU 0 a).aU 1 b
theorem dQ.qz {w:World} {g q:Nat} (h:dQ w g) (hq:g<q) (a b:Value):dQ ((w.setCell (aA q 0) a).setCell (aA q 1) b) g:=
 (h.aU (p:=(aA q 0)) hq a).aU (p:=(aA q 1)) hq b
theorem BH {w0 w:World} {g q:Nat} (h:w0.grownBy w (some g)) (hq:w0.heap.size<=q) (a b:Value):w0.grownBy ((w.setCell (aA q 0) a).setCell (aA q 1) b) (some g):=
 gF (gF h (p:=(aA q 0)) hq a) (p:=(aA q 1)) hq b
theorem abV:(prog.info? 183).map (·.size)=some 2:=af
theorem axk {fn:Func} {p:Tmp} (hf:fn.results=#[.cell p 183]) {W:World} {q:Nat} {z0 z1:Value} (hB:au W q 183 #[z0,z1]) (a b:Value) (tmps:Array Value)
  (hp:tmps.getD p undef=.pointer (some ⟨q,0,none⟩)):(results fn tmps).run prog ((W.setCell (aA q 0) a).setCell (aA q 1) b)=.ok (.agg #[a,b]) ((W.setCell (aA q 0) a).setCell (aA q 1) b):=
 pc hf tmps _ q 183 _ (0,0) _ hp (hB.qz a b) Ny rfl abV
theorem tD {P:Prop} (h:P:=by
 intro v' w' h1 h2 h3 h4;rw [mW] at h1;obtain ⟨A',c',rfl,_⟩:=ak h1
 exact h A' c' w' h1 (FP (((xZ w).alloc _).gr _) h3) (sU h4)):P:=h
theorem GS {w:World} {B:Nat} {ops:Array Oper} {o:Oper} {a:Act} {K:Act->World->Prop} {Q:Exit->Act->World->Prop} {E:Prop} (fX:o.guard=none) (s x:Operand)
  (ho:aO o s x 112) (v:Value) (n:Nat) (xs:List Gt) (hs:a.eval s=v)
  (bj:w.ownsRow B 39 4 v n (aq xs)) (hB:B<=w.heap.size) (y:Gt) (e:TypeId) (b:Nat) (hx:a.eval x=.slice (some ⟨b,0,none⟩) 1 1) (sg:b=w.heap.size) (hn:n<=1800000000000)
  (h:∀A' c' w',w'.ownsRow B 39 4 (.slice A' (n+1) c') (n+1) (aq (xs++[y]))->w.grownBy w' v.ownBlock->((Value.slice A' (n+1) c').ownBlock=v.ownBlock\/(Value.slice A' (n+1) c').ownBlock=some (w.heap.size+1))->K (a.put o.dst (.slice A' (n+1) c')) w'):
  if Region.wanted o (yielded ops a.tmps)=true then Oper.wp prog o a (w.alloc (cO (gA y) e)) K Q else E:=by
 subst sg;have mW:=jo hB;refine fe (w0:=GP w B) fX s x ho v n xs hs dT ((pI hB).alloc _) _ 1 1 [y] hx (dZ w _ e 4 _ dW dW) aa ?_
 exact tD
theorem NY {w:World} {B e size n s:Nat} {v:Value} {xs:List Value} (h:w.ownsRow B e size v n xs) (hs:w.heap.size<=s):∀q,v.ownBlock=some q->B<=q/\q≠s:=fun q hq=>by
 have:=h.lt q hq
 exact ⟨this.1,aa⟩
theorem axl {w:World} {B:Nat} {ops:Array Oper} {rest:List Oper} {o:Oper} {a:Act} {Q:Exit->Act->World->Prop} (fX:o.guard=none) (s x:Operand)
  (ho:aO o s x 112) (v:Value) (n:Nat) (xs:List Gt) (hs:a.eval s=v)
  (bj:w.ownsRow B 39 4 v n (aq xs)) (hB:B<=w.heap.size) (y:Gt) (e:TypeId) (b:Nat) (hx:a.eval x=.slice (some ⟨b,0,none⟩) 1 1) (sg:b=w.heap.size) (hn:n<=1800000000000)
  (h:∀A' c' w',w'.ownsRow B 39 4 (.slice A' (n+1) c') (n+1) (aq (xs++[y]))->w.grownBy w' v.ownBlock->((Value.slice A' (n+1) c').ownBlock=v.ownBlock\/(Value.slice A' (n+1) c').ownBlock=some (w.heap.size+1))->wpList prog ops Q rest (a.put o.dst (.slice A' (n+1) c')) w'):
  wpList prog ops Q (o::rest) a (w.alloc (cO (gA y) e)):=by
 subst sg;have mW:=jo hB;refine dm (w0:=GP w B) fX s x ho v n xs hs dT ((pI hB).alloc _) _ 1 1 [y] hx (dZ w _ e 4 _ dW dW) aa ?_
 exact tD
def DC (w0 w:World) (g s:Nat) (N:Int) (A:OA) (len cap:Nat) (gs:List Gt):Prop:=
 au w w0.heap.size 183 jC/\au w s 183 #[iI N,.slice A len cap]/\w.ownsRow (w0.heap.size+1) 39 4 (.slice A len cap) len (aq gs)/\(∀q,(Value.slice A len cap).ownBlock=some q->w0.heap.size+1<=q/\q≠s)/\dQ w g/\w0.grownBy w (some g)
theorem GU {P:Prop} (h:P:=by
 obtain ⟨h1,h2,h3,h4,h5,h6⟩:=h
 exact ⟨h1.grown hg (fun k hk=>ay),h2.grown hg (fun k hk=>ay),dk h3 hg (fun k hk=>ay),h4,hC,cJ h6 hg⟩):P:=h
theorem DC.grown {w0 w w':World} {g s:Nat} {N:Int} {A:OA} {len cap:Nat} {gs:List Gt} (h:DC w0 w g s N A len cap gs) (hg:w.grownBy w' (some g)) (hC:dQ w' g) (hs:g<s) (hl:g<w0.heap.size):DC w0 w' g s N A len cap gs:=by
 exact GU
theorem GV {P:Prop} (h:P:=by
 obtain ⟨h1,h2,h3,h4,h5,h6⟩:=h
 exact ⟨h1,h2,aj h3 (xZ w).drew,h4,h5.ext (xZ w).drew,CP h6 (xZ w).drew⟩):P:=h
theorem DC.drew {w0 w:World} {g s:Nat} {N:Int} {A:OA} {len cap:Nat} {gs:List Gt} (h:DC w0 w g s N A len cap gs):DC w0 w.drew g s N A len cap gs:=by
 exact GV
theorem GY {P:Prop} (h:P:=by
 obtain ⟨h1,h2,h3,h4,h5,h6⟩:=h
 exact ⟨h1.alloc o,h2.alloc o,aj h3 ((xZ w).alloc o),h4,h5.alloc o,jY h6 o⟩):P:=h
theorem DC.alloc {w0 w:World} {g s:Nat} {N:Int} {A:OA} {len cap:Nat} {gs:List Gt} (h:DC w0 w g s N A len cap gs) (o:Obj):DC w0 (w.alloc o) g s N A len cap gs:=by
 exact GY
theorem DC.abW {w0 w:World} {g s:Nat} {N:Int} {A:OA} {len cap:Nat} {gs:List Gt} (h:DC w0 w g s N A len cap gs) (M:Int) (hs:w0.heap.size<s) (hl:g<w0.heap.size):DC w0 (w.setCell (aA s 0) (iI M)) g s M A len cap gs:=by
 obtain ⟨h1,h2,h3,h4,h5,h6⟩:=h;refine ⟨h1.cB (p:=(aA s 0)) ai _,h2.aU 0 _,?_,h4,h5.aU (p:=(aA s 0)) ai _,gF h6 (p:=(aA s 0)) ai _⟩;refine h3.kept (row:=some s) (cF (kO w (some s)) 0 _) ?_
 cases hv:(Value.slice A len cap).ownBlock with
 |none=>exact .inl rfl
 |some q=>exact .inr (fun e=>(h4 q hv).2 dB)
theorem GZ {P:Prop} (h:P:=by
 intro q hq;rcases hb with hb|hb
 ·rw [hb] at hq;exact h4 q hq
 ·rw [hb] at hq;injection hq with hq;have:=h1.lt
  omega):P:=h
theorem DC.app {w0 w w':World} {g s:Nat} {N:Int} {A A':OA} {len cap c':Nat} {gs:List Gt} {y:Gt} (h:DC w0 w g s N A len cap gs) (hs:w0.heap.size<s) (hl:g<w0.heap.size)
  (ho:w'.ownsRow (w0.heap.size+1) 39 4 (.slice A' (len+1) c') (len+1) (aq (gs++[y]))) (hg:w.grownBy w' (Value.slice A len cap).ownBlock)
  (hb:(Value.slice A' (len+1) c').ownBlock=(Value.slice A len cap).ownBlock\/(Value.slice A' (len+1) c').ownBlock=some (w.heap.size+1)):
  au w' s 183 #[iI N,.slice A len cap]/\DC w0 (w'.setCell (aA s 1) (.slice A' (len+1) c')) g s N A' (len+1) c' (gs++[y]):=by
 obtain ⟨h1,h2,h3,h4,h5,h6⟩:=h;have hls:=h2.lt;have hB:=h2.grown hg (fun k hk e=>(h4 k hk).2 e.symm);have h4':∀q,(Value.slice A' (len+1) c').ownBlock=some q->w0.heap.size+1<=q/\q≠s:=by
  exact GZ
 refine ⟨hB,(h1.grown hg (fun k hk e=>oM ((h4 k hk).1))).cB (p:=(aA s 1)) ai _,hB.aU 1 _,?_,h4',(h5.grown hg (fun k hk=>oM ((h4 k hk).1))).aU (p:=(aA s 1)) ai _,gF (GQ h6 hg (fun k hk=>oM ((h4 k hk).1))) (p:=(aA s 1)) ai _⟩;refine ho.kept (row:=some s) (cF (kO w' (some s)) 1 _) ?_
 cases hv:(Value.slice A' (len+1) c').ownBlock with
 |none=>exact .inl rfl
 |some q=>exact .inr (fun e=>(h4' q hv).2 dB)
theorem DC.done {w W:World} {g s:Nat} {N:Int} {A:OA} {len cap:Nat} {gs:List Gt} (h:DC w W g s N A len cap gs) (hl:g<w.heap.size):
  ((W.setCell (aA w.heap.size 0) (iI N)).setCell (aA w.heap.size 1) (.slice A len cap)).ownsRow w.heap.size 39 4 (.slice A len cap) len (aq gs)/\dQ ((W.setCell (aA w.heap.size 0) (iI N)).setCell (aA w.heap.size 1) (.slice A len cap)) g/\w.grownBy ((W.setCell (aA w.heap.size 0) (iI N)).setCell (aA w.heap.size 1) (.slice A len cap)) (some g):=
 ⟨aC (bo (bo h.2.2.1 (p:=(aA w.heap.size 0)) ag _) (p:=(aA w.heap.size 1)) ag _) aa,dQ.qz h.2.2.2.2.1 hl _ _,BH h.2.2.2.2.2 (lI _) _ _⟩
def aiP (w:World) (s:Nat):Nat:=match w.cell? (aA s 1) with|some (.slice _ n _)=>n|_=>0
theorem anj {w:World} {s t:Nat} {a:Value} {A:OA} {n c:Nat} (h:au w s t #[a,.slice A n c]):aiP w s=n:=by
 have:w.cell? (aA s 1)=some (.slice A n c):=h.cell 1;unfold aiP;rw [this]
def QV (w:World) (g bE:Nat) (e:Ending) (w':World):Prop:=
 ∃(N:Int) (A:OA) (len cap:Nat) (gs:List Gt),e=.returned (.agg #[iI N,.slice A len cap])/\(-1<=N/\N<=5)/\len<=bE+61/\w'.ownsRow w.heap.size 39 4 (.slice A len cap) len (aq gs)/\dQ w' g/\w.grownBy w' (some g)
theorem QV.mk {w w':World} {g bE:Nat} (N:Int) (A:OA) (len cap:Nat) (gs:List Gt) (h1: -1<=N/\N<=5) (h2:len<=bE+61) (h3:w'.ownsRow w.heap.size 39 4 (.slice A len cap) len (aq gs)/\dQ w' g/\w.grownBy w' (some g)):QV w g bE (.returned (.agg #[iI N,.slice A len cap])) w':=
 ⟨N,A,len,cap,gs,rfl,h1,h2,h3⟩
def lrL:List Int->List Gt
  |[]=>[]
  |[_]=>[]
  |[a,b]=>[hU a b]
  |a::b::c::r=>(hU a b::lrL (b::c::r))++(hU a b::lrL (b::c::r))
def lr (way:List Int):List Gt:=if 2<=way.length/\way.length<=4 then lrL way else []
theorem aoH {way:List Int} (h:way.length<2\/4<way.length):lr way=[]:=aM aa
theorem atL (a b:Int):lr [a,b]=[hU a b]:=rfl
theorem agy {a b c:Int} {r:List Int} (h:r.length<=1):lr (a::b::c::r)=(hU a b::lr (b::c::r))++(hU a b::lr (b::c::r)):=by
  unfold lr;rw [aY ai,aY ai];rfl
theorem Um (way:List Int):(lr way).length<=10:=by
  unfold lr;split
  · rename_i h
    match way,h with
    |[a,b],_=>simp [lrL]
    |[a,b,c],_=>simp [lrL]
    |[a,b,c,d],_=>simp [lrL]
    |a::b::c::d::e::r,h=>simp at h
  · simp
theorem agz {w:World} {B n b o:Nat} {a:Int} {l:List Int} (h:Rd w B 1 (some ⟨b,o,none⟩) (n+1) (aD (a::l))):Rd w B 1 (some ⟨b,o+1,none⟩) n (aD l):=by
  have hl:=h.1;rw [gB bG] at hl;refine ⟨by rw [gB bG];simp at hl |-;omega,fun hn=>?_⟩;obtain ⟨b',o',e,hb,hc⟩:=h.2 aa;injection e with e;injection e with e1 e2;subst e1 e2;refine ⟨b,o+1,rfl,hb,fun j u hu=>?_⟩;have:=hc (j+1) u (by simpa [Bs] using hu);rwa [show o+(j+1)=o+1+j from aa] at this
def LrE (w:World) (way:List Int) (e:Ending) (w':World):Prop:=∃v,e=.returned v/\w'.ownsRow w.heap.size 39 4 v (lr way).length (aq (lr way))/\Ext w w'
theorem BI (A:OA) (n c:Nat) (way:List Int) (w:World) (h:Rd w w.heap.size 1 A n (aD way)) (hn:n<=2000000000000) (hc:n<=c)
    (ih:2<=n->∀(A':OA) (c':Nat) (agA:List Int) (w':World),Rd w' w'.heap.size 1 A' (n - 1) (aD agA)->n - 1<=c'->Calls prog 156 #[.slice A' (n - 1) c'] w' (LrE w' agA)):
    Calls prog 156 #[.slice A n c] w (LrE w way):=by
  have hlen:=h.len bG aa;have HIH:=hY ih;clear ih
  by_cases hb:n<2\/4<n
  · have HF:=hY (aoH (way:=way) aa)
    have HB:Hid ((n:Int)<2\/4<(n:Int)):=bN
    clear hb hlen;go_enter func156,ntmps156;go_wp2_with fail;refine (bP _ _ _ _ HB.u).mono ?_;rintro e w1 ⟨rfl,rfl⟩;go_wp2;go_ret
    exact ⟨_,rfl,by rw [HF.u];exact bS (xZ _) _ _ 4 0 #[] _ rfl rfl rfl aa,xx⟩
  have DP:2<=n:=aa
  have zn:n<=4:=aa
  clear hb;obtain ⟨a,t1,rfl,ht1⟩:=Ld (show way.length=(n - 1)+1 by omega);obtain ⟨b,t2,rfl,ht2⟩:=Ld (show t1.length=(n - 2)+1 by omega);obtain ⟨bl,ol,a',rfl,Ll,ha',ca⟩:=du h (show 0<n by omega);obtain ⟨_,_,b',e2,_,rJ,cb⟩:=du h (show 1<n by omega);injection e2 with e2;injection e2 with e3 e4;subst e3 e4;simp at ha' rJ;subst ha' rJ;rw [oh] at ca;have HA:=hY (lQ ht1 ht2);clear hlen ht1 ht2;have az9:0<n:=aa
  have aAa:1<n:=aa
  have aAb:(1:Int)<(n:Int):=aa
  have HQ:Hid (∀w',Ext w w'->w'.cell? (aA bl ol)=some (iI a)/\w'.cell? (aA bl (ol+1))=some (iI b)):=fun w' z=>⟨(z.cell (p:=(aA bl ol)) Ll).trans ca,(z.cell (p:=(aA bl (ol+1))) Ll).trans cb⟩
  go_enter func156,ntmps156;go_wp2_with fail;refine (aF _ _ _ _ aa aa).mono ?_;rintro e w1 ⟨rfl,rfl⟩;go_wp2
  first|go_region_held3 (fun w'=>w'.cell? (aA bl ol)=some (iI a)/\w'.cell? (aA bl (ol+1))=some (iI b))
    (first|(refine HQ.u _ ?_;assumption)|exact HQ.u _ (xZ w).drew|go_keep|exact HQ.u _ (fH.alloc _)|exact HQ.u _ ((((fH.setCell (p:=(aA w.heap.size 0)) (lI _) _).setCell (p:=(aA w.heap.size 1)) (lI _) _).setCell (p:=(aA w.heap.size 2)) (lI _) _).setCell (p:=(aA w.heap.size 3)) (lI _) _)|exact HQ.u _ ((xZ w).alloc _).drew|(refine HQ.u _ ?_;exact xx;done))
    (first
      |(go_at_call 127;(with_reducible refine (dI (w0:=(w.alloc (cO zO 39)).drew) _ _ _ (xZ _)).mono ?_);rintro e w' ⟨rfl,iV⟩;have fH:Ext w w':=Ext.trans (((xZ w).alloc _).drew) iV;have qA:au w' w.heap.size 39 zO:=au.ext (w:=(w.alloc (cO zO 39)).drew) (au.new w _ _) iV;have f0:=qA.frozen 0;have f1:=qA.frozen 1;have f2:=qA.frozen 2;have f3:=qA.frozen 3;have g0:w'.cell? (aA w.z 0)=some (iI 0):=qA.cell 0;have g1:w'.cell? (aA w.z 1)=some (iI 0):=qA.cell 1;have g2:w'.cell? (aA w.z 2)=some (iI 0):=qA.cell 2;have g3:w'.cell? (aA w.z 3)=some (iI 0):=qA.cell 3)
      |(go_at_call 127;(with_reducible refine (dI (w0:=w) _ _ _ (xZ w).drew).mono ?_);rintro e w' ⟨rfl,fH⟩))|fail
  all_goals
    first
      | (have KW:au ((((w'.setCell (aA w.heap.size 0) (iI 9)).setCell (aA w.heap.size 1) (iI a)).setCell (aA w.heap.size 2) (iI b)).setCell (aA w.heap.size 3) (iI 0)) w.heap.size 39 #[iI 9,iI a,iI b,iI 0]:=au.BD qA _ _ _ _
         have bO:Ext w ((((w'.setCell (aA w.heap.size 0) (iI 9)).setCell (aA w.heap.size 1) (iI a)).setCell (aA w.heap.size 2) (iI b)).setCell (aA w.heap.size 3) (iI 0)):=(((fH.setCell (p:=(aA w.heap.size 0)) (lI _) _).setCell (p:=(aA w.heap.size 1)) (lI _) _).setCell (p:=(aA w.heap.size 2)) (lI _) _).setCell (p:=(aA w.heap.size 3)) (lI _) _;clear f0 f1 f2 f3 g0 g1 g2 g3 qA iV fH;generalize ((((w'.setCell (aA w.heap.size 0) (iI 9)).setCell (aA w.heap.size 1) (iI a)).setCell (aA w.heap.size 2) (iI b)).setCell (aA w.heap.size 3) (iI 0))=W3 at*
         generalize w.heap.size=fb at KW |-)
      | (have KW:au (w'.alloc (cO #[iI 9,iI a,iI b,iI 0] 39)) w'.heap.size 39 #[iI 9,iI a,iI b,iI 0]:=au.new _ _ _
         have bO:Ext w (w'.alloc (cO #[iI 9,iI a,iI b,iI 0] 39)):=fH.alloc _;clear fH;generalize (w'.alloc (cO #[iI 9,iI a,iI b,iI 0] 39))=W3 at*
         generalize w'.heap.size=fb at KW |-)
    obtain ⟨⟨k0,k1,k2,k3⟩,_⟩:=dJ KW;have HKF:Hid (∀w'',Ext W3 w''->w''.cell? (aA fb 0)=some (iI 9)/\w''.cell? (aA fb 1)=some (iI a)/\w''.cell? (aA fb 2)=some (iI b)/\w''.cell? (aA fb 3)=some (iI 0)):=fun w'' z=>(dJ (KW.ext z)).1
    by_cases h22:n=2
    · have ht2:t2=[]:=Bm (oM HA.u.2)
      subst ht2 h22;go_wp2;go_ret
      exact ⟨_,rfl,by rw [atL];exact bS bO _ _ 4 1 #[iI 9,iI a,iI b,iI 0] (aq [hU a b]) rfl rfl rfl aa,bO.alloc _⟩
    have aAc:((n:Int)==2)=false:=dV
    have aAd:((1:Int)<=(n:Int)):=aa
    have aAe:((1:Int)<=(c:Int)):=aa
    have aAf:1<c:=aa
    have aAg:¬c=1:=aa
    obtain ⟨c3,t3,rfl,ht3⟩:=Ld (show t2.length=(n - 3)+1 by have:=HA.u.2;omega);have HM:=hY (agy (a:=a) (b:=b) (c:=c3) (r:=t3) aa);have DW:=Um (b::c3::t3);have hRT:Hid (∀w'',Ext w w''->Rd w'' w''.heap.size 1 (some ⟨bl,ol+1,none⟩) (n - 1) (aD (b::c3::t3))):=fun w'' z=>agz (a:=a) (by rw [show n - 1+1=n by omega];exact h.ext z)
    clear h22 ht3;go_wp2
    first|go_region_held3 (fun w''=>w''.cell? (aA fb 0)=some (iI 9)/\w''.cell? (aA fb 1)=some (iI a)/\w''.cell? (aA fb 2)=some (iI b)/\w''.cell? (aA fb 3)=some (iI 0))
      (first|(refine HKF.u _ ?_;assumption)|exact HKF.u _ (xZ W3).drew|go_keep|(refine HKF.u _ ?_;exact xx;done))
      (first
        |(go_at_call 156;refine (HIH.u DP _ _ (b::c3::t3) _ (hRT.u _ (bO.trans aw)) aa).mono ?_;rintro e w4 ⟨v4,rfl,uJ,Ha⟩;have Bi:Ext W3 w4:=Ext.trans aw Ha;obtain ⟨A4,c4,rfl,YK⟩:=ak uJ)
        |(refine fe (w0:=w) ah _ _ ah _ 1 [hU a b] ah (aj (bS bO W3.heap.size 39 4 1 #[iI 9,iI a,iI b,iI 0] _ rfl rfl rfl aa) (Ext.trans ((xZ _).drew) Ha)) (bO.trans Bi) A4 _ c4 (lr (b::c3::t3)) ah YK aa ?_;intro v5 w5 kg cI zK NZ;have Un:Ext W3 w5:=Bi.grown zK (fun k hk=>by simp [Value.ownBlock] at hk;omega))
        |(refine fe (w0:=w) ah _ _ ah _ 1 [hU a b] ah (bS (bO.trans Bi) w4.heap.size 39 4 1 #[iI 9,iI a,iI b,iI 0] _ rfl rfl rfl aa) ((bO.trans Bi).alloc _) A4 _ c4 (lr (b::c3::t3)) ah (YK.ext ((xZ w4).alloc _)) aa ?_;intro v5 w5 kg cI zK NZ;have Un:Ext W3 w5:=(Bi.alloc _).grown zK (fun k hk=>by have:=Bi.size;simp [Value.ownBlock] at hk;omega)))|fail
    all_goals
      have aiQ:1+(lr (b::c3::t3)).length=(hU a b::lr (b::c3::t3)).length:=by simp [zz]
      have aAj:(hU a b::lr (b::c3::t3)).length<=11:=ai
      rw [aiQ] at kg;replace kg:w5.ownsRow w.heap.size 39 4 v5 (hU a b::lr (b::c3::t3)).length (aq (hU a b::lr (b::c3::t3))):=kg;generalize hU a b::lr (b::c3::t3)=half at*
      obtain ⟨A5,c5,rfl,DX⟩:=ak kg;clear aiQ k0 k1 k2 k3 zK NZ kg;have abZ:True:=trivial;go_wp2_with (first|(at_builtin;have _t:=abZ;refine dm (w0:=w) rfl _ _ rfl (.slice (some ⟨w5.heap.size,0,none⟩) 0 0) 0 [] rfl (bS cI _ _ 4 0 #[] _ ag rfl rfl aa) (cI.alloc _) A5 _ c5 half rfl (DX.ext ((xZ w5).alloc _)) aa ?_;intro v6 w6 vD oy QW hb6;have qB:Ext w5 w6:=((xZ w5).alloc _).grown QW (fun k hk=>by simp [Value.ownBlock] at hk;omega);have atP:w6.ownsRow w.heap.size 39 4 v6 half.length (aq half):=(sU vD);clear abZ vD QW hb6)|(at_builtin;refine dm (w0:=w) rfl _ _ rfl _ half.length half rfl atP oy A5 _ c5 half rfl (DX.ext qB) aa ?_;intro v7 w7 DY gG hg7 Mc))
      go_ret
      exact ⟨_,rfl,by rw [HM.u,lA];exact DY,gG⟩
theorem nC:∀(n:Nat) (A:OA) (c:Nat) (way:List Int) (w:World),n<=2000000000000->Rd w w.heap.size 1 A n (aD way)->n<=c->Calls prog 156 #[.slice A n c] w (LrE w way)
  |0,A,c,way,w,hn,h,hc=>by
    exact BI A 0 c way w h hn hc (fun h2=>absurd h2 aa)
  |n+1,A,c,way,w,hn,h,hc=>BI A (n+1) c way w h hn hc (fun _ A' c' agA w' h' uF=>nC n A' c' agA w' aa h' uF)

theorem ab0 {w:World} {B:Nat} {ops:Array Oper} {rest:List Oper} {o:Oper} {a:Act} {Q:Exit->Act->World->Prop} (fX:o.guard=none) (s x:Operand)
  (ho:aO o s x 24) (v:Value) (n:Nat) (xs:List Oq) (hs:a.eval s=v)
  (bj:w.ownsRow B 41 8 v n (aJ xs)) (hB:B<=w.heap.size) (y:Oq) (e:TypeId) (b:Nat) (hx:a.eval x=.slice (some ⟨b,0,none⟩) 1 1) (sg:b=w.heap.size) (hn:n<=1800000000000)
  (h:∀A' c' w',w'.ownsRow B 41 8 (.slice A' (n+1) c') (n+1) (aJ (xs++[y]))->w.grownBy w' v.ownBlock->((Value.slice A' (n+1) c').ownBlock=v.ownBlock\/(Value.slice A' (n+1) c').ownBlock=some (w.heap.size+1))->wpList prog ops Q rest (a.put o.dst (.slice A' (n+1) c')) w'):
  wpList prog ops Q (o::rest) a (w.alloc (cO (jE y) e)):=by
 subst sg;have mW:=jo hB;refine NU (w0:=GP w B) fX s x ho v n xs hs dT ((pI hB).alloc _) _ 1 1 [y] hx (dZ w _ e 8 _ eW eW) aa ?_
 exact tD
theorem Oa {w:World} {B:Nat} {ops:Array Oper} {o:Oper} {a:Act} {K:Act->World->Prop} {Q:Exit->Act->World->Prop} {E:Prop} (fX:o.guard=none) (s x:Operand)
  (ho:aO o s x 24) (v:Value) (n:Nat) (xs:List Oq) (hs:a.eval s=v)
  (bj:w.ownsRow B 41 8 v n (aJ xs)) (hB:B<=w.heap.size) (y:Oq) (e:TypeId) (b:Nat) (hx:a.eval x=.slice (some ⟨b,0,none⟩) 1 1) (sg:b=w.heap.size) (hn:n<=1800000000000)
  (h:∀A' c' w',w'.ownsRow B 41 8 (.slice A' (n+1) c') (n+1) (aJ (xs++[y]))->w.grownBy w' v.ownBlock->((Value.slice A' (n+1) c').ownBlock=v.ownBlock\/(Value.slice A' (n+1) c').ownBlock=some (w.heap.size+1))->K (a.put o.dst (.slice A' (n+1) c')) w'):
  if Region.wanted o (yielded ops a.tmps)=true then Oper.wp prog o a (w.alloc (cO (jE y) e)) K Q else E:=by
 subst sg;have mW:=jo hB;refine NV (w0:=GP w B) fX s x ho v n xs hs dT ((pI hB).alloc _) _ 1 1 [y] hx (dZ w _ e 8 _ eW eW) aa ?_
 exact tD
theorem ab1:(prog.info? 60).map (·.size)=some 4:=af
theorem QX {fn:Func} {p:Tmp} (hf:fn.results=#[.cell p 60]) {W:World} {q:Nat} {z0 z1 z2 z3:Value} (hB:au W q 60 #[z0,z1,z2,z3]) (a b c d:Value) (tmps:Array Value)
  (hp:tmps.getD p undef=.pointer (some ⟨q,0,none⟩)):(results fn tmps).run prog ((((W.setCell (aA q 0) a).setCell (aA q 1) b).setCell (aA q 2) c).setCell (aA q 3) d)=.ok (.agg #[a,b,c,d]) ((((W.setCell (aA q 0) a).setCell (aA q 1) b).setCell (aA q 2) c).setCell (aA q 3) d):=
 pc hf tmps _ q 60 _ (0,0) _ hp (hB.BD a b c d) underlying60 rfl ab1
def DR (w0 w:World) (g s:Nat) (N I B:Int) (A:OA) (len cap:Nat) (xs:List Oq):Prop:=
 au w w0.heap.size 60 #[iI 0,iI 0,iI 0,nS]/\au w s 60 #[iI N,iI I,iI B,.slice A len cap]/\w.ownsRow (w0.heap.size+1) 41 8 (.slice A len cap) len (aJ xs)/\(∀q,(Value.slice A len cap).ownBlock=some q->w0.heap.size+1<=q/\q≠s)/\dQ w g/\w0.grownBy w (some g)
section
variable {w0 w w':World} {g s:Nat} {N I B:Int} {A:OA} {len cap:Nat} {xs:List Oq}
theorem DR.cur (h:DR w0 w g s N I B A len cap xs):dQ w g:=h.2.2.2.2.1
theorem DR.lt (h:DR w0 w g s N I B A len cap xs):s<w.heap.size/\w0.heap.size<w.heap.size:=⟨h.2.1.lt,h.1.lt⟩
theorem DR.grown (h:DR w0 w g s N I B A len cap xs) (hg:w.grownBy w' (some g)) (hC:dQ w' g) (hs:g<s) (hl:g<w0.heap.size):DR w0 w' g s N I B A len cap xs:=by
 exact GU
theorem DR.drew (h:DR w0 w g s N I B A len cap xs):DR w0 w.drew g s N I B A len cap xs:=by
 exact GV
theorem DR.alloc (h:DR w0 w g s N I B A len cap xs) (o:Obj):DR w0 (w.alloc o) g s N I B A len cap xs:=by
 exact GY
theorem DR.ab2 (h:DR w0 w g s N I B A len cap xs) {j:Nat} {N' I' B':Int} (u:Value) (he:(#[iI N,iI I,iI B,.slice A len cap]:Array Value).setIfInBounds j u=#[iI N',iI I',iI B',.slice A len cap]) (hs:w0.heap.size<s) (hl:g<w0.heap.size):DR w0 (w.setCell (aA s j) u) g s N' I' B' A len cap xs:=by
 obtain ⟨h1,h2,h3,h4,h5,h6⟩:=h;refine ⟨h1.cB (p:=(aA s j)) ai _,by have:=h2.aU j u;rwa [he] at this,?_,h4,h5.aU (p:=(aA s j)) ai _,gF h6 (p:=(aA s j)) ai _⟩;refine h3.kept (row:=some s) (cF (kO w (some s)) j _) ?_
 cases hv:(Value.slice A len cap).ownBlock with
 |none=>exact .inl rfl
 |some q=>exact .inr (fun e=>(h4 q hv).2 dB)
theorem DR.cB (h:DR w0 w g s N I B A len cap xs) {t j:Nat} (u:Value) (ht:t≠s) (hw:w0.heap.size<t) (hl:g<w0.heap.size) (hq:∀q,(Value.slice A len cap).ownBlock=some q->q≠t):DR w0 (w.setCell (aA t j) u) g s N I B A len cap xs:=by
 obtain ⟨h1,h2,h3,h4,h5,h6⟩:=h;refine ⟨h1.cB (p:=(aA t j)) ai _,h2.cB (p:=(aA t j)) ai _,?_,h4,h5.aU (p:=(aA t j)) ai _,gF h6 (p:=(aA t j)) ai _⟩;refine h3.kept (row:=some t) (cF (kO w (some t)) j _) ?_
 cases hv:(Value.slice A len cap).ownBlock with
 |none=>exact .inl rfl
 |some q=>exact .inr (fun e=>hq q hv dB)
theorem DR.app {A':OA} {c':Nat} {y:Oq} (h:DR w0 w g s N I B A len cap xs) (hs:w0.heap.size<s) (hl:g<w0.heap.size)
  (ho:w'.ownsRow (w0.heap.size+1) 41 8 (.slice A' (len+1) c') (len+1) (aJ (xs++[y]))) (hg:w.grownBy w' (Value.slice A len cap).ownBlock)
  (hb:(Value.slice A' (len+1) c').ownBlock=(Value.slice A len cap).ownBlock\/(Value.slice A' (len+1) c').ownBlock=some (w.heap.size+1)):
  au w' s 60 #[iI N,iI I,iI B,.slice A len cap]/\DR w0 (w'.setCell (aA s 3) (.slice A' (len+1) c')) g s N I B A' (len+1) c' (xs++[y]):=by
 obtain ⟨h1,h2,h3,h4,h5,h6⟩:=h;have hls:=h2.lt;have hB:=h2.grown hg (fun k hk e=>(h4 k hk).2 e.symm);have h4':∀q,(Value.slice A' (len+1) c').ownBlock=some q->w0.heap.size+1<=q/\q≠s:=by
  exact GZ
 refine ⟨hB,(h1.grown hg (fun k hk e=>oM ((h4 k hk).1))).cB (p:=(aA s 3)) ai _,hB.aU 3 _,?_,h4',(h5.grown hg (fun k hk=>oM ((h4 k hk).1))).aU (p:=(aA s 3)) ai _,gF (GQ h6 hg (fun k hk=>oM ((h4 k hk).1))) (p:=(aA s 3)) ai _⟩;refine ho.kept (row:=some s) (cF (kO w' (some s)) 3 _) ?_
 cases hv:(Value.slice A' (len+1) c').ownBlock with
 |none=>exact .inl rfl
 |some q=>exact .inr (fun e=>(h4' q hv).2 dB)
def BJ (w0:World) (g bE:Nat) (e:Ending) (w':World):Prop:=
 ∃(N I B:Int) (A:OA) (len cap:Nat) (xs:List Oq),e=.returned (.agg #[iI N,iI I,iI B,.slice A len cap])/\(-1<=N/\N<=5/\ -1<=I/\I<=6/\ -1<=B/\B<=4)/\len<=bE/\w'.ownsRow w0.heap.size 41 8 (.slice A len cap) len (aJ xs)/\dQ w' g/\w0.grownBy w' (some g)
theorem DR.done {bE:Nat} (h:DR w0 w g s N I B A len cap xs) (hl:g<w0.heap.size) (hN: -1<=N/\N<=5/\ -1<=I/\I<=6/\ -1<=B/\B<=4) (hm:len<=bE):
  BJ w0 g bE (.returned (.agg #[iI N,iI I,iI B,.slice A len cap])) ((((w.setCell (aA w0.heap.size 0) (iI N)).setCell (aA w0.heap.size 1) (iI I)).setCell (aA w0.heap.size 2) (iI B)).setCell (aA w0.heap.size 3) (.slice A len cap)):=
 ⟨N,I,B,A,len,cap,xs,rfl,hN,hm,aC (bo (bo (bo (bo h.2.2.1 (p:=(aA w0.heap.size 0)) ag _) (p:=(aA w0.heap.size 1)) ag _) (p:=(aA w0.heap.size 2)) ag _) (p:=(aA w0.heap.size 3)) ag _) aa,dQ.BD h.2.2.2.2.1 hl _ _ _ _,tB h.2.2.2.2.2 (lI _) _ _ _ _⟩
def xC (w0:World) (g bE:Nat) (e:Ending) (w':World):Prop:=
 ∃(N I B:Int) (A:OA) (len cap:Nat) (xs:List Oq),e=.returned (.agg #[iI N,iI I,iI B,.slice A len cap])/\(1<=N/\N<=3/\ -1<=I/\I<=6/\ -1<=B/\B<=4)/\len<=bE/\w'.ownsRow w0.heap.size 41 8 (.slice A len cap) len (aJ xs)/\dQ w' g/\w0.grownBy w' (some g)
theorem xC.loose {w0 w':World} {g bE:Nat} {e:Ending} (h:xC w0 g bE e w'):BJ w0 g bE e w':=by
 obtain ⟨N,I,B,A,len,cap,xs,e1,hN,r⟩:=h
 exact ⟨N,I,B,A,len,cap,xs,e1,aa,r⟩
theorem DR.aoI {bE:Nat} (h:DR w0 w g s N I B A len cap xs) (hl:g<w0.heap.size) (hN:1<=N/\N<=3/\ -1<=I/\I<=6/\ -1<=B/\B<=4) (hm:len<=bE):
  xC w0 g bE (.returned (.agg #[iI N,iI I,iI B,.slice A len cap])) ((((w.setCell (aA w0.heap.size 0) (iI N)).setCell (aA w0.heap.size 1) (iI I)).setCell (aA w0.heap.size 2) (iI B)).setCell (aA w0.heap.size 3) (.slice A len cap)):=
 ⟨N,I,B,A,len,cap,xs,rfl,hN,hm,aC (bo (bo (bo (bo h.2.2.1 (p:=(aA w0.heap.size 0)) ag _) (p:=(aA w0.heap.size 1)) ag _) (p:=(aA w0.heap.size 2)) ag _) (p:=(aA w0.heap.size 3)) ag _) aa,dQ.BD h.2.2.2.2.1 hl _ _ _ _,tB h.2.2.2.2.2 (lI _) _ _ _ _⟩
end
end Go.Proofs.YtodhjgngkkcjgaaGreatDoor
