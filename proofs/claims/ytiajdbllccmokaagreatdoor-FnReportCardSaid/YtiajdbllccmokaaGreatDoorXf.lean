import Derived.Test.YtiajdbllccmokaaGreatDoorXd
import Derived.Test.YtiajdbllccmokaaGreatDoorXb
import Derived.Test.YtiajdbllccmokaaGreatDoorXc
import Derived.Test.YtiajdbllccmokaaGreatDoorXe
namespace Go.Proofs.YtiajdbllccmokaaGreatDoor
open Go.ChangeShapes Go.WideShapes Go.ChangeAt Go.RowKit Go.Deep Go.Proofs.Tryz
set_option linter.unusedVariables false
set_option linter.unusedSimpArgs false
set_option maxRecDepth 100000
set_option maxHeartbeats 16000000
def qs (g:Gt):List Int:=[g.a,g.b,g.c]
def IP (g:Gt) (n:Int) (i:Nat) (q:Int):Bool:=
 if ar g.k<=i then q==0 else decide (0<=q) && decide (q<=n - 1) && !(((qs g).take i).contains q)
def vg (g:Gt) (n:Int):Bool:=decide (1<=n) && decide (n<=4) && decide (0<ar g.k) && IP g n 0 g.a && IP g n 1 g.b && IP g n 2 g.c
theorem aix {g:Gt} {k:Nat} (h:k<3):∃q,(qs g)[k]?=some q:=by
 rcases (aa:k=0\/k=1\/k=2) with rfl|rfl|rfl<;>exact ⟨_,rfl⟩
theorem ad8 {g:Gt} {n:Int} {k:Nat} {q:Int} (h:(qs g)[k]?=some q) (hk:IP g n k q=false):vg g n=false:=by
 have NA:k<3:=vt
 rcases (aa:k=0\/k=1\/k=2) with rfl|rfl|rfl<;>(simp [qs] at h;subst h;unfold vg;simp [hk])
theorem aiy {g:Gt} {n:Int} (h:n<1\/4<n):vg g n=false:=by
 unfold vg;rcases h with h|h
 ·have:decide (1<=n)=false:=aj
  simp [this]
 ·have:decide (n<=4)=false:=aj
  simp [this]
theorem anK {g:Gt} {n:Int} (h:ar g.k=0):vg g n=false:=by
 unfold vg;simp [h]
theorem PY {g:Gt} {n:Int} (h1:1<=n) (h2:n<=4) (h3:0<ar g.k) (h:∀i q,(qs g)[i]?=some q->IP g n i q=true):vg g n=true:=by
 unfold vg;rw [h 0 g.a rfl,h 1 g.b rfl,h 2 g.c rfl];simp [h1,h2,h3]
theorem UQ {g:Gt} {n:Int} {i:Nat} {q:Int} (h:ar g.k<=i):IP g n i q=(q==0):=aX h
theorem vJ {g:Gt} {n:Int} {i:Nat} {q:Int} (h:¬ar g.k<=i):IP g n i q=(decide (0<=q) && decide (q<=n - 1) && !(((qs g).take i).contains q)):=aK h
theorem al6 {g:Gt} {n:Int} {i:Nat} {q:Int} (h:¬ar g.k<=i) (hr:q<0\/n - 1<q):IP g n i q=false:=by
 rw [vJ h];rcases hr with hr|hr
 ·have e:decide (0<=q)=false:=aj
  simp [e]
 ·have e:decide (q<=n - 1)=false:=aj
  simp [e]
def zX (g:Gt) (k:Nat) (x:Int):Bool:=((qs g).take (min k (ar g.k).toNat)).contains x
theorem aiz {g:Gt} {k:Nat} (h:ar g.k<=k):zX g (k+1)=zX g k:=by
 funext x;unfold zX;rw [show min (k+1) (ar g.k).toNat=min k (ar g.k).toNat from aa]
theorem aiA {g:Gt} {k:Nat} {q:Int} (h:¬ar g.k<=k) (hq:(qs g)[k]?=some q):zX g (k+1)=fun z=>z==q||zX g k z:=by
 funext x;unfold zX;rw [show min (k+1) (ar g.k).toNat=k+1 from aa,show min k (ar g.k).toNat=k from aa,aL hq];rw [Ca];simp;constructor
 ·rintro (h|h)
  ·exact .inr h
  ·exact .inl h
 ·rintro (h|h)
  ·exact .inr h
  ·exact .inl h
theorem ad9 {g:Gt} {k:Nat} (h:¬ar g.k<=k) (x:Int):zX g k x=((qs g).take k).contains x:=by
 unfold zX;rw [show min k (ar g.k).toNat=k from aa]
def pa (g:Gt):List Int:=(qs g).take (ar g.k).toNat
theorem xN (g:Gt):(pa g).length=(ar g.k).toNat:=by
 have:=fY g.k;unfold pa qs;rw [lT];simp;omega
theorem zf {w:World} {B size n m:Nat} {A:OA} {xs:List Value} (h:Rd w B size A n xs) (hm:m<=n):Rd w B size A m (xs.take (m*size)):=by
 refine ⟨?_,fun h0=>?_⟩
 ·rw [lT,h.1];have:=Ip size hm;omega
 ·obtain ⟨b,o,e,hb,hc⟩:=h.2 aa
  exact ⟨b,o,e,hb,fun j u hu=>hc j u (by
   have hj:j<m*size:=by
    have:=(gU.1 hu).1;rw [lT] at this;omega
   rwa [zK hj] at hu)⟩
theorem sP (xs:List Int) (m:Nat):(aG xs).take (m*1)=aG (xs.take m):=by
 rw [yT]
 induction xs generalizing m with
 |nil=>simp
 |cons x xs ih=>
  cases m with
  |zero=>simp
  |succ m=>simp [xF,fK,<-ih m]
def fC (xs:List Int) (y:Int):Bool:=xs.contains y
theorem dv (A:OA) (n c:Nat) (xs:List Int) (y:Int) (w:World) (h:Rd w w.heap.size 1 A n (aG xs)) (hn:n<=2000000000000):
  Calls prog 81 #[.slice A n c,iI y] w fun e w'=>e=.returned (.bool (fC xs y))/\w=w':=by
 have hlen:=hY (h.len bO aa);go_enter func81,ntmps81;go_wp2
 go_loop [5] (fun i=>∃k:Nat,k<=n/\i=iI k/\Hid ((xs.take k).contains y=false)) (fun i=>n - (intOf i).toNat)
 case atStart=>exact ⟨0,lJ _,rfl,hY ag⟩
 case round=>
  obtain ⟨k,hk,rfl,HQ⟩:=hrel
  by_cases bh:k<n
  ·obtain ⟨b,o,x,rfl,hb,hx,h0⟩:=eT h bh;have HG:=hY hx;clear hx
   cases he:(x==y)
   ·go_wp2;go_round
    case rel=>exact ⟨k+1,aa,az,hY (by
     rw [aL HG.u,BQ];have:=HQ.u;rw [BQ] at this;simp at this he |-
     exact ⟨this,fun e=>he e.symm⟩)⟩
    case measure=>simp [intOf];omega
   ·have HF:Hid (fC xs y=true):=by
     unfold Hid fC;rw [BQ];simp at he |-;subst he
     exact lG HG.u
    go_wp2;go_ret
    exact ⟨aT HF.u.symm,rfl⟩
  ·rw [lE bN] at HQ;go_wp2;go_ret
   exact ⟨aT (show false=fC xs y from HQ.u.symm),rfl⟩
theorem fz (g:Gt) (w:World):
  Calls prog 86 #[g.val] w fun e w'=>∃v,e=.returned v/\w'.ownsRow w.heap.size 3 1 v (pa g).length (aG (pa g))/\Ext w w':=by
 obtain ⟨gF,iH⟩:=fY g.k;have HL:=hY (xN g);obtain ⟨a,hA⟩:=lD gF;have HA:=hY hA;have ha:a<=3:=aa
 clear hA gF iH;go_enter func86,ntmps86;go_wp2_with fail;refine (aY _ _).mono ?_;rintro e w1 ⟨rfl,rfl⟩;rw [HA.u];have hq:pa g=(qs g).take a:=by unfold pa;rw [HA.u];rfl
 have HQ:=hY hq;clear hq;have hR:=fN (w.alloc (cO (gA g) 54)) #[iI g.a,iI g.b,iI g.c] (w.heap.size+1) 3 3 1 (aG (qs g)) ag rfl rfl;have hR2:=zf hR ha;rw [sP,<-HQ.u] at hR2;have hR3:=hR2.ext ((xZ _).alloc (cO #[] 3));clear hR hR2;have hl:(pa g).length=a:=by rw [HL.u,HA.u];rfl
 have Bn:=hY hl;clear hl;go_wp2_with (at_builtin;go_loud (refine my (w0:=w) rfl _ _ rfl _ 0 [] rfl (bL aD _ _ 1 0 #[] _ ag rfl rfl aa) xx _ a 3 (pa g) rfl hR3 aa ?_);intro v1 w1 eF aS vH mS)
 go_ret
 exact ⟨v1,rfl,by rw [Bn.u];simpa using eF,aS⟩
def gQ (g:Gt) (q:Int):Bool:=fC (pa g) q
theorem bu (g:Gt) (q:Int) (w:World):
  Calls prog 161 #[g.val,iI q] w fun e w'=>e=.returned (.bool (gQ g q))/\Ext w w':=by
 obtain ⟨gF,iH⟩:=fY g.k;have HL:=hY (xN g);go_enter func161,ntmps161;go_wp2_with fail;refine (fz g _).mono ?_;rintro e w1 ⟨v,rfl,ho,hx⟩;obtain ⟨A,c,rfl,hr⟩:=au ho;replace hx:Ext w w1:=Ext.trans aD hx;clear ho;go_wp2_with fail;refine (dv A _ c (pa g) q _ hr (oM HL.u)).mono ?_;rintro e w2 ⟨rfl,rfl⟩;go_wp2;go_ret
 exact ⟨rfl,hx⟩
structure Pa where
 n:Int
 x:Int
 z:Int
 p:Int
abbrev jF (x:Pa):Array Value:=#[iI x.n,iI x.x,iI x.z,iI x.p]
def P0:Pa:=⟨0,0,0,0⟩
def pw (q:Int):Int:=2 ^ q.toNat
def pE (n:Int):Int:=pw n - 1
def pb (v:Int):Int:=v % 2+v / 2 % 2+v / 4 % 2+v / 8 % 2
def FL (a b:Int):Int:=bits .xor .i64 a b
def kd (a b:Int):Int:=bits .and .i64 a b
def zY (a b:Int):Int:=bits .or .i64 a b
def Ct (x q:Int):Bool:=kd (x / 2 ^ q.toNat) 1==1
def gS (p:Pa):Bool:=decide (1<=p.n) && decide (p.n<=4) && (decide (0<=p.x) && decide (p.x<=pE p.n)) && (decide (0<=p.z) && decide (p.z<=pE p.n)) && (decide (0<=p.p) && decide (p.p<=3))
def aac (a b:Pa):Pa:=⟨a.n,FL a.x b.x,FL a.z b.z,(a.p+b.p+2*pb (kd a.z b.x)) % 4⟩
def mulR (a b:Pa):Pa:=if (gS a && gS b && a.n==b.n)=true then aac a b else P0
def comm (a b:Pa):Bool:=(pb (kd a.x b.z)+pb (kd a.z b.x)) % 2==0
def FM (p:Pa):Bool:=gS p && (p.p % 2==pb (kd p.x p.z) % 2)
def PZ (a b:Pa):Bool:=a.n==b.n && a.x==b.x && a.z==b.z && a.p==b.p
theorem UR (a:Pa):PZ a a=true:=by simp [PZ]
theorem ari {q:Int} (h0:0<=q) (h3:q<=3):1<=pw q/\pw q<=8:=by
 rcases (show q=0\/q=1\/q=2\/q=3 by omega) with rfl|rfl|rfl|rfl<;>decide
theorem US {n:Int} (h0:1<=n) (h4:n<=4):1<=pE n/\pE n<=15:=by
 rcases (show n=1\/n=2\/n=3\/n=4 by omega) with rfl|rfl|rfl|rfl<;>decide
theorem nib (v:Int) (h0:0<=v) (h1:v<=15):∃k:Fin 16,v=(k.val:Int):=⟨⟨v.toNat,aa⟩,aj⟩
theorem aad:∀a b:Fin 16,0<=kd a.val b.val/\kd a.val b.val<=15:=ae
theorem xO {a b:Int} (ha:0<=a/\a<=15) (hb:0<=b/\b<=15):0<=kd a b/\kd a b<=15:=by
 obtain ⟨k,rfl⟩:=nib a ha.1 ha.2;obtain ⟨m,rfl⟩:=nib b hb.1 hb.2
 exact aad k m
theorem Bo {v:Int} (h0:0<=v) (h1:v<=15):0<=pb v/\pb v<=4:=by unfold pb;omega
theorem IQ {p:Pa}:gS p=true ↔ (1<=p.n/\p.n<=4)/\(0<=p.x/\p.x<=pE p.n)/\(0<=p.z/\p.z<=pE p.n)/\(0<=p.p/\p.p<=3):=by
 unfold gS;simp only [lF,lu];constructor
 ·rintro ⟨⟨⟨⟨a,b⟩,c⟩,d⟩,e⟩;exact ⟨⟨a,b⟩,c,d,e⟩
 ·rintro ⟨⟨a,b⟩,c,d,e⟩;exact ⟨⟨⟨⟨a,b⟩,c⟩,d⟩,e⟩
theorem aea {p:Pa} (h:¬((1<=p.n/\p.n<=4)/\(0<=p.x/\p.x<=pE p.n)/\(0<=p.z/\p.z<=pE p.n)/\(0<=p.p/\p.p<=3))):gS p=false:=by
 cases e:gS p with
 |false=>rfl
 |true=>exact absurd (IQ.1 e) h
theorem xP {p:Pa} (h:gS p=true):(0<=p.x/\p.x<=15)/\(0<=p.z/\p.z<=15)/\(0<=p.p/\p.p<=3)/\(1<=p.n/\p.n<=4):=by
 obtain ⟨h1,h2,h3,h4⟩:=IQ.1 h;have:=US h1.1 h1.2
 exact ⟨⟨aa,aa⟩,⟨aa,aa⟩,h4,h1⟩
theorem UT {p:Pa} (h:FM p=true):gS p=true:=by unfold FM at h;simp at h;exact h.1
def cD (g:Gt):Bool:=decide (0<ar g.k) && !(g.k==7) && !(g.k==8) && !(g.k==12)
def dO (g:Gt) (q:Int):Bool:=q==g.a
def KU (g:Gt) (q:Int):Bool:=ar g.k==2 && q==g.b
def ui (n:Int) (g:Gt) (q:Int):Pa:=
 if (dO g q||KU g q)=false then ⟨n,pw q,0,0⟩
 else if g.k=2\/g.k=3 then ⟨n,pw q,0,2⟩
 else if g.k=4 then ⟨n,0,pw q,0⟩
 else if g.k=5 then ⟨n,pw q,pw q,1⟩
 else if g.k=6 then ⟨n,pw q,pw q,3⟩
 else if g.k=9 then (if dO g q=true then ⟨n,zY (pw q) (pw g.b),0,0⟩ else ⟨n,pw q,0,0⟩)
 else if g.k=10 then ⟨n,pw q,if dO g q=true then pw g.b else pw g.a,0⟩
 else if g.k=11 then ⟨n,if dO g q=true then pw g.b else pw g.a,0,0⟩
 else ⟨n,pw q,0,0⟩
def uj (n:Int) (g:Gt) (q:Int):Pa:=
 if (dO g q||KU g q)=false then ⟨n,0,pw q,0⟩
 else if g.k=1\/g.k=2 then ⟨n,0,pw q,2⟩
 else if g.k=4 then ⟨n,pw q,0,0⟩
 else if g.k=9 then (if dO g q=true then ⟨n,0,pw q,0⟩ else ⟨n,0,zY (pw q) (pw g.a),0⟩)
 else if g.k=11 then ⟨n,0,if dO g q=true then pw g.b else pw g.a,0⟩
 else ⟨n,0,pw q,0⟩
def cjX (p:Pa) (g:Gt) (q:Int) (o:Pa):Pa:=if Ct p.x q=true then mulR o (ui p.n g q) else o
def Zp (p:Pa) (g:Gt) (q:Int) (o:Pa):Pa:=if Ct p.z q=true then mulR o (uj p.n g q) else o
def Zq (p:Pa) (g:Gt):Nat->Pa
 |0=>⟨p.n,0,0,p.p⟩
 |k+1=>Zp p g k (cjX p g k (Zq p g k))
def rD (p:Pa) (g:Gt):Bool:=gS p && vg g p.n && cD g
def cj (p:Pa) (g:Gt):Pa:=if rD p g=true then Zq p g p.n.toNat else P0
def jS (n:Int) (rs:List Pa) (k:Nat):Bool:=
 match rs[k]? with
 |none=>true
 |some p=>p.n==n && FM p && (List.range k).all fun i=>match rs[i]? with
  |none=>true
  |some x=>comm x p !=decide ((k:Int)=i+n)
def mB (n:Int) (rs:List Pa):Bool:=decide (1<=n) && decide (n<=4) && ((rs.length:Int)==2*n) && (List.range rs.length).all (jS n rs)
def RE (n:Nat):List Pa:=(List.range n).map (fun q=>⟨n,pw q,0,0⟩)++(List.range n).map (fun q=>⟨n,0,pw q,0⟩)
def fa (n:Int) (rs:List Pa) (g:Gt):Option (List Pa):=if (mB n rs && rs.all fun p=>rD p g)=true then some (rs.map fun p=>cj p g) else none
def rH (n:Int) (gs:List Gt):Option (List Pa):=gs.foldl (fun t g=>t.bind fun rs=>fa n rs g) (some (RE n.toNat))
abbrev Pa.val (x:Pa):Value:=.agg #[iI x.n,iI x.x,iI x.z,iI x.p]
def Pa.cells (x:Pa):List Value:=[iI x.n,iI x.x,iI x.z,iI x.p]
abbrev aV (xs:List Pa):List Value:=xs.flatMap Pa.cells
theorem Pa.aE (x:Pa):x.cells.length=4:=rfl
theorem fD {w:World} {B n i:Nat} {A:OA} {xs:List Pa} (h:Rd w B 4 A n (aV xs)) (hi:i<n):
  ∃b o x,A=some ⟨b,o,none⟩/\b<B/\xs[i]?=some x/\w.cell? (aA b (o+i*4))=some (iI x.n)/\w.cell? (aA b (o+i*4+1))=some (iI x.x)/\w.cell? (aA b (o+i*4+2))=some (iI x.z)/\w.cell? (aA b (o+i*4+3))=some (iI x.p):=by
 obtain ⟨b,o,x,rfl,hb,hx,hc⟩:=jO Pa.aE aa h hi
 exact ⟨b,o,x,rfl,hb,hx,hc 0 _ rfl,hc 1 _ rfl,hc 2 _ rfl,hc 3 _ rfl⟩
theorem GF:(prog.info? 187).map (fun i=>(i.zero,i.size,i.bytes))=some (some (.agg zO),4,32):=af
theorem Pa.one (xs:List Pa):∀u∈aV xs,u.oneCell'=true:=by
 intro u hu;obtain ⟨x,_,hx⟩:=sH.1 hu;simp [Pa.cells] at hx;rcases hx with rfl|rfl|rfl|rfl<;>rfl
theorem zg {w0 w:World} {ops:Array Oper} {rest:List Oper} {o:Oper} {a:Act} {Q:Exit->Act->World->Prop} (fx:o.guard=none) (s x:Operand)
  (ho:aO o s x 145) (v:Value) (n:Nat) (xs:List Pa) (hs:a.eval s=v)
  (bc:w.ownsRow w0.heap.size 187 4 v n (aV xs)) (cH:Ext w0 w) (A:OA) (m c:Nat) (ys:List Pa) (hx:a.eval x=.slice A m c) (hr:Rd w w.heap.size 4 A m (aV ys)) (hn:n+m<=2000000000000)
  (h:aH w0 w v 187 4 (n+m) (aV (xs++ys)) (wpList prog ops Q rest) a o):wpList prog ops Q (o::rest) a w:=by
 obtain ⟨i0,hi,eX,gX,jK⟩:=iF GF
 exact eL fx s x _ ho 187 i0 _ 4 32 underlying145 hi eX gX jK rfl ae ae v n _ hs bc cH A m c _ hx hr (Pa.one ys) hn (fun v' w' h1=>h v' w' (by unfold aV;rw [lR];exact h1))
theorem Cu {w0 w:World} {ops:Array Oper} {o:Oper} {a:Act} {K:Act->World->Prop} {Q:Exit->Act->World->Prop} {E:Prop} (fx:o.guard=none) (s x:Operand)
  (ho:aO o s x 145) (v:Value) (n:Nat) (xs:List Pa) (hs:a.eval s=v)
  (bc:w.ownsRow w0.heap.size 187 4 v n (aV xs)) (cH:Ext w0 w) (A:OA) (m c:Nat) (ys:List Pa) (hx:a.eval x=.slice A m c) (hr:Rd w w.heap.size 4 A m (aV ys)) (hn:n+m<=2000000000000)
  (h:aH w0 w v 187 4 (n+m) (aV (xs++ys)) K a o):if Region.wanted o (yielded ops a.tmps)=true then Oper.wp prog o a w K Q else E:=by
 obtain ⟨i0,hi,eX,gX,jK⟩:=iF GF
 exact kT fx s x _ ho 187 i0 _ 4 32 underlying145 hi eX gX jK rfl ae ae v n _ hs bc cH A m c _ hx hr (Pa.one ys) hn (fun v' w' h1=>h v' w' (by unfold aV;rw [lR];exact h1))
theorem aiB {w0 w:World} {ops:Array Oper} {rest:List Oper} {o:Oper} {a:Act} {Q:Exit->Act->World->Prop} (fx:o.guard=none) (s x:Operand)
  (ho:aO o s x 145) (v:Value) (n:Nat) (xs:List Pa) (hs:a.eval s=v)
  (bc:w.ownsRow w0.heap.size 187 4 v n (aV xs)) (cH:Ext w0 w) (y:Pa) (e:TypeId) (b:Nat) (hx:a.eval x=.slice (some ⟨b,0,none⟩) 1 1) (qc:b=w.heap.size) (hn:n<=1800000000000)
  (h:∀v' w',w'.ownsRow w0.heap.size 187 4 v' (n+1) (aV (xs++[y]))->Ext w0 w'->(w.alloc (cO (jF y) e)).grownBy w' v.ownBlock->(v'.ownBlock=v.ownBlock\/v'.ownBlock=some (w.heap.size+1))->wpList prog ops Q rest (a.put o.dst v') w'):wpList prog ops Q (o::rest) a (w.alloc (cO (jF y) e)):=by
 subst qc;refine zg fx s x ho v n xs hs (bc.alloc _) (cH.alloc _) _ 1 1 [y] hx (eh w _ e 4 _ ez ez) aa ?_;intro v' w' h1 h2 h3 h4
 exact h v' w' h1 h2 h3 (sU h4)
def sQ (v:Int):Nat->Int
 |0=>0
 |k+1=>sQ v k+kd (v / 2 ^ k) 1
theorem and_one:∀a:Fin 16,kd a.val 1=(a.val:Int) % 2:=ae
theorem UU {v:Int} (h0:0<=v) (h1:v<=15) (k:Nat):0<=kd (v / 2 ^ k) 1/\kd (v / 2 ^ k) 1<=1:=by
 have hp:(0:Int)<2 ^ k:=Int.pow_pos ae;have e0:0<=v / 2 ^ k:=Int.ediv_nonneg h0 (Int.le_of_lt hp);have e1:v / 2 ^ k<=v:=Int.ediv_le_self _ h0;obtain ⟨a,ha⟩:=nib (v / 2 ^ k) e0 aa;rw [ha,and_one a];omega
theorem KV {v:Int} (h0:0<=v) (h1:v<=15):∀k,0<=sQ v k/\sQ v k<=k
 |0=>by simp [sQ]
 |k+1=>by
  have:=KV h0 h1 k;have:=UU h0 h1 k;simp only [sQ];omega
theorem UW:∀a:Fin 16,sQ a.val 64=pb a.val:=ae
theorem kL (v:Int) (w:World) (h0:0<=v) (h1:v<=15):Calls prog 166 #[iI v] w fun e w'=>e=.returned (iI (pb v))/\w=w':=by
 go_enter func166,ntmps166;go_wp2
 go_loop [3,4] (fun s i=>∃k:Nat,k<=64/\i=iI k/\s=iI (sQ v k)) (fun _ i=>64 - (intOf i).toNat)
 case atStart=>exact ⟨0,lJ _,rfl,rfl⟩
 case round=>
  obtain ⟨k,hk,rfl,rfl⟩:=hrel;have hb:=KV h0 h1 k;have hc:=UU h0 h1 k
  by_cases bh:k<64
  ·have HE:Hid (sQ v (k+1)=sQ v k+kd (v / 2 ^ k) 1):=rfl;have hw:IntKind.i64.wrap (sQ v k+bits .and .i64 (v / 2 ^ k) 1)=sQ v k+bits .and .i64 (v / 2 ^ k) 1:=lH _ (by unfold kd at hc;omega);go_wp2;go_round
   case rel=>exact ⟨k+1,aa,az,by rw [HE.u];first|rfl|(unfold kd;go_num)⟩
   case measure=>simp [intOf];omega
  ·have:k=64:=aa
   subst this;obtain ⟨a,rfl⟩:=nib v h0 h1;go_wp2;go_ret
   exact ⟨dZ (UW a),rfl⟩
theorem aeb {p:Pa} (h:p.n<1\/4<p.n):gS p=false:=aea aa
theorem aiC {p:Pa} (h:p.n=1):gS p=(decide (0<=p.x) && decide (p.x<=1) && (decide (0<=p.z) && decide (p.z<=1)) && (decide (0<=p.p) && decide (p.p<=3))):=by
 have e:pE p.n=1:=by rw [h];decide
 unfold gS;rw [e,h];simp
theorem aiD {p:Pa} (h:p.n=2):gS p=(decide (0<=p.x) && decide (p.x<=3) && (decide (0<=p.z) && decide (p.z<=3)) && (decide (0<=p.p) && decide (p.p<=3))):=by
 have e:pE p.n=3:=by rw [h];decide
 unfold gS;rw [e,h];simp
theorem aiE {p:Pa} (h:p.n=3):gS p=(decide (0<=p.x) && decide (p.x<=7) && (decide (0<=p.z) && decide (p.z<=7)) && (decide (0<=p.p) && decide (p.p<=3))):=by
 have e:pE p.n=7:=by rw [h];decide
 unfold gS;rw [e,h];simp
theorem aiF {p:Pa} (h:p.n=4):gS p=(decide (0<=p.x) && decide (p.x<=15) && (decide (0<=p.z) && decide (p.z<=15)) && (decide (0<=p.p) && decide (p.p<=3))):=by
 have e:pE p.n=15:=by rw [h];decide
 unfold gS;rw [e,h];simp
theorem cL {P:Prop} (h:P:=by
 go_ret
 exact ⟨aT (by rw [HV.u];simp;omega),xx⟩):P:=h
theorem Cv {P:Prop} (h:P:=by
 have hnn:n<1\/4<n:=aa
 go_enter func155,ntmps155;go_wp2_with (go_at_call 60;refine (bI _ _ _ _ hnn).mono ?_;rintro e w1 ⟨rfl,rfl⟩)
 go_ret
 exact ⟨aT HF.u.symm,xx⟩):P:=h
theorem cP (p:Pa) (w:World):Calls prog 155 #[p.val] w fun e w'=>e=.returned (.bool (gS p))/\Ext w w':=by
 obtain ⟨n,x,z,c⟩:=p
 by_cases hn:n<1\/4<n
 ·have HF:Hid (gS ⟨n,x,z,c⟩=false):=aeb hn;rcases hn with hn|hn
  ·exact Cv
  ·exact Cv
 rcases (show n=1\/n=2\/n=3\/n=4 by omega) with rfl|rfl|rfl|rfl
 ·have HV:Hid (gS ⟨1,x,z,c⟩=(decide (0<=x) && decide (x<=1) && (decide (0<=z) && decide (z<=1)) && (decide (0<=c) && decide (c<=3)))):=aiC rfl
  by_cases hx:x<0\/1<x
  ·skip;go_enter func155,ntmps155;go_wp2_with (first|(go_at_call 60;(with_reducible refine (aF 1 1 4 _ ae ae).mono ?_);rintro e w1 ⟨rfl,rfl⟩)|(go_at_call 60;(with_reducible refine (bI x 0 1 _ hx).mono ?_);rintro e w1 ⟨rfl,rfl⟩))
   exact cL
  replace hx:0<=x/\x<=1:=aa
  by_cases hz:z<0\/1<z
  ·skip;go_enter func155,ntmps155;go_wp2_with (first|(go_at_call 60;(with_reducible refine (aF 1 1 4 _ ae ae).mono ?_);rintro e w1 ⟨rfl,rfl⟩)|(go_at_call 60;(with_reducible refine (aF x 0 1 _ hx.1 hx.2).mono ?_);rintro e w1 ⟨rfl,rfl⟩)|(go_at_call 60;(with_reducible refine (bI z 0 1 _ hz).mono ?_);rintro e w1 ⟨rfl,rfl⟩))
   exact cL
  replace hz:0<=z/\z<=1:=aa
  by_cases hc:c<0\/3<c
  ·skip;go_enter func155,ntmps155;go_wp2_with (first|(go_at_call 60;(with_reducible refine (aF 1 1 4 _ ae ae).mono ?_);rintro e w1 ⟨rfl,rfl⟩)|(go_at_call 60;(with_reducible refine (aF x 0 1 _ hx.1 hx.2).mono ?_);rintro e w1 ⟨rfl,rfl⟩)|(go_at_call 60;(with_reducible refine (aF z 0 1 _ hz.1 hz.2).mono ?_);rintro e w1 ⟨rfl,rfl⟩)|(go_at_call 60;(with_reducible refine (bI c 0 3 _ hc).mono ?_);rintro e w1 ⟨rfl,rfl⟩))
   exact cL
  replace hc:0<=c/\c<=3:=aa
  go_enter func155,ntmps155;go_wp2_with (first|(go_at_call 60;(with_reducible refine (aF 1 1 4 _ ae ae).mono ?_);rintro e w1 ⟨rfl,rfl⟩)|(go_at_call 60;(with_reducible refine (aF x 0 1 _ hx.1 hx.2).mono ?_);rintro e w1 ⟨rfl,rfl⟩)|(go_at_call 60;(with_reducible refine (aF z 0 1 _ hz.1 hz.2).mono ?_);rintro e w1 ⟨rfl,rfl⟩)|(go_at_call 60;(with_reducible refine (aF c 0 3 _ hc.1 hc.2).mono ?_);rintro e w1 ⟨rfl,rfl⟩))
  exact cL
 ·have HV:Hid (gS ⟨2,x,z,c⟩=(decide (0<=x) && decide (x<=3) && (decide (0<=z) && decide (z<=3)) && (decide (0<=c) && decide (c<=3)))):=aiD rfl
  by_cases hx:x<0\/3<x
  ·skip;go_enter func155,ntmps155;go_wp2_with (first|(go_at_call 60;(with_reducible refine (aF 2 1 4 _ ae ae).mono ?_);rintro e w1 ⟨rfl,rfl⟩)|(go_at_call 60;(with_reducible refine (bI x 0 3 _ hx).mono ?_);rintro e w1 ⟨rfl,rfl⟩))
   exact cL
  replace hx:0<=x/\x<=3:=aa
  by_cases hz:z<0\/3<z
  ·skip;go_enter func155,ntmps155;go_wp2_with (first|(go_at_call 60;(with_reducible refine (aF 2 1 4 _ ae ae).mono ?_);rintro e w1 ⟨rfl,rfl⟩)|(go_at_call 60;(with_reducible refine (aF x 0 3 _ hx.1 hx.2).mono ?_);rintro e w1 ⟨rfl,rfl⟩)|(go_at_call 60;(with_reducible refine (bI z 0 3 _ hz).mono ?_);rintro e w1 ⟨rfl,rfl⟩))
   exact cL
  replace hz:0<=z/\z<=3:=aa
  by_cases hc:c<0\/3<c
  ·skip;go_enter func155,ntmps155;go_wp2_with (first|(go_at_call 60;(with_reducible refine (aF 2 1 4 _ ae ae).mono ?_);rintro e w1 ⟨rfl,rfl⟩)|(go_at_call 60;(with_reducible refine (aF x 0 3 _ hx.1 hx.2).mono ?_);rintro e w1 ⟨rfl,rfl⟩)|(go_at_call 60;(with_reducible refine (aF z 0 3 _ hz.1 hz.2).mono ?_);rintro e w1 ⟨rfl,rfl⟩)|(go_at_call 60;(with_reducible refine (bI c 0 3 _ hc).mono ?_);rintro e w1 ⟨rfl,rfl⟩))
   exact cL
  replace hc:0<=c/\c<=3:=aa
  go_enter func155,ntmps155;go_wp2_with (first|(go_at_call 60;(with_reducible refine (aF 2 1 4 _ ae ae).mono ?_);rintro e w1 ⟨rfl,rfl⟩)|(go_at_call 60;(with_reducible refine (aF x 0 3 _ hx.1 hx.2).mono ?_);rintro e w1 ⟨rfl,rfl⟩)|(go_at_call 60;(with_reducible refine (aF z 0 3 _ hz.1 hz.2).mono ?_);rintro e w1 ⟨rfl,rfl⟩)|(go_at_call 60;(with_reducible refine (aF c 0 3 _ hc.1 hc.2).mono ?_);rintro e w1 ⟨rfl,rfl⟩))
  exact cL
 ·have HV:Hid (gS ⟨3,x,z,c⟩=(decide (0<=x) && decide (x<=7) && (decide (0<=z) && decide (z<=7)) && (decide (0<=c) && decide (c<=3)))):=aiE rfl
  by_cases hx:x<0\/7<x
  ·skip;go_enter func155,ntmps155;go_wp2_with (first|(go_at_call 60;(with_reducible refine (aF 3 1 4 _ ae ae).mono ?_);rintro e w1 ⟨rfl,rfl⟩)|(go_at_call 60;(with_reducible refine (bI x 0 7 _ hx).mono ?_);rintro e w1 ⟨rfl,rfl⟩))
   exact cL
  replace hx:0<=x/\x<=7:=aa
  by_cases hz:z<0\/7<z
  ·skip;go_enter func155,ntmps155;go_wp2_with (first|(go_at_call 60;(with_reducible refine (aF 3 1 4 _ ae ae).mono ?_);rintro e w1 ⟨rfl,rfl⟩)|(go_at_call 60;(with_reducible refine (aF x 0 7 _ hx.1 hx.2).mono ?_);rintro e w1 ⟨rfl,rfl⟩)|(go_at_call 60;(with_reducible refine (bI z 0 7 _ hz).mono ?_);rintro e w1 ⟨rfl,rfl⟩))
   exact cL
  replace hz:0<=z/\z<=7:=aa
  by_cases hc:c<0\/3<c
  ·skip;go_enter func155,ntmps155;go_wp2_with (first|(go_at_call 60;(with_reducible refine (aF 3 1 4 _ ae ae).mono ?_);rintro e w1 ⟨rfl,rfl⟩)|(go_at_call 60;(with_reducible refine (aF x 0 7 _ hx.1 hx.2).mono ?_);rintro e w1 ⟨rfl,rfl⟩)|(go_at_call 60;(with_reducible refine (aF z 0 7 _ hz.1 hz.2).mono ?_);rintro e w1 ⟨rfl,rfl⟩)|(go_at_call 60;(with_reducible refine (bI c 0 3 _ hc).mono ?_);rintro e w1 ⟨rfl,rfl⟩))
   exact cL
  replace hc:0<=c/\c<=3:=aa
  go_enter func155,ntmps155;go_wp2_with (first|(go_at_call 60;(with_reducible refine (aF 3 1 4 _ ae ae).mono ?_);rintro e w1 ⟨rfl,rfl⟩)|(go_at_call 60;(with_reducible refine (aF x 0 7 _ hx.1 hx.2).mono ?_);rintro e w1 ⟨rfl,rfl⟩)|(go_at_call 60;(with_reducible refine (aF z 0 7 _ hz.1 hz.2).mono ?_);rintro e w1 ⟨rfl,rfl⟩)|(go_at_call 60;(with_reducible refine (aF c 0 3 _ hc.1 hc.2).mono ?_);rintro e w1 ⟨rfl,rfl⟩))
  exact cL
 ·have HV:Hid (gS ⟨4,x,z,c⟩=(decide (0<=x) && decide (x<=15) && (decide (0<=z) && decide (z<=15)) && (decide (0<=c) && decide (c<=3)))):=aiF rfl
  by_cases hx:x<0\/15<x
  ·skip;go_enter func155,ntmps155;go_wp2_with (first|(go_at_call 60;(with_reducible refine (aF 4 1 4 _ ae ae).mono ?_);rintro e w1 ⟨rfl,rfl⟩)|(go_at_call 60;(with_reducible refine (bI x 0 15 _ hx).mono ?_);rintro e w1 ⟨rfl,rfl⟩))
   exact cL
  replace hx:0<=x/\x<=15:=aa
  by_cases hz:z<0\/15<z
  ·skip;go_enter func155,ntmps155;go_wp2_with (first|(go_at_call 60;(with_reducible refine (aF 4 1 4 _ ae ae).mono ?_);rintro e w1 ⟨rfl,rfl⟩)|(go_at_call 60;(with_reducible refine (aF x 0 15 _ hx.1 hx.2).mono ?_);rintro e w1 ⟨rfl,rfl⟩)|(go_at_call 60;(with_reducible refine (bI z 0 15 _ hz).mono ?_);rintro e w1 ⟨rfl,rfl⟩))
   exact cL
  replace hz:0<=z/\z<=15:=aa
  by_cases hc:c<0\/3<c
  ·skip;go_enter func155,ntmps155;go_wp2_with (first|(go_at_call 60;(with_reducible refine (aF 4 1 4 _ ae ae).mono ?_);rintro e w1 ⟨rfl,rfl⟩)|(go_at_call 60;(with_reducible refine (aF x 0 15 _ hx.1 hx.2).mono ?_);rintro e w1 ⟨rfl,rfl⟩)|(go_at_call 60;(with_reducible refine (aF z 0 15 _ hz.1 hz.2).mono ?_);rintro e w1 ⟨rfl,rfl⟩)|(go_at_call 60;(with_reducible refine (bI c 0 3 _ hc).mono ?_);rintro e w1 ⟨rfl,rfl⟩))
   exact cL
  replace hc:0<=c/\c<=3:=aa
  go_enter func155,ntmps155;go_wp2_with (first|(go_at_call 60;(with_reducible refine (aF 4 1 4 _ ae ae).mono ?_);rintro e w1 ⟨rfl,rfl⟩)|(go_at_call 60;(with_reducible refine (aF x 0 15 _ hx.1 hx.2).mono ?_);rintro e w1 ⟨rfl,rfl⟩)|(go_at_call 60;(with_reducible refine (aF z 0 15 _ hz.1 hz.2).mono ?_);rintro e w1 ⟨rfl,rfl⟩)|(go_at_call 60;(with_reducible refine (aF c 0 3 _ hc.1 hc.2).mono ?_);rintro e w1 ⟨rfl,rfl⟩))
  exact cL
theorem gY:(prog.info? 187).map (·.size)=some 4:=af
def qh (a b:Pa) (e:Ending):Prop:=e=.returned (.tuple #[(mulR a b).val,.bool (gS a && gS b && a.n==b.n)])
theorem UX {a b:Int} (h:0<=a) (k:0<=b):(a % 2==b % 2)=((a+b) % 2==0):=by
 by_cases e:a % 2=b % 2
 ·have:(a+b) % 2=0:=aa
  rw [dc.2 e,dc.2 this]
 ·have:¬(a+b) % 2=0:=aa
  rw [zP.2 e,zP.2 this]
theorem aae {a b:Pa} (h:(gS a && gS b && a.n==b.n)=false):mulR a b=P0:=by unfold mulR;rw [h];rfl
theorem UY {a b:Pa} (h:(gS a && gS b && a.n==b.n)=true):mulR a b=aac a b:=by unfold mulR;rw [aX h]
theorem GG {a b:Pa} {e:Ending} (h:(gS a && gS b && a.n==b.n)=false) (he:e=.returned (.tuple #[P0.val,.bool false])):qh a b e:=by
 unfold qh;rw [he,aae h,h]
theorem NQ {a b:Pa} {e:Ending} (h:(gS a && gS b && a.n==b.n)=true) (he:e=.returned (.tuple #[(aac a b).val,.bool true])):qh a b e:=by
 unfold qh;rw [he,UY h,h]
theorem Cw {P:Prop} (h:P:=by
 obtain ⟨⟨a0,a1,a2,a3⟩,z0,z1,z2,z3⟩:=aB iL.u;go_wp2
 exact bR (v:=.tuple #[P0.val,.bool false]) (bF rfl _ _ _ _ _ _ _ rfl rfl (iL.u.bP (iI 0) (iI 0) (iI 0) (iI 0)) underlying187 rfl gY) rfl ⟨GG HN.u rfl,br (g:=w.heap.size+1+1) kj.u aa _ _ _ _⟩):P:=h
theorem dw (a b:Pa) (w:World):Calls prog 156 #[a.val,b.val] w fun e w'=>qh a b e/\Ext w w':=by
 go_enter func156,ntmps156;go_wp2_with fail;refine (cP a _).mono ?_;rintro e w1 ⟨rfl,aS⟩;have mI:Hid (ay w1 (w.heap.size+2) 187 zO):=(ay.newAt (b:=w.heap.size+2) ag).ext aS;have HA1:Hid (ay w1 w.heap.size 187 (jF a)):=(((ay.new w _ _).alloc _).alloc _).ext aS;have ie:Hid (ay w1 (w.heap.size+1) 187 (jF b)):=((ay.newAt (b:=w.heap.size+1) ag).alloc _).ext aS;have dk:Hid (Ext w w1):=Ext.trans aD aS;clear aS
 cases ha:gS a
 ·have HN:Hid ((gS a && gS b && a.n==b.n)=false):=by unfold Hid;rw [ha];rfl
  clear ha;obtain ⟨⟨a0,a1,a2,a3⟩,z0,z1,z2,z3⟩:=aB mI.u;go_wp2
  exact bR (v:=.tuple #[P0.val,.bool false]) (bF rfl _ _ _ _ _ _ _ rfl rfl (mI.u.bP (iI 0) (iI 0) (iI 0) (iI 0)) underlying187 rfl gY) rfl ⟨GG HN.u rfl,br (g:=w.heap.size+1+1) dk.u aa _ _ _ _⟩
 have HVA:=hY ha;clear ha;obtain ⟨⟨b0,b1,b2,b3⟩,_⟩:=aB ie.u;go_wp2_with fail;refine (cP b _).mono ?_;rintro e w2 ⟨rfl,bH⟩;clear b0 b1 b2 b3;have iL:=hY (mI.u.ext bH);have HA2:=hY (HA1.u.ext bH);have fV:=hY (ie.u.ext bH);have kj:=hY (dk.u.trans bH);clear bH mI HA1 ie dk
 cases hb:gS b
 ·have HN:Hid ((gS a && gS b && a.n==b.n)=false):=by unfold Hid;rw [hb,fX];rfl
  clear hb
  exact Cw
 have HVB:=hY hb;clear hb;obtain ⟨⟨b0,b1,b2,b3⟩,_⟩:=aB fV.u;obtain ⟨⟨c0,c1,c2,c3⟩,_⟩:=aB HA2.u
 cases hn:(a.n==b.n)
 ·have HN:Hid ((gS a && gS b && a.n==b.n)=false):=by unfold Hid;rw [hn,fX]
  have hn':(a.n !=b.n)=true:=kJ
  clear hn
  exact Cw
 have HN:Hid ((gS a && gS b && a.n==b.n)=true):=by unfold Hid;rw [HVA.u,HVB.u,hn];rfl
 have hn':(a.n !=b.n)=false:=kJ
 clear hn;obtain ⟨hax,haz,RF,_⟩:=xP HVA.u;obtain ⟨TJ,KE,hbp,_⟩:=xP HVB.u;have hand:=xO haz TJ;have hon:=Bo hand.1 hand.2;have HO:Hid (∀w',Calls prog 166 #[iI (bits .and .i64 a.z b.x)] w' fun e w''=>e=.returned (iI (pb (kd a.z b.x)))/\w'=w''):=fun w'=>kL _ w' hand.1 hand.2
 have HE:Hid ((aac a b).val=.agg #[iI a.n,iI (bits .xor .i64 a.x b.x),iI (bits .xor .i64 a.z b.z),iI ((a.p+b.p+2*pb (kd a.z b.x)) % 4)]):=rfl;generalize pb (kd a.z b.x)=t at*
 have e1:IntKind.i64.wrap (a.p+b.p)=a.p+b.p:=lH _ aa;have e2:IntKind.i64.wrap (2*t)=2*t:=lH _ aa;have e3:IntKind.i64.wrap (a.p+b.p+2*t)=a.p+b.p+2*t:=lH _ aa;have e4:(a.p+b.p+2*t).tmod 4=(a.p+b.p+2*t) % 4:=Ik aa;have e5:IntKind.i64.wrap ((a.p+b.p+2*t) % 4)=(a.p+b.p+2*t) % 4:=lH _ aa;clear hax haz RF TJ KE hbp hand hon;have HK:Hid (∀w',Ext w2 w'->((w'.cell? (aA w.z 0)=some (iI a.n)/\w'.cell? (aA w.z 1)=some (iI a.x)/\w'.cell? (aA w.z 2)=some (iI a.z)/\w'.cell? (aA w.z 3)=some (iI a.p))/\(w'.cell? (aA (w.z+1) 1)=some (iI b.x)/\w'.cell? (aA (w.z+1) 2)=some (iI b.z)/\w'.cell? (aA (w.z+1) 3)=some (iI b.p)))):=fun w' hx=>by
  obtain ⟨⟨q0,q1,q2,q3⟩,_⟩:=aB (HA2.u.ext hx);obtain ⟨⟨r0,r1,r2,r3⟩,_⟩:=aB (fV.u.ext hx)
  exact ⟨⟨q0,q1,q2,q3⟩,r1,r2,r3⟩
 have xi:Hid (∀v0 v1 v2 v3,((((((w2.setCell (aA (w.heap.size+1+1) 0) v0).setCell (aA (w.heap.size+1+1) 1) v1).setCell (aA (w.heap.size+1+1) 2) v2).setCell (aA (w.heap.size+1+1) 3) v3).drew.cell? (aA w.z 0)=some (iI a.n)/\((((w2.setCell (aA (w.heap.size+1+1) 0) v0).setCell (aA (w.heap.size+1+1) 1) v1).setCell (aA (w.heap.size+1+1) 2) v2).setCell (aA (w.heap.size+1+1) 3) v3).drew.cell? (aA w.z 1)=some (iI a.x)/\((((w2.setCell (aA (w.heap.size+1+1) 0) v0).setCell (aA (w.heap.size+1+1) 1) v1).setCell (aA (w.heap.size+1+1) 2) v2).setCell (aA (w.heap.size+1+1) 3) v3).drew.cell? (aA w.z 2)=some (iI a.z)/\((((w2.setCell (aA (w.heap.size+1+1) 0) v0).setCell (aA (w.heap.size+1+1) 1) v1).setCell (aA (w.heap.size+1+1) 2) v2).setCell (aA (w.heap.size+1+1) 3) v3).drew.cell? (aA w.z 3)=some (iI a.p))/\(((((w2.setCell (aA (w.heap.size+1+1) 0) v0).setCell (aA (w.heap.size+1+1) 1) v1).setCell (aA (w.heap.size+1+1) 2) v2).setCell (aA (w.heap.size+1+1) 3) v3).drew.cell? (aA (w.z+1) 1)=some (iI b.x)/\((((w2.setCell (aA (w.heap.size+1+1) 0) v0).setCell (aA (w.heap.size+1+1) 1) v1).setCell (aA (w.heap.size+1+1) 2) v2).setCell (aA (w.heap.size+1+1) 3) v3).drew.cell? (aA (w.z+1) 2)=some (iI b.z)/\((((w2.setCell (aA (w.heap.size+1+1) 0) v0).setCell (aA (w.heap.size+1+1) 1) v1).setCell (aA (w.heap.size+1+1) 2) v2).setCell (aA (w.heap.size+1+1) 3) v3).drew.cell? (aA (w.z+1) 3)=some (iI b.p)))):=fun v0 v1 v2 v3=>by
  obtain ⟨⟨q0,q1,q2,q3⟩,_⟩:=aB ((dh (g:=w.heap.size+1+1) HA2.u aa v0 v1 v2 v3).ext (xZ _).drew);obtain ⟨⟨r0,r1,r2,r3⟩,_⟩:=aB ((dh (g:=w.heap.size+1+1) fV.u aa v0 v1 v2 v3).ext (xZ _).drew)
  exact ⟨⟨q0,q1,q2,q3⟩,r1,r2,r3⟩
 obtain ⟨⟨a0,a1,a2,a3⟩,z0,z1,z2,z3⟩:=aB iL.u;go_wp2
 go_region_held3 (fun w'=>(w'.cell? (aA w.z 0)=some (iI a.n)/\w'.cell? (aA w.z 1)=some (iI a.x)/\w'.cell? (aA w.z 2)=some (iI a.z)/\w'.cell? (aA w.z 3)=some (iI a.p))/\(w'.cell? (aA (w.z+1) 1)=some (iI b.x)/\w'.cell? (aA (w.z+1) 2)=some (iI b.z)/\w'.cell? (aA (w.z+1) 3)=some (iI b.p)))
  (first|(go_keep;done)|(with_reducible exact xi.u _ _ _ _)|(refine HK.u _ ?_;exact xx;done))
  (first|(go_at_call 166;(with_reducible refine (HO.u _).mono ?_);rintro e w5 ⟨rfl,rfl⟩;obtain ⟨⟨y0,y1,y2,y3⟩,x0,x1,x2,x3⟩:=aB (iL.u.ext (xZ w2).drew)))
 go_wp2
 exact bR (v:=.tuple #[.agg #[iI a.n,iI (bits .xor .i64 a.x b.x),iI (bits .xor .i64 a.z b.z),iI ((a.p+b.p+2*t) % 4)],.bool true]) (bF rfl _ _ _ _ _ _ _ rfl rfl ((iL.u.bP (iI a.n) (iI (bits .xor .i64 a.x b.x)) (iI (bits .xor .i64 a.z b.z)) (iI ((a.p+b.p+2*t) % 4))).ext (xZ _).drew) underlying187 rfl gY) rfl ⟨NQ HN.u (by rw [HE.u]),(br (g:=w.heap.size+1+1) kj.u aa _ _ _ _).drew⟩
theorem pZ (a b:Pa) (w:World) (ha:gS a=true) (hb:gS b=true):Calls prog 154 #[a.val,b.val] w fun e w'=>e=.returned (.bool (comm a b))/\Ext w w':=by
 obtain ⟨hax,haz,RF,_⟩:=xP ha;obtain ⟨TJ,KE,hbp,_⟩:=xP hb;have hand:=xO hax KE;have hon:=Bo hand.1 hand.2;have KW:=xO haz TJ;have anL:=Bo KW.1 KW.2;have HO:Hid (∀w',Calls prog 166 #[iI (bits .and .i64 a.x b.z)] w' fun e w''=>e=.returned (iI (pb (kd a.x b.z)))/\w'=w''):=fun w'=>kL _ w' hand.1 hand.2
 have HP:Hid (∀w',Calls prog 166 #[iI (bits .and .i64 a.z b.x)] w' fun e w''=>e=.returned (iI (pb (kd a.z b.x)))/\w'=w''):=fun w'=>kL _ w' KW.1 KW.2
 have HE:Hid (comm a b=((pb (kd a.x b.z)+pb (kd a.z b.x)) % 2==0)):=rfl;generalize pb (kd a.x b.z)=s at*
 generalize pb (kd a.z b.x)=t at*
 have e1:IntKind.i64.wrap (s+t)=s+t:=lH _ aa;have e2:(s+t).tmod 2=(s+t) % 2:=Ik aa;have e3:IntKind.i64.wrap ((s+t) % 2)=(s+t) % 2:=lH _ aa;clear hax haz RF TJ KE hbp hand hon KW anL ha hb;go_enter func154,ntmps154;go_wp2;have HA2:Hid (ay ((w.alloc (cO (jF a) 187)).alloc (cO (jF b) 187)) w.heap.size 187 (jF a)):=(ay.new w _ _).alloc _;have fV:Hid (ay ((w.alloc (cO (jF a) 187)).alloc (cO (jF b) 187)) (w.heap.size+1) 187 (jF b)):=ay.newAt (b:=w.heap.size+1) ag;have kj:Hid (Ext w ((w.alloc (cO (jF a) 187)).alloc (cO (jF b) 187))):=xx;generalize ((w.alloc (cO (jF a) 187)).alloc (cO (jF b) 187))=w2 at*
 have HK:Hid (∀w',Ext w2 w'->((w'.cell? (aA w.z 1)=some (iI a.x)/\w'.cell? (aA w.z 2)=some (iI a.z))/\(w'.cell? (aA (w.z+1) 1)=some (iI b.x)/\w'.cell? (aA (w.z+1) 2)=some (iI b.z)))):=fun w' hx=>by
  obtain ⟨⟨q0,q1,q2,q3⟩,_⟩:=aB (HA2.u.ext hx);obtain ⟨⟨r0,r1,r2,r3⟩,_⟩:=aB (fV.u.ext hx)
  exact ⟨⟨q1,q2⟩,r1,r2⟩
 obtain ⟨⟨q1,q2⟩,r1,r2⟩:=HK.u w2 (xZ _)
 go_region_held3 (fun w'=>(w'.cell? (aA w.z 1)=some (iI a.x)/\w'.cell? (aA w.z 2)=some (iI a.z))/\(w'.cell? (aA (w.z+1) 1)=some (iI b.x)/\w'.cell? (aA (w.z+1) 2)=some (iI b.z)))
  (first|(go_keep;done)|(refine HK.u _ ?_;exact xx;done))
  (first|(go_at_call 166;(with_reducible refine (HO.u _).mono ?_);rintro e w5 ⟨rfl,rfl⟩)|(go_at_call 166;(with_reducible refine (HP.u _).mono ?_);rintro e w5 ⟨rfl,rfl⟩))
 all_goals
  go_wp2;go_ret
  exact ⟨aT HE.u.symm,kj.u.drew⟩
theorem nO (p:Pa) (w:World):Calls prog 153 #[p.val] w fun e w'=>e=.returned (.bool (FM p))/\Ext w w':=by
 have HE:Hid (FM p=(gS p && (p.p % 2==pb (kd p.x p.z) % 2))):=rfl;go_enter func153,ntmps153;go_wp2;have HA2:Hid (ay (w.alloc (cO (jF p) 187)) w.heap.size 187 (jF p)):=ay.new w _ _;have kj:Hid (Ext w (w.alloc (cO (jF p) 187))):=xx;generalize (w.alloc (cO (jF p) 187))=w2 at*
 have HK:Hid (∀w',Ext w2 w'->(w'.cell? (aA w.z 0)=some (iI p.n)/\w'.cell? (aA w.z 1)=some (iI p.x)/\w'.cell? (aA w.z 2)=some (iI p.z)/\w'.cell? (aA w.z 3)=some (iI p.p))):=fun w' hx=>by
  obtain ⟨⟨q0,q1,q2,q3⟩,_⟩:=aB (HA2.u.ext hx)
  exact ⟨q0,q1,q2,q3⟩
 obtain ⟨q0,q1,q2,q3⟩:=HK.u w2 (xZ _)
 cases hv:gS p
 ·have HF:Hid (FM p=false):=by unfold Hid;rw [HE.u,hv];rfl
  refine dm (S:=(fun w'=>w'.cell? (aA w.z 0)=some (iI p.n)/\w'.cell? (aA w.z 1)=some (iI p.x)/\w'.cell? (aA w.z 2)=some (iI p.z)/\w'.cell? (aA w.z 3)=some (iI p.p))) af (HK.u _ (xZ w2).drew) (fun ay4=>?_);refine tq 0 ?_
  (refine iE (rs:=[1]) af ag ?_;refine gV rfl (fun K hK=>?_) iD;go_simp)
  refine (cP p _).mono ?_;rintro e w3 ⟨rfl,kl⟩;replace kl:Ext w2 w3:=Ext.trans (xZ w2).drew kl;rw [hv];refine ov hK (HK.u _ kl) fun ay4=>?_
  refine tq 2 ?_;refine sk 3 ?_;refine sk 4 ?_;refine sk 5 ?_;refine sk 6 ?_;refine sk 7 ?_;refine sk 8 ?_;refine sk 9 ?_;refine sk 10 ?_;refine sk 11 ?_;refine sk 12 ?_;refine sk 13 ?_;refine tq 14 ?_;refine tq 15 ?_;refine dn ?_;go_wp2;go_ret
  exact ⟨aT HF.u.symm,kj.u.trans kl⟩
 have HV:=hY hv;obtain ⟨hax,haz,RF,_⟩:=xP hv;have hand:=xO hax haz;have hon:=Bo hand.1 hand.2;have HO:Hid (∀w',Calls prog 166 #[iI (bits .and .i64 p.x p.z)] w' fun e w''=>e=.returned (iI (pb (kd p.x p.z)))/\w'=w''):=fun w'=>kL _ w' hand.1 hand.2
 rw [hv,kQ] at HE;generalize pb (kd p.x p.z)=t at*
 have e1:IntKind.i64.wrap (p.p+t)=p.p+t:=lH _ aa;have e2:(p.p+t).tmod 2=(p.p+t) % 2:=Ik aa;have e3:IntKind.i64.wrap ((p.p+t) % 2)=(p.p+t) % 2:=lH _ aa;rw [UX RF.1 hon.1] at HE;clear hax haz RF hand hon;have HCV:Hid (∀w',Calls prog 155 #[p.val] w' fun e w''=>e=.returned (.bool true)/\Ext w' w''):=fun w'=>by have:=cP p w';rw [hv] at this;exact this
 clear hv
 go_region_held3 (fun w'=>w'.cell? (aA w.z 0)=some (iI p.n)/\w'.cell? (aA w.z 1)=some (iI p.x)/\w'.cell? (aA w.z 2)=some (iI p.z)/\w'.cell? (aA w.z 3)=some (iI p.p))
  (first|(go_keep;done)|(refine HK.u _ ?_;first|assumption|exact Ext.trans aQ (xZ _).drew))
  (first|(go_at_call 155;(with_reducible refine (HCV.u _).mono ?_);rintro e w5 ⟨rfl,bK⟩;replace bK:Ext w2 w5:=Ext.trans (xZ w2).drew bK)|(go_at_call 166;(with_reducible refine (HO.u _).mono ?_);rintro e w6 ⟨rfl,rfl⟩))
 all_goals
  go_wp2;go_ret
  exact ⟨aT HE.u.symm,kj.u.trans bK⟩
end Go.Proofs.YtiajdbllccmokaaGreatDoor
