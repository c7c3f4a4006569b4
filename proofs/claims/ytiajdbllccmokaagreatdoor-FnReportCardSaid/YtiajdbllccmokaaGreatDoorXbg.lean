import Derived.Test.YtiajdbllccmokaaGreatDoorXba
import Derived.Lib.ItoaLen
namespace Go.Proofs.YtiajdbllccmokaaGreatDoor
open Go.ChangeShapes Go.WideShapes Go.ChangeAt Go.RowKit Go.Deep Go.Proofs.Tryz
set_option linter.unusedVariables false
set_option linter.unusedSimpArgs false
set_option maxRecDepth 100000
set_option maxHeartbeats 16000000
def pU (n bits:Int) (k:Nat) (o:Oq):Bool:=sA o n bits && !(decide ((k:Int)<o.cond)) && (!(o.k==2)||o.bit==(k:Int))
def Tk (n bits:Int) (s:Option Nat) (o:Oq):Option Nat:=
 match s with
 |none=>none
 |some k=>if pU n bits k o=true then some (if (o.k==2)=true then k+1 else k) else none
def EN (n bits:Int) (l:List Oq):Option Nat:=l.foldl (Tk n bits) (some 0)
def lst (l:List Oq) (n bits:Int):Bool:=(EN n bits l).any fun k=>(k:Int)==bits
theorem Tl (n bits:Int) (l:List Oq):l.foldl (Tk n bits) none=none:=by
 induction l with
 |nil=>rfl
 |cons o l ih=>exact ih
theorem Hx {n bits:Int} {l:List Oq} {k:Nat} {o:Oq} (h:l[k]?=some o):EN n bits (l.take (k+1))=Tk n bits (EN n bits (l.take k)) o:=by
 unfold EN;rw [aL h,sG];rfl
theorem Pj {n bits:Int} {l:List Oq} {k j:Nat} {o:Oq} (h:l[k]?=some o) (hk:EN n bits (l.take k)=some j) (ho:pU n bits j o=false):lst l n bits=false:=by
 have h1:=Hx (n:=n) (bits:=bits) h;rw [hk] at h1;have h2:Tk n bits (some j) o=none:=by simp [Tk,ho]
 rw [h2] at h1;have h3:EN n bits l=none:=by
  have e:l=l.take (k+1)++l.drop (k+1):=(qW _ _).symm;unfold EN at h1 |-;rw [e,sG,h1]
  exact Tl _ _ _
 simp [lst,h3]
theorem My {n bits:Int} {l:List Oq} {k j:Nat} {o:Oq} (h:l[k]?=some o) (hk:EN n bits (l.take k)=some j) (ho:pU n bits j o=true):EN n bits (l.take (k+1))=some (if (o.k==2)=true then j+1 else j):=by
 rw [Hx h,hk];simp [Tk,ho]
theorem abN {n bits:Int} {j:Nat} {o:Oq} (h:sA o n bits=false):pU n bits j o=false:=by simp [pU,h]
theorem abO {n bits:Int} {j:Nat} {o:Oq} (h:(j:Int)<o.cond):pU n bits j o=false:=by simp [pU,h]
theorem abP {n bits:Int} {j:Nat} {o:Oq} (h:(o.k==2)=true) (hb:(o.bit==(j:Int))=false):pU n bits j o=false:=by simp [pU,h,hb]
theorem abQ {n bits:Int} {j:Nat} {o:Oq} (hv:sA o n bits=true) (hc:¬(j:Int)<o.cond) (h:(o.k==2)=false):pU n bits j o=true:=by simp [pU,hv,hc,h]
theorem abR {n bits:Int} {j:Nat} {o:Oq} (hv:sA o n bits=true) (hc:¬(j:Int)<o.cond) (hb:(o.bit==(j:Int))=true):pU n bits j o=true:=by simp [pU,hv,hc,hb]
theorem abS {n bits:Int} {l:List Oq} {j:Nat} (h:EN n bits l=some j):lst l n bits=((j:Int)==bits):=by simp [lst,h]
def noA (l:List Oq):Bool:=l.all fun o=>!(o.k==3)
theorem apQ {l:List Oq} {k:Nat} {o:Oq} (h:l[k]?=some o) (ho:(o.k==3)=true):noA l=false:=by
 unfold noA;rw [Gl];intro ha;rw [lO] at ha;have:=ha o (lG h);simp [ho] at this
theorem akO {l:List Oq} {k:Nat} {o:Oq} (h:l[k]?=some o) (hk:noA (l.take k)=true) (ho:(o.k==3)=false):noA (l.take (k+1))=true:=by
 unfold noA at*
 rw [aL h,nX,hk];simp [ho]
def apR (x:Cm):Bool:=rT x.n 1 4 && rT x.bits 0 3 && lst x.ops x.n x.bits
def vC (x:Cm):Bool:=perm x.st && perm x.fin && ((x.st.length:Int)==x.n) && ((x.fin.length:Int)==x.n) && decide (x.ops.length<=1200) && rT x.bits 0 3 && lst x.ops x.n x.bits && noA x.ops
theorem afS {p:List Int} (h:perm p=true):1<=p.length/\p.length<=4:=by
 unfold perm at h;simp at h;omega
theorem JQ {w:World} {B e size n c:Nat} {A:OA} {xs:List Value} (h:w.ownsRow B e size (.slice A n c) n xs):n<=c:=by
 rcases zQ n with h0|h0
 ·omega
 ·obtain ⟨g,_,hc⟩:=kS h h0
  exact hc
def Nc (x:Rt):Bool:=rT x.n 1 4 && rT x.kb 1 x.n && rT x.bits 0 3 && decide (x.ops.length<=120) && lst x.ops x.n x.bits
theorem XY {x lo hi:Int} (h1:lo<=x) (h2:x<=hi):rT x lo hi=true:=by unfold rT;rw [xC h1,xC h2];rfl
theorem XZ {x lo hi:Int} (h:x<lo\/hi<x):rT x lo hi=false:=by
 unfold rT;rcases h with h|h
 ·rw [kP aa];rfl
 ·rw [kP (p:=x<=hi) aa,fX]
theorem Pk {x:Rt} (h:Nc x=true):(1<=x.n/\x.n<=4)/\x.ops.length<=120:=by
 unfold Nc rT at h;simp only [lF,lu] at h;omega
theorem wU {P:Prop} (h:P:=by
 clear hn;go_wp2_with fail;refine (bI _ _ _ _ Hn.u).mono ?_;rintro e wq ⟨rfl,rfl⟩;go_wp2_with fail;go_ret
 exact ⟨aT HF.u.symm,iM.u⟩):P:=h
theorem wV {P:Prop} (h:P:=by
 go_wp2;go_ret
 exact ⟨aT (HI.u.trans HF.u).symm,aS⟩):P:=h
theorem pV (A1:OA) (c1:Nat) (x:Rt) (w:World) (h1:Rd w w.heap.size 8 A1 x.ops.length (aI x.ops)) (s1:x.ops.length<=2000000000000):
  Calls prog 44 #[.agg #[iI x.n,iI x.kb,iI x.bits,.slice A1 x.ops.length c1]] w fun e w'=>e=.returned (.bool (Nc x))/\Ext w w':=by
 have mI:=hY h1;have ke:Hid (Ext w (w.alloc (cO #[iI x.n,iI x.kb,iI x.bits,.slice A1 x.ops.length c1] 26))):=(xZ w).alloc _;have eG:Hid (ay (w.alloc (cO #[iI x.n,iI x.kb,iI x.bits,.slice A1 x.ops.length c1] 26)) w.heap.size 26 #[iI x.n,iI x.kb,iI x.bits,.slice A1 x.ops.length c1]):=ay.new w _ _;go_enter func44,ntmps44;go_upto_region 1 with fail;have iM:=ke;have lq:=eG;clear ke eG;generalize w.alloc (cO #[iI x.n,iI x.kb,iI x.bits,.slice A1 x.ops.length c1] 26)=W1 at*
 obtain ⟨⟨t0,t1,t2,t3⟩,-⟩:=aB lq.u
 by_cases hn:x.n<1\/4<x.n
 ·have Hn:=hY hn;have HF:Hid (Nc x=false):=by unfold Hid Nc;rw [XZ (x:=x.n) hn];simp
  exact wU
 have nM:1<=x.n/\x.n<=4:=⟨aa,aa⟩;have QY:=hY nM;clear hn nM;go_wp2_with fail;refine (aF _ _ _ _ QY.u.1 QY.u.2).mono ?_;rintro e wq ⟨rfl,rfl⟩
 by_cases hn:x.kb<1\/x.n<x.kb
 ·have Hn:=hY hn;have HF:Hid (Nc x=false):=by unfold Hid Nc;rw [XZ (x:=x.kb) hn];simp
  exact wU
 have nM:1<=x.kb/\x.kb<=x.n:=⟨aa,aa⟩;have BO:=hY nM;clear hn nM;go_wp2_with fail;refine (aF _ _ _ _ BO.u.1 BO.u.2).mono ?_;rintro e wq ⟨rfl,rfl⟩
 by_cases hn:x.bits<0\/3<x.bits
 ·have Hn:=hY hn;have HF:Hid (Nc x=false):=by unfold Hid Nc;rw [XZ (x:=x.bits) hn];simp
  exact wU
 have nM:0<=x.bits/\x.bits<=3:=⟨aa,aa⟩;have yx:=hY nM;clear hn nM;go_wp2_with fail;refine (aF _ _ _ _ yx.u.1 yx.u.2).mono ?_;rintro e wq ⟨rfl,rfl⟩
 by_cases hl:120<x.ops.length
 ·have HF:Hid (Nc x=false):=by unfold Hid Nc;rw [kP (p:=x.ops.length<=120) aa];simp
  have Ba:decide ((x.ops.length:Int)>120)=true:=aj
  have Fs:decide ((120:Int)<(x.ops.length:Int))=true:=aj
  go_wp2_with fail;go_ret
  exact ⟨aT HF.u.symm,iM.u⟩
 have hl':x.ops.length<=120:=aa
 have Ba:decide ((x.ops.length:Int)>120)=false:=aj
 have Fs:decide ((120:Int)<(x.ops.length:Int))=false:=aj
 clear hl;have HI:Hid (Nc x=lst x.ops x.n x.bits):=by unfold Hid Nc;rw [XY QY.u.1 QY.u.2,XY BO.u.1 BO.u.2,XY yx.u.1 yx.u.2,xC hl'];rfl
 go_wp2;clear Ba Fs
 go_loopw [3,4] (fun kn i wr=>∃k j:Nat,k<=x.ops.length/\j<=k/\i=iI k/\kn=iI j/\Hid (EN x.n x.bits (x.ops.take k)=some j)/\ay wr w.heap.size 26 #[iI x.n,iI x.kb,iI x.bits,.slice A1 x.ops.length c1]/\Ext w wr) (fun _ i _=>x.ops.length - (intOf i).toNat)
 case atStart=>exact ⟨0,0,lJ _,lJ _,rfl,rfl,hY rfl,lq.u,iM.u⟩
 case round=>
  obtain ⟨k,j,hk,hj,rfl,rfl,HQ,hB,hx⟩:=hrel;have b0:=hB.ck 0;have b2:=hB.ck 2;have b3:=hB.ck 3;have awK:=hB.lt
  by_cases bh:k<x.ops.length
  ·obtain ⟨b,o,g,rfl,hb,hg,h0,h1',h2,h3,h4,h5,h6,h7⟩:=re (mI.u.ext hx) bh;have HG:=hY hg;clear hg;go_wp2_with fail;refine (wK g x.n x.bits _).mono ?_;rintro e w1 ⟨rfl,ki⟩;have hO:ay w1 wr.heap.size 56 (jE g):=(ay.new wr _ _).ext ki;have qp:=(hB.alloc (cO (jE g) 56)).ext ki;have aS:Ext w w1:=Ext.trans (hx.alloc _) ki;clear h0 h1' h2 h3 h4 h5 h6 h7 b0 b2 b3 hB hx ki;have o0:=hO.ck 0;have o6:=hO.ck 6;have o7:=hO.ck 7;clear hO
   cases hv:sA g x.n x.bits
   ·have HF:=hY (Pj HG.u HQ.u (abN hv))
    exact wV
   by_cases hc:(j:Int)<g.cond
   ·have HF:=hY (Pj HG.u HQ.u (abO hc))
    exact wV
   have xG:g.cond<=(j:Int):=aa
   cases h2:(g.k==2)
   ·have HN:=hY (My HG.u HQ.u (abQ hv hc h2));rw [aK fp] at HN;clear hc;go_wp2;go_roundw
    case rel=>exact ⟨k+1,j,aa,aa,az,rfl,HN,qp,aS⟩
    case measure=>simp [intOf];omega
   cases Ub:(g.bit==(j:Int))
   ·have HF:=hY (Pj HG.u HQ.u (abP h2 Ub));have hbn:(g.bit !=(j:Int))=true:=by simp [bne,Ub]
    clear hc
    exact wV
   have HN:=hY (My HG.u HQ.u (abR hv hc Ub));rw [aX h2] at HN;have hbn:(g.bit !=(j:Int))=false:=by simp [bne,Ub]
   clear hc;go_wp2;go_roundw
   case rel=>exact ⟨k+1,j+1,aa,aa,az,az,HN,qp,aS⟩
   case measure=>simp [intOf];omega
  ·rw [lE aa] at HQ;have HF:=hY (abS HQ.u);go_wp2;go_ret
   exact ⟨aT (HI.u.trans HF.u).symm,hx⟩
def JR (k:Nat):ByteArray:=if k=0 then ⟨#[103,97,116,101,115]⟩ else if k=1 then ⟨#[32,116]⟩ else ⟨#[32,116,119,111]⟩
def rep (f g:Nat->Nat):Nat->ByteArray
 |0=>⟨#[]⟩
 |k+1=>rep f g k++JR k++⟨#[32]⟩++num (f k)++⟨#[32]⟩++num (g k)
theorem dK (m:Nat) (hm:m<=1000000000):(num m).size<=21:=by
 have h:=Lib.itoa_length_le (m:Int) aa aa;rw [Lib.itoa_nonneg] at h;unfold num;simpa [ByteArray.size] using h
def pick (a b c:Nat) (k:Nat):Nat:=if k=0 then a else if k=1 then b else c
theorem qN {P:Prop} (h:P:=by
 rw [jt] at this
 exact this):P:=h
theorem EO {P:Prop} (h:P:=by
 have h7:=dx (ri 7) (ju (ai x.ops));have h8:=dx (ri 8) (ju (ai x.ops));unfold gH
 omega):P:=h
theorem EP {P:Prop} (h:P:=by
 have h7:=dx (ri 7) (ai y.ops);have h8:=dx (ri 8) (ai y.ops);unfold gH
 omega):P:=h
theorem rV (v u:Value) (x:Rt) (y:Cm) (w:World) (h:zj w w.heap.size v x) (h':zc w w.heap.size u y) (hx:x.ops.length<=1048576) (hy:y.ops.length<=100000000000) (si:(ai y.ops).length<=1048576) (hp:Pow w) (g:Nat) (hg:prog.globalNamed "internal/strconv.uint64pow10" =some g):
  Calls prog 6 #[v,u] w fun e w'=>e=.returned (.string (rep (pick (ju (ai x.ops)).length (gH (ju (ai x.ops))) (ei cS (ju (ai x.ops)))) (pick (ai y.ops).length (gH (ai y.ops)) (ei cS (ai y.ops))) 3))/\Ext w w':=by
 obtain ⟨A1,c1,rfl,h1⟩:=h;obtain ⟨B1,B2,B3,d1,d2,d3,rfl,k1,k2,k3⟩:=h';clear k2 k3;have H1:=hY h1;have K1:=hY k1;have HP:=hY hp;have HG:=hY hg;have HLX:Hid (∃m,x.ops.length=m):=⟨_,rfl⟩;clear h1 k1 hp hg;go_enter func6,ntmps6;go_upto_region 1 with fail;have eY:ay (w.alloc (cO #[iI x.n,iI x.kb,iI x.bits,.slice A1 x.ops.length c1] 26)) w.heap.size 26 #[iI x.n,iI x.kb,iI x.bits,.slice A1 x.ops.length c1]:=ay.new _ _ _;have hs:(w.alloc (cO #[iI x.n,iI x.kb,iI x.bits,.slice A1 x.ops.length c1] 26)).heap.size=w.heap.size+1:=Array.size_push _;have dC:Ext w (w.alloc (cO #[iI x.n,iI x.kb,iI x.bits,.slice A1 x.ops.length c1] 26)):=(xZ w).alloc _;generalize (w.alloc (cO #[iI x.n,iI x.kb,iI x.bits,.slice A1 x.ops.length c1] 26))=W1 at*
 have qp:ay (W1.alloc (cO #[iI y.n,iI y.bits,.slice B1 y.ops.length d1,.slice B2 y.st.length d2,.slice B3 y.fin.length d3] 29)) W1.heap.size 29 #[iI y.n,iI y.bits,.slice B1 y.ops.length d1,.slice B2 y.st.length d2,.slice B3 y.fin.length d3]:=ay.new _ _ _;rw [hs] at qp;replace eY:=eY.ext ((xZ W1).alloc (cO #[iI y.n,iI y.bits,.slice B1 y.ops.length d1,.slice B2 y.st.length d2,.slice B3 y.fin.length d3] 29));replace dC:=dC.alloc (cO #[iI y.n,iI y.bits,.slice B1 y.ops.length d1,.slice B2 y.st.length d2,.slice B3 y.fin.length d3] 29);clear hs;generalize (W1.alloc (cO #[iI y.n,iI y.bits,.slice B1 y.ops.length d1,.slice B2 y.st.length d2,.slice B3 y.fin.length d3] 29))=Wb at*
 have eG:=hY eY;have ie:=hY qp;clear HLX;have q3:=eY.ck 3;clear eY qp;go_wp2_with fail;refine (il A1 _ c1 x.ops _ (H1.u.ext dC) aa).mono ?_;rintro e w2 ⟨v2,rfl,ep,bH⟩;obtain ⟨A2,c2,rfl,mg⟩:=au ep;clear q3;go_wp2_with fail;refine (pF A2 _ c2 (ai x.ops) _ mg ?_).mono ?_
 ·have:=eZ x.ops x.ops.length;rw [jt] at this;omega
 rintro e w3 ⟨v3,rfl,jm,bT⟩;obtain ⟨A3,c3,rfl,Qo⟩:=au jm;have NC:(ju (ai x.ops)).length<=15*(ai x.ops).length:=Bp _;have SW:(ai x.ops).length<=x.ops.length:=by
  have:=eZ x.ops x.ops.length
  exact qN
 go_wp2_with fail;refine (pG A3 _ c3 (ju (ai x.ops)) _ Qo aa).mono ?_;rintro e w4 ⟨rfl,fe⟩;have hX4:Ext Wb w4:=bH.trans (bT.trans fe);clear ep jm mg Qo bH bT fe;have q2:=(ie.u.ext hX4).ck 2;go_upto_region 2 with fail;have htx:gH (ju (ai x.ops))<=2*(ju (ai x.ops)).length:=by
  exact EO
 have hdx:=dx cS (ju (ai x.ops));generalize xl:(ju (ai x.ops)).length=f0 at*
 generalize Ho:gH (ju (ai x.ops))=f1 at*
 generalize hf2:ei cS (ju (ai x.ops))=f2 at*
 have vS:ay (w4.alloc (cO #[iI f0,iI f1,iI f2] 45)) w4.heap.size 45 #[iI f0,iI f1,iI f2]:=ay.new _ _ _;have ZA:Ext Wb (w4.alloc (cO #[iI f0,iI f1,iI f2] 45)):=hX4.alloc _;have q2:=(ie.u.ext ZA).ck 2;generalize (w4.alloc (cO #[iI f0,iI f1,iI f2] 45))=W5 at*
 generalize w4.heap.size=b5 at*
 clear hX4;go_wp2_with fail;refine (il B1 _ d1 y.ops _ (K1.u.ext (dC.trans ZA)) aa).mono ?_;rintro e w6 ⟨v6,rfl,px,mC⟩;obtain ⟨A6,c6,rfl,Mp⟩:=au px;have akR:(ai y.ops).length<=y.ops.length:=by
  have:=eZ y.ops y.ops.length
  exact qN
 clear q2;go_wp2_with fail;refine (pG A6 _ c6 (ai y.ops) _ Mp aa).mono ?_;rintro e w7 ⟨rfl,gJ⟩;have hX7:Ext W5 w7:=mC.trans gJ;clear px Mp mC gJ;go_upto_region 3 with fail;have vu:=dx cS (ai y.ops);have hty:gH (ai y.ops)<=2*(ai y.ops).length:=by
  exact EP
 have hdy:=dx cS (ai y.ops);generalize ID:(ai y.ops).length=g0 at*
 generalize vH:gH (ai y.ops)=g1 at*
 generalize jL:ei cS (ai y.ops)=g2 at*
 have FP:ay (w7.alloc (cO #[iI g0,iI g1,iI g2] 45)) w7.heap.size 45 #[iI g0,iI g1,iI g2]:=ay.new _ _ _;have hX8:Ext W5 (w7.alloc (cO #[iI g0,iI g1,iI g2] 45)):=hX7.alloc _;generalize (w7.alloc (cO #[iI g0,iI g1,iI g2] 45))=W8 at*
 generalize w7.heap.size=b8 at*
 replace vS:=vS.ext hX8;clear hX7 eG ie H1 K1;go_upto_region 5 with fail;have hB9:ay (W8.alloc (cO #[.string ⟨#[103,97,116,101,115]⟩,.string ⟨#[32,116]⟩,.string ⟨#[32,116,119,111]⟩] 9)) W8.heap.size 9 #[.string ⟨#[103,97,116,101,115]⟩,.string ⟨#[32,116]⟩,.string ⟨#[32,116,119,111]⟩]:=ay.new _ _ _;replace vS:=vS.alloc (cO #[.string ⟨#[103,97,116,101,115]⟩,.string ⟨#[32,116]⟩,.string ⟨#[32,116,119,111]⟩] 9);replace FP:=FP.alloc (cO #[.string ⟨#[103,97,116,101,115]⟩,.string ⟨#[32,116]⟩,.string ⟨#[32,116,119,111]⟩] 9);replace hX8:Ext W5 (W8.alloc (cO #[.string ⟨#[103,97,116,101,115]⟩,.string ⟨#[32,116]⟩,.string ⟨#[32,116,119,111]⟩] 9)):=hX8.alloc _;generalize (W8.alloc (cO #[.string ⟨#[103,97,116,101,115]⟩,.string ⟨#[32,116]⟩,.string ⟨#[32,116,119,111]⟩] 9))=W9 at*
 generalize W8.heap.size=b9 at*
 have hX9:Ext w W9:=dC.trans (ZA.trans hX8);have hPW:Pow W9:=HP.u.ext hX9 g HG.u
 go_loopw [7,21] (fun t i wr=>∃k:Nat,k<=3/\t=.string (rep (pick f0 f1 f2) (pick g0 g1 g2) k)/\i=iI k/\(rep (pick f0 f1 f2) (pick g0 g1 g2) k).size<=60*k/\Ext W9 wr) (fun _ i _=>3 - (intOf i).toNat)
 case atStart=>exact ⟨0,aa,rfl,rfl,(show (0:Nat)<=60*0 from lI _),xZ _⟩
 case round=>
  obtain ⟨k,hk,rfl,rfl,hrs,hx⟩:=hrel;obtain rfl|rfl|rfl|rfl:k=0\/k=1\/k=2\/k=3:=aa
  ·skip;have p5:=(vS.ext hx).ck 0;have p8:=(FP.ext hx).ck 0;have p9:wr.cell? (aA b9 0)=some (.string (JR 0)):=(hB9.ext hx).cell 0;have um:(JR 0).size<=5:=ae
   have hn5:=dK f0 aa;have hn8:=dK g0 aa;have HCf:Hid (∀w',Ext W9 w'->Calls prog 15 #[iI f0] w' fun e w''=>e=.returned (.string (num f0))/\Ext w' w''):=fun w' q=>dM f0 aa w' (hPW.ext q g HG.u)
   have HCg:Hid (∀w',Ext W9 w'->Calls prog 15 #[iI g0] w' fun e w''=>e=.returned (.string (num g0))/\Ext w' w''):=fun w' q=>dM g0 aa w' (hPW.ext q g HG.u)
   have HR:Hid (rep (pick f0 f1 f2) (pick g0 g1 g2) (0+1)=rep (pick f0 f1 f2) (pick g0 g1 g2) 0++JR 0++⟨#[32]⟩++num f0++⟨#[32]⟩++num g0):=rfl;generalize JR 0=wd at*
   generalize rep (pick f0 f1 f2) (pick g0 g1 g2) 0=rt at*
   have HK:Hid (∀w',Ext wr w'->w'.cell? (aA b5 0)=some (iI f0)/\w'.cell? (aA b8 0)=some (iI g0)):=fun w' q=>⟨((vS.ext hx).ext q).cell 0,((FP.ext hx).ext q).cell 0⟩
   generalize num f0=nf at*
   generalize num g0=ng at*
   have es:(⟨#[32]⟩:ByteArray).size=1:=rfl;have j1:∀w',(Op.stringOp .add rt wd).run prog w'=.ok (.string (rt++wd)) w':=fun w'=>fA w' _ _ aa
   have j2:∀w',(Op.stringOp .add (rt++wd) ⟨#[32]⟩).run prog w'=.ok (.string (rt++wd++⟨#[32]⟩)) w':=fun w'=>fA w' _ _ cF
   have j3:∀w',(Op.stringOp .add (rt++wd++⟨#[32]⟩) nf).run prog w'=.ok (.string (rt++wd++⟨#[32]⟩++nf)) w':=fun w'=>fA w' _ _ cF
   have j4:∀w',(Op.stringOp .add (rt++wd++⟨#[32]⟩++nf) ⟨#[32]⟩).run prog w'=.ok (.string (rt++wd++⟨#[32]⟩++nf++⟨#[32]⟩)) w':=fun w'=>fA w' _ _ cF
   have j5:∀w',(Op.stringOp .add (rt++wd++⟨#[32]⟩++nf++⟨#[32]⟩) ng).run prog w'=.ok (.string (rt++wd++⟨#[32]⟩++nf++⟨#[32]⟩++ng)) w':=fun w'=>fA w' _ _ cF
   go_wp2
   go_region_held3 (fun w'=>w'.cell? (aA b5 0)=some (iI f0)/\w'.cell? (aA b8 0)=some (iI g0))
    (first|go_keep|exact HK.u _ aQ)
    (first
     |(go_at_call 15;(with_reducible refine (HCf.u _ (hx.trans (xZ wr).drew)).mono ?_);rintro e w5 ⟨rfl,bK⟩;replace bK:Ext wr w5:=Ext.trans (xZ wr).drew bK)
     |(go_at_call 15;(with_reducible refine (HCg.u _ (hx.trans bK)).mono ?_);rintro e w6 ⟨rfl,ig⟩;replace ig:Ext wr w6:=bK.trans ig))
   clear j1 j2 j3 j4 j5;go_wp2;go_roundw
   case rel=>exact ⟨0+1,aa,by rw [<-HR.u],az,oK,hx.trans ig⟩
   case measure=>simp [intOf]
  ·skip;have p5:=(vS.ext hx).ck 1;have p8:=(FP.ext hx).ck 1;have p9:wr.cell? (aA b9 1)=some (.string (JR 1)):=(hB9.ext hx).cell 1;have um:(JR 1).size<=5:=ae
   have hn5:=dK f1 aa;have hn8:=dK g1 aa;have HCf:Hid (∀w',Ext W9 w'->Calls prog 15 #[iI f1] w' fun e w''=>e=.returned (.string (num f1))/\Ext w' w''):=fun w' q=>dM f1 aa w' (hPW.ext q g HG.u)
   have HCg:Hid (∀w',Ext W9 w'->Calls prog 15 #[iI g1] w' fun e w''=>e=.returned (.string (num g1))/\Ext w' w''):=fun w' q=>dM g1 aa w' (hPW.ext q g HG.u)
   have HR:Hid (rep (pick f0 f1 f2) (pick g0 g1 g2) (1+1)=rep (pick f0 f1 f2) (pick g0 g1 g2) 1++JR 1++⟨#[32]⟩++num f1++⟨#[32]⟩++num g1):=rfl;generalize JR 1=wd at*
   generalize rep (pick f0 f1 f2) (pick g0 g1 g2) 1=rt at*
   have HK:Hid (∀w',Ext wr w'->w'.cell? (aA b5 1)=some (iI f1)/\w'.cell? (aA b8 1)=some (iI g1)):=fun w' q=>⟨((vS.ext hx).ext q).cell 1,((FP.ext hx).ext q).cell 1⟩
   generalize num f1=nf at*
   generalize num g1=ng at*
   have es:(⟨#[32]⟩:ByteArray).size=1:=rfl;have j1:∀w',(Op.stringOp .add rt wd).run prog w'=.ok (.string (rt++wd)) w':=fun w'=>fA w' _ _ aa
   have j2:∀w',(Op.stringOp .add (rt++wd) ⟨#[32]⟩).run prog w'=.ok (.string (rt++wd++⟨#[32]⟩)) w':=fun w'=>fA w' _ _ cF
   have j3:∀w',(Op.stringOp .add (rt++wd++⟨#[32]⟩) nf).run prog w'=.ok (.string (rt++wd++⟨#[32]⟩++nf)) w':=fun w'=>fA w' _ _ cF
   have j4:∀w',(Op.stringOp .add (rt++wd++⟨#[32]⟩++nf) ⟨#[32]⟩).run prog w'=.ok (.string (rt++wd++⟨#[32]⟩++nf++⟨#[32]⟩)) w':=fun w'=>fA w' _ _ cF
   have j5:∀w',(Op.stringOp .add (rt++wd++⟨#[32]⟩++nf++⟨#[32]⟩) ng).run prog w'=.ok (.string (rt++wd++⟨#[32]⟩++nf++⟨#[32]⟩++ng)) w':=fun w'=>fA w' _ _ cF
   go_wp2
   go_region_held3 (fun w'=>w'.cell? (aA b5 1)=some (iI f1)/\w'.cell? (aA b8 1)=some (iI g1))
    (first|go_keep|exact HK.u _ aQ)
    (first
     |(go_at_call 15;(with_reducible refine (HCf.u _ (hx.trans (xZ wr).drew)).mono ?_);rintro e w5 ⟨rfl,bK⟩;replace bK:Ext wr w5:=Ext.trans (xZ wr).drew bK)
     |(go_at_call 15;(with_reducible refine (HCg.u _ (hx.trans bK)).mono ?_);rintro e w6 ⟨rfl,ig⟩;replace ig:Ext wr w6:=bK.trans ig))
   clear j1 j2 j3 j4 j5;go_wp2;go_roundw
   case rel=>exact ⟨1+1,aa,by rw [<-HR.u],az,oK,hx.trans ig⟩
   case measure=>simp [intOf]
  ·skip;have p5:=(vS.ext hx).ck 2;have p8:=(FP.ext hx).ck 2;have p9:wr.cell? (aA b9 2)=some (.string (JR 2)):=(hB9.ext hx).cell 2;have um:(JR 2).size<=5:=ae
   have hn5:=dK f2 aa;have hn8:=dK g2 aa;have HCf:Hid (∀w',Ext W9 w'->Calls prog 15 #[iI f2] w' fun e w''=>e=.returned (.string (num f2))/\Ext w' w''):=fun w' q=>dM f2 aa w' (hPW.ext q g HG.u)
   have HCg:Hid (∀w',Ext W9 w'->Calls prog 15 #[iI g2] w' fun e w''=>e=.returned (.string (num g2))/\Ext w' w''):=fun w' q=>dM g2 aa w' (hPW.ext q g HG.u)
   have HR:Hid (rep (pick f0 f1 f2) (pick g0 g1 g2) (2+1)=rep (pick f0 f1 f2) (pick g0 g1 g2) 2++JR 2++⟨#[32]⟩++num f2++⟨#[32]⟩++num g2):=rfl;generalize JR 2=wd at*
   generalize rep (pick f0 f1 f2) (pick g0 g1 g2) 2=rt at*
   have HK:Hid (∀w',Ext wr w'->w'.cell? (aA b5 2)=some (iI f2)/\w'.cell? (aA b8 2)=some (iI g2)):=fun w' q=>⟨((vS.ext hx).ext q).cell 2,((FP.ext hx).ext q).cell 2⟩
   generalize num f2=nf at*
   generalize num g2=ng at*
   have es:(⟨#[32]⟩:ByteArray).size=1:=rfl;have j1:∀w',(Op.stringOp .add rt wd).run prog w'=.ok (.string (rt++wd)) w':=fun w'=>fA w' _ _ aa
   have j2:∀w',(Op.stringOp .add (rt++wd) ⟨#[32]⟩).run prog w'=.ok (.string (rt++wd++⟨#[32]⟩)) w':=fun w'=>fA w' _ _ cF
   have j3:∀w',(Op.stringOp .add (rt++wd++⟨#[32]⟩) nf).run prog w'=.ok (.string (rt++wd++⟨#[32]⟩++nf)) w':=fun w'=>fA w' _ _ cF
   have j4:∀w',(Op.stringOp .add (rt++wd++⟨#[32]⟩++nf) ⟨#[32]⟩).run prog w'=.ok (.string (rt++wd++⟨#[32]⟩++nf++⟨#[32]⟩)) w':=fun w'=>fA w' _ _ cF
   have j5:∀w',(Op.stringOp .add (rt++wd++⟨#[32]⟩++nf++⟨#[32]⟩) ng).run prog w'=.ok (.string (rt++wd++⟨#[32]⟩++nf++⟨#[32]⟩++ng)) w':=fun w'=>fA w' _ _ cF
   go_wp2
   go_region_held3 (fun w'=>w'.cell? (aA b5 2)=some (iI f2)/\w'.cell? (aA b8 2)=some (iI g2))
    (first|go_keep|exact HK.u _ aQ)
    (first
     |(go_at_call 15;(with_reducible refine (HCf.u _ (hx.trans (xZ wr).drew)).mono ?_);rintro e w5 ⟨rfl,bK⟩;replace bK:Ext wr w5:=Ext.trans (xZ wr).drew bK)
     |(go_at_call 15;(with_reducible refine (HCg.u _ (hx.trans bK)).mono ?_);rintro e w6 ⟨rfl,ig⟩;replace ig:Ext wr w6:=bK.trans ig))
   clear j1 j2 j3 j4 j5;go_wp2;go_roundw
   case rel=>exact ⟨2+1,aa,by rw [<-HR.u],az,oK,hx.trans ig⟩
   case measure=>simp [intOf]
  ·go_wp2;go_ret
   exact ⟨by first|rfl|(rw [xl,Ho,hf2,ID,vH,jL];rfl),hX9.trans hx⟩
theorem zC (A:OA) (n c:Nat) (xs:List Oq) (w:World) (h:Rd w w.heap.size 8 A n (aI xs)) (hn:n<=16000000):
  Calls prog 16 #[.slice A n c] w fun e w'=>∃v,e=.returned v/\w'.ownsRow w.heap.size 54 4 v (ai xs).length (ak (ai xs))/\Ext w w':=by
 have hlen:=hY (h.len Oq.aE aa);go_enter func16,ntmps16;go_wp2
 go_loopw [3,4] (fun v i wr=>∃k:Nat,k<=n/\i=iI k/\wr.ownsRow w.heap.size 54 4 v (ai (xs.take k)).length (ak (ai (xs.take k)))/\Ext w wr) (fun _ i _=>n - (intOf i).toNat)
 case atStart=>exact ⟨0,lJ _,rfl,aJ w w _ _ (xZ _),xx⟩
 case round=>
  obtain ⟨k,hk,rfl,bc,hx⟩:=hrel
  by_cases bh:k<n
  ·obtain ⟨b,o,x,rfl,hb,hg,h0,h1,h2,h3,h4,h5,h6,h7⟩:=re (h.ext hx) bh;have HG:=hY hg;clear hg;have hle:=eZ xs k
   cases eM:(x.k==1)
   ·have HS:=hY (mT HG.u eM);go_wp2;go_roundw
    case rel=>exact ⟨k+1,aa,az,by rw [HS.u];exact bc,hx⟩
    case measure=>simp [intOf];omega
   ·have HS:=hY (sN HG.u eM);go_wp2_with (at_builtin;refine er rfl _ _ rfl _ _ (ai (xs.take k)) rfl bc hx x.g _ _ rfl rfl aa ?_;intro v1 w1 kV aS vH mS)
    go_roundw
    case rel=>exact ⟨k+1,aa,az,by rw [HS.u,lA];exact kV,aS⟩
    case measure=>simp [intOf];omega
  ·rw [lE bN] at bc;go_wp2;go_ret
   exact ⟨_,rfl,bc,hx⟩
def spt (n0 m0 n1 m1 n2 m2:ByteArray):ByteArray:=(⟨#[103,97,116,101,115,32]⟩:ByteArray)++n0++⟨#[32]⟩++m0++⟨#[32,116,32]⟩++n1++⟨#[32]⟩++m1++⟨#[32,116,119,111,32]⟩++n2++⟨#[32]⟩++m2
theorem JS (f g:Nat->Nat):spt (num (f 0)) (num (g 0)) (num (f 1)) (num (g 1)) (num (f 2)) (num (g 2))=rep f g 3:=by
 have e1:(⟨#[103,97,116,101,115,32]⟩:ByteArray)=⟨#[]⟩++JR 0++⟨#[32]⟩:=rfl;have e2:(⟨#[32,116,32]⟩:ByteArray)=JR 1++⟨#[32]⟩:=rfl;have e3:(⟨#[32,116,119,111,32]⟩:ByteArray)=JR 2++⟨#[32]⟩:=rfl;show spt (num (f 0)) (num (g 0)) (num (f 1)) (num (g 1)) (num (f 2)) (num (g 2))=⟨#[]⟩++JR 0++⟨#[32]⟩++num (f 0)++⟨#[32]⟩++num (g 0)++JR 1++⟨#[32]⟩++num (f 1)++⟨#[32]⟩++num (g 1)++JR 2++⟨#[32]⟩++num (f 2)++⟨#[32]⟩++num (g 2);unfold spt;rw [e1,e2,e3];generalize JR 0=a;generalize JR 1=b;generalize JR 2=c;simp only [ByteArray.append_assoc]
theorem rW (v u:Value) (x:Rt) (y:Cm) (w:World) (h:zj w w.heap.size v x) (h':zc w w.heap.size u y) (hx:x.ops.length<=1048576) (hy:y.ops.length<=100000000000) (si:(ai y.ops).length<=1048576):
  Calls prog 8 #[v,u] w fun e w'=>e=.returned (.string (rep (pick (ju (ai x.ops)).length (gH (ju (ai x.ops))) (ei cS (ju (ai x.ops)))) (pick (ai y.ops).length (gH (ai y.ops)) (ei cS (ai y.ops))) 3))/\Ext w w':=by
 obtain ⟨A1,c1,rfl,h1⟩:=h;obtain ⟨B1,B2,B3,d1,d2,d3,rfl,k1,k2,k3⟩:=h';clear k2 k3;have H1:=hY h1;have K1:=hY k1;have HLX:Hid (∃m,x.ops.length=m):=⟨_,rfl⟩;clear h1 k1;have hd0:(aP x.ops).length<=15*x.ops.length:=by
  have:=oc x.ops x.ops.length;rw [jt] at this;omega
 have NC:(ju (ai x.ops)).length<=15*(ai x.ops).length:=Bp _;have SW:(ai x.ops).length<=x.ops.length:=by
  have:=eZ x.ops x.ops.length
  exact qN
 have akR:(ai y.ops).length<=y.ops.length:=by
  have:=eZ y.ops y.ops.length
  exact qN
 rw [<-JS];show Calls prog 8 _ w fun e w'=>e=.returned (.string (spt (num (ju (ai x.ops)).length) (num (ai y.ops).length) (num (gH (ju (ai x.ops)))) (num (gH (ai y.ops))) (num (ei cS (ju (ai x.ops)))) (num (ei cS (ai y.ops)))))/\Ext w w'
 go_enter func8,ntmps8;go_upto_region 1 with fail;have eY:ay (w.alloc (cO #[iI x.n,iI x.kb,iI x.bits,.slice A1 x.ops.length c1] 26)) w.heap.size 26 #[iI x.n,iI x.kb,iI x.bits,.slice A1 x.ops.length c1]:=ay.new _ _ _;have hs:(w.alloc (cO #[iI x.n,iI x.kb,iI x.bits,.slice A1 x.ops.length c1] 26)).heap.size=w.heap.size+1:=Array.size_push _;have dC:Ext w (w.alloc (cO #[iI x.n,iI x.kb,iI x.bits,.slice A1 x.ops.length c1] 26)):=(xZ w).alloc _;generalize (w.alloc (cO #[iI x.n,iI x.kb,iI x.bits,.slice A1 x.ops.length c1] 26))=W1 at*
 have qp:ay (W1.alloc (cO #[iI y.n,iI y.bits,.slice B1 y.ops.length d1,.slice B2 y.st.length d2,.slice B3 y.fin.length d3] 29)) W1.heap.size 29 #[iI y.n,iI y.bits,.slice B1 y.ops.length d1,.slice B2 y.st.length d2,.slice B3 y.fin.length d3]:=ay.new _ _ _;rw [hs] at qp;replace eY:=eY.ext ((xZ W1).alloc (cO #[iI y.n,iI y.bits,.slice B1 y.ops.length d1,.slice B2 y.st.length d2,.slice B3 y.fin.length d3] 29));replace dC:=dC.alloc (cO #[iI y.n,iI y.bits,.slice B1 y.ops.length d1,.slice B2 y.st.length d2,.slice B3 y.fin.length d3] 29);clear hs;generalize (W1.alloc (cO #[iI y.n,iI y.bits,.slice B1 y.ops.length d1,.slice B2 y.st.length d2,.slice B3 y.fin.length d3] 29))=Wb at*
 have ie:=hY qp;clear HLX;have q3:=eY.ck 3;clear eY qp;go_wp2_with fail;refine (gD A1 _ c1 x.ops _ (H1.u.ext dC) aa).mono ?_;rintro e w2 ⟨v2,rfl,ep,bH⟩;obtain ⟨A2,c2,rfl,mg⟩:=au ep;clear q3;go_wp2_with fail;refine (zC A2 _ c2 (aP x.ops) _ mg aa).mono ?_;rintro e w3 ⟨v3,rfl,jm,bT⟩;rw [sT] at jm;obtain ⟨A3,c3,rfl,Qo⟩:=au jm;have ZE:Ext Wb w3:=bH.trans bT;clear ep jm mg bH bT;have htx:gH (ju (ai x.ops))<=2*(ju (ai x.ops)).length:=by
  exact EO
 have hdx:=dx cS (ju (ai x.ops));have vu:=dx cS (ai y.ops);have hty:gH (ai y.ops)<=2*(ai y.ops).length:=by
  exact EP
 have Ak:=hY Qo;clear Qo;have q2:=(ie.u.ext ZE).ck 2;generalize xl:(ju (ai x.ops)).length=f0 at*
 go_upto_region 2 with fail;have vS:ay (w3.alloc (cO #[iI 0,.slice A3 f0 c3] 50)) w3.heap.size 50 #[iI 0,.slice A3 f0 c3]:=ay.new _ _ _;have ZA:Ext Wb (w3.alloc (cO #[iI 0,.slice A3 f0 c3] 50)):=ZE.alloc _;have hR5:=Ak.u.ext ((xZ w3).alloc (cO #[iI 0,.slice A3 f0 c3] 50));have q2:=(ie.u.ext ZA).ck 2;generalize (w3.alloc (cO #[iI 0,.slice A3 f0 c3] 50))=W5 at*
 generalize w3.heap.size=b5 at*
 clear ZE Ak;have Ay:=hY hR5;clear hR5;go_wp2_with fail;refine (ik B1 _ d1 y.ops _ (K1.u.ext (dC.trans ZA)) aa).mono ?_;rintro e w6 ⟨v6,rfl,px,mC⟩;obtain ⟨A6,c6,rfl,Mp⟩:=au px;clear q2 px;have rp:=hY Mp;clear Mp;generalize ID:(ai y.ops).length=g0 at*
 go_upto_region 3 with fail;have FP:ay (w6.alloc (cO #[iI 0,.slice A6 g0 c6] 50)) w6.heap.size 50 #[iI 0,.slice A6 g0 c6]:=ay.new _ _ _;have hX8:Ext W5 (w6.alloc (cO #[iI 0,.slice A6 g0 c6] 50)):=mC.alloc _;have hR8:=rp.u.ext ((xZ w6).alloc (cO #[iI 0,.slice A6 g0 c6] 50));have hR7:=Ay.u.ext hX8;generalize (w6.alloc (cO #[iI 0,.slice A6 g0 c6] 50))=WW at*
 generalize w6.heap.size=b8 at*
 replace vS:=vS.ext hX8;have hXW:Ext w WW:=dC.trans (ZA.trans hX8);clear Ay rp mC;have HF0:Hid (∀w',Ext WW w'->Calls prog 18 #[iI f0] w' fun e w''=>e=.returned (.string (num f0))/\Ext w' w''):=fun w' q=>bU f0 aa w'
 have BA:Hid (∀w',Ext WW w'->Calls prog 18 #[iI g0] w' fun e w''=>e=.returned (.string (num g0))/\Ext w' w''):=fun w' q=>bU g0 aa w'
 have Nb:Hid (∀w',Ext WW w'->Calls prog 18 #[iI (gH (ju (ai x.ops)))] w' fun e w''=>e=.returned (.string (num (gH (ju (ai x.ops)))))/\Ext w' w''):=fun w' q=>bU _ aa w'
 have Vp:Hid (∀w',Ext WW w'->Calls prog 18 #[iI (gH (ai y.ops))] w' fun e w''=>e=.returned (.string (num (gH (ai y.ops))))/\Ext w' w''):=fun w' q=>bU _ aa w'
 have HF2:Hid (∀w',Ext WW w'->Calls prog 18 #[iI (ei cS (ju (ai x.ops)))] w' fun e w''=>e=.returned (.string (num (ei cS (ju (ai x.ops)))))/\Ext w' w''):=fun w' q=>bU _ aa w'
 have RQ:Hid (∀w',Ext WW w'->Calls prog 18 #[iI (ei cS (ai y.ops))] w' fun e w''=>e=.returned (.string (num (ei cS (ai y.ops))))/\Ext w' w''):=fun w' q=>bU _ aa w'
 have HT1:Hid (∀w',Ext WW w'->Calls prog 19 #[.agg #[iI 0,.slice A3 f0 c3]] w' fun e w''=>e=.returned (iI (gH (ju (ai x.ops))))/\Ext w' w''):=fun w' q=>rj 0 A3 f0 c3 (ju (ai x.ops)) w' (hR7.ext q) aa
 have HW1:Hid (∀w',Ext WW w'->Calls prog 20 #[.agg #[iI 0,.slice A3 f0 c3]] w' fun e w''=>e=.returned (iI (ei cS (ju (ai x.ops))))/\Ext w' w''):=fun w' q=>jU 0 A3 f0 c3 (ju (ai x.ops)) w' (hR7.ext q) aa
 have HT2:Hid (∀w',Ext WW w'->Calls prog 19 #[.agg #[iI 0,.slice A6 g0 c6]] w' fun e w''=>e=.returned (iI (gH (ai y.ops)))/\Ext w' w''):=fun w' q=>rj 0 A6 g0 c6 (ai y.ops) w' (hR8.ext q) aa
 have TX:Hid (∀w',Ext WW w'->Calls prog 20 #[.agg #[iI 0,.slice A6 g0 c6]] w' fun e w''=>e=.returned (iI (ei cS (ai y.ops)))/\Ext w' w''):=fun w' q=>jU 0 A6 g0 c6 (ai y.ops) w' (hR8.ext q) aa
 clear hR7 hR8 H1 K1 ie;have ND:=dK f0 aa;have nM:=dK g0 aa;have GC:=dK (gH (ju (ai x.ops))) aa;have hn3:=dK (gH (ai y.ops)) aa;have xT:=dK (ei cS (ju (ai x.ops))) aa;have hn5:=dK (ei cS (ai y.ops)) aa;have q0:=vS.ck 0;have q1:=vS.ck 1;have q2:=FP.ck 0;have q3:=FP.ck 1;have HK:Hid (∀w',Ext WW w'->w'.cell? (aA b5 0)=some (iI 0)/\w'.cell? (aA b5 1)=some (.slice A3 f0 c3)/\w'.cell? (aA b8 0)=some (iI 0)/\w'.cell? (aA b8 1)=some (.slice A6 g0 c6)):=fun w' q=>⟨(vS.ext q).cell 0,(vS.ext q).cell 1,(FP.ext q).cell 0,(FP.ext q).cell 1⟩
 clear vS FP htx hdx vu hty hd0 SW akR dC ZA hX8;generalize Ho:gH (ju (ai x.ops))=f1 at*
 replace Ho:=hY Ho;generalize vH:gH (ai y.ops)=g1 at*
 replace vH:=hY vH;generalize hf2:ei cS (ju (ai x.ops))=f2 at*
 replace hf2:=hY hf2;generalize jL:ei cS (ai y.ops)=g2 at*
 replace jL:=hY jL;generalize hN0:num f0=n0 at*
 replace hN0:=hY hN0;generalize hM0:num g0=m0 at*
 replace hM0:=hY hM0;generalize Zy:num f1=n1 at*
 replace Zy:=hY Zy;generalize hM1:num g1=m1 at*
 replace hM1:=hY hM1;generalize hN2:num f2=n2 at*
 replace hN2:=hY hN2;generalize hM2:num g2=m2 at*
 replace hM2:=hY hM2;have es:(⟨#[32]⟩:ByteArray).size=1:=rfl;have es1:(⟨#[103,97,116,101,115,32]⟩:ByteArray).size=6:=rfl;have es2:(⟨#[32,116,32]⟩:ByteArray).size=3:=rfl;have es3:(⟨#[32,116,119,111,32]⟩:ByteArray).size=5:=rfl;have j1:∀w',(Op.stringOp .add (⟨#[103,97,116,101,115,32]⟩:ByteArray) n0).run prog w'=.ok (.string ((⟨#[103,97,116,101,115,32]⟩:ByteArray)++n0)) w':=fun w'=>fA w' _ _ cR
 have j2:∀w',(Op.stringOp .add ((⟨#[103,97,116,101,115,32]⟩:ByteArray)++n0) ⟨#[32]⟩).run prog w'=.ok (.string ((⟨#[103,97,116,101,115,32]⟩:ByteArray)++n0++⟨#[32]⟩)) w':=fun w'=>fA w' _ _ cR
 have j3:∀w',(Op.stringOp .add ((⟨#[103,97,116,101,115,32]⟩:ByteArray)++n0++⟨#[32]⟩) m0).run prog w'=.ok (.string ((⟨#[103,97,116,101,115,32]⟩:ByteArray)++n0++⟨#[32]⟩++m0)) w':=fun w'=>fA w' _ _ cR
 have j4:∀w',(Op.stringOp .add ((⟨#[103,97,116,101,115,32]⟩:ByteArray)++n0++⟨#[32]⟩++m0) ⟨#[32,116,32]⟩).run prog w'=.ok (.string ((⟨#[103,97,116,101,115,32]⟩:ByteArray)++n0++⟨#[32]⟩++m0++⟨#[32,116,32]⟩)) w':=fun w'=>fA w' _ _ cR
 have j5:∀w',(Op.stringOp .add ((⟨#[103,97,116,101,115,32]⟩:ByteArray)++n0++⟨#[32]⟩++m0++⟨#[32,116,32]⟩) n1).run prog w'=.ok (.string ((⟨#[103,97,116,101,115,32]⟩:ByteArray)++n0++⟨#[32]⟩++m0++⟨#[32,116,32]⟩++n1)) w':=fun w'=>fA w' _ _ cR
 have j6:∀w',(Op.stringOp .add ((⟨#[103,97,116,101,115,32]⟩:ByteArray)++n0++⟨#[32]⟩++m0++⟨#[32,116,32]⟩++n1) ⟨#[32]⟩).run prog w'=.ok (.string ((⟨#[103,97,116,101,115,32]⟩:ByteArray)++n0++⟨#[32]⟩++m0++⟨#[32,116,32]⟩++n1++⟨#[32]⟩)) w':=fun w'=>fA w' _ _ cR
 have j7:∀w',(Op.stringOp .add ((⟨#[103,97,116,101,115,32]⟩:ByteArray)++n0++⟨#[32]⟩++m0++⟨#[32,116,32]⟩++n1++⟨#[32]⟩) m1).run prog w'=.ok (.string ((⟨#[103,97,116,101,115,32]⟩:ByteArray)++n0++⟨#[32]⟩++m0++⟨#[32,116,32]⟩++n1++⟨#[32]⟩++m1)) w':=fun w'=>fA w' _ _ cR
 have j8:∀w',(Op.stringOp .add ((⟨#[103,97,116,101,115,32]⟩:ByteArray)++n0++⟨#[32]⟩++m0++⟨#[32,116,32]⟩++n1++⟨#[32]⟩++m1) ⟨#[32,116,119,111,32]⟩).run prog w'=.ok (.string ((⟨#[103,97,116,101,115,32]⟩:ByteArray)++n0++⟨#[32]⟩++m0++⟨#[32,116,32]⟩++n1++⟨#[32]⟩++m1++⟨#[32,116,119,111,32]⟩)) w':=fun w'=>fA w' _ _ cR
 have j9:∀w',(Op.stringOp .add ((⟨#[103,97,116,101,115,32]⟩:ByteArray)++n0++⟨#[32]⟩++m0++⟨#[32,116,32]⟩++n1++⟨#[32]⟩++m1++⟨#[32,116,119,111,32]⟩) n2).run prog w'=.ok (.string ((⟨#[103,97,116,101,115,32]⟩:ByteArray)++n0++⟨#[32]⟩++m0++⟨#[32,116,32]⟩++n1++⟨#[32]⟩++m1++⟨#[32,116,119,111,32]⟩++n2)) w':=fun w'=>fA w' _ _ cR
 have j10:∀w',(Op.stringOp .add ((⟨#[103,97,116,101,115,32]⟩:ByteArray)++n0++⟨#[32]⟩++m0++⟨#[32,116,32]⟩++n1++⟨#[32]⟩++m1++⟨#[32,116,119,111,32]⟩++n2) ⟨#[32]⟩).run prog w'=.ok (.string ((⟨#[103,97,116,101,115,32]⟩:ByteArray)++n0++⟨#[32]⟩++m0++⟨#[32,116,32]⟩++n1++⟨#[32]⟩++m1++⟨#[32,116,119,111,32]⟩++n2++⟨#[32]⟩)) w':=fun w'=>fA w' _ _ cR
 have j11:∀w',(Op.stringOp .add ((⟨#[103,97,116,101,115,32]⟩:ByteArray)++n0++⟨#[32]⟩++m0++⟨#[32,116,32]⟩++n1++⟨#[32]⟩++m1++⟨#[32,116,119,111,32]⟩++n2++⟨#[32]⟩) m2).run prog w'=.ok (.string ((⟨#[103,97,116,101,115,32]⟩:ByteArray)++n0++⟨#[32]⟩++m0++⟨#[32,116,32]⟩++n1++⟨#[32]⟩++m1++⟨#[32,116,119,111,32]⟩++n2++⟨#[32]⟩++m2)) w':=fun w'=>fA w' _ _ cR
 clear ND nM GC hn3 xT hn5 es es1 es2 es3;go_wp2
 go_region_held3 (fun w'=>w'.cell? (aA b5 0)=some (iI 0)/\w'.cell? (aA b5 1)=some (.slice A3 f0 c3)/\w'.cell? (aA b8 0)=some (iI 0)/\w'.cell? (aA b8 1)=some (.slice A6 g0 c6))
  (first|go_keep|exact HK.u _ aQ)
  (first
   |(go_at_call 18;(with_reducible refine (HF0.u _ (xZ WW).drew).mono ?_);rintro e w5 ⟨rfl,ig⟩;replace bK:Ext WW w5:=Ext.trans (xZ WW).drew ig;clear ig)
   |(go_at_call 18;(with_reducible refine (BA.u _ bK).mono ?_);rintro e w5 ⟨rfl,ig⟩;replace bK:Ext WW w5:=Ext.trans bK ig;clear ig)
   |(go_at_call 19;(with_reducible refine (HT1.u _ bK).mono ?_);rintro e w5 ⟨rfl,ig⟩;replace bK:Ext WW w5:=Ext.trans bK ig;clear ig)
   |(go_at_call 18;(with_reducible refine (Nb.u _ bK).mono ?_);rintro e w5 ⟨rfl,ig⟩;replace bK:Ext WW w5:=Ext.trans bK ig;clear ig)
   |(go_at_call 19;(with_reducible refine (HT2.u _ bK).mono ?_);rintro e w5 ⟨rfl,ig⟩;replace bK:Ext WW w5:=Ext.trans bK ig;clear ig)
   |(go_at_call 18;(with_reducible refine (Vp.u _ bK).mono ?_);rintro e w5 ⟨rfl,ig⟩;replace bK:Ext WW w5:=Ext.trans bK ig;clear ig)
   |(go_at_call 20;(with_reducible refine (HW1.u _ bK).mono ?_);rintro e w5 ⟨rfl,ig⟩;replace bK:Ext WW w5:=Ext.trans bK ig;clear ig)
   |(go_at_call 18;(with_reducible refine (HF2.u _ bK).mono ?_);rintro e w5 ⟨rfl,ig⟩;replace bK:Ext WW w5:=Ext.trans bK ig;clear ig)
   |(go_at_call 20;(with_reducible refine (TX.u _ bK).mono ?_);rintro e w5 ⟨rfl,ig⟩;replace bK:Ext WW w5:=Ext.trans bK ig;clear ig)
   |(go_at_call 18;(with_reducible refine (RQ.u _ bK).mono ?_);rintro e w5 ⟨rfl,ig⟩;replace bK:Ext WW w5:=Ext.trans bK ig;clear ig))
 clear j1 j2 j3 j4 j5 j6 j7 j8 j9 j10 j11;go_wp2;go_ret
 exact ⟨xJ (by unfold spt;rw [xl,ID,Ho.u,vH.u,hf2.u,jL.u,hN0.u,hM0.u,Zy.u,hM1.u,hN2.u,hM2.u]),hXW.trans bK⟩
end Go.Proofs.YtiajdbllccmokaaGreatDoor
