import Derived.Test.YtodhjgngkkcjgaaGreatDoorXa
import Derived.WalkSpells
import Derived.Laws.IdiomStrings
import Derived.Lib.ItoaNum
import Derived.Laws.Concat
import Derived.Lib.SplitLaws
import Derived.Test.YtodhjgngkkcjgaaGreatDoorXShelf
namespace Go.Proofs.YtodhjgngkkcjgaaGreatDoor
open Go.ChangeShapes Go.WideShapes Go.ChangeAt Go.RowKit Go.Deep Go.Proofs.Tryz
set_option linter.unusedVariables false
set_option linter.unusedSimpArgs false
set_option maxRecDepth 100000
set_option maxHeartbeats 16000000
theorem dc {P:Prop} (h:P:=by
 go_wp2;go_ret
 exact ⟨rfl,rfl⟩):P:=h
theorem aF (x lo hi:Int) (w:World) (h1:lo<=x) (h2:x<=hi):
  Calls prog 26 #[iI x,iI lo,iI hi] w fun e w'=>e=.returned (.bool true)/\w=w':=by
 go_enter func26,ntmps26
 exact dc
theorem bP (x lo hi:Int) (w:World) (h:x<lo\/hi<x):
  Calls prog 26 #[iI x,iI lo,iI hi] w fun e w'=>e=.returned (.bool false)/\w=w':=by
 by_cases h1:lo<=x
 ·have h2:decide (x<=hi)=false:=ai
  go_enter func26,ntmps26
  exact dc
 ·have h2:decide (lo<=x)=false:=ai
  go_enter func26,ntmps26
  exact dc
theorem gS (x lo hi:Int) (w:World) (h1:lo<=x) (h2:x<=hi):
  Calls prog 46 #[iI x,iI lo,iI hi] w fun e w'=>e=.returned (.bool true)/\w=w':=by
 go_enter func46,ntmps46
 exact dc
theorem px (x lo hi:Int) (w:World) (h:x<lo\/hi<x):
  Calls prog 46 #[iI x,iI lo,iI hi] w fun e w'=>e=.returned (.bool false)/\w=w':=by
 by_cases h1:lo<=x
 ·have h2:decide (x<=hi)=false:=ai
  go_enter func46,ntmps46
  exact dc
 ·have h2:decide (lo<=x)=false:=ai
  go_enter func46,ntmps46
  exact dc
def ar (k:Int):Int:=if 1<=k/\k<=8 then 1 else if 9<=k/\k<=11 then 2 else if k=12 then 3 else 0
theorem eL (k:Int):0<=ar k/\ar k<=3:=iw
theorem ar1 {k:Int} (h:1<=k/\k<=8):ar k=1:=iw
theorem ar2 {k:Int} (h:9<=k/\k<=11):ar k=2:=iw
theorem ar3 {k:Int} (h:k=12):ar k=3:=iw
theorem ar0 {k:Int} (h:k<1\/12<k):ar k=0:=iw
theorem bc (k:Int) (w:World):Calls prog 76 #[iI k] w fun e w'=>e=.returned (iI (ar k))/\w=w':=by
 rcases (aa:(1<=k/\k<=8)\/(9<=k/\k<=11)\/k=12\/(k<1\/12<k)) with h|h|h|h
 ·rw [ar1 h];go_enter func76,ntmps76;go_wp2_with fail;refine (aF _ _ _ _ h.1 h.2).mono ?_;rintro e w' ⟨rfl,rfl⟩
  exact dc
 ·rw [ar2 h];go_enter func76,ntmps76;go_wp2_with fail;refine (bP _ _ _ _ aa).mono ?_;rintro e w' ⟨rfl,rfl⟩;go_wp2_with fail;refine (aF _ _ _ _ h.1 h.2).mono ?_;rintro e w' ⟨rfl,rfl⟩
  exact dc
 ·rw [ar3 h];subst h;go_enter func76,ntmps76
  exact dc
 ·rw [ar0 h];have hne:(k==12)=false:=dV
  have H:=hY h;clear h;go_enter func76,ntmps76;go_wp2_with fail;refine (bP _ _ _ _ (oM H.u)).mono ?_;rintro e w' ⟨rfl,rfl⟩;go_wp2_with fail;refine (bP _ _ _ _ (oM H.u)).mono ?_;rintro e w' ⟨rfl,rfl⟩
  exact dc
theorem dD (k:Int) (w:World):Calls prog 73 #[iI k] w fun e w'=>e=.returned (iI (ar k))/\w=w':=by
 rcases (aa:(1<=k/\k<=8)\/(9<=k/\k<=11)\/k=12\/(k<1\/12<k)) with h|h|h|h
 ·rw [ar1 h];go_enter func73,ntmps73;go_wp2_with fail;refine (gS _ _ _ _ h.1 h.2).mono ?_;rintro e w' ⟨rfl,rfl⟩
  exact dc
 ·rw [ar2 h];go_enter func73,ntmps73;go_wp2_with fail;refine (px _ _ _ _ aa).mono ?_;rintro e w' ⟨rfl,rfl⟩;go_wp2_with fail;refine (gS _ _ _ _ h.1 h.2).mono ?_;rintro e w' ⟨rfl,rfl⟩
  exact dc
 ·rw [ar3 h];subst h;go_enter func73,ntmps73
  exact dc
 ·rw [ar0 h];have hne:(k==12)=false:=dV
  have H:=hY h;clear h;go_enter func73,ntmps73;go_wp2_with fail;refine (px _ _ _ _ (oM H.u)).mono ?_;rintro e w' ⟨rfl,rfl⟩;go_wp2_with fail;refine (px _ _ _ _ (oM H.u)).mono ?_;rintro e w' ⟨rfl,rfl⟩
  exact dc
def fC (g:Gt):Nat:=if (g.k==7)=true then 1000 else if (g.k==8)=true then 1000 else if 1<ar g.k then 10 else 1
def aV (gs:List Gt):Nat:=(gs.map fC).sum
theorem TX {gs:List Gt} {k:Nat} {g:Gt} (h:gs[k]?=some g):aV (gs.take (k+1))=aV (gs.take k)+fC g:=by
 unfold aV;rw [aS h];simp
theorem Qy (g:Gt):fC g<=1000:=zl
theorem Qz (gs:List Gt):aV gs<=1000*gs.length:=by
 unfold aV
 induction gs with
 |nil=>simp
 |cons g gs ih=>have:=Qy g;simp;omega
theorem TY (gs:List Gt) (k:Nat):aV (gs.take k)<=1000*k:=by
 have h1:=Qz (gs.take k);have h2:(gs.take k).length<=k:=qE _ _;omega
theorem age {g:Gt} (h:(g.k==7)=true):fC g=1000:=aY h
theorem agf {g:Gt} (h:(g.k==7)=false) (h2:(g.k==8)=true):fC g=1000:=by unfold fC;rw [aM aZ,aY h2]
theorem VP {g:Gt} (h:(g.k==7)=false) (h2:(g.k==8)=false) (h3:1<ar g.k):fC g=10:=by unfold fC;rw [aM aZ,aM eY,aY h3]
theorem agh {g:Gt} (h:(g.k==7)=false) (h2:(g.k==8)=false) (h3:¬1<ar g.k):fC g=1:=by unfold fC;rw [aM aZ,aM eY,aM h3]
theorem td {P:Prop} (h:P:=by
 go_wp2;go_round
 case rel=>exact ⟨k+1,aa,az,by rw [HS.u,HC.u];go_num⟩
 case measure=>simp [intOf];omega):P:=h
theorem iH (A:OA) (n c:Nat) (gs:List Gt) (w:World) (h:Rd w w.heap.size 4 A n (aq gs)) (hn:n<=2000000000000):
  Calls prog 129 #[.slice A n c] w fun e w'=>e=.returned (iI (aV gs:Nat))/\w=w':=by
 have hlen:=hY (h.len Gt.aG aa);go_enter func129,ntmps129;go_wp2
 go_loop [3,4] (fun v i=>∃k:Nat,k<=n/\i=iI k/\v=iI (aV (gs.take k):Nat)) (fun _ i=>n - (intOf i).toNat)
 case atStart=>exact ⟨0,lJ _,rfl,rfl⟩
 case round=>
  obtain ⟨k,hk,rfl,rfl⟩:=hrel;have hle:=TY gs k
  by_cases ba:k<n
  ·obtain ⟨b,o,g,rfl,hb,hg,h0,h1,h2,h3⟩:=bT h ba;have HS:=hY (TX hg);clear hg
   cases h7:(g.k==7)
   ·cases h8:(g.k==8)
    ·by_cases ha:1<ar g.k
     ·have HC:=hY (VP h7 h8 ha);go_wp2_with fail;refine (bc _ _).mono ?_;rintro e w' ⟨rfl,rfl⟩
      exact td
     ·have HC:=hY (agh h7 h8 ha);go_wp2_with fail;refine (bc _ _).mono ?_;rintro e w' ⟨rfl,rfl⟩
      exact td
    ·have HC:=hY (agf h7 h8)
     exact td
   ·have HC:=hY (age h7)
    exact td
  ·rw [lE bQ]
   exact dc
structure Ed where
 a:Int
 b:Int
def Qc (x y:Ed):Bool:=x.a==y.a && x.b==y.b
def Ed.ok (x:Ed):Prop:=po x.a/\po x.b
abbrev Ed.val (x:Ed):Value:=.agg #[iI x.a,iI x.b]
def Ed.cells (x:Ed):List Value:=[iI x.a,iI x.b]
abbrev bK (xs:List Ed):List Value:=xs.flatMap Ed.cells
theorem Ed.aG (x:Ed):x.cells.length=2:=rfl
theorem NM {w:World} {B n i:Nat} {A:OA} {xs:List Ed} (h:Rd w B 2 A n (bK xs)) (hi:i<n):
  ∃b o x,A=some ⟨b,o,none⟩/\b<B/\xs[i]?=some x/\w.cell? (aA b (o+i*2))=some (iI x.a)/\w.cell? (aA b (o+i*2+1))=some (iI x.b):=by
 obtain ⟨b,o,x,rfl,hb,hx,hc⟩:=kQ Ed.aG aa h hi
 exact ⟨b,o,x,rfl,hb,hx,hc 0 _ rfl,hc 1 _ rfl⟩
theorem QA:(prog.info? 130).map (fun i=>(i.zero,i.size,i.bytes))=some (some (.agg #[iI 0,iI 0]),2,16):=af
theorem Ed.one (xs:List Ed):∀u∈bK xs,u.oneCell'=true:=by
 intro u hu;obtain ⟨x,_,hx⟩:=vN.1 hu;simp [Ed.cells] at hx;rcases hx with rfl|rfl<;>rfl
theorem QB {w0 w:World} {ops:Array Oper} {rest:List Oper} {o:Oper} {a:Act} {Q:Exit->Act->World->Prop} (fX:o.guard=none) (s x:Operand)
  (ho:aO o s x 61) (v:Value) (n:Nat) (xs:List Ed) (hs:a.eval s=v)
  (bj:w.ownsRow w0.heap.size 130 2 v n (bK xs)) (cD:Ext w0 w) (A:OA) (m c:Nat) (ys:List Ed) (hx:a.eval x=.slice A m c) (hr:Rd w w.heap.size 2 A m (bK ys)) (hn:n+m<=2000000000000)
  (h:aH w0 w v 130 2 (n+m) (bK (xs++ys)) (wpList prog ops Q rest) a o):wpList prog ops Q (o::rest) a w:=by
 obtain ⟨i0,hi,fH,iV,kz⟩:=jH QA
 exact fp fX s x _ ho 130 i0 _ 2 16 underlying61 hi fH iV kz rfl ae ae v n _ hs bj cD A m c _ hx hr (Ed.one ys) hn (fun v' w' h1=>h v' w' (by unfold bK;rw [lR];exact h1))
theorem Yw {w0 w:World} {ops:Array Oper} {o:Oper} {a:Act} {K:Act->World->Prop} {Q:Exit->Act->World->Prop} {E:Prop} (fX:o.guard=none) (s x:Operand)
  (ho:aO o s x 61) (v:Value) (n:Nat) (xs:List Ed) (hs:a.eval s=v)
  (bj:w.ownsRow w0.heap.size 130 2 v n (bK xs)) (cD:Ext w0 w) (A:OA) (m c:Nat) (ys:List Ed) (hx:a.eval x=.slice A m c) (hr:Rd w w.heap.size 2 A m (bK ys)) (hn:n+m<=2000000000000)
  (h:aH w0 w v 130 2 (n+m) (bK (xs++ys)) K a o):if Region.wanted o (yielded ops a.tmps)=true then Oper.wp prog o a w K Q else E:=by
 obtain ⟨i0,hi,fH,iV,kz⟩:=jH QA
 exact nz fX s x _ ho 130 i0 _ 2 16 underlying61 hi fH iV kz rfl ae ae v n _ hs bj cD A m c _ hx hr (Ed.one ys) hn (fun v' w' h1=>h v' w' (by unfold bK;rw [lR];exact h1))
theorem arY {w0 w:World} {ops:Array Oper} {rest:List Oper} {o:Oper} {a:Act} {Q:Exit->Act->World->Prop} (fX:o.guard=none) (s x:Operand)
  (ho:aO o s x 61) (v:Value) (n:Nat) (xs:List Ed) (hs:a.eval s=v)
  (bj:w.ownsRow w0.heap.size 130 2 v n (bK xs)) (cD:Ext w0 w) (y:Ed) (e:TypeId) (b:Nat) (hx:a.eval x=.slice (some ⟨b,0,none⟩) 1 1) (sg:b=w.heap.size) (hn:n<=1800000000000)
  (h:∀v' w',w'.ownsRow w0.heap.size 130 2 v' (n+1) (bK (xs++[y]))->Ext w0 w'->(w.alloc (cO #[iI y.a,iI y.b] e)).grownBy w' v.ownBlock->(v'.ownBlock=v.ownBlock\/v'.ownBlock=some (w.heap.size+1))->wpList prog ops Q rest (a.put o.dst v') w'):wpList prog ops Q (o::rest) a (w.alloc (cO #[iI y.a,iI y.b] e)):=by
 subst sg;refine QB fX s x ho v n xs hs (bj.alloc _) (cD.alloc _) _ 1 1 [y] hx (dZ w _ e 2 _ eX eX) aa ?_;intro v' w' h1 h2 h3 h4
 exact h v' w' h1 h2 h3 (sU h4)
theorem abu (x:Ed):Qc x x=true:=by simp [Qc]
structure Gr where
 n:Int
 es:List Ed
def fB (w:World) (B:Nat) (v:Value) (x:Gr):Prop:=
 ∃(A1:OA) (c1:Nat),v=.agg #[iI x.n,.slice A1 x.es.length c1]/\Rd w B 2 A1 x.es.length (bK x.es)
def QC (w:World) (b0 b1:Nat) (v:Value) (x:Gr):Prop:=
 ∃(A1:OA) (c1:Nat),v=.agg #[iI x.n,.slice A1 x.es.length c1]/\w.ownsRow b0 130 2 (.slice A1 x.es.length c1) x.es.length (bK x.es)/\(∀g,(Value.slice A1 x.es.length c1).ownBlock=some g->g<b1)
theorem fB.up {w w':World} {B:Nat} {v:Value} {x:Gr} (h:fB w B v x) (hx:Ext w w') (hB:B<=w.heap.size):fB w' B v x:=by
 obtain ⟨A1,c1,hv,h1⟩:=h
 exact ⟨A1,c1,hv,h1.up hx hB⟩
theorem fB.more {w:World} {B B':Nat} {v:Value} {x:Gr} (h:fB w B v x) (hB:B<=B'):fB w B' v x:=by
 obtain ⟨A1,c1,hv,h1⟩:=h
 exact ⟨A1,c1,hv,h1.more hB⟩
theorem fB.grown {w w':World} {B:Nat} {v:Value} {x:Gr} {row:Option Nat} (h:fB w B v x) (hg:w.grownBy w' row) (hB:B<=w.heap.size) (hr:∀g,row=some g->B<=g):fB w' B v x:=by
 obtain ⟨A1,c1,hv,h1⟩:=h
 exact ⟨A1,c1,hv,h1.grown hg hB hr⟩
theorem QC.at_ {w:World} {b0 b1:Nat} {v:Value} {x:Gr} (h:QC w b0 b1 v x):fB w w.heap.size v x:=by
 obtain ⟨A1,c1,hv,h1,l1⟩:=h
 exact ⟨A1,c1,hv,Rd.own h1⟩
theorem QC.ext {w w':World} {b0 b1:Nat} {v:Value} {x:Gr} (h:QC w b0 b1 v x) (hx:Ext w w'):QC w' b0 b1 v x:=by
 obtain ⟨A1,c1,hv,h1,l1⟩:=h
 exact ⟨A1,c1,hv,aj h1 hx,l1⟩
def Gr.small (x:Gr):Prop:=x.es.length<=1048576
def aop (x y:Gr):Bool:=(x.n==y.n) && (vY Qc x.es y.es)
theorem am7 (x:Gr):aop x x=true:=by
 unfold aop;simp [sf Qc abu]
def Gr.ok (x:Gr):Prop:=po x.n/\x.es.length<=maxLen/\(∀g∈x.es,g.ok)
def cP (i:Int):ByteArray:=⟨#[UInt8.ofNat (48+i.toNat)]⟩
theorem kR {a b:ByteArray} (h:a=b):Ending.returned (.string a)=.returned (.string b):=by rw [h]
theorem ou (n:Int) (d:UInt8) (h:(d.toNat:Int)=n) (wx:World):(convert 22 9 (.slice (some ⟨wx.heap.size,0,none⟩) 1 1)).run prog (wx.alloc (cO #[.int .u8 n] 5))=.ok (.string ⟨[d].toArray⟩) (wx.alloc (cO #[.int .u8 n] 5)):=by
 subst h;refine run_convert_bytes_back _ _ _ 5 _ 1 [d] CI NH zA (fun j hj=>?_);have h0:j=0:=sU hj
 subst h0
 exact (au.new wx 5 _).cell 0
theorem cK (i:Int) (hi:0<=i/\i<=4) (w:World):Calls prog 16 #[iI i] w fun e w'=>e=.returned (.string (cP i))/\Ext w w':=by
 rcases (aa:i=0\/i=1\/i=2\/i=3\/i=4) with rfl|rfl|rfl|rfl|rfl
 all_goals
  go_enter func16,ntmps16;go_wp2;go_ret
  exact ⟨kR (by first|rfl|decide),xx⟩
theorem th {P:Prop} (h:P:=by
 obtain ⟨⟨rfl,rfl⟩|⟨rfl,rfl⟩,hx⟩:=hrel
 ·go_wp2;go_roundw
  case rel=>exact ⟨.inr ⟨rfl,by first|rfl|decide⟩,hx.alloc _⟩
  case measure=>simp [intOf]
 ·go_wp2;go_ret
  exact ⟨rfl,hx⟩):P:=h
theorem bA (i:Int) (hi:0<=i/\i<=4) (w:World):Calls prog 20 #[iI i] w fun e w'=>e=.returned (.string (cP i))/\Ext w w':=by
 have k1:=ou 49 49 rfl;have k2:=ou 50 50 rfl;have k3:=ou 51 51 rfl;have k4:=ou 52 52 rfl;rcases (aa:i=0\/i=1\/i=2\/i=3\/i=4) with rfl|rfl|rfl|rfl|rfl
 ·go_enter vW,vU;go_wp2;go_ret
  exact ⟨kR (by first|rfl|decide),xZ _⟩
 ·go_enter vW,vU;go_wp2
  go_loopw [0,4] (fun n out wr=>((n=iI 1/\out=.string ⟨#[]⟩)\/(n=iI 0/\out=.string (cP 1)))/\Ext w wr) (fun n _ _=>(intOf n).toNat)
  case atStart=>exact ⟨.inl ⟨rfl,rfl⟩,xZ _⟩
  case round=>
   exact th
 ·go_enter vW,vU;go_wp2
  go_loopw [0,4] (fun n out wr=>((n=iI 2/\out=.string ⟨#[]⟩)\/(n=iI 0/\out=.string (cP 2)))/\Ext w wr) (fun n _ _=>(intOf n).toNat)
  case atStart=>exact ⟨.inl ⟨rfl,rfl⟩,xZ _⟩
  case round=>
   exact th
 ·go_enter vW,vU;go_wp2
  go_loopw [0,4] (fun n out wr=>((n=iI 3/\out=.string ⟨#[]⟩)\/(n=iI 0/\out=.string (cP 3)))/\Ext w wr) (fun n _ _=>(intOf n).toNat)
  case atStart=>exact ⟨.inl ⟨rfl,rfl⟩,xZ _⟩
  case round=>
   exact th
 ·go_enter vW,vU;go_wp2
  go_loopw [0,4] (fun n out wr=>((n=iI 4/\out=.string ⟨#[]⟩)\/(n=iI 0/\out=.string (cP 4)))/\Ext w wr) (fun n _ _=>(intOf n).toNat)
  case atStart=>exact ⟨.inl ⟨rfl,rfl⟩,xZ _⟩
  case round=>
   exact th
def num (n:Nat):ByteArray:=⟨(Lib.decDigits n).toArray⟩
theorem uG (x:UInt8) (l:List UInt8) (h:l.length<=2000000000) (w:World):(Op.stringOp .add ⟨#[x]⟩ ⟨l.toArray⟩).run prog w=.ok (.string ⟨(x::l).toArray⟩) w:=by
 have e:(⟨#[x]⟩:ByteArray)++⟨l.toArray⟩=⟨(x::l).toArray⟩:=by
  apply DM;simp
 rw [<-e];refine iR w _ _ ?_;show 1+l.toArray.size<=_;simp;omega
theorem dec_lt {k:Nat} (h:k<10):Lib.decDigits k=[UInt8.ofNat (48+k)]:=Lib.decDigits_one h
theorem aj5 {k:Nat} (h:¬k<10):Lib.decDigits k=Lib.decDigits (k / 10)++[UInt8.ofNat (48+k % 10)]:=by
 rw [Lib.decDigits,dif_neg h]
theorem py (m:Nat) (hm:m<=1000000000) (w:World):Calls prog 20 #[iI m] w fun e w'=>e=.returned (.string (num m))/\Ext w w':=by
 by_cases h0:m=0
 ·subst h0;go_enter vW,vU;go_wp2;go_ret
  exact ⟨kR (by unfold num;rw [dec_lt aa];rfl),xZ _⟩
 have hne:((m:Int)==0)=false:=ai
 have hng:¬((m:Int)<0):=aa
 go_enter vW,vU;go_wp2
 go_loopw [0,4] (fun n out wr=>∃(k:Nat) (l:List UInt8),n=iI k/\out=.string ⟨l.toArray⟩/\l.length+k<=m/\Hid ((0<k/\Lib.decDigits m=Lib.decDigits k++l)\/(k=0/\Lib.decDigits m=l))/\Ext w wr) (fun n _ _=>(intOf n).toNat)
 case atStart=>exact ⟨m,[],rfl,rfl,ag,.inl ⟨aa,ag⟩,xZ _⟩
 case round=>
  obtain ⟨k,l,rfl,rfl,hl,HD,hx⟩:=hrel
  by_cases hk:k=0
  ·subst hk;have HF:Hid (Lib.decDigits m=l):=by
    rcases HD.u with ⟨h,_⟩|⟨_,h⟩
    ·omega
    ·exact h
   go_wp2;go_ret
   exact ⟨kR (by unfold num;rw [HF.u]),hx⟩
  ·have KQ:((k:Int) !=0)=true:=ai
   obtain ⟨d,hd⟩:∃d:Nat,d=k % 10:=⟨_,rfl⟩;have EC:d<=9:=aa
   have oI:(k:Int) % 10=(d:Int):=aa
   obtain ⟨k2,iM⟩:=ey (k / 10);have hu8:IntKind.u8.wrap (48+(d:Int))=48+(d:Int):=IntWalk.u8_in _ aa;obtain ⟨x,uH⟩:∃x:UInt8,x=UInt8.ofNat (48+d):=⟨_,rfl⟩;have hxn:(x.toNat:Int)=48+(d:Int):=by rw [uH,TD];omega
   have hcv:∀wx:World,(convert 22 9 (.slice (some ⟨wx.heap.size,0,none⟩) 1 1)).run prog (wx.alloc (cO #[.int .u8 (48+(d:Int))] 5))=.ok (.string ⟨#[x]⟩) (wx.alloc (cO #[.int .u8 (48+(d:Int))] 5)):=fun wx=>ou (48+(d:Int)) x hxn wx
   have hj:=uG x l aa;have lu:(0:Int)<=(k:Int):=aa
   have hdv:(k:Int) / 10=(k2:Int):=aa
   clear hxn;have hdn:¬((d:Int)<0):=aa
   have NN:Hid ((0<k2/\Lib.decDigits m=Lib.decDigits (k2)++(x::l))\/(k2=0/\Lib.decDigits m=x::l)):=by
    rcases HD.u with ⟨_,h⟩|⟨h,_⟩
    ·by_cases h10:k<10
     ·right;refine ⟨aa,?_⟩;rw [uH,h,dec_lt h10,show d=k by omega];rfl
     ·left;refine ⟨aa,?_⟩;rw [uH,h,aj5 h10,<-hd,<-iM];simp
    ·omega
   have qw:(x::l).length+k2<=m:=ai
   clear uH;have HM:Hid ((intOf (Value.int .i64 (k2:Int))).toNat<(intOf (Value.int .i64 (k:Int))).toNat):=by unfold Hid;simp [intOf];omega
   clear iM;clear hd HD;go_wp2;go_roundw
   case rel=>exact ⟨k2,_,by first|rfl|go_num,rfl,qw,NN,hx.alloc _⟩
   case measure=>exact HM.u
def vZ (p:List UInt8):List (List UInt8)->List (List UInt8)
 |[]=>[p]
 |x::r=>(p++x)::r
def iE (c:UInt8):List UInt8->List (List UInt8)
 |[]=>[[]]
 |b::l=>if b=c then []::iE c l else vZ [b] (iE c l)
theorem xv (c:UInt8) (l:List UInt8):iE c l≠[]:=by
 cases l with
 |nil=>simp [iE]
 |cons b l=>
  unfold iE;split
  ·simp
  ·cases iE c l<;>simp [vZ]
theorem LU (p q:List UInt8) (X:List (List UInt8)):vZ p (vZ q X)=vZ (p++q) X:=by
 cases X<;>simp [vZ]
theorem Gf {X:List (List UInt8)} (h:X≠[]):vZ [] X=X:=by
 cases X with
 |nil=>exact absurd rfl h
 |cons x r=>rfl
theorem abv (c:UInt8) (l:List UInt8):(iE c l).length<=l.length+1:=by
 induction l with
 |nil=>simp [iE]
 |cons b l ih=>
  unfold iE;split
  ·simp;omega
  ·cases h:iE c l with
   |nil=>simp [vZ]
   |cons x r=>rw [h] at ih;simp [vZ] at ih |-;omega
theorem agi {l:List UInt8} {f k:Nat} {b:UInt8} (hf:f<=k) (h:l[k]?=some b):(l.drop f).take (k+1 - f)=(l.drop f).take (k - f)++[b]:=by
 have h1:(l.drop f)[k - f]?=some b:=by rw [vK];rw [show f+(k - f)=k by omega];exact h
 rw [show k+1 - f=(k - f)+1 by omega]
 exact aS h1
def pz (c:UInt8) (l:List UInt8) (done:List (List UInt8)) (f k:Nat):Prop:=f<=k/\k<=l.length/\iE c l=done++vZ ((l.drop f).take (k - f)) (iE c (l.drop k))
theorem pz.start (c:UInt8) (l:List UInt8):pz c l [] 0 0:=by
 refine ⟨lI _,lJ _,?_⟩;simp only [lN,CJ,CF,Bp]
 exact (Gf (xv c l)).symm
theorem drop_cons {l:List UInt8} {k:Nat} {b:UInt8} (h:l[k]?=some b):l.drop k=b::l.drop (k+1):=by
 obtain ⟨hl,rfl⟩:=gu.1 h
 exact Bn hl
theorem pz.skip {c:UInt8} {l:List UInt8} {done:List (List UInt8)} {f k:Nat} (h:pz c l done f k) {b:UInt8} (hb:l[k]?=some b) (hc:b≠c):pz c l done f (k+1):=by
 obtain ⟨h1,h2,h3⟩:=h;have hl:=(gu.1 hb).1;refine ⟨aa,aa,?_⟩;rw [h3,drop_cons hb,iE,aM hc,LU,agi h1 hb]
theorem pz.cut {c:UInt8} {l:List UInt8} {done:List (List UInt8)} {f k:Nat} (h:pz c l done f k) (hb:l[k]?=some c):pz c l (done++[(l.drop f).take (k - f)]) (k+1) (k+1):=by
 obtain ⟨h1,h2,h3⟩:=h;have hl:=(gu.1 hb).1;refine ⟨aa,aa,?_⟩;rw [h3,drop_cons hb,iE,aY rfl,CJ,CF,Gf (xv _ _)];simp [vZ]
theorem pz.fin {c:UInt8} {l:List UInt8} {done:List (List UInt8)} {f:Nat} (h:pz c l done f l.length):iE c l=done++[(l.drop f).take (l.length - f)]:=by
 obtain ⟨h1,h2,h3⟩:=h;rw [h3,vI (lI _),iE];simp [vZ]
theorem pz.atw {c:UInt8} {l:List UInt8} {done:List (List UInt8)} {f n:Nat} (h:pz c l done f n) (hn:l.length=n):iE c l=done++[(l.drop f).take (n - f)]:=by
 subst hn
 exact h.fin
def cut (c:UInt8) (s:ByteArray):List ByteArray:=(iE c s.data.toList).map fun l=>⟨l.toArray⟩
theorem TZ {xs:List ByteArray} {c:UInt8} {s:ByteArray} (h:xs.map (·.data.toList)=iE c s.data.toList):xs=cut c s:=by
 unfold cut;rw [<-h,NG];have:((fun l:List UInt8=>(⟨l.toArray⟩:ByteArray)) ∘ fun x:ByteArray=>x.data.toList)=id:=by
  funext x;apply DM;simp
 rw [this,List.map_id]
theorem oK (c:UInt8) (s:ByteArray):(cut c s).length<=s.size+1:=by
 unfold cut;rw [jK];have:=abv c s.data.toList;rwa [FH] at this
theorem tj (c:UInt8) (s:ByteArray):0<(cut c s).length:=by
 unfold cut;rw [jK]
 exact List.length_pos_iff.2 (xv _ _)
theorem Gg (c:UInt8):∀l:List UInt8,Lib.splitK [c] 0 (Lib.count l [c]) l=iE c l
 |[]=>by
  have h0:Lib.count [] [c]=0:=by rw [Lib.count_one];rfl
  rw [h0];rfl
 |b::l=>by
  have ih:=Gg c l
  by_cases h:b=c
  ·subst h;rw [Lib.count_cons_eq,iE,aY rfl,zz,Lib.splitK];have hix:Lib.index (b::l) [b]=0:=by rw [Lib.index];simp [List.isPrefixOf]
   rw [hix,aM ae];simp [ih]
  ·rw [Lib.count_cons_ne b c l h,iE,aM h,<-ih];have hp:([c]:List UInt8).isPrefixOf (b::l)=false:=by simp [List.isPrefixOf,vV h]
   have hix:Lib.index (b::l) [c]=if Lib.index l [c]== -1 then -1 else Lib.index l [c]+1:=by rw [Lib.index,hp];simp
   cases hk:Lib.count l [c] with
   |zero=>rfl
   |succ k=>
    have uU:=Lib.index_ge l [c]
    by_cases hm:Lib.index l [c]= -1
    ·rw [Lib.splitK,Lib.splitK,hix,hm];rfl
    ·obtain ⟨j,hj⟩:∃j:Nat,Lib.index l [c]=j:=⟨(Lib.index l [c]).toNat,aa⟩;have e1:((j:Int)== -1)=false:=ag
     have e2:(((j:Int)+1)== -1)=false:=ai
     have e3:((j:Int)+1).toNat=j+1:=aa
     have e4:((j:Int)).toNat=j:=aa
     rw [Lib.splitK,Lib.splitK,hix,hj,e1];simp only [e2,e3,e4,Bool.false_eq_true,if_false];simp [vZ,Nat.add_right_comm]
theorem Gh (c:UInt8) (s:ByteArray):Lib.splitB ⟨#[c]⟩ 0 (Lib.countB s ⟨#[c]⟩) s=cut c s:=by
 apply TZ;rw [Lib.splitB_data]
 exact Gg c s.data.toList
theorem Yx (c:UInt8) (l:List UInt8):∀x∈iE c l,x.length<=l.length:=by
 induction l with
 |nil=>intro x hx;simp [iE] at hx;subst hx;simp
 |cons b l ih=>
  intro x hx;unfold iE at hx;split at hx
  ·rcases jw.1 hx with rfl|h
   ·simp
   ·have:=ih x h;simp;omega
  ·cases h:iE c l with
   |nil=>exact absurd h (xv _ _)
   |cons y r=>
    rw [h] at hx;rcases jw.1 hx with rfl|h'
    ·have:=ih y (by rw [h];exact rX);simp;omega
    ·have:=ih x (by rw [h];exact nr _ h');simp;omega
theorem kS {c:UInt8} {s x:ByteArray} (h:x∈cut c s):x.size<=s.size:=by
 unfold cut at h;obtain ⟨l,hl,rfl⟩:=qH.1 h;have:=Yx c _ l hl;rw [FH] at this;show l.toArray.size<=_;simpa using this
theorem abw (c:UInt8) (l:List UInt8):((iE c l).map fun x=>x.length+1).sum=l.length+1:=by
 induction l with
 |nil=>simp [iE]
 |cons b l ih=>
  unfold iE;split
  ·simp [ih];omega
  ·cases h:iE c l with
   |nil=>exact absurd h (xv _ _)
   |cons y r=>rw [h] at ih;simp [vZ] at ih |-;omega
def Gi (Q:Int->Bool->Prop) (e:Ending):Prop:=∃(n:Int) (ok:Bool),e=.returned (.tuple #[iI n,.bool ok])/\Q n ok
theorem kT {Q:Int->Bool->Prop} {e:Ending} (n:Int) (ok:Bool) (h:e=.returned (.tuple #[iI n,.bool ok])) (q:Q n ok):Gi Q e:=⟨n,ok,h,q⟩
def PN (t:ByteArray) (n:Int) (ok:Bool):Prop:=0<=n/\n<=999999/\∀d:Int,0<=d->d<=4->t=cP d->n=d/\ok=true
theorem Yy (y:Int) (hy:y<=0):∃(d:Nat) (y2:Int),d<=9/\y.tmod 10= -(d:Int)/\y.tdiv 10=y2/\y2<=0/\y=10*y2 - d:=by
 obtain ⟨k,rfl⟩:∃k:Nat,y= -(k:Int):=⟨(-y).toNat,aa⟩;refine ⟨k % 10, -((k / 10:Nat):Int),aa,?_,?_,aa,aa⟩
 ·rw [Int.neg_tmod];rfl
 ·rw [Int.neg_tdiv];rfl
theorem fZ {P:Prop} (h:P:=by
 go_wp2;go_roundw
 case rel=>exact ⟨y2,_,by rw [HW.u],iW,rfl,HL.u,hx.alloc _⟩
 case measure=>rw [HW.u];exact HM.u):P:=h
theorem zD (z:Int) (hz: -1000000000<=z) (fH:z<0) (w:World):Calls prog 20 #[iI z] w fun e w'=>(∃t,e=.returned (.string t))/\Ext w w':=by
 have hne:(z==0)=false:=ai
 go_enter vW,vU;go_wp2
 go_loopw [0,4] (fun n out wr=>∃(y:Int) (l:List UInt8),n=iI y/\y<=0/\out=.string ⟨l.toArray⟩/\l.length - y<=1000000000/\Ext w wr) (fun n _ _=>(-(intOf n)).toNat)
 case atStart=>exact ⟨z,[],rfl,aa,rfl,ai,xZ _⟩
 case round=>
  obtain ⟨y,l,rfl,hy,rfl,hl,hx⟩:=hrel
  by_cases hk:y=0
  ·subst hk;have hj:=uG 45 l aa;go_wp2;go_ret
   exact ⟨⟨_,rfl⟩,hx⟩
  ·have KQ:(y !=0)=true:=ai
   obtain ⟨d,y2,EC,oI,hdiv,iW,hyy⟩:=Yy y hy;have HW:Hid (wrap64 y2=y2):=rG
   have HM:Hid ((-(intOf (Value.int .i64 y2))).toNat<(-(intOf (Value.int .i64 y))).toNat):=by unfold Hid;simp [intOf];omega
   have HL:Hid (((l.length+1:Nat):Int) - y2<=1000000000):=bN
   clear hyy;rcases (aa:d=0\/d=1\/d=2\/d=3\/d=4\/d=5\/d=6\/d=7\/d=8\/d=9) with rfl|rfl|rfl|rfl|rfl|rfl|rfl|rfl|rfl|rfl
   ·have hcv:=ou 48 48 rfl;have hj:=uG 48 l aa;have oI:y.tmod 10=0:=oI
    exact fZ
   ·have hcv:=ou 49 49 rfl;have hj:=uG 49 l aa;have oI:y.tmod 10= -1:=oI
    exact fZ
   ·have hcv:=ou 50 50 rfl;have hj:=uG 50 l aa;have oI:y.tmod 10= -2:=oI
    exact fZ
   ·have hcv:=ou 51 51 rfl;have hj:=uG 51 l aa;have oI:y.tmod 10= -3:=oI
    exact fZ
   ·have hcv:=ou 52 52 rfl;have hj:=uG 52 l aa;have oI:y.tmod 10= -4:=oI
    exact fZ
   ·have hcv:=ou 53 53 rfl;have hj:=uG 53 l aa;have oI:y.tmod 10= -5:=oI
    exact fZ
   ·have hcv:=ou 54 54 rfl;have hj:=uG 54 l aa;have oI:y.tmod 10= -6:=oI
    exact fZ
   ·have hcv:=ou 55 55 rfl;have hj:=uG 55 l aa;have oI:y.tmod 10= -7:=oI
    exact fZ
   ·have hcv:=ou 56 56 rfl;have hj:=uG 56 l aa;have oI:y.tmod 10= -8:=oI
    exact fZ
   ·have hcv:=ou 57 57 rfl;have hj:=uG 57 l aa;have oI:y.tmod 10= -9:=oI
    exact fZ
theorem pB {P:Prop} (h:P:=by
 go_enter func35,ntmps35;go_wp2_with (go_at_call 53;refine (HL.u _).mono ?_;rintro e w5 ⟨rfl,cf⟩)
 go_ret2
 exact ⟨rfl,cf⟩):P:=h
theorem pD {P:Prop} (h:P:=by
 go_wp2;go_roundw
 case rel=>exact ⟨.inr ⟨rfl,rfl⟩,hx⟩
 case measure=>simp [intOf]):P:=h
theorem pE {P:Prop} (h:P:=by
 go_ret2
 exact ⟨rfl,hx.trans cf⟩):P:=h
theorem wg (d:Int) (h0:0<=d) (h4:d<=4) (w:World):Calls prog 35 #[.string (cP d)] w fun e w'=>e=.returned (.tuple #[iI d,.bool true])/\Ext w w':=by
 rcases (aa:d=0\/d=1\/d=2\/d=3\/d=4) with rfl|rfl|rfl|rfl|rfl
 ·have HL:Hid (∀w',Calls prog 53 #[.string (cP 0),iI 6] w' fun e w''=>e=.returned (.tuple #[iI 0,.bool true])/\Ext w' w''):=by
   intro w';have jm:(cP 0).size=1:=rfl;have hb:((cP 0)[0]' ae)=48:=rfl;go_enter func53,ntmps53;go_wp2
   go_loopw [8,9] (fun n i wr=>((n=iI 0/\i=iI 0)\/(n=iI 0/\i=iI 1))/\Ext w' wr) (fun _ i _=>1 - (intOf i).toNat)
   case atStart=>exact ⟨.inl ⟨rfl,rfl⟩,xZ _⟩
   case round=>
    obtain ⟨⟨rfl,rfl⟩|⟨rfl,rfl⟩,hx⟩:=hrel
    ·exact pD
    ·go_wp2_with (go_at_call 20;refine (bA 0 ⟨aa,aa⟩ _).mono ?_;rintro e w5 ⟨rfl,cf⟩)
     exact pE
  exact pB
 ·have HL:Hid (∀w',Calls prog 53 #[.string (cP 1),iI 6] w' fun e w''=>e=.returned (.tuple #[iI 1,.bool true])/\Ext w' w''):=by
   intro w';have jm:(cP 1).size=1:=rfl;have hb:((cP 1)[0]' ae)=49:=rfl;go_enter func53,ntmps53;go_wp2
   go_loopw [8,9] (fun n i wr=>((n=iI 0/\i=iI 0)\/(n=iI 1/\i=iI 1))/\Ext w' wr) (fun _ i _=>1 - (intOf i).toNat)
   case atStart=>exact ⟨.inl ⟨rfl,rfl⟩,xZ _⟩
   case round=>
    obtain ⟨⟨rfl,rfl⟩|⟨rfl,rfl⟩,hx⟩:=hrel
    ·exact pD
    ·go_wp2_with (go_at_call 20;refine (bA 1 ⟨aa,aa⟩ _).mono ?_;rintro e w5 ⟨rfl,cf⟩)
     exact pE
  exact pB
 ·have HL:Hid (∀w',Calls prog 53 #[.string (cP 2),iI 6] w' fun e w''=>e=.returned (.tuple #[iI 2,.bool true])/\Ext w' w''):=by
   intro w';have jm:(cP 2).size=1:=rfl;have hb:((cP 2)[0]' ae)=50:=rfl;go_enter func53,ntmps53;go_wp2
   go_loopw [8,9] (fun n i wr=>((n=iI 0/\i=iI 0)\/(n=iI 2/\i=iI 1))/\Ext w' wr) (fun _ i _=>1 - (intOf i).toNat)
   case atStart=>exact ⟨.inl ⟨rfl,rfl⟩,xZ _⟩
   case round=>
    obtain ⟨⟨rfl,rfl⟩|⟨rfl,rfl⟩,hx⟩:=hrel
    ·exact pD
    ·go_wp2_with (go_at_call 20;refine (bA 2 ⟨aa,aa⟩ _).mono ?_;rintro e w5 ⟨rfl,cf⟩)
     exact pE
  exact pB
 ·have HL:Hid (∀w',Calls prog 53 #[.string (cP 3),iI 6] w' fun e w''=>e=.returned (.tuple #[iI 3,.bool true])/\Ext w' w''):=by
   intro w';have jm:(cP 3).size=1:=rfl;have hb:((cP 3)[0]' ae)=51:=rfl;go_enter func53,ntmps53;go_wp2
   go_loopw [8,9] (fun n i wr=>((n=iI 0/\i=iI 0)\/(n=iI 3/\i=iI 1))/\Ext w' wr) (fun _ i _=>1 - (intOf i).toNat)
   case atStart=>exact ⟨.inl ⟨rfl,rfl⟩,xZ _⟩
   case round=>
    obtain ⟨⟨rfl,rfl⟩|⟨rfl,rfl⟩,hx⟩:=hrel
    ·exact pD
    ·go_wp2_with (go_at_call 20;refine (bA 3 ⟨aa,aa⟩ _).mono ?_;rintro e w5 ⟨rfl,cf⟩)
     exact pE
  exact pB
 ·have HL:Hid (∀w',Calls prog 53 #[.string (cP 4),iI 6] w' fun e w''=>e=.returned (.tuple #[iI 4,.bool true])/\Ext w' w''):=by
   intro w';have jm:(cP 4).size=1:=rfl;have hb:((cP 4)[0]' ae)=52:=rfl;go_enter func53,ntmps53;go_wp2
   go_loopw [8,9] (fun n i wr=>((n=iI 0/\i=iI 0)\/(n=iI 4/\i=iI 1))/\Ext w' wr) (fun _ i _=>1 - (intOf i).toNat)
   case atStart=>exact ⟨.inl ⟨rfl,rfl⟩,xZ _⟩
   case round=>
    obtain ⟨⟨rfl,rfl⟩|⟨rfl,rfl⟩,hx⟩:=hrel
    ·exact pD
    ·go_wp2_with (go_at_call 20;refine (bA 4 ⟨aa,aa⟩ _).mono ?_;rintro e w5 ⟨rfl,cf⟩)
     exact pE
  exact pB
theorem aby (d:Int) (h0:0<=d) (h4:d<=4):PN (cP d) d true:=by
 refine ⟨h0,aa,fun d' h0' h4' he=>⟨?_,rfl⟩⟩;have e1:UInt8.ofNat (48+d.toNat)=UInt8.ofNat (48+d'.toNat):=by
  have:=mr (fun b:ByteArray=>b.data.toList) he;simpa [cP] using this
 have e2:=mr UInt8.toNat e1;rw [TD,TD] at e2;omega
theorem QD (s:ByteArray) (k:Nat) (h:k<s.size):s[k].toNat<=255:=oM (s[k].toNat_lt)
theorem Gj {P:Prop} (h:P:=by
 by_cases h48:b<48
 ·have atx:(b:Int)<48:=aa
  go_wp2;go_ret2
  exact ⟨kT (0) false rfl ⟨aa,aa⟩,hx⟩
 have atx:¬((b:Int)<48):=aa
 by_cases h57:57<b
 ·have aty:(57:Int)<(b:Int):=aa
  go_wp2;go_ret2
  exact ⟨kT (0) false rfl ⟨aa,aa⟩,hx⟩
 have aty:¬((57:Int)<(b:Int)):=aa
 have HM:Hid (10*n+(b - 48)<10 ^ (k+1)):=by unfold Hid;have:=HN.u;rw [Nat.pow_succ];omega
 have u1:((b:Int) - 48) % 256=((b - 48:Nat):Int):=aa
 go_wp2;go_roundw
 case rel=>exact ⟨10*n+(b - 48),k+1,az,az,aa,HM,hx⟩
 case measure=>simp [intOf];omega):P:=h
theorem pF {P:Prop} (h:P:=by
 go_wp2;go_ret2
 exact ⟨kT (0) false rfl ⟨aa,aa⟩,xZ _⟩):P:=h
theorem Gk {P:Prop} (h:P:=by
 go_wp2;go_ret2
 exact ⟨kT (0) false rfl ⟨aa,aa⟩,hx.trans cf⟩):P:=h
theorem CL (s:ByteArray) (hs:s.size<=2000000) (w:World):Calls prog 53 #[.string s,iI 6] w fun e w'=>Gi (fun n _=>n<=999999/\ -999999<=n) e/\Ext w w':=by
 go_enter func53,ntmps53
 by_cases h0:s.size=0
 ·have h0':¬((0:Int)<(s.size:Int)):=aa
  have Ua:(s.size:Int)<1:=aa
  exact pF
 have h0':((0:Int)<(s.size:Int)):=aa
 have h00:0<s.size:=aa
 by_cases hm:s[0]=45
 ·have hmb:((s[0].toNat:Int)==45)=true:=by rw [hm];rfl
  obtain ⟨t,ht⟩:=ex (s.extract 1 s.size);have hts:t.size=s.size - 1:=by rw [<-ht,abe];omega
  clear hm
  by_cases hz:t.size<1
  ·have Ua:(t.size:Int)<1:=aa
   exact pF
  have Ua:¬((t.size:Int)<1):=aa
  by_cases hq:6<t.size
  ·have Gl:(6:Int)<(t.size:Int):=aa
   exact pF
  have Gl:¬((6:Int)<(t.size:Int)):=aa
  go_wp2
  go_loopw [8,9] (fun nv iv wr=>∃n k:Nat,nv=iI n/\iv=iI k/\k<=t.size/\Hid (n<10 ^ k)/\Ext w wr) (fun _ i _=>t.size - (intOf i).toNat)
  case atStart=>exact ⟨0,0,rfl,rfl,lJ _,by unfold Hid;decide,xZ _⟩
  case round=>
   obtain ⟨n,k,rfl,rfl,hk,HN,hx⟩:=hrel;have lu:(0:Int)<=(k:Int):=aa
   have h6:n<1000000:=qD HN.u (lK (DB ae (show k<=6 by omega)) ae)
   by_cases ba:k<t.size
   ·have NP:(k:Int)<(t.size:Int):=aa
    have h5:n<100000:=qD HN.u (lK (DB ae (show k<=5 by omega)) ae);have aoq:=QD t k ba;obtain ⟨b,hb⟩:∃b:Nat,t[k].toNat=b:=⟨_,rfl⟩
    exact Gj
   ·have NP:¬((k:Int)<(t.size:Int)):=aa
    have hwn:wrap64 (-(n:Int))= -(n:Int):=bk
    have HC:Hid (∀w',Calls prog 20 #[iI (-(n:Int))] w' fun e w''=>(∃t,e=.returned (.string t))/\Ext w' w''):=by
     intro w';rcases DF n with rfl|hp
     ·refine (py 0 aa w').mono ?_;rintro e w'' ⟨rfl,h⟩
      exact ⟨⟨_,rfl⟩,h⟩
     ·exact zD _ aa aa w'
    go_wp2_with fail;refine (HC.u _).mono ?_;rintro e w5 ⟨⟨tt,rfl⟩,cf⟩;obtain ⟨q,hq⟩:=ex ((ByteArray.toList (tt)==s.toList))
    cases q
    ·exact Gk
    ·go_wp2;go_ret2
     exact ⟨kT (-(n:Int)) true rfl ⟨aa,aa⟩,hx.trans cf⟩
 ·have hmb:((s[0].toNat:Int)==45)=false:=by
   simp;intro h
   exact hm (UInt8.toNat_inj.1 (by rw [show s[0].toNat=45 by omega];rfl))
  clear hm
  by_cases hz:s.size<1
  ·have Ua:(s.size:Int)<1:=aa
   exact pF
  have Ua:¬((s.size:Int)<1):=aa
  by_cases hq:6<s.size
  ·have Gl:(6:Int)<(s.size:Int):=aa
   exact pF
  have Gl:¬((6:Int)<(s.size:Int)):=aa
  go_wp2
  go_loopw [8,9] (fun nv iv wr=>∃n k:Nat,nv=iI n/\iv=iI k/\k<=s.size/\Hid (n<10 ^ k)/\Ext w wr) (fun _ i _=>s.size - (intOf i).toNat)
  case atStart=>exact ⟨0,0,rfl,rfl,lJ _,by unfold Hid;decide,xZ _⟩
  case round=>
   obtain ⟨n,k,rfl,rfl,hk,HN,hx⟩:=hrel;have lu:(0:Int)<=(k:Int):=aa
   have h6:n<1000000:=qD HN.u (lK (DB ae (show k<=6 by omega)) ae)
   by_cases ba:k<s.size
   ·have NP:(k:Int)<(s.size:Int):=aa
    have h5:n<100000:=qD HN.u (lK (DB ae (show k<=5 by omega)) ae);have aoq:=QD s k ba;obtain ⟨b,hb⟩:∃b:Nat,s[k].toNat=b:=⟨_,rfl⟩
    exact Gj
   ·have NP:¬((k:Int)<(s.size:Int)):=aa
    go_wp2_with fail;refine (py n aa _).mono ?_;rintro e w5 ⟨rfl,cf⟩;obtain ⟨q,hq⟩:=ex ((ByteArray.toList (num n)==s.toList))
    cases q
    ·exact Gk
    ·go_wp2;go_ret2
     exact ⟨kT (n) true rfl ⟨aa,aa⟩,hx.trans cf⟩
theorem Gm {P:Prop} (h:P:=by
 go_wp2;go_ret2
 exact ⟨kT 0 false rfl (HD.u _ _ aa aa),hx⟩):P:=h
theorem bB (s:ByteArray) (hs:s.size<=2000000) (w:World):Calls prog 35 #[.string s] w fun e w'=>Gi (PN s) e/\Ext w w':=by
 by_cases hd:∃d:Int,0<=d/\d<=4/\s=cP d
 ·obtain ⟨d,h0,h4,rfl⟩:=hd;refine (wg d h0 h4 w).mono ?_;rintro e w' ⟨rfl,hx⟩
  exact ⟨kT d true rfl (aby d h0 h4),hx⟩
 ·have HD:Hid (∀n ok,0<=n->n<=999999->PN s n ok):=fun n ok h0 h9=>⟨h0,h9,fun d h0 h4 he=>absurd ⟨d,h0,h4,he⟩ hd⟩
  clear hd;go_enter func35,ntmps35;go_wp2_with fail;refine (CL s hs _).mono ?_;rintro e w2 ⟨⟨n,ok,rfl,h9,h9'⟩,hx⟩
  cases ok
  ·exact Gm
  ·by_cases hn:n<0
   ·exact Gm
   ·go_wp2;go_ret2
    exact ⟨kT n true rfl (HD.u _ _ aa aa),hx⟩
def Pow (w:World):Prop:=Lib.TabIs prog w "internal/strconv.uint64pow10" .u64 Lib.pow10Tab
theorem Ext.aiG {w w':World} (h:Ext w w') (os:Array Obj):Ext w (Go.Sort.grow w' os):=by
 refine ⟨h.os,h.tape,h.output,?_,?_⟩
 ·have:=h.size;simp [Go.Sort.grow];omega
 ·intro k hk;have hs:=h.size;have hb:=h.block k hk;show (w'.heap++os)[k]?=_;rw [Array.getElem?_append_left aa]
  exact hb
theorem Pow.ext {w w':World} (h:Pow w) (hx:Ext w w') (g:Nat) (hg:prog.globalNamed "internal/strconv.uint64pow10" =some g):Pow w':=by
 unfold Pow Lib.TabIs World.var? at h |-;rw [hg] at h |-;simp only [Option.bind_some] at h |-;have ba:g<w.heap.size:=by
  rcases od g w.heap.size with h'|h'
  ·exact h'
  ·rw [yk h'] at h;cases h
 rw [hx.block g ba]
 exact h
theorem Ub (m:Nat) (hm:m<=1000000000) (w:World) (hp:Pow w):Calls prog 16 #[iI m] w fun e w'=>e=.returned (.string (num m))/\Ext w w':=by
 go_enter func16,ntmps16;go_wp2_with fail;refine (strconv_Itoa _ aa aa _ hp).mono ?_;rintro e w2 ⟨rfl,k,os,rfl⟩;go_wp2;go_ret
 exact ⟨by unfold num;rw [Lib.itoa_nonneg];rfl,((xZ _).drewN _).aiG _⟩
end Go.Proofs.YtodhjgngkkcjgaaGreatDoor
