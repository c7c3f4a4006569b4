import Derived.Test.YtiajdbllccmokaaGreatDoorXf
import Derived.Test.YtiajdbllccmokaaGreatDoorXh
import Derived.Test.YtiajdbllccmokaaGreatDoorXg
namespace Go.Proofs.YtiajdbllccmokaaGreatDoor
open Go.ChangeShapes Go.WideShapes Go.ChangeAt Go.RowKit Go.Deep Go.Proofs.Tryz
set_option linter.unusedVariables false
set_option linter.unusedSimpArgs false
set_option maxRecDepth 100000
set_option maxHeartbeats 16000000
def bB (k:Int):Int:=if k=7 then 1 else if k=5 then 2 else if k=3 then 4 else if k=6 then 6 else if k=8 then 7 else 0
theorem xY (k:Int):0<=bB k/\bB k<=7:=by unfold bB;split<;>(try split)<;>(try split)<;>(try split)<;>(try split)<;>omega
def eK (g:Gt) (q:Int):Int:=
 if gQ g q=false then 0
 else if 0<bB g.k\/g.k=10 then 3
 else if g.k=1 then 1
 else if (g.k=9/\q=g.a)\/(g.k=12/\¬q=g.c) then 3
 else if g.k=9\/g.k=12 then 1 else 2
theorem amb (g:Gt) (q:Int):0<=eK g q/\eK g q<=3:=by unfold eK;split<;>(try split)<;>(try split)<;>(try split)<;>(try split)<;>omega
theorem aeh {g:Gt} {q:Int}:eK g q=0 ↔ gQ g q=false:=by
 unfold eK;constructor
 ·intro h
  by_cases ha:gQ g q=false
  ·exact ha
  ·rw [aK ha] at h;exfalso;revert h;split<;>(try split)<;>(try split)<;>(try split)<;>omega
 ·intro h;rw [aX h]
def rm (g h:Gt) (q:Int):Bool:=eK h q==0||(eK g q==eK h q && !(eK g q==2))
def nd (g h:Gt):Bool:=(pa g).all (rm g h)
def alike (g h:Gt):Bool:=g.k==h.k && (g.k==10||g.k==11) && ((g.a==h.a && g.b==h.b)||(g.a==h.b && g.b==h.a))
def Ut (c:Int):List Int:=if c=1 then [7] else if c=2 then [5] else if c=3 then [5,7] else if c=4 then [3] else if c=5 then [3,7] else if c=6 then [6] else if c=7 then [8] else []
def bV (c q:Int):List Gt:=(Ut c).map fun k=>⟨k,q,0,0⟩
theorem Vk (c:Int):(Ut c).length<=2:=vn
theorem ya (c q:Int):(bV c q).length<=2:=by unfold bV;rw [jk];exact Vk c
def et (g h:Gt):Option (List Gt):=
 if (decide (0<ar g.k) && (Gn h (uk g)||alike g h))=true then some []
 else if (decide (0<bB g.k) && decide (0<bB h.k) && g.a==h.a)=true then
  (if (bV ((bB g.k+bB h.k) % 8) g.a).length<2 then some (bV ((bB g.k+bB h.k) % 8) g.a) else none)
 else none
theorem NY {g h:Gt} {out:List Gt} (e:et g h=some out):out.length<=1:=by
 unfold et at e;split at e
 ·cases e;simp
 ·split at e
  ·split at e
   ·cases e;omega
   ·cases e
  ·cases e
def NZ (xs:List Gt) (g:Gt):Nat->Nat->Option (Nat ×List Gt)
 |0,_=>none
 |f+1,k=>match xs[k]? with
  |none=>none
  |some h=>match et g h with
   |some out=>some (k,out)
   |none=>if nd g h=true then NZ xs g f (k+1) else none
theorem IV {xs:List Gt} {g h:Gt} {f k:Nat} {out:List Gt} (hk:xs[k]?=some h) (hm:et g h=some out):NZ xs g (f+1) k=some (k,out):=by
 unfold NZ;rw [hk];simp only [hm]
theorem CO {xs:List Gt} {g h:Gt} {f k:Nat} (hk:xs[k]?=some h) (hm:et g h=none) (hc:nd g h=true):NZ xs g (f+1) k=NZ xs g f (k+1):=by
 show (match xs[k]? with|none=>none|some h=>match et g h with|some out=>some (k,out)|none=>if nd g h=true then NZ xs g f (k+1) else none)=_;rw [hk];simp only [hm];rw [aX hc]
theorem CP {xs:List Gt} {g h:Gt} {f k:Nat} (hk:xs[k]?=some h) (hm:et g h=none) (hc:nd g h=false):NZ xs g (f+1) k=none:=by
 show (match xs[k]? with|none=>none|some h=>match et g h with|some out=>some (k,out)|none=>if nd g h=true then NZ xs g f (k+1) else none)=_;rw [hk];simp only [hm];rw [aK (by simp [hc])]
theorem Qi {xs:List Gt} {g:Gt} {f k:Nat} (hk:xs[k]?=none):NZ xs g (f+1) k=none:=by unfold NZ;rw [hk]
theorem Lh {xs:List Gt} {g:Gt}:∀{f k j:Nat} {out:List Gt},NZ xs g f k=some (j,out)->k<=j/\j<xs.length/\out.length<=1
 |0,_,_,_,e=>dQ
 |f+1,k,j,out,e=>by
  cases hk:xs[k]? with
  |none=>rw [Qi hk] at e;cases e
  |some h=>
   cases hm:et g h with
   |some o=>
    rw [IV hk hm] at e
    cases e
    exact ⟨lI _,(gU.1 hk).1,NY hm⟩
   |none=>
    cases hc:nd g h
    ·rw [CP hk hm hc] at e
     cases e
    ·rw [CO hk hm hc] at e;have:=Lh e;omega
def CQ (xs:List Gt) (i k:Nat) (out:List Gt):List Gt:=xs.take i++(xs.take k).drop (i+1)++out++xs.drop (k+1)
def MU (xs:List Gt) (i:Nat):Option (Nat ×List Gt):=match xs[i]? with
 |none=>none
 |some g=>NZ xs g (xs.length - (i+1)) (i+1)
def sV (xs:List Gt):Nat->Nat->Option (List Gt)
 |0,_=>none
 |f+1,i=>match MU xs i with
  |some p=>some (CQ xs i p.1 p.2)
  |none=>sV xs f (i+1)
def jW (xs:List Gt):Option (List Gt):=sV xs xs.length 0
theorem CR {xs:List Gt} {i k:Nat} {out:List Gt} (e:MU xs i=some (k,out)):i<k/\k<xs.length/\out.length<=1:=by
 unfold MU at e
 cases hi:xs[i]? with
 |none=>rw [hi] at e;cases e
 |some g=>
  rw [hi] at e;have:=Lh e;omega
theorem Vl {xs:List Gt} {i k:Nat} {out:List Gt} (hi:i<k) (hk:k<xs.length) (ho:out.length<=1):(CQ xs i k out).length+1<=xs.length:=by
 unfold CQ;simp only [lA,lT,lU];omega
theorem zl {xs:List Gt} {f i:Nat} {p:Nat ×List Gt} (h:MU xs i=some p):sV xs (f+1) i=some (CQ xs i p.1 p.2):=by
 unfold sV;rw [h]
theorem vU {xs:List Gt} {f i:Nat} (h:MU xs i=none):sV xs (f+1) i=sV xs f (i+1):=by
 show (match MU xs i with|some p=>some (CQ xs i p.1 p.2)|none=>sV xs f (i+1))=_;rw [h]
theorem GN {xs:List Gt}:∀{f i:Nat} {ys:List Gt},sV xs f i=some ys->ys.length+1<=xs.length
 |0,_,_,e=>dQ
 |f+1,i,ys,e=>by
  cases h:MU xs i with
  |none=>rw [vU h] at e;exact GN e
  |some p=>
   rw [zl h] at e
   cases e
   have:=CR (k:=p.1) (out:=p.2) h
   exact Vl this.1 this.2.1 this.2.2
theorem tV {xs ys:List Gt} (h:jW xs=some ys):ys.length+1<=xs.length:=GN h
def sW:Nat->List Gt->List Gt
 |0,xs=>xs
 |f+1,xs=>match jW xs with
  |none=>xs
  |some ys=>sW f ys
def dE (xs:List Gt):List Gt:=sW xs.length xs
theorem ahb:jW []=none:=rfl
theorem nh {f:Nat} {xs:List Gt} (h:jW xs=none):sW f xs=xs:=by
 cases f with
 |zero=>rfl
 |succ f=>unfold sW;rw [h]
theorem ni {f:Nat} {xs ys:List Gt} (h:jW xs=some ys):sW (f+1) xs=sW f ys:=by
 show (match jW xs with|none=>xs|some ys=>sW f ys)=_;rw [h]
theorem GO:∀(f:Nat) (xs:List Gt),(sW f xs).length<=xs.length
 |0,_=>lI _
 |f+1,xs=>by
  cases h:jW xs with
  |none=>rw [nh h];exact lI _
  |some ys=>
   rw [ni h];have h1:=GO f ys;have h2:=tV h;omega
theorem yb (xs:List Gt):(dE xs).length<=xs.length:=GO _ xs
theorem nj {P:Prop} (h:P:=by
 go_enter func120,ntmps120;go_wp2;go_ret
 exact ⟨rfl,rfl⟩):P:=h
theorem bC (k:Int) (w:World):Calls prog 120 #[iI k] w fun e w'=>e=.returned (iI (bB k))/\w=w':=by
 by_cases h7:k=7
 ·subst h7
  exact nj
 by_cases h5:k=5
 ·subst h5
  exact nj
 by_cases h3:k=3
 ·subst h3
  exact nj
 by_cases h6:k=6
 ·subst h6
  exact nj
 by_cases h8:k=8
 ·subst h8
  exact nj
 have HF:Hid (bB k=0):=by unfold Hid bB;rw [aK h7,aK h5,aK h3,aK h6,aK h8]
 have e7:(k==7)=false:=by simp;exact h7
 have e5:(k==5)=false:=by simp;exact h5
 have e3:(k==3)=false:=by simp;exact h3
 have e6:(k==6)=false:=by simp;exact h6
 have e8:(k==8)=false:=by simp;exact h8
 go_enter func120,ntmps120;go_wp2;go_ret
 exact ⟨dZ HF.u.symm,rfl⟩
theorem aei {g:Gt} {q:Int} (h:gQ g q=true):1<=g.k/\g.k<=12:=by
 unfold gQ fC pa at h
 by_cases hk:1<=g.k/\g.k<=12
 ·exact hk
 ·exfalso;have e:ar g.k=0:=by unfold ar;rw [aK aa,aK aa,aK aa]
  rw [e] at h;simp at h
theorem dy {P:Prop} (h:P:=by
 rintro e w2 ⟨rfl,rfl⟩;rw [hr];go_wp2;go_ret
 exact ⟨dZ HV.u.symm,HX.u⟩):P:=h
theorem iX (g:Gt) (q:Int) (w:World):Calls prog 148 #[g.val,iI q] w fun e w'=>e=.returned (iI (eK g q))/\Ext w w':=by
 obtain ⟨k,a,b,c⟩:=g;have HR:Hid (∀k (w':World),Calls prog 120 #[iI k] w' fun e w''=>e=.returned (iI (bB k))/\w'=w''):=fun k w'=>bC k w'
 cases ha:gQ ⟨k,a,b,c⟩ q
 ·have HV:=hY (aeh.2 ha);go_enter func148,ntmps148;go_wp2_with fail;refine (bu ⟨k,a,b,c⟩ q _).mono ?_;rintro e w1 ⟨rfl,aS⟩;rw [ha];have HX:Hid (Ext w w1):=Ext.trans aD aS;clear aS ha;go_wp2;go_ret
  exact ⟨dZ HV.u.symm,HX.u⟩
 have hk:=aei ha;have iG:k=1\/k=2\/k=3\/k=4\/k=5\/k=6\/k=7\/k=8\/k=9\/k=10\/k=11\/k=12:=by show _;simp only at hk;omega
 clear hk;rcases iG with rfl|rfl|rfl|rfl|rfl|rfl|rfl|rfl|rfl|rfl|rfl|rfl
 ·skip;have HV:Hid (eK ⟨1,a,b,c⟩ q=1):=dp
  have hr:bB 1=0:=ae
  go_enter func148,ntmps148;go_wp2_with fail;refine (bu ⟨1,a,b,c⟩ q _).mono ?_;rintro e w1 ⟨rfl,aS⟩;rw [ha];have HX:Hid (Ext w w1):=Ext.trans aD aS;have HB:Hid (ay w1 w.heap.size 54 #[iI 1,iI a,iI b,iI c]):=(ay.new w _ _).ext aS;clear aS ha;obtain ⟨⟨x0,x1,x2,x3⟩,-⟩:=aB HB.u;go_wp2_with fail;refine (HR.u 1 _).mono ?_
  exact dy
 ·skip;have HV:Hid (eK ⟨2,a,b,c⟩ q=2):=dp
  have hr:bB 2=0:=ae
  go_enter func148,ntmps148;go_wp2_with fail;refine (bu ⟨2,a,b,c⟩ q _).mono ?_;rintro e w1 ⟨rfl,aS⟩;rw [ha];have HX:Hid (Ext w w1):=Ext.trans aD aS;have HB:Hid (ay w1 w.heap.size 54 #[iI 2,iI a,iI b,iI c]):=(ay.new w _ _).ext aS;clear aS ha;obtain ⟨⟨x0,x1,x2,x3⟩,-⟩:=aB HB.u;go_wp2_with fail;refine (HR.u 2 _).mono ?_
  exact dy
 ·skip;have HV:Hid (eK ⟨3,a,b,c⟩ q=3):=dp
  have hr:bB 3=4:=ae
  go_enter func148,ntmps148;go_wp2_with fail;refine (bu ⟨3,a,b,c⟩ q _).mono ?_;rintro e w1 ⟨rfl,aS⟩;rw [ha];have HX:Hid (Ext w w1):=Ext.trans aD aS;have HB:Hid (ay w1 w.heap.size 54 #[iI 3,iI a,iI b,iI c]):=(ay.new w _ _).ext aS;clear aS ha;obtain ⟨⟨x0,x1,x2,x3⟩,-⟩:=aB HB.u;go_wp2_with fail;refine (HR.u 3 _).mono ?_
  exact dy
 ·skip;have HV:Hid (eK ⟨4,a,b,c⟩ q=2):=dp
  have hr:bB 4=0:=ae
  go_enter func148,ntmps148;go_wp2_with fail;refine (bu ⟨4,a,b,c⟩ q _).mono ?_;rintro e w1 ⟨rfl,aS⟩;rw [ha];have HX:Hid (Ext w w1):=Ext.trans aD aS;have HB:Hid (ay w1 w.heap.size 54 #[iI 4,iI a,iI b,iI c]):=(ay.new w _ _).ext aS;clear aS ha;obtain ⟨⟨x0,x1,x2,x3⟩,-⟩:=aB HB.u;go_wp2_with fail;refine (HR.u 4 _).mono ?_
  exact dy
 ·skip;have HV:Hid (eK ⟨5,a,b,c⟩ q=3):=dp
  have hr:bB 5=2:=ae
  go_enter func148,ntmps148;go_wp2_with fail;refine (bu ⟨5,a,b,c⟩ q _).mono ?_;rintro e w1 ⟨rfl,aS⟩;rw [ha];have HX:Hid (Ext w w1):=Ext.trans aD aS;have HB:Hid (ay w1 w.heap.size 54 #[iI 5,iI a,iI b,iI c]):=(ay.new w _ _).ext aS;clear aS ha;obtain ⟨⟨x0,x1,x2,x3⟩,-⟩:=aB HB.u;go_wp2_with fail;refine (HR.u 5 _).mono ?_
  exact dy
 ·skip;have HV:Hid (eK ⟨6,a,b,c⟩ q=3):=dp
  have hr:bB 6=6:=ae
  go_enter func148,ntmps148;go_wp2_with fail;refine (bu ⟨6,a,b,c⟩ q _).mono ?_;rintro e w1 ⟨rfl,aS⟩;rw [ha];have HX:Hid (Ext w w1):=Ext.trans aD aS;have HB:Hid (ay w1 w.heap.size 54 #[iI 6,iI a,iI b,iI c]):=(ay.new w _ _).ext aS;clear aS ha;obtain ⟨⟨x0,x1,x2,x3⟩,-⟩:=aB HB.u;go_wp2_with fail;refine (HR.u 6 _).mono ?_
  exact dy
 ·skip;have HV:Hid (eK ⟨7,a,b,c⟩ q=3):=dp
  have hr:bB 7=1:=ae
  go_enter func148,ntmps148;go_wp2_with fail;refine (bu ⟨7,a,b,c⟩ q _).mono ?_;rintro e w1 ⟨rfl,aS⟩;rw [ha];have HX:Hid (Ext w w1):=Ext.trans aD aS;have HB:Hid (ay w1 w.heap.size 54 #[iI 7,iI a,iI b,iI c]):=(ay.new w _ _).ext aS;clear aS ha;obtain ⟨⟨x0,x1,x2,x3⟩,-⟩:=aB HB.u;go_wp2_with fail;refine (HR.u 7 _).mono ?_
  exact dy
 ·skip;have HV:Hid (eK ⟨8,a,b,c⟩ q=3):=dp
  have hr:bB 8=7:=ae
  go_enter func148,ntmps148;go_wp2_with fail;refine (bu ⟨8,a,b,c⟩ q _).mono ?_;rintro e w1 ⟨rfl,aS⟩;rw [ha];have HX:Hid (Ext w w1):=Ext.trans aD aS;have HB:Hid (ay w1 w.heap.size 54 #[iI 8,iI a,iI b,iI c]):=(ay.new w _ _).ext aS;clear aS ha;obtain ⟨⟨x0,x1,x2,x3⟩,-⟩:=aB HB.u;go_wp2_with fail;refine (HR.u 8 _).mono ?_
  exact dy
 ·by_cases hq:q=a
  ·subst hq;have pc:(q==q)=true:=ag
   have HV:Hid (eK ⟨9,q,b,c⟩ q=3):=by unfold Hid eK;rw [aK kH];rw [aK (show ¬(0<bB 9\/(9:Int)=10) by decide),aK (show ¬(9:Int)=1 by decide),aX (Or.inl ⟨rfl,rfl⟩)]
   have hr:bB 9=0:=ae
   go_enter func148,ntmps148;go_wp2_with fail;refine (bu ⟨9,q,b,c⟩ q _).mono ?_;rintro e w1 ⟨rfl,aS⟩;rw [ha];have HX:Hid (Ext w w1):=Ext.trans aD aS;have HB:Hid (ay w1 w.heap.size 54 #[iI 9,iI q,iI b,iI c]):=(ay.new w _ _).ext aS;clear aS ha;obtain ⟨⟨x0,x1,x2,x3⟩,-⟩:=aB HB.u;go_wp2_with fail;refine (HR.u 9 _).mono ?_
   exact dy
  ·have pc:(q==a)=false:=by simp;exact hq
   have HQ:=hY hq;clear hq;have HV:Hid (eK ⟨9,a,b,c⟩ q=1):=by unfold Hid eK;rw [aK kH];rw [aK (show ¬(0<bB 9\/(9:Int)=10) by decide),aK (show ¬(9:Int)=1 by decide),aK (by rintro (⟨_,h⟩|⟨h,_⟩);exact HQ.u h;exact absurd (show (9:Int)=12 from h) ae),aX (Or.inl rfl)]
   have hr:bB 9=0:=ae
   go_enter func148,ntmps148;go_wp2_with fail;refine (bu ⟨9,a,b,c⟩ q _).mono ?_;rintro e w1 ⟨rfl,aS⟩;rw [ha];have HX:Hid (Ext w w1):=Ext.trans aD aS;have HB:Hid (ay w1 w.heap.size 54 #[iI 9,iI a,iI b,iI c]):=(ay.new w _ _).ext aS;clear aS ha;obtain ⟨⟨x0,x1,x2,x3⟩,-⟩:=aB HB.u;go_wp2_with fail;refine (HR.u 9 _).mono ?_
   exact dy
 ·skip;have HV:Hid (eK ⟨10,a,b,c⟩ q=3):=dp
  have hr:bB 10=0:=ae
  go_enter func148,ntmps148;go_wp2_with fail;refine (bu ⟨10,a,b,c⟩ q _).mono ?_;rintro e w1 ⟨rfl,aS⟩;rw [ha];have HX:Hid (Ext w w1):=Ext.trans aD aS;have HB:Hid (ay w1 w.heap.size 54 #[iI 10,iI a,iI b,iI c]):=(ay.new w _ _).ext aS;clear aS ha;obtain ⟨⟨x0,x1,x2,x3⟩,-⟩:=aB HB.u;go_wp2_with fail;refine (HR.u 10 _).mono ?_
  exact dy
 ·skip;have HV:Hid (eK ⟨11,a,b,c⟩ q=2):=dp
  have hr:bB 11=0:=ae
  go_enter func148,ntmps148;go_wp2_with fail;refine (bu ⟨11,a,b,c⟩ q _).mono ?_;rintro e w1 ⟨rfl,aS⟩;rw [ha];have HX:Hid (Ext w w1):=Ext.trans aD aS;have HB:Hid (ay w1 w.heap.size 54 #[iI 11,iI a,iI b,iI c]):=(ay.new w _ _).ext aS;clear aS ha;obtain ⟨⟨x0,x1,x2,x3⟩,-⟩:=aB HB.u;go_wp2_with fail;refine (HR.u 11 _).mono ?_
  exact dy
 ·by_cases hq:q=c
  ·subst hq;have pc:(q==q)=true:=ag
   have hqn:(q !=q)=false:=ag
   have HV:Hid (eK ⟨12,a,b,q⟩ q=1):=by unfold Hid eK;rw [aK kH];rw [aK (show ¬(0<bB 12\/(12:Int)=10) by decide),aK (show ¬(12:Int)=1 by decide),aK (by rintro (⟨h,_⟩|⟨_,h⟩);exact absurd (show (12:Int)=9 from h) ae;exact h rfl),aX (Or.inr rfl)]
   have hr:bB 12=0:=ae
   go_enter func148,ntmps148;go_wp2_with fail;refine (bu ⟨12,a,b,q⟩ q _).mono ?_;rintro e w1 ⟨rfl,aS⟩;rw [ha];have HX:Hid (Ext w w1):=Ext.trans aD aS;have HB:Hid (ay w1 w.heap.size 54 #[iI 12,iI a,iI b,iI q]):=(ay.new w _ _).ext aS;clear aS ha;obtain ⟨⟨x0,x1,x2,x3⟩,-⟩:=aB HB.u;go_wp2_with fail;refine (HR.u 12 _).mono ?_
   exact dy
  ·have pc:(q==c)=false:=by simp;exact hq
   have hqn:(q !=c)=true:=by rw [bne,pc];rfl
   have HQ:=hY hq;clear hq;have HV:Hid (eK ⟨12,a,b,c⟩ q=3):=by unfold Hid eK;rw [aK kH];rw [aK (show ¬(0<bB 12\/(12:Int)=10) by decide),aK (show ¬(12:Int)=1 by decide),aX (Or.inr ⟨rfl,HQ.u⟩)]
   have hr:bB 12=0:=ae
   go_enter func148,ntmps148;go_wp2_with fail;refine (bu ⟨12,a,b,c⟩ q _).mono ?_;rintro e w1 ⟨rfl,aS⟩;rw [ha];have HX:Hid (Ext w w1):=Ext.trans aD aS;have HB:Hid (ay w1 w.heap.size 54 #[iI 12,iI a,iI b,iI c]):=(ay.new w _ _).ext aS;clear aS ha;obtain ⟨⟨x0,x1,x2,x3⟩,-⟩:=aB HB.u;go_wp2_with fail;refine (HR.u 12 _).mono ?_
   exact dy
theorem aas {g h:Gt} {q:Int} (e:eK h q=0):rm g h q=true:=by unfold rm;rw [e];rfl
theorem Vm {g h:Gt} {q:Int} (e:eK h q≠0) (e2:eK g q≠eK h q):rm g h q=false:=by
 unfold rm;rw [show (eK h q==0)=false by simpa using e,show (eK g q==eK h q)=false by simpa using e2];rfl
theorem aat {g h:Gt} {q:Int} (e:eK h q≠0) (e2:eK g q=2):rm g h q=false:=by
 unfold rm;rw [show (eK h q==0)=false by simpa using e,e2];simp
theorem aau {g h:Gt} {q:Int} (e1:eK g q=eK h q) (e2:eK g q≠2):rm g h q=true:=by
 unfold rm;rw [show (eK g q==eK h q)=true by simpa using e1,show (eK g q==2)=false by simpa using e2];simp
theorem Li {g h:Gt} {k:Nat} {q:Int} (hq:(pa g)[k]?=some q) (hc:rm g h q=false):nd g h=false:=by
 unfold nd;rw [Gl];intro ha;have:=kc.1 ha q (lG hq);rw [hc] at this
 cases this
theorem GP {α:Type} {f:α->Bool} {xs:List α} {k:Nat} {x:α} (hx:xs[k]?=some x) (ha:(xs.take k).all f=true) (hf:f x=true):(xs.take (k+1)).all f=true:=by
 rw [aL hx,nX,ha];simp [hf]
theorem CS {P:Prop} (h:P:=by
 go_wp2;go_roundw
 case rel=>exact ⟨k+1,by first|rfl|rw [eM]|rw [iG],oM bS.u,HC,IW⟩
 case measure=>simp [intOf,iG];have:=bS.u;omega):P:=h
theorem rJ (g h:Gt) (w:World):Calls prog 134 #[g.val,h.val] w fun e w'=>e=.returned (.bool (nd g h))/\Ext w w':=by
 have HL:=hY (xN g);have gF:=fY g.k;have kj:Hid (Ext w ((w.alloc (cO (gA g) 54)).alloc (cO (gA h) 54))):=fo
 have fV:Hid (ay ((w.alloc (cO (gA g) 54)).alloc (cO (gA h) 54)) w.heap.size 54 (gA g)/\ay ((w.alloc (cO (gA g) 54)).alloc (cO (gA h) 54)) (w.heap.size+1) 54 (gA h)):=⟨(ay.new w _ _).alloc _,ay.newAt ag⟩;go_enter func134,ntmps134;go_upto_region 1 with fail;generalize ((w.alloc (cO (gA g) 54)).alloc (cO (gA h) 54))=W at*
 obtain ⟨⟨g0,g1,g2,g3⟩,-⟩:=aB fV.u.1;go_wp2_with fail;refine (fz g _).mono ?_;rintro e w1 ⟨v,rfl,ho,aS⟩;obtain ⟨A,c,rfl,hr⟩:=au ho;have dk:=hY (kj.u.trans aS);have ie:Hid (ay w1 w.heap.size 54 (gA g)/\ay w1 (w.heap.size+1) 54 (gA h)):=⟨fV.u.1.ext aS,fV.u.2.ext aS⟩;have RN:=hY hr;clear ho aS kj fV g0 g1 g2 g3;generalize hn:(pa g).length=n at*
 have hn3:n<=3:=oM HL.u
 have HN:=hY hn;clear hn hr;go_wp2
 go_loopw [6] (fun iv wr=>∃k:Nat,iv=iI k/\k<=n/\Hid (((pa g).take k).all (rm g h)=true)/\Hid (Ext w1 wr)) (fun iv _=>n - (intOf iv).toNat)
 case atStart=>exact ⟨0,rfl,lJ _,by unfold Hid;rfl,xZ _⟩
 case round=>
  obtain ⟨k,rfl,hk,HQ,HE⟩:=hrel
  by_cases bh:k<n
  ·obtain ⟨b,o,q,rfl,hb,hq,y0⟩:=eT RN.u bh;have HG:=hY hq;have bS:=hY bh;have eM:=wA k aa;have iG:=wB k aa;have HK:Hid (∀w',Ext wr w'->(w'.cell? (aA w.z 0)=some (iI g.k)/\w'.cell? (aA w.z 1)=some (iI g.a)/\w'.cell? (aA w.z 2)=some (iI g.b)/\w'.cell? (aA w.z 3)=some (iI g.c))/\(w'.cell? (aA (w.z+1) 0)=some (iI h.k)/\w'.cell? (aA (w.z+1) 1)=some (iI h.a)/\w'.cell? (aA (w.z+1) 2)=some (iI h.b)/\w'.cell? (aA (w.z+1) 3)=some (iI h.c))/\w'.cell? (aA b (o+k))=some (iI q)):=fun w' hx=>by
    have rF:=HE.u.trans hx;refine ⟨(aB (ie.u.1.ext rF)).1,(aB (ie.u.2.ext rF)).1,?_⟩;obtain ⟨b2,o2,q2,he,-,TL,z0⟩:=eT (RN.u.ext rF) bh;simp only [fW,iO] at he;obtain ⟨rfl,rfl,-⟩:=he;rw [hq] at TL;obtain rfl:=nT TL
    exact z0
   clear y0 hq hb;obtain ⟨⟨g0,g1,g2,g3⟩,⟨h0,h1,h2,h3⟩,y0⟩:=HK.u wr (xZ wr);go_upto_region 5 with fail
   go_region_held3 (fun w'=>(w'.cell? (aA w.z 0)=some (iI g.k)/\w'.cell? (aA w.z 1)=some (iI g.a)/\w'.cell? (aA w.z 2)=some (iI g.b)/\w'.cell? (aA w.z 3)=some (iI g.c))/\(w'.cell? (aA (w.z+1) 0)=some (iI h.k)/\w'.cell? (aA (w.z+1) 1)=some (iI h.a)/\w'.cell? (aA (w.z+1) 2)=some (iI h.b)/\w'.cell? (aA (w.z+1) 3)=some (iI h.c))/\w'.cell? (aA b (o+k))=some (iI q))
    (first|go_keep|exact HK.u _ aQ)
    (first
     |(go_at_call 148;refine (iX g q _).mono ?_;rintro e w3 ⟨rfl,bT⟩;replace bT:Ext wr w3:=(xZ wr).drew.trans bT))
   have iM:=hY bT;clear bT g0 g1 g2 g3 h0 h1 h2 h3 y0;obtain ⟨⟨g0,g1,g2,g3⟩,⟨h0,h1,h2,h3⟩,y0⟩:=HK.u w3 iM.u;go_upto_region 6 with fail
   go_region_held3 (fun w'=>(w'.cell? (aA w.z 0)=some (iI g.k)/\w'.cell? (aA w.z 1)=some (iI g.a)/\w'.cell? (aA w.z 2)=some (iI g.b)/\w'.cell? (aA w.z 3)=some (iI g.c))/\(w'.cell? (aA (w.z+1) 0)=some (iI h.k)/\w'.cell? (aA (w.z+1) 1)=some (iI h.a)/\w'.cell? (aA (w.z+1) 2)=some (iI h.b)/\w'.cell? (aA (w.z+1) 3)=some (iI h.c))/\w'.cell? (aA b (o+k))=some (iI q))
    (first|go_keep|exact HK.u _ aQ)
    (first
     |(go_at_call 148;refine (iX h q _).mono ?_;rintro e w4 ⟨rfl,fe⟩;replace fe:Ext wr w4:=iM.u.trans ((xZ w3).drew.trans fe)))
   have Br:=hY fe;clear fe g0 g1 g2 g3 h0 h1 h2 h3 y0 iM;have IW:=hY (HE.u.trans Br.u);obtain ⟨x,hx⟩:=ex (eK g q);obtain ⟨y,hy⟩:=ex (eK h q);rw [hx,hy]
   by_cases y0:y=0
   ·have HC:=hY (GP HG.u HQ.u (aas (hy.trans y0)));subst y0;clear hx hy
    exact CS
   have Fq:(y !=0)=true:=by rw [bne,show (y==0)=false by simpa using y0];rfl
   by_cases xy:x=y
   ·subst xy;have iY:(x !=x)=false:=ag
    by_cases x2:x=2
    ·have HF:Hid (nd g h=false):=Li HG.u (aat (by rw [hy];exact y0) (hx.trans x2));subst x2;clear hx hy y0;go_wp2;go_ret
     exact ⟨aT HF.u.symm,dk.u.trans IW.u⟩
    ·have HC:Hid (((pa g).take (k+1)).all (rm g h)=true):=GP HG.u HQ.u (aau (hx.trans hy.symm) (by rw [hx];exact x2));have bH:(x==2)=false:=sU x2
     clear hx hy y0 x2
     exact CS
   ·have HF:Hid (nd g h=false):=Li HG.u (Vm (by rw [hy];exact y0) (by rw [hx,hy];exact xy));have hxy:(x !=y)=true:=by rw [bne,show (x==y)=false by simpa using xy];rfl
    clear hx hy y0 xy;go_wp2;go_ret
    exact ⟨aT HF.u.symm,dk.u.trans IW.u⟩
  ·have jT:k=n:=aa
   subst jT;have HF:Hid (nd g h=true):=by
    unfold Hid nd;have:=HQ.u;rw [lE (by rw [HN.u];exact lI _)] at this
    exact this
   go_wp2;go_ret
   exact ⟨aT HF.u.symm,dk.u.trans HE.u⟩
structure Af where
  m:Int
  f:Int
structure Pt where
  m:Int
  c:Int
structure Pp where
  n:Int
  ph:Int
  ts:List Pt
  os:List Af
def atT (ts:List Pt) (m:Int):Nat:=ts.findIdx fun t=>t.m==m
def plT (ts:List Pt) (m:Int):Nat:=ts.findIdx fun t=>decide (m<t.m)
def IX (ts:List Pt) (m c:Int):List Pt:=
  if atT ts m<ts.length then ts.modify (atT ts m) fun t=>⟨t.m,(t.c+c) % 8⟩ else ts.take (plT ts m)++[⟨m,c % 8⟩]++ts.drop (plT ts m)
def fg (ts:List Pt) (m c:Int):List Pt:=(IX ts m c).filter fun t=>!(t.c==0)
def iq (os:List Af) (q:Int):Af:=os.getD q.toNat ⟨0,0⟩
def eu (p:Pp) (g:Gt):Option Pp:=
  if (vg g p.n && ((p.os.length:Int)==p.n))=false then none
  else if g.k=1 then some ⟨p.n,p.ph,p.ts,p.os.set g.a.toNat ⟨(iq p.os g.a).m,1 - (iq p.os g.a).f⟩⟩
  else if g.k=9 then some ⟨p.n,p.ph,p.ts,p.os.set g.b.toNat ⟨FL (iq p.os g.a).m (iq p.os g.b).m,FL (iq p.os g.a).f (iq p.os g.b).f⟩⟩
  else if g.k=11 then some ⟨p.n,p.ph,p.ts,(p.os.set g.a.toNat (iq p.os g.b)).set g.b.toNat (iq p.os g.a)⟩
  else if 0<bB g.k then
    (if (iq p.os g.a).f=0 then some ⟨p.n,p.ph,fg p.ts (iq p.os g.a).m (bB g.k),p.os⟩
     else some ⟨p.n,(p.ph+bB g.k) % 8,fg p.ts (iq p.os g.a).m ((-(bB g.k)) % 8),p.os⟩)
  else none
def Bs (n:Int):Pp:=⟨n,0,[],(List.range n.toNat).map fun (q:Nat)=>⟨pw (q:Int),0⟩⟩
def ec (xs:List Gt) (n:Int):Option Pp:=if 1<=n/\n<=4 then xs.foldl (fun t g=>t.bind fun p=>eu p g) (some (Bs n)) else none
structure Oa (p:Pp) (k:Nat):Prop where
  n:1<=p.n/\p.n<=4
  l:(p.os.length:Int)=p.n
  o:∀a∈p.os,(0<=a.m/\a.m<=15)/\(a.f=0\/a.f=1)
  t:∀a∈p.ts,(0<=a.m/\a.m<=15)/\(0<=a.c/\a.c<=7)
  tl:p.ts.length<=k
  ph:0<=p.ph/\p.ph<=7
theorem aiR {a b:Int} (ha:0<=a/\a<=15) (hb:0<=b/\b<=15):0<=FL a b/\FL a b<=15:=by
  obtain ⟨i,rfl⟩:=lD ha.1;obtain ⟨j,rfl⟩:=lD hb.1;have h:(List.range 16).all (fun i=>(List.range 16).all fun j=>decide (0<=FL (i:Int) (j:Int)/\FL (i:Int) (j:Int)<=15))=true:=af
  have h1:=kc.1 h i (BS.2 aa)
  exact xD (kc.1 h1 j (BS.2 aa))
theorem anW {a b:Int} (ha:a=0\/a=1) (hb:b=0\/b=1):FL a b=0\/FL a b=1:=by
  rcases ha with rfl|rfl<;>rcases hb with rfl|rfl<;>decide
theorem Lj {os:List Af} {q:Int} (hq:q.toNat<os.length):iq os q∈os:=by
  unfold iq;rw [lP,lB hq]
  exact BU hq
theorem Bt {os:List Af} {q:Nat} {a:Af} (h:os[q]?=some a):iq os (q:Int)=a:=by
  unfold iq;rw [uG,lP,h];rfl
theorem Qj {ts:List Pt} {m c:Int} (h:∀a∈ts,(0<=a.m/\a.m<=15)/\(0<=a.c/\a.c<=7)) (hm:0<=m/\m<=15):∀a∈fg ts m c,(0<=a.m/\a.m<=15)/\(0<=a.c/\a.c<=7):=by
  intro a ha;have ha:=(List.mem_filter.1 ha).1;unfold IX at ha;split at ha
  · obtain ⟨i,hi,he⟩:=List.mem_iff_getElem.1 ha
    rw [List.getElem_modify] at he;rw [List.length_modify] at hi;have:=h _ (BU hi);split at he
    · subst he
      exact ⟨this.1,by show 0<=_ % 8/\_ % 8<=7;omega⟩
    · subst he
      exact this
  · rcases mM.1 ha with ha|ha
    · rcases mM.1 ha with ha|ha
      · exact h a (Gk ha)
      · rw [xt] at ha
        subst ha
        exact ⟨hm,by show 0<=c % 8/\c % 8<=7;omega⟩
    · exact h a (List.mem_of_mem_drop ha)
theorem aax (ts:List Pt) (m c:Int):(IX ts m c).length<=ts.length+1:=by
  unfold IX;split
  · rw [List.length_modify];omega
  · simp only [lA,lT,lU,ij,uI];omega
theorem Lk (ts:List Pt) (m c:Int):(fg ts m c).length<=ts.length+1:=lK (List.length_filter_le _ _) (aax ts m c)
theorem oh {g:Gt} {n:Int} (h:vg g n=true):(1<=n/\n<=4)/\(1<=g.k/\g.k<=12)/\(0<=g.a/\g.a<n)/\(0<=g.b/\g.b<n)/\(0<=g.c/\g.c<n)/\(9<=g.k->g.a≠g.b)/\(g.k=12->g.a≠g.c/\g.b≠g.c):=by
  unfold vg IP at h;simp only [lF,lu] at h;obtain ⟨⟨⟨⟨⟨h1,h2⟩,h3⟩,ha⟩,hb⟩,hc⟩:=h;have hk:1<=g.k/\g.k<=12:=by unfold ar at h3;omega
  refine ⟨⟨h1,h2⟩,hk,?_⟩;rcases (show (1<=g.k/\g.k<=8)\/(9<=g.k/\g.k<=11)\/g.k=12 by omega) with e|e|e
  · rw [ar1 e] at ha hb hc;simp [qs] at ha hb hc;refine ⟨aa,aa,aa,fun h=>?_,fun h=>?_⟩<;>omega
  · rw [ar2 e] at ha hb hc;simp [qs] at ha hb hc
    refine ⟨aa,aa,aa,fun h=>?_,fun h=>?_⟩
    · have:=hb.2;intro hh;exact this hh.symm
    · omega
  · rw [ar3 e] at ha hb hc;simp [qs] at ha hb hc
    refine ⟨aa,aa,aa,fun h=>?_,fun h=>?_⟩
    · have:=hb.2;intro hh;exact this hh.symm
    · have:=hc.2;exact ⟨fun hh=>this.1 hh.symm,fun hh=>this.2 hh.symm⟩
theorem vgA {g:Gt} {n:Int} (h:vg g n=true):1<=n/\n<=4/\0<=g.a/\g.a<n/\0<ar g.k/\0<=g.b/\g.b<n/\0<=g.c/\g.c<n:=by
  obtain ⟨h1,h2,h3,h4,h5,-⟩:=oh h;have h6:0<ar g.k:=by unfold ar;split<;>(try split)<;>(try split)<;>omega
  omega
theorem RP {p q:Pp} {g:Gt} {k:Nat} (h:Oa p k) (e:eu p g=some q):Oa q (k+1)/\q.n=p.n:=by
  unfold eu at e;split at e
  · cases e
  rename_i hv;rw [Bool.not_eq_false,lF] at hv;obtain ⟨v1,v4,a0,a1,-,b0,b1,-⟩:=vgA hv.1;have hA:iq p.os g.a∈p.os:=Lj (oM h.l);have hB:iq p.os g.b∈p.os:=Lj (oM h.l);have oA:=h.o _ hA;have oB:=h.o _ hB;have aay:∀(i:Nat) (a:Af) (os:List Af),(∀a∈os,(0<=a.m/\a.m<=15)/\(a.f=0\/a.f=1))->((0<=a.m/\a.m<=15)/\(a.f=0\/a.f=1))->∀x∈os.set i a,(0<=x.m/\x.m<=15)/\(x.f=0\/x.f=1):=fun i a os ho ha x hx=>by
    rcases List.mem_or_eq_of_mem_set hx with hx|rfl
    · exact ho x hx
    · exact ha
  split at e
  · cases e
    exact ⟨⟨h.n,by rw [BX];exact h.l,aay _ _ _ h.o ⟨oA.1,by rcases oA.2 with e|e<;>rw [e]<;>simp⟩,h.t,Nr h.tl,h.ph⟩,rfl⟩
  split at e
  · cases e
    exact ⟨⟨h.n,by rw [BX];exact h.l,aay _ _ _ h.o ⟨aiR oA.1 oB.1,anW oA.2 oB.2⟩,h.t,Nr h.tl,h.ph⟩,rfl⟩
  split at e
  · cases e
    exact ⟨⟨h.n,by rw [BX,BX];exact h.l,aay _ _ _ (aay _ _ _ h.o oB) oA,h.t,Nr h.tl,h.ph⟩,rfl⟩
  split at e
  · split at e
    · cases e
      exact ⟨⟨h.n,h.l,h.o,Qj h.t oA.1,lK (Lk _ _ _) (oM h.tl),h.ph⟩,rfl⟩
    · cases e
      exact ⟨⟨h.n,h.l,h.o,Qj h.t oA.1,lK (Lk _ _ _) (oM h.tl),by show 0<=_ % 8/\_ % 8<=7;omega⟩,rfl⟩
  · cases e
theorem aej {n:Int} (h1:1<=n) (h4:n<=4):Oa (Bs n) 0:=by
  refine ⟨⟨h1,h4⟩,by unfold Bs;simp;omega,fun a ha=>?_,fun a ha=>(by simp [Bs] at ha),lI _,by simp [Bs]⟩;unfold Bs at ha;obtain ⟨q,hq,rfl⟩:=zM.1 ha;have xo:q<4:=oM (BS.1 hq)
  refine ⟨?_,Or.inl rfl⟩;rcases (show q=0\/q=1\/q=2\/q=3 by omega) with rfl|rfl|rfl|rfl<;>decide
theorem GQ:∀xs:List Gt,xs.foldl (fun t g=>t.bind fun p=>eu p g) (none:Option Pp)=none
  |[]=>rfl
  |_::xs=>GQ xs
theorem CU {xs:List Gt} {n:Int} (g:Gt) (h:1<=n/\n<=4):ec (xs++[g]) n=(ec xs n).bind fun p=>eu p g:=by
  unfold ec;rw [aX h,aX h,sG];rfl
theorem nk {xs:List Gt} {n:Int} {k:Nat} {g:Gt} {p:Pp} (hn:1<=n/\n<=4) (hg:xs[k]?=some g) (h:ec (xs.take k) n=some p):ec (xs.take (k+1)) n=eu p g:=by
  rw [aL hg,CU g hn,h];rfl
theorem zm {xs:List Gt} {n:Int} (hn:1<=n/\n<=4):ec (xs.take 0) n=some (Bs n):=by
  unfold ec;rw [aX hn];rfl
theorem CV {xs:List Gt} {n:Int} (k:Nat) (h:ec (xs.take k) n=none):ec xs n=none:=by
  unfold ec at*
  by_cases hn:1<=n/\n<=4
  · rw [aX hn] at*
    have e:xs=xs.take k++xs.drop k:=(qW k xs).symm;rw [e,sG,h]
    exact GQ _
  · rw [aK hn]
theorem pH {xs:List Gt} {n:Int}:∀{k:Nat} {p:Pp},k<=xs.length->ec (xs.take k) n=some p->Oa p k/\p.n=n
  |0,p,_,e=>by
    by_cases hn:1<=n/\n<=4
    · rw [zm hn] at e
      cases e
      exact ⟨aej hn.1 hn.2,rfl⟩
    · unfold ec at e;rw [aK hn] at e;cases e
  |k+1,p,hk,e=>by
    by_cases hn:1<=n/\n<=4
    · have hg:xs[k]?=some (xs[k]' aa):=lB _
      cases hp:ec (xs.take k) n with
      |none=>
        rw [aL hg,CU _ hn,hp] at e
        cases e
      |some p0=>
        rw [nk hn hg hp] at e;obtain ⟨h1,h2⟩:=pH aa hp;obtain ⟨h3,h4⟩:=RP h1 e
        exact ⟨h3,h4.trans h2⟩
    · unfold ec at e;rw [aK hn] at e;cases e
def ld (ts:List Pt) (m:Int):Int:=match ts.find? (fun t=>t.m==m) with
  |none=>0
  |some t=>t.c
def dF (all:Pp) (xs:List Gt) (n:Int):Nat->List Gt ×List Int
  |0=>([],[])
  |k+1=>match xs[k]?,ec (xs.take k) n with
    |some g,some p=>
      if bB g.k=0 then ((dF all xs n k).1++[g],(dF all xs n k).2)
      else if fC (dF all xs n k).2 (iq p.os g.a).m=true then dF all xs n k
      else ((dF all xs n k).1++bV (if (iq p.os g.a).f=1 then (-(ld all.ts (iq p.os g.a).m)) % 8 else ld all.ts (iq p.os g.a).m) g.a,(dF all xs n k).2++[(iq p.os g.a).m])
    |_,_=>dF all xs n k
def mi (xs:List Gt) (n:Int):List Gt:=match ec xs n with
  |none=>xs
  |some all=>(dF all xs n xs.length).1
theorem CW (all:Pp) (xs:List Gt) (n:Int):∀k:Nat,(dF all xs n k).1.length<=2*k/\(dF all xs n k).2.length<=k
  |0=>by simp [dF]
  |k+1=>by
    have ih:=CW all xs n k;unfold dF;split
    · split
      · simp only [lA,ij,uI];omega
      · split
        · omega
        · simp only [lA,ij,uI]
          rename_i g p _ _ _ _;have:=ya (if (iq p.os g.a).f=1 then (-(ld all.ts (iq p.os g.a).m)) % 8 else ld all.ts (iq p.os g.a).m) g.a;omega
    · omega
theorem GR (xs:List Gt) (n:Int):(mi xs n).length<=2*xs.length:=by
  unfold mi;split
  · omega
  · exact (CW _ _ _ _).1
theorem Ll {xs:List Gt} {n:Int} (h:ec xs n=none):mi xs n=xs:=by unfold mi;rw [h]
theorem GS {xs:List Gt} {n:Int} {all:Pp} (h:ec xs n=some all):mi xs n=(dF all xs n xs.length).1:=by unfold mi;rw [h]
def nr (g:Gt):Bool:=g.k==1||g.k==9||g.k==11||decide (0<bB g.k)
def Lm (xs:List Gt) (k:Nat):Bool:=match xs[k]? with
  |none=>false
  |some g=>nr g
def opn (xs:List Gt):Nat->Bool
  |0=>false
  |k+1=>Lm xs (k+1) && Lm xs k
theorem Qk {xs:List Gt} {k:Nat} {g:Gt} (h:xs[k]?=some g):Lm xs k=nr g:=by unfold Lm;rw [h]
def cW (xs:List Gt):Nat->List (List Gt)
  |0=>[]
  |k+1=>match xs[k]? with
    |none=>cW xs k
    |some g=>if opn xs k=true then (cW xs k).dropLast++[(cW xs k).getLastD []++[g]] else cW xs k++[[g]]
def kt (xs:List Gt):List (List Gt):=cW xs xs.length
def ee (xs:List Gt) (n:Int):List Gt:=(kt xs).flatMap fun s=>mi s n
theorem CX {xs:List Gt} {k:Nat} {g:Gt} (hg:xs[k]?=some g) (h:opn xs k=true):cW xs (k+1)=(cW xs k).dropLast++[(cW xs k).getLastD []++[g]]:=by
  show (match xs[k]? with|none=>cW xs k|some g=>if opn xs k=true then (cW xs k).dropLast++[(cW xs k).getLastD []++[g]] else cW xs k++[[g]])=_;rw [hg]
  exact aX h
theorem tW {xs:List Gt} {k:Nat} {g:Gt} (hg:xs[k]?=some g) (h:opn xs k=false):cW xs (k+1)=cW xs k++[[g]]:=by
  show (match xs[k]? with|none=>cW xs k|some g=>if opn xs k=true then (cW xs k).dropLast++[(cW xs k).getLastD []++[g]] else cW xs k++[[g]])=_;rw [hg]
  exact aK aW
theorem Ln (xs:List Gt):∀k:Nat,0<k->k<=xs.length->cW xs k≠[]
  |0,h,_=>aa
  |k+1,_,hk=>by
    have hg:xs[k]?=some (xs[k]' aa):=lB _
    cases ho:opn xs k
    · rw [tW hg ho];simp
    · rw [CX hg ho];simp
theorem vV (xs:List Gt):∀k:Nat,k<=xs.length->(cW xs k).flatten=xs.take k
  |0,_=>by simp [cW]
  |k+1,hk=>by
    have hg:xs[k]?=some (xs[k]' aa):=lB _;have ih:=vV xs k aa;rw [aL hg,<-ih]
    cases ho:opn xs k
    · rw [tW hg ho,BV]
      simp
    · rw [CX hg ho]
      have rE:0<k:=by
        cases k with
        |zero=>simp [opn] at ho
        |succ k=>omega
      have hne:=Ln xs k rE aa
      conv=>rhs;rw [<-List.dropLast_concat_getLast hne]
      rw [BV,BV];simp [Nh,Uo hne]
theorem tX (xs:List Gt):(kt xs).flatten=xs:=by unfold kt;rw [vV xs _ (lI _),jt]
theorem vW (n:Int):∀ss:List (List Gt),(ss.flatMap fun s=>mi s n).length<=2*ss.flatten.length
  |[]=>ag
  |s::ss=>by
    rw [fK,lA,PK,lA];have:=vW n ss;have:=GR s n;omega
theorem Aj (xs:List Gt) (n:Int):(ee xs n).length<=2*xs.length:=by
  have:=vW n (kt xs);rw [tX] at this
  exact this
end Go.Proofs.YtiajdbllccmokaaGreatDoor
