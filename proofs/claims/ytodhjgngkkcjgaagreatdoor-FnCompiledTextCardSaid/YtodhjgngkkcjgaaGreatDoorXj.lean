import Derived.Test.YtodhjgngkkcjgaaGreatDoorXf
namespace Go.Proofs.YtodhjgngkkcjgaaGreatDoor
open Go.ChangeShapes Go.WideShapes Go.ChangeAt Go.RowKit Go.Deep Go.Proofs.Tryz
set_option linter.unusedVariables false
set_option linter.unusedSimpArgs false
set_option maxRecDepth 100000
set_option maxHeartbeats 16000000
def bH (k:Int):Int:=if k=7 then 1 else if k=5 then 2 else if k=3 then 4 else if k=6 then 6 else if k=8 then 7 else 0
theorem BM (k:Int):0<=bH k/\bH k<=7:=by unfold bH;split<;>(try split)<;>(try split)<;>(try split)<;>(try split)<;>omega
def fo (g:Gt) (q:Int):Int:=
 if iN g q=false then 0
 else if 0<bH g.k\/g.k=10 then 3
 else if g.k=1 then 1
 else if (g.k=9/\q=g.a)\/(g.k=12/\¬q=g.c) then 3
 else if g.k=9\/g.k=12 then 1 else 2
theorem asa (g:Gt) (q:Int):0<=fo g q/\fo g q<=3:=by unfold fo;split<;>(try split)<;>(try split)<;>(try split)<;>(try split)<;>omega
theorem akq {g:Gt} {q:Int}:fo g q=0 ↔ iN g q=false:=by
 unfold fo;constructor
 ·intro h
  by_cases ha:iN g q=false
  ·exact ha
  ·rw [aM ha] at h;exfalso;revert h;split<;>(try split)<;>(try split)<;>(try split)<;>omega
 ·intro h;rw [aY h]
def uK (g h:Gt) (q:Int):Bool:=fo h q==0||(fo g q==fo h q && !(fo g q==2))
def qL (g h:Gt):Bool:=(kf g).all (uK g h)
def alike (g h:Gt):Bool:=g.k==h.k && (g.k==10||g.k==11) && ((g.a==h.a && g.b==h.b)||(g.a==h.b && g.b==h.a))
def agE (c:Int):List Int:=if c=1 then [7] else if c=2 then [5] else if c=3 then [5,7] else if c=4 then [3] else if c=5 then [3,7] else if c=6 then [6] else if c=7 then [8] else []
def cG (c q:Int):List Gt:=(agE c).map fun k=>⟨k,q,0,0⟩
theorem ab7 (c:Int):(agE c).length<=2:=by unfold agE;split<;>(try split)<;>(try split)<;>(try split)<;>(try split)<;>(try split)<;>(try split)<;>simp
theorem BN (c q:Int):(cG c q).length<=2:=by unfold cG;rw [jK];exact ab7 c
def gh (g h:Gt):Option (List Gt):=
 if (decide (0<ar g.k) && (FY h (xR g)||alike g h))=true then some []
 else if (decide (0<bH g.k) && decide (0<bH h.k) && g.a==h.a)=true then
  (if (cG ((bH g.k+bH h.k) % 8) g.a).length<2 then some (cG ((bH g.k+bH h.k) % 8) g.a) else none)
 else none
theorem Ur {g h:Gt} {out:List Gt} (e:gh g h=some out):out.length<=1:=by
 unfold gh at e;split at e
 ·cases e;simp
 ·split at e
  ·split at e
   ·cases e;omega
   ·cases e
  ·cases e
def Wj (xs:List Gt) (g:Gt):Nat->Nat->Option (Nat ×List Gt)
 |0,_=>none
 |f+1,k=>match xs[k]? with
  |none=>none
  |some h=>match gh g h with
   |some out=>some (k,out)
   |none=>if qL g h=true then Wj xs g f (k+1) else none
theorem Wk {xs:List Gt} {g h:Gt} {f k:Nat} {out:List Gt} (hk:xs[k]?=some h) (hm:gh g h=some out):Wj xs g (f+1) k=some (k,out):=by
 unfold Wj;rw [hk];simp only [hm]
theorem Rc {xs:List Gt} {g h:Gt} {f k:Nat} (hk:xs[k]?=some h) (hm:gh g h=none) (hc:qL g h=true):Wj xs g (f+1) k=Wj xs g f (k+1):=by
 show (match xs[k]? with|none=>none|some h=>match gh g h with|some out=>some (k,out)|none=>if qL g h=true then Wj xs g f (k+1) else none)=_;rw [hk];simp only [hm];rw [aY hc]
theorem Re {xs:List Gt} {g h:Gt} {f k:Nat} (hk:xs[k]?=some h) (hm:gh g h=none) (hc:qL g h=false):Wj xs g (f+1) k=none:=by
 show (match xs[k]? with|none=>none|some h=>match gh g h with|some out=>some (k,out)|none=>if qL g h=true then Wj xs g f (k+1) else none)=_;rw [hk];simp only [hm];rw [aM (by simp [hc])]
theorem agF {xs:List Gt} {g:Gt} {f k:Nat} (hk:xs[k]?=none):Wj xs g (f+1) k=none:=by unfold Wj;rw [hk]
theorem Rf {xs:List Gt} {g:Gt}:∀{f k j:Nat} {out:List Gt},Wj xs g f k=some (j,out)->k<=j/\j<xs.length/\out.length<=1
 |0,_,_,_,e=>fU
 |f+1,k,j,out,e=>by
  cases hk:xs[k]? with
  |none=>rw [agF hk] at e;cases e
  |some h=>
   cases hm:gh g h with
   |some o=>
    rw [Wk hk hm] at e
    cases e
    exact ⟨lI _,(gu.1 hk).1,Ur hm⟩
   |none=>
    cases hc:qL g h
    ·rw [Re hk hm hc] at e
     cases e
    ·rw [Rc hk hm hc] at e;have:=Rf e;omega
def Ob (xs:List Gt) (i k:Nat) (out:List Gt):List Gt:=xs.take i++(xs.take k).drop (i+1)++out++xs.drop (k+1)
def YO (xs:List Gt) (i:Nat):Option (Nat ×List Gt):=match xs[i]? with
 |none=>none
 |some g=>Wj xs g (xs.length - (i+1)) (i+1)
def zq (xs:List Gt):Nat->Nat->Option (List Gt)
 |0,_=>none
 |f+1,i=>match YO xs i with
  |some p=>some (Ob xs i p.1 p.2)
  |none=>zq xs f (i+1)
def mj (xs:List Gt):Option (List Gt):=zq xs xs.length 0
theorem Rg {xs:List Gt} {i k:Nat} {out:List Gt} (e:YO xs i=some (k,out)):i<k/\k<xs.length/\out.length<=1:=by
 unfold YO at e
 cases hi:xs[i]? with
 |none=>rw [hi] at e;cases e
 |some g=>
  rw [hi] at e;have:=Rf e;omega
theorem ab8 {xs:List Gt} {i k:Nat} {out:List Gt} (hi:i<k) (hk:k<xs.length) (ho:out.length<=1):(Ob xs i k out).length+1<=xs.length:=by
 unfold Ob;simp only [lA,lT,lU];omega
theorem Mi {xs:List Gt} {f i:Nat} {p:Nat ×List Gt} (h:YO xs i=some p):zq xs (f+1) i=some (Ob xs i p.1 p.2):=by
 unfold zq;rw [h]
theorem Hh {xs:List Gt} {f i:Nat} (h:YO xs i=none):zq xs (f+1) i=zq xs f (i+1):=by
 show (match YO xs i with|some p=>some (Ob xs i p.1 p.2)|none=>zq xs f (i+1))=_;rw [h]
theorem Mj {xs:List Gt}:∀{f i:Nat} {ys:List Gt},zq xs f i=some ys->ys.length+1<=xs.length
 |0,_,_,e=>fU
 |f+1,i,ys,e=>by
  cases h:YO xs i with
  |none=>rw [Hh h] at e;exact Mj e
  |some p=>
   rw [Mi h] at e
   cases e
   have:=Rg (k:=p.1) (out:=p.2) h
   exact ab8 this.1 this.2.1 this.2.2
theorem xD {xs ys:List Gt} (h:mj xs=some ys):ys.length+1<=xs.length:=Mj h
def zr:Nat->List Gt->List Gt
 |0,xs=>xs
 |f+1,xs=>match mj xs with
  |none=>xs
  |some ys=>zr f ys
def eP (xs:List Gt):List Gt:=zr xs.length xs
theorem anl:mj []=none:=rfl
theorem tE {f:Nat} {xs:List Gt} (h:mj xs=none):zr f xs=xs:=by
 cases f with
 |zero=>rfl
 |succ f=>unfold zr;rw [h]
theorem tF {f:Nat} {xs ys:List Gt} (h:mj xs=some ys):zr (f+1) xs=zr f ys:=by
 show (match mj xs with|none=>xs|some ys=>zr f ys)=_;rw [h]
theorem Mk:∀(f:Nat) (xs:List Gt),(zr f xs).length<=xs.length
 |0,_=>lI _
 |f+1,xs=>by
  cases h:mj xs with
  |none=>rw [tE h];exact lI _
  |some ys=>
   rw [tF h];have h1:=Mk f ys;have h2:=xD h;omega
theorem BO (xs:List Gt):(eP xs).length<=xs.length:=Mk _ xs
theorem pN {P:Prop} (h:P:=by
 go_enter func181,ntmps181;go_wp2;go_ret
 exact ⟨rfl,rfl⟩):P:=h
theorem bI (k:Int) (w:World):Calls prog 181 #[iI k] w fun e w'=>e=.returned (iI (bH k))/\w=w':=by
 by_cases h7:k=7
 ·subst h7
  exact pN
 by_cases h5:k=5
 ·subst h5
  exact pN
 by_cases h3:k=3
 ·subst h3
  exact pN
 by_cases h6:k=6
 ·subst h6
  exact pN
 by_cases h8:k=8
 ·subst h8
  exact pN
 have HF:Hid (bH k=0):=by unfold Hid bH;rw [aM h7,aM h5,aM h3,aM h6,aM h8]
 have e7:(k==7)=false:=by simp;exact h7
 have e5:(k==5)=false:=by simp;exact h5
 have e3:(k==3)=false:=by simp;exact h3
 have e6:(k==6)=false:=by simp;exact h6
 have e8:(k==8)=false:=by simp;exact h8
 go_enter func181,ntmps181;go_wp2;go_ret
 exact ⟨eB HF.u.symm,rfl⟩
theorem akr {g:Gt} {q:Int} (h:iN g q=true):1<=g.k/\g.k<=12:=by
 unfold iN gf kf at h
 by_cases hk:1<=g.k/\g.k<=12
 ·exact hk
 ·exfalso;have e:ar g.k=0:=by unfold ar;rw [aM aa,aM aa,aM aa]
  rw [e] at h;simp at h
theorem dG {P:Prop} (h:P:=by
 rintro e w2 ⟨rfl,rfl⟩;rw [hr];go_wp2;go_ret
 exact ⟨eB HV.u.symm,HX.u⟩):P:=h
theorem jZ (g:Gt) (q:Int) (w:World):Calls prog 209 #[g.val,iI q] w fun e w'=>e=.returned (iI (fo g q))/\Ext w w':=by
 obtain ⟨k,a,b,c⟩:=g;have HR:Hid (∀k (w':World),Calls prog 181 #[iI k] w' fun e w''=>e=.returned (iI (bH k))/\w'=w''):=fun k w'=>bI k w'
 cases ha:iN ⟨k,a,b,c⟩ q
 ·have HV:=hY (akq.2 ha);go_enter kj,pk;go_wp2_with fail;refine (bC ⟨k,a,b,c⟩ q _).mono ?_;rintro e w1 ⟨rfl,aK⟩;rw [ha];have HX:Hid (Ext w w1):=Ext.trans aw aK;clear aK ha;go_wp2;go_ret
  exact ⟨eB HV.u.symm,HX.u⟩
 have hk:=akr ha;have iM:k=1\/k=2\/k=3\/k=4\/k=5\/k=6\/k=7\/k=8\/k=9\/k=10\/k=11\/k=12:=by show _;simp only at hk;omega
 clear hk;rcases iM with rfl|rfl|rfl|rfl|rfl|rfl|rfl|rfl|rfl|rfl|rfl|rfl
 ·skip;have HV:Hid (fo ⟨1,a,b,c⟩ q=1):=dA
  have hr:bH 1=0:=ae
  go_enter kj,pk;go_wp2_with fail;refine (bC ⟨1,a,b,c⟩ q _).mono ?_;rintro e w1 ⟨rfl,aK⟩;rw [ha];have HX:Hid (Ext w w1):=Ext.trans aw aK;have HB:Hid (au w1 w.heap.size 39 #[iI 1,iI a,iI b,iI c]):=(au.new w _ _).ext aK;clear aK ha;obtain ⟨⟨x0,x1,x2,x3⟩,-⟩:=aB HB.u;go_wp2_with fail;refine (HR.u 1 _).mono ?_
  exact dG
 ·skip;have HV:Hid (fo ⟨2,a,b,c⟩ q=2):=dA
  have hr:bH 2=0:=ae
  go_enter kj,pk;go_wp2_with fail;refine (bC ⟨2,a,b,c⟩ q _).mono ?_;rintro e w1 ⟨rfl,aK⟩;rw [ha];have HX:Hid (Ext w w1):=Ext.trans aw aK;have HB:Hid (au w1 w.heap.size 39 #[iI 2,iI a,iI b,iI c]):=(au.new w _ _).ext aK;clear aK ha;obtain ⟨⟨x0,x1,x2,x3⟩,-⟩:=aB HB.u;go_wp2_with fail;refine (HR.u 2 _).mono ?_
  exact dG
 ·skip;have HV:Hid (fo ⟨3,a,b,c⟩ q=3):=dA
  have hr:bH 3=4:=ae
  go_enter kj,pk;go_wp2_with fail;refine (bC ⟨3,a,b,c⟩ q _).mono ?_;rintro e w1 ⟨rfl,aK⟩;rw [ha];have HX:Hid (Ext w w1):=Ext.trans aw aK;have HB:Hid (au w1 w.heap.size 39 #[iI 3,iI a,iI b,iI c]):=(au.new w _ _).ext aK;clear aK ha;obtain ⟨⟨x0,x1,x2,x3⟩,-⟩:=aB HB.u;go_wp2_with fail;refine (HR.u 3 _).mono ?_
  exact dG
 ·skip;have HV:Hid (fo ⟨4,a,b,c⟩ q=2):=dA
  have hr:bH 4=0:=ae
  go_enter kj,pk;go_wp2_with fail;refine (bC ⟨4,a,b,c⟩ q _).mono ?_;rintro e w1 ⟨rfl,aK⟩;rw [ha];have HX:Hid (Ext w w1):=Ext.trans aw aK;have HB:Hid (au w1 w.heap.size 39 #[iI 4,iI a,iI b,iI c]):=(au.new w _ _).ext aK;clear aK ha;obtain ⟨⟨x0,x1,x2,x3⟩,-⟩:=aB HB.u;go_wp2_with fail;refine (HR.u 4 _).mono ?_
  exact dG
 ·skip;have HV:Hid (fo ⟨5,a,b,c⟩ q=3):=dA
  have hr:bH 5=2:=ae
  go_enter kj,pk;go_wp2_with fail;refine (bC ⟨5,a,b,c⟩ q _).mono ?_;rintro e w1 ⟨rfl,aK⟩;rw [ha];have HX:Hid (Ext w w1):=Ext.trans aw aK;have HB:Hid (au w1 w.heap.size 39 #[iI 5,iI a,iI b,iI c]):=(au.new w _ _).ext aK;clear aK ha;obtain ⟨⟨x0,x1,x2,x3⟩,-⟩:=aB HB.u;go_wp2_with fail;refine (HR.u 5 _).mono ?_
  exact dG
 ·skip;have HV:Hid (fo ⟨6,a,b,c⟩ q=3):=dA
  have hr:bH 6=6:=ae
  go_enter kj,pk;go_wp2_with fail;refine (bC ⟨6,a,b,c⟩ q _).mono ?_;rintro e w1 ⟨rfl,aK⟩;rw [ha];have HX:Hid (Ext w w1):=Ext.trans aw aK;have HB:Hid (au w1 w.heap.size 39 #[iI 6,iI a,iI b,iI c]):=(au.new w _ _).ext aK;clear aK ha;obtain ⟨⟨x0,x1,x2,x3⟩,-⟩:=aB HB.u;go_wp2_with fail;refine (HR.u 6 _).mono ?_
  exact dG
 ·skip;have HV:Hid (fo ⟨7,a,b,c⟩ q=3):=dA
  have hr:bH 7=1:=ae
  go_enter kj,pk;go_wp2_with fail;refine (bC ⟨7,a,b,c⟩ q _).mono ?_;rintro e w1 ⟨rfl,aK⟩;rw [ha];have HX:Hid (Ext w w1):=Ext.trans aw aK;have HB:Hid (au w1 w.heap.size 39 #[iI 7,iI a,iI b,iI c]):=(au.new w _ _).ext aK;clear aK ha;obtain ⟨⟨x0,x1,x2,x3⟩,-⟩:=aB HB.u;go_wp2_with fail;refine (HR.u 7 _).mono ?_
  exact dG
 ·skip;have HV:Hid (fo ⟨8,a,b,c⟩ q=3):=dA
  have hr:bH 8=7:=ae
  go_enter kj,pk;go_wp2_with fail;refine (bC ⟨8,a,b,c⟩ q _).mono ?_;rintro e w1 ⟨rfl,aK⟩;rw [ha];have HX:Hid (Ext w w1):=Ext.trans aw aK;have HB:Hid (au w1 w.heap.size 39 #[iI 8,iI a,iI b,iI c]):=(au.new w _ _).ext aK;clear aK ha;obtain ⟨⟨x0,x1,x2,x3⟩,-⟩:=aB HB.u;go_wp2_with fail;refine (HR.u 8 _).mono ?_
  exact dG
 ·by_cases hq:q=a
  ·subst hq;have rN:(q==q)=true:=ag
   have HV:Hid (fo ⟨9,q,b,c⟩ q=3):=by unfold Hid fo;rw [aM mV];rw [aM (show ¬(0<bH 9\/(9:Int)=10) by decide),aM (show ¬(9:Int)=1 by decide),aY (Or.inl ⟨rfl,rfl⟩)]
   have hr:bH 9=0:=ae
   go_enter kj,pk;go_wp2_with fail;refine (bC ⟨9,q,b,c⟩ q _).mono ?_;rintro e w1 ⟨rfl,aK⟩;rw [ha];have HX:Hid (Ext w w1):=Ext.trans aw aK;have HB:Hid (au w1 w.heap.size 39 #[iI 9,iI q,iI b,iI c]):=(au.new w _ _).ext aK;clear aK ha;obtain ⟨⟨x0,x1,x2,x3⟩,-⟩:=aB HB.u;go_wp2_with fail;refine (HR.u 9 _).mono ?_
   exact dG
  ·have rN:(q==a)=false:=by simp;exact hq
   have HQ:=hY hq;clear hq;have HV:Hid (fo ⟨9,a,b,c⟩ q=1):=by unfold Hid fo;rw [aM mV];rw [aM (show ¬(0<bH 9\/(9:Int)=10) by decide),aM (show ¬(9:Int)=1 by decide),aM (by rintro (⟨_,h⟩|⟨h,_⟩);exact HQ.u h;exact absurd (show (9:Int)=12 from h) ae),aY (Or.inl rfl)]
   have hr:bH 9=0:=ae
   go_enter kj,pk;go_wp2_with fail;refine (bC ⟨9,a,b,c⟩ q _).mono ?_;rintro e w1 ⟨rfl,aK⟩;rw [ha];have HX:Hid (Ext w w1):=Ext.trans aw aK;have HB:Hid (au w1 w.heap.size 39 #[iI 9,iI a,iI b,iI c]):=(au.new w _ _).ext aK;clear aK ha;obtain ⟨⟨x0,x1,x2,x3⟩,-⟩:=aB HB.u;go_wp2_with fail;refine (HR.u 9 _).mono ?_
   exact dG
 ·skip;have HV:Hid (fo ⟨10,a,b,c⟩ q=3):=dA
  have hr:bH 10=0:=ae
  go_enter kj,pk;go_wp2_with fail;refine (bC ⟨10,a,b,c⟩ q _).mono ?_;rintro e w1 ⟨rfl,aK⟩;rw [ha];have HX:Hid (Ext w w1):=Ext.trans aw aK;have HB:Hid (au w1 w.heap.size 39 #[iI 10,iI a,iI b,iI c]):=(au.new w _ _).ext aK;clear aK ha;obtain ⟨⟨x0,x1,x2,x3⟩,-⟩:=aB HB.u;go_wp2_with fail;refine (HR.u 10 _).mono ?_
  exact dG
 ·skip;have HV:Hid (fo ⟨11,a,b,c⟩ q=2):=dA
  have hr:bH 11=0:=ae
  go_enter kj,pk;go_wp2_with fail;refine (bC ⟨11,a,b,c⟩ q _).mono ?_;rintro e w1 ⟨rfl,aK⟩;rw [ha];have HX:Hid (Ext w w1):=Ext.trans aw aK;have HB:Hid (au w1 w.heap.size 39 #[iI 11,iI a,iI b,iI c]):=(au.new w _ _).ext aK;clear aK ha;obtain ⟨⟨x0,x1,x2,x3⟩,-⟩:=aB HB.u;go_wp2_with fail;refine (HR.u 11 _).mono ?_
  exact dG
 ·by_cases hq:q=c
  ·subst hq;have rN:(q==q)=true:=ag
   have hqn:(q !=q)=false:=ag
   have HV:Hid (fo ⟨12,a,b,q⟩ q=1):=by unfold Hid fo;rw [aM mV];rw [aM (show ¬(0<bH 12\/(12:Int)=10) by decide),aM (show ¬(12:Int)=1 by decide),aM (by rintro (⟨h,_⟩|⟨_,h⟩);exact absurd (show (12:Int)=9 from h) ae;exact h rfl),aY (Or.inr rfl)]
   have hr:bH 12=0:=ae
   go_enter kj,pk;go_wp2_with fail;refine (bC ⟨12,a,b,q⟩ q _).mono ?_;rintro e w1 ⟨rfl,aK⟩;rw [ha];have HX:Hid (Ext w w1):=Ext.trans aw aK;have HB:Hid (au w1 w.heap.size 39 #[iI 12,iI a,iI b,iI q]):=(au.new w _ _).ext aK;clear aK ha;obtain ⟨⟨x0,x1,x2,x3⟩,-⟩:=aB HB.u;go_wp2_with fail;refine (HR.u 12 _).mono ?_
   exact dG
  ·have rN:(q==c)=false:=by simp;exact hq
   have hqn:(q !=c)=true:=by rw [bne,rN];rfl
   have HQ:=hY hq;clear hq;have HV:Hid (fo ⟨12,a,b,c⟩ q=3):=by unfold Hid fo;rw [aM mV];rw [aM (show ¬(0<bH 12\/(12:Int)=10) by decide),aM (show ¬(12:Int)=1 by decide),aY (Or.inr ⟨rfl,HQ.u⟩)]
   have hr:bH 12=0:=ae
   go_enter kj,pk;go_wp2_with fail;refine (bC ⟨12,a,b,c⟩ q _).mono ?_;rintro e w1 ⟨rfl,aK⟩;rw [ha];have HX:Hid (Ext w w1):=Ext.trans aw aK;have HB:Hid (au w1 w.heap.size 39 #[iI 12,iI a,iI b,iI c]):=(au.new w _ _).ext aK;clear aK ha;obtain ⟨⟨x0,x1,x2,x3⟩,-⟩:=aB HB.u;go_wp2_with fail;refine (HR.u 12 _).mono ?_
   exact dG
theorem agG {g h:Gt} {q:Int} (e:fo h q=0):uK g h q=true:=by unfold uK;rw [e];rfl
theorem ab9 {g h:Gt} {q:Int} (e:fo h q≠0) (e2:fo g q≠fo h q):uK g h q=false:=by
 unfold uK;rw [show (fo h q==0)=false by simpa using e,show (fo g q==fo h q)=false by simpa using e2];rfl
theorem agH {g h:Gt} {q:Int} (e:fo h q≠0) (e2:fo g q=2):uK g h q=false:=by
 unfold uK;rw [show (fo h q==0)=false by simpa using e,e2];simp
theorem agI {g h:Gt} {q:Int} (e1:fo g q=fo h q) (e2:fo g q≠2):uK g h q=true:=by
 unfold uK;rw [show (fo g q==fo h q)=true by simpa using e1,show (fo g q==2)=false by simpa using e2];simp
theorem Rh {g h:Gt} {k:Nat} {q:Int} (hq:(kf g)[k]?=some q) (hc:uK g h q=false):qL g h=false:=by
 unfold qL;rw [Qq];intro ha;have:=lq.1 ha q (lG hq);rw [hc] at this
 cases this
theorem Ml {α:Type} {f:α->Bool} {xs:List α} {k:Nat} {x:α} (hx:xs[k]?=some x) (ha:(xs.take k).all f=true) (hf:f x=true):(xs.take (k+1)).all f=true:=by
 rw [aS hx,qG,ha];simp [hf]
theorem Hi {P:Prop} (h:P:=by
 go_wp2;go_roundw
 case rel=>exact ⟨k+1,by first|rfl|rw [et]|rw [iM],oM bZ.u,HC,Oc⟩
 case measure=>simp [intOf,iM];have:=bZ.u;omega):P:=h
theorem uX (g h:Gt) (w:World):Calls prog 195 #[g.val,h.val] w fun e w'=>e=.returned (.bool (qL g h))/\Ext w w':=by
 have HL:=hY (oL g);have gV:=eL g.k;have eK:Hid (Ext w ((w.alloc (cO (gA g) 39)).alloc (cO (gA h) 39))):=fT
 have dv:Hid (au ((w.alloc (cO (gA g) 39)).alloc (cO (gA h) 39)) w.heap.size 39 (gA g)/\au ((w.alloc (cO (gA g) 39)).alloc (cO (gA h) 39)) (w.heap.size+1) 39 (gA h)):=⟨(au.new w _ _).alloc _,au.newAt ag⟩;go_enter func195,ntmps195;go_upto_region 1 with fail;generalize ((w.alloc (cO (gA g) 39)).alloc (cO (gA h) 39))=W at*
 obtain ⟨⟨g0,g1,g2,g3⟩,-⟩:=aB dv.u.1;go_wp2_with fail;refine (eM g _).mono ?_;rintro e w1 ⟨v,rfl,ho,aK⟩;obtain ⟨A,c,rfl,hr⟩:=ak ho;have cH:=hY (eK.u.trans aK);have jI:Hid (au w1 w.heap.size 39 (gA g)/\au w1 (w.heap.size+1) 39 (gA h)):=⟨dv.u.1.ext aK,dv.u.2.ext aK⟩;have YP:=hY hr;clear ho aK eK dv g0 g1 g2 g3;generalize hn:(kf g).length=n at*
 have Hj:n<=3:=oM HL.u
 have HN:=hY hn;clear hn hr;go_wp2
 go_loopw [6] (fun iv wr=>∃k:Nat,iv=iI k/\k<=n/\Hid (((kf g).take k).all (uK g h)=true)/\Hid (Ext w1 wr)) (fun iv _=>n - (intOf iv).toNat)
 case atStart=>exact ⟨0,rfl,lJ _,by unfold Hid;rfl,xZ _⟩
 case round=>
  obtain ⟨k,rfl,hk,HQ,HE⟩:=hrel
  by_cases ba:k<n
  ·obtain ⟨b,o,q,rfl,hb,hq,y0⟩:=du YP.u ba;have HG:=hY hq;have bZ:=hY ba;have et:=wA k aa;have iM:=wB k aa;have HK:Hid (∀w',Ext wr w'->(w'.cell? (aA w.z 0)=some (iI g.k)/\w'.cell? (aA w.z 1)=some (iI g.a)/\w'.cell? (aA w.z 2)=some (iI g.b)/\w'.cell? (aA w.z 3)=some (iI g.c))/\(w'.cell? (aA (w.z+1) 0)=some (iI h.k)/\w'.cell? (aA (w.z+1) 1)=some (iI h.a)/\w'.cell? (aA (w.z+1) 2)=some (iI h.b)/\w'.cell? (aA (w.z+1) 3)=some (iI h.c))/\w'.cell? (aA b (o+k))=some (iI q)):=fun w' hx=>by
    have sr:=HE.u.trans hx;refine ⟨(aB (jI.u.1.ext sr)).1,(aB (jI.u.2.ext sr)).1,?_⟩;obtain ⟨b2,o2,q2,he,-,hq2,z0⟩:=du (YP.u.ext sr) ba;simp only [iG,jR] at he;obtain ⟨rfl,rfl,-⟩:=he;rw [hq] at hq2;obtain rfl:=kx hq2
    exact z0
   clear y0 hq hb;obtain ⟨⟨g0,g1,g2,g3⟩,⟨h0,h1,h2,h3⟩,y0⟩:=HK.u wr (xZ wr);go_upto_region 5 with fail
   go_region_held3 (fun w'=>(w'.cell? (aA w.z 0)=some (iI g.k)/\w'.cell? (aA w.z 1)=some (iI g.a)/\w'.cell? (aA w.z 2)=some (iI g.b)/\w'.cell? (aA w.z 3)=some (iI g.c))/\(w'.cell? (aA (w.z+1) 0)=some (iI h.k)/\w'.cell? (aA (w.z+1) 1)=some (iI h.a)/\w'.cell? (aA (w.z+1) 2)=some (iI h.b)/\w'.cell? (aA (w.z+1) 3)=some (iI h.c))/\w'.cell? (aA b (o+k))=some (iI q))
    (first|go_keep|exact HK.u _ aL)
    (first
     |(go_at_call 209;refine (jZ g q _).mono ?_;rintro e w3 ⟨rfl,bO⟩;replace bO:Ext wr w3:=(xZ wr).drew.trans bO))
   have fD:=hY bO;clear bO g0 g1 g2 g3 h0 h1 h2 h3 y0;obtain ⟨⟨g0,g1,g2,g3⟩,⟨h0,h1,h2,h3⟩,y0⟩:=HK.u w3 fD.u;go_upto_region 6 with fail
   go_region_held3 (fun w'=>(w'.cell? (aA w.z 0)=some (iI g.k)/\w'.cell? (aA w.z 1)=some (iI g.a)/\w'.cell? (aA w.z 2)=some (iI g.b)/\w'.cell? (aA w.z 3)=some (iI g.c))/\(w'.cell? (aA (w.z+1) 0)=some (iI h.k)/\w'.cell? (aA (w.z+1) 1)=some (iI h.a)/\w'.cell? (aA (w.z+1) 2)=some (iI h.b)/\w'.cell? (aA (w.z+1) 3)=some (iI h.c))/\w'.cell? (aA b (o+k))=some (iI q))
    (first|go_keep|exact HK.u _ aL)
    (first
     |(go_at_call 209;refine (jZ h q _).mono ?_;rintro e w4 ⟨rfl,fy⟩;replace fy:Ext wr w4:=fD.u.trans ((xZ w3).drew.trans fy)))
   have qC:=hY fy;clear fy g0 g1 g2 g3 h0 h1 h2 h3 y0 fD;have Oc:=hY (HE.u.trans qC.u);obtain ⟨x,hx⟩:=ex (fo g q);obtain ⟨y,hy⟩:=ex (fo h q);rw [hx,hy]
   by_cases y0:y=0
   ·have HC:=hY (Ml HG.u HQ.u (agG (hy.trans y0)));subst y0;clear hx hy
    exact Hi
   have mg:(y !=0)=true:=by rw [bne,show (y==0)=false by simpa using y0];rfl
   by_cases xy:x=y
   ·subst xy;have ka:(x !=x)=false:=ag
    by_cases x2:x=2
    ·have HF:Hid (qL g h=false):=Rh HG.u (agH (by rw [hy];exact y0) (hx.trans x2));subst x2;clear hx hy y0;go_wp2;go_ret
     exact ⟨aI HF.u.symm,cH.u.trans Oc.u⟩
    ·have HC:Hid (((kf g).take (k+1)).all (uK g h)=true):=Ml HG.u HQ.u (agI (hx.trans hy.symm) (by rw [hx];exact x2));have bz:(x==2)=false:=sU x2
     clear hx hy y0 x2
     exact Hi
   ·have HF:Hid (qL g h=false):=Rh HG.u (ab9 (by rw [hy];exact y0) (by rw [hx,hy];exact xy));have hxy:(x !=y)=true:=by rw [bne,show (x==y)=false by simpa using xy];rfl
    clear hx hy y0 xy;go_wp2;go_ret
    exact ⟨aI HF.u.symm,cH.u.trans Oc.u⟩
  ·have jJ:k=n:=aa
   subst jJ;have HF:Hid (qL g h=true):=by
    unfold Hid qL;have:=HQ.u;rw [lE (by rw [HN.u];exact lI _)] at this
    exact this
   go_wp2;go_ret
   exact ⟨aI HF.u.symm,cH.u.trans HE.u⟩
structure Af where
  m:Int
  f:Int
structure Pt where
  m:Int
  c:Int
structure Pp where
  n:Int
  ph:Int
  ts:List Pt
  os:List Af
def atT (ts:List Pt) (m:Int):Nat:=ts.findIdx fun t=>t.m==m
def plT (ts:List Pt) (m:Int):Nat:=ts.findIdx fun t=>decide (m<t.m)
def Od (ts:List Pt) (m c:Int):List Pt:=
  if atT ts m<ts.length then ts.modify (atT ts m) fun t=>⟨t.m,(t.c+c) % 8⟩ else ts.take (plT ts m)++[⟨m,c % 8⟩]++ts.drop (plT ts m)
def fM (ts:List Pt) (m c:Int):List Pt:=(Od ts m c).filter fun t=>!(t.c==0)
def jq (os:List Af) (q:Int):Af:=os.getD q.toNat ⟨0,0⟩
def eQ (p:Pp) (g:Gt):Option Pp:=
  if (vg g p.n && ((p.os.length:Int)==p.n))=false then none
  else if g.k=1 then some ⟨p.n,p.ph,p.ts,p.os.set g.a.toNat ⟨(jq p.os g.a).m,1 - (jq p.os g.a).f⟩⟩
  else if g.k=9 then some ⟨p.n,p.ph,p.ts,p.os.set g.b.toNat ⟨Lj (jq p.os g.a).m (jq p.os g.b).m,Lj (jq p.os g.a).f (jq p.os g.b).f⟩⟩
  else if g.k=11 then some ⟨p.n,p.ph,p.ts,(p.os.set g.a.toNat (jq p.os g.b)).set g.b.toNat (jq p.os g.a)⟩
  else if 0<bH g.k then
    (if (jq p.os g.a).f=0 then some ⟨p.n,p.ph,fM p.ts (jq p.os g.a).m (bH g.k),p.os⟩
     else some ⟨p.n,(p.ph+bH g.k) % 8,fM p.ts (jq p.os g.a).m ((-(bH g.k)) % 8),p.os⟩)
  else none
def Fc (n:Int):Pp:=⟨n,0,[],(List.range n.toNat).map fun (q:Nat)=>⟨pw (q:Int),0⟩⟩
def eN (xs:List Gt) (n:Int):Option Pp:=if 1<=n/\n<=4 then xs.foldl (fun t g=>t.bind fun p=>eQ p g) (some (Fc n)) else none
structure Us (p:Pp) (k:Nat):Prop where
  n:1<=p.n/\p.n<=4
  l:(p.os.length:Int)=p.n
  o:∀a∈p.os,(0<=a.m/\a.m<=15)/\(a.f=0\/a.f=1)
  t:∀a∈p.ts,(0<=a.m/\a.m<=15)/\(0<=a.c/\a.c<=7)
  tl:p.ts.length<=k
  ph:0<=p.ph/\p.ph<=7
theorem aoL {a b:Int} (ha:0<=a/\a<=15) (hb:0<=b/\b<=15):0<=Lj a b/\Lj a b<=15:=by
  obtain ⟨i,rfl⟩:=lD ha.1;obtain ⟨j,rfl⟩:=lD hb.1;have h:(List.range 16).all (fun i=>(List.range 16).all fun j=>decide (0<=Lj (i:Int) (j:Int)/\Lj (i:Int) (j:Int)<=15))=true:=af
  have h1:=lq.1 h i (DJ.2 aa)
  exact DH (lq.1 h1 j (DJ.2 aa))
theorem atS {a b:Int} (ha:a=0\/a=1) (hb:b=0\/b=1):Lj a b=0\/Lj a b=1:=by
  rcases ha with rfl|rfl<;>rcases hb with rfl|rfl<;>decide
theorem Ri {os:List Af} {q:Int} (hq:q.toNat<os.length):jq os q∈os:=by
  unfold jq;rw [lP,lB hq]
  exact FO hq
theorem Fe {os:List Af} {q:Nat} {a:Af} (h:os[q]?=some a):jq os (q:Int)=a:=by
  unfold jq;rw [yp,lP,h];rfl
theorem Wl {ts:List Pt} {m c:Int} (h:∀a∈ts,(0<=a.m/\a.m<=15)/\(0<=a.c/\a.c<=7)) (hm:0<=m/\m<=15):∀a∈fM ts m c,(0<=a.m/\a.m<=15)/\(0<=a.c/\a.c<=7):=by
  intro a ha;have ha:=(List.mem_filter.1 ha).1;unfold Od at ha;split at ha
  · obtain ⟨i,hi,he⟩:=List.mem_iff_getElem.1 ha
    rw [List.getElem_modify] at he;rw [List.length_modify] at hi;have:=h _ (FO hi);split at he
    · subst he
      exact ⟨this.1,by show 0<=_ % 8/\_ % 8<=7;omega⟩
    · subst he
      exact this
  · rcases iT.1 ha with ha|ha
    · rcases iT.1 ha with ha|ha
      · exact h a (FI ha)
      · rw [oZ] at ha
        subst ha
        exact ⟨hm,by show 0<=c % 8/\c % 8<=7;omega⟩
    · exact h a (List.mem_of_mem_drop ha)
theorem agL (ts:List Pt) (m c:Int):(Od ts m c).length<=ts.length+1:=by
  unfold Od;split
  · rw [List.length_modify];omega
  · simp only [lA,lT,lU,ki,yr];omega
theorem Rj (ts:List Pt) (m c:Int):(fM ts m c).length<=ts.length+1:=lK (List.length_filter_le _ _) (agL ts m c)
theorem qM {g:Gt} {n:Int} (h:vg g n=true):(1<=n/\n<=4)/\(1<=g.k/\g.k<=12)/\(0<=g.a/\g.a<n)/\(0<=g.b/\g.b<n)/\(0<=g.c/\g.c<n)/\(9<=g.k->g.a≠g.b)/\(g.k=12->g.a≠g.c/\g.b≠g.c):=by
  unfold vg DS at h;simp only [lF,kh] at h;obtain ⟨⟨⟨⟨⟨h1,h2⟩,h3⟩,ha⟩,hb⟩,hc⟩:=h;have hk:1<=g.k/\g.k<=12:=by unfold ar at h3;omega
  refine ⟨⟨h1,h2⟩,hk,?_⟩;rcases (show (1<=g.k/\g.k<=8)\/(9<=g.k/\g.k<=11)\/g.k=12 by omega) with e|e|e
  · rw [ar1 e] at ha hb hc;simp [qs] at ha hb hc;refine ⟨aa,aa,aa,fun h=>?_,fun h=>?_⟩<;>omega
  · rw [ar2 e] at ha hb hc;simp [qs] at ha hb hc
    refine ⟨aa,aa,aa,fun h=>?_,fun h=>?_⟩
    · have:=hb.2;intro hh;exact this hh.symm
    · omega
  · rw [ar3 e] at ha hb hc;simp [qs] at ha hb hc
    refine ⟨aa,aa,aa,fun h=>?_,fun h=>?_⟩
    · have:=hb.2;intro hh;exact this hh.symm
    · have:=hc.2;exact ⟨fun hh=>this.1 hh.symm,fun hh=>this.2 hh.symm⟩
theorem vgA {g:Gt} {n:Int} (h:vg g n=true):1<=n/\n<=4/\0<=g.a/\g.a<n/\0<ar g.k/\0<=g.b/\g.b<n/\0<=g.c/\g.c<n:=by
  obtain ⟨h1,h2,h3,h4,h5,-⟩:=qM h;have h6:0<ar g.k:=by unfold ar;split<;>(try split)<;>(try split)<;>omega
  omega
theorem YQ {p q:Pp} {g:Gt} {k:Nat} (h:Us p k) (e:eQ p g=some q):Us q (k+1)/\q.n=p.n:=by
  unfold eQ at e;split at e
  · cases e
  rename_i hv;rw [Bool.not_eq_false,lF] at hv;obtain ⟨v1,v4,a0,a1,-,b0,b1,-⟩:=vgA hv.1;have hA:jq p.os g.a∈p.os:=Ri (oM h.l);have hB:jq p.os g.b∈p.os:=Ri (oM h.l);have oA:=h.o _ hA;have oB:=h.o _ hB;have agM:∀(i:Nat) (a:Af) (os:List Af),(∀a∈os,(0<=a.m/\a.m<=15)/\(a.f=0\/a.f=1))->((0<=a.m/\a.m<=15)/\(a.f=0\/a.f=1))->∀x∈os.set i a,(0<=x.m/\x.m<=15)/\(x.f=0\/x.f=1):=fun i a os ho ha x hx=>by
    rcases List.mem_or_eq_of_mem_set hx with hx|rfl
    · exact ho x hx
    · exact ha
  split at e
  · cases e
    exact ⟨⟨h.n,by rw [FT];exact h.l,agM _ _ _ h.o ⟨oA.1,by rcases oA.2 with e|e<;>rw [e]<;>simp⟩,h.t,TI h.tl,h.ph⟩,rfl⟩
  split at e
  · cases e
    exact ⟨⟨h.n,by rw [FT];exact h.l,agM _ _ _ h.o ⟨aoL oA.1 oB.1,atS oA.2 oB.2⟩,h.t,TI h.tl,h.ph⟩,rfl⟩
  split at e
  · cases e
    exact ⟨⟨h.n,by rw [FT,FT];exact h.l,agM _ _ _ (agM _ _ _ h.o oB) oA,h.t,TI h.tl,h.ph⟩,rfl⟩
  split at e
  · split at e
    · cases e
      exact ⟨⟨h.n,h.l,h.o,Wl h.t oA.1,lK (Rj _ _ _) (oM h.tl),h.ph⟩,rfl⟩
    · cases e
      exact ⟨⟨h.n,h.l,h.o,Wl h.t oA.1,lK (Rj _ _ _) (oM h.tl),by show 0<=_ % 8/\_ % 8<=7;omega⟩,rfl⟩
  · cases e
theorem aks {n:Int} (h1:1<=n) (h4:n<=4):Us (Fc n) 0:=by
  refine ⟨⟨h1,h4⟩,by unfold Fc;simp;omega,fun a ha=>?_,fun a ha=>(by simp [Fc] at ha),lI _,by simp [Fc]⟩;unfold Fc at ha;obtain ⟨q,hq,rfl⟩:=qH.1 ha;have Bi:q<4:=oM (DJ.1 hq)
  refine ⟨?_,Or.inl rfl⟩;rcases (show q=0\/q=1\/q=2\/q=3 by omega) with rfl|rfl|rfl|rfl<;>decide
theorem Mm:∀xs:List Gt,xs.foldl (fun t g=>t.bind fun p=>eQ p g) (none:Option Pp)=none
  |[]=>rfl
  |_::xs=>Mm xs
theorem Hk {xs:List Gt} {n:Int} (g:Gt) (h:1<=n/\n<=4):eN (xs++[g]) n=(eN xs n).bind fun p=>eQ p g:=by
  unfold eN;rw [aY h,aY h,rZ];rfl
theorem pO {xs:List Gt} {n:Int} {k:Nat} {g:Gt} {p:Pp} (hn:1<=n/\n<=4) (hg:xs[k]?=some g) (h:eN (xs.take k) n=some p):eN (xs.take (k+1)) n=eQ p g:=by
  rw [aS hg,Hk g hn,h];rfl
theorem CW {xs:List Gt} {n:Int} (hn:1<=n/\n<=4):eN (xs.take 0) n=some (Fc n):=by
  unfold eN;rw [aY hn];rfl
theorem Hl {xs:List Gt} {n:Int} (k:Nat) (h:eN (xs.take k) n=none):eN xs n=none:=by
  unfold eN at*
  by_cases hn:1<=n/\n<=4
  · rw [aY hn] at*
    have e:xs=xs.take k++xs.drop k:=(yj k xs).symm;rw [e,rZ,h]
    exact Mm _
  · rw [aM hn]
theorem sA {xs:List Gt} {n:Int}:∀{k:Nat} {p:Pp},k<=xs.length->eN (xs.take k) n=some p->Us p k/\p.n=n
  |0,p,_,e=>by
    by_cases hn:1<=n/\n<=4
    · rw [CW hn] at e
      cases e
      exact ⟨aks hn.1 hn.2,rfl⟩
    · unfold eN at e;rw [aM hn] at e;cases e
  |k+1,p,hk,e=>by
    by_cases hn:1<=n/\n<=4
    · have hg:xs[k]?=some (xs[k]' aa):=lB _
      cases hp:eN (xs.take k) n with
      |none=>
        rw [aS hg,Hk _ hn,hp] at e
        cases e
      |some p0=>
        rw [pO hn hg hp] at e;obtain ⟨h1,h2⟩:=sA aa hp;obtain ⟨h3,h4⟩:=YQ h1 e
        exact ⟨h3,h4.trans h2⟩
    · unfold eN at e;rw [aM hn] at e;cases e
def nD (ts:List Pt) (m:Int):Int:=match ts.find? (fun t=>t.m==m) with
  |none=>0
  |some t=>t.c
def ee (all:Pp) (xs:List Gt) (n:Int):Nat->List Gt ×List Int
  |0=>([],[])
  |k+1=>match xs[k]?,eN (xs.take k) n with
    |some g,some p=>
      if bH g.k=0 then ((ee all xs n k).1++[g],(ee all xs n k).2)
      else if gf (ee all xs n k).2 (jq p.os g.a).m=true then ee all xs n k
      else ((ee all xs n k).1++cG (if (jq p.os g.a).f=1 then (-(nD all.ts (jq p.os g.a).m)) % 8 else nD all.ts (jq p.os g.a).m) g.a,(ee all xs n k).2++[(jq p.os g.a).m])
    |_,_=>ee all xs n k
def qN (xs:List Gt) (n:Int):List Gt:=match eN xs n with
  |none=>xs
  |some all=>(ee all xs n xs.length).1
theorem Hm (all:Pp) (xs:List Gt) (n:Int):∀k:Nat,(ee all xs n k).1.length<=2*k/\(ee all xs n k).2.length<=k
  |0=>by simp [ee]
  |k+1=>by
    have ih:=Hm all xs n k;unfold ee;split
    · split
      · simp only [lA,ki,yr];omega
      · split
        · omega
        · simp only [lA,ki,yr]
          rename_i g p _ _ _ _;have:=BN (if (jq p.os g.a).f=1 then (-(nD all.ts (jq p.os g.a).m)) % 8 else nD all.ts (jq p.os g.a).m) g.a;omega
    · omega
theorem Mn (xs:List Gt) (n:Int):(qN xs n).length<=2*xs.length:=by
  unfold qN;split
  · omega
  · exact (Hm _ _ _ _).1
theorem acb {xs:List Gt} {n:Int} (h:eN xs n=none):qN xs n=xs:=by unfold qN;rw [h]
theorem YR {xs:List Gt} {n:Int} {all:Pp} (h:eN xs n=some all):qN xs n=(ee all xs n xs.length).1:=by unfold qN;rw [h]
def pP (g:Gt):Bool:=g.k==1||g.k==9||g.k==11||decide (0<bH g.k)
def Rk (xs:List Gt) (k:Nat):Bool:=match xs[k]? with
  |none=>false
  |some g=>pP g
def opn (xs:List Gt):Nat->Bool
  |0=>false
  |k+1=>Rk xs (k+1) && Rk xs k
theorem Wm {xs:List Gt} {k:Nat} {g:Gt} (h:xs[k]?=some g):Rk xs k=pP g:=by unfold Rk;rw [h]
def cZ (xs:List Gt):Nat->List (List Gt)
  |0=>[]
  |k+1=>match xs[k]? with
    |none=>cZ xs k
    |some g=>if opn xs k=true then (cZ xs k).dropLast++[(cZ xs k).getLastD []++[g]] else cZ xs k++[[g]]
def nE (xs:List Gt):List (List Gt):=cZ xs xs.length
def gx (xs:List Gt) (n:Int):List Gt:=(nE xs).flatMap fun s=>qN s n
theorem Ho {xs:List Gt} {k:Nat} {g:Gt} (hg:xs[k]?=some g) (h:opn xs k=true):cZ xs (k+1)=(cZ xs k).dropLast++[(cZ xs k).getLastD []++[g]]:=by
  show (match xs[k]? with|none=>cZ xs k|some g=>if opn xs k=true then (cZ xs k).dropLast++[(cZ xs k).getLastD []++[g]] else cZ xs k++[[g]])=_;rw [hg]
  exact aY h
theorem xE {xs:List Gt} {k:Nat} {g:Gt} (hg:xs[k]?=some g) (h:opn xs k=false):cZ xs (k+1)=cZ xs k++[[g]]:=by
  show (match xs[k]? with|none=>cZ xs k|some g=>if opn xs k=true then (cZ xs k).dropLast++[(cZ xs k).getLastD []++[g]] else cZ xs k++[[g]])=_;rw [hg]
  exact aM aZ
theorem Rl (xs:List Gt):∀k:Nat,0<k->k<=xs.length->cZ xs k≠[]
  |0,h,_=>aa
  |k+1,_,hk=>by
    have hg:xs[k]?=some (xs[k]' aa):=lB _
    cases ho:opn xs k
    · rw [xE hg ho];simp
    · rw [Ho hg ho];simp
theorem zP (xs:List Gt):∀k:Nat,k<=xs.length->(cZ xs k).flatten=xs.take k
  |0,_=>by simp [cZ]
  |k+1,hk=>by
    have hg:xs[k]?=some (xs[k]' aa):=lB _;have ih:=zP xs k aa;rw [aS hg,<-ih]
    cases ho:opn xs k
    · rw [xE hg ho,FQ]
      simp
    · rw [Ho hg ho]
      have lu:0<k:=by
        cases k with
        |zero=>simp [opn] at ho
        |succ k=>omega
      have hne:=Rl xs k lu aa
      conv=>rhs;rw [<-List.dropLast_concat_getLast hne]
      rw [FQ,FQ];simp [Tw,abg hne]
theorem CX (xs:List Gt):(nE xs).flatten=xs:=by unfold nE;rw [zP xs _ (lI _),pg]
theorem zQ (n:Int):∀ss:List (List Gt),(ss.flatMap fun s=>qN s n).length<=2*ss.flatten.length
  |[]=>ag
  |s::ss=>by
    rw [jQ,lA,FL,lA];have:=zQ n ss;have:=Mn s n;omega
theorem Ea (xs:List Gt) (n:Int):(gx xs n).length<=2*xs.length:=by
  have:=zQ n (nE xs);rw [CX] at this
  exact this
abbrev Pt.val (x:Pt):Value:=.agg #[iI x.m,iI x.c]
def Pt.cells (x:Pt):List Value:=[iI x.m,iI x.c]
abbrev aQ (xs:List Pt):List Value:=xs.flatMap Pt.cells
theorem Pt.aG (x:Pt):x.cells.length=2:=rfl
theorem Wn {w:World} {B n i:Nat} {A:OA} {xs:List Pt} (h:Rd w B 2 A n (aQ xs)) (hi:i<n):
  ∃b o x,A=some ⟨b,o,none⟩/\b<B/\xs[i]?=some x/\w.cell? (aA b (o+i*2))=some (iI x.m)/\w.cell? (aA b (o+i*2+1))=some (iI x.c):=by
 obtain ⟨b,o,x,rfl,hb,hx,hc⟩:=kQ Pt.aG aa h hi
 exact ⟨b,o,x,rfl,hb,hx,hc 0 _ rfl,hc 1 _ rfl⟩
theorem acd:(prog.info? 243).map (fun i=>(i.zero,i.size,i.bytes))=some (some (.agg #[iI 0,iI 0]),2,16):=af
theorem Pt.one (xs:List Pt):∀u∈aQ xs,u.oneCell'=true:=by
 intro u hu;obtain ⟨x,_,hx⟩:=vN.1 hu;simp [Pt.cells] at hx;rcases hx with rfl|rfl<;>rfl
theorem nW {w0 w:World} {ops:Array Oper} {rest:List Oper} {o:Oper} {a:Act} {Q:Exit->Act->World->Prop} (fX:o.guard=none) (s x:Operand)
  (ho:aO o s x 219) (v:Value) (n:Nat) (xs:List Pt) (hs:a.eval s=v)
  (bj:w.ownsRow w0.heap.size 243 2 v n (aQ xs)) (cD:Ext w0 w) (A:OA) (m c:Nat) (ys:List Pt) (hx:a.eval x=.slice A m c) (hr:Rd w w.heap.size 2 A m (aQ ys)) (hn:n+m<=2000000000000)
  (h:aH w0 w v 243 2 (n+m) (aQ (xs++ys)) (wpList prog ops Q rest) a o):wpList prog ops Q (o::rest) a w:=by
 obtain ⟨i0,hi,fH,iV,kz⟩:=jH acd
 exact fp fX s x _ ho 243 i0 _ 2 16 underlying219 hi fH iV kz rfl ae ae v n _ hs bj cD A m c _ hx hr (Pt.one ys) hn (fun v' w' h1=>h v' w' (by unfold aQ;rw [lR];exact h1))
theorem asb {w0 w:World} {ops:Array Oper} {o:Oper} {a:Act} {K:Act->World->Prop} {Q:Exit->Act->World->Prop} {E:Prop} (fX:o.guard=none) (s x:Operand)
  (ho:aO o s x 219) (v:Value) (n:Nat) (xs:List Pt) (hs:a.eval s=v)
  (bj:w.ownsRow w0.heap.size 243 2 v n (aQ xs)) (cD:Ext w0 w) (A:OA) (m c:Nat) (ys:List Pt) (hx:a.eval x=.slice A m c) (hr:Rd w w.heap.size 2 A m (aQ ys)) (hn:n+m<=2000000000000)
  (h:aH w0 w v 243 2 (n+m) (aQ (xs++ys)) K a o):if Region.wanted o (yielded ops a.tmps)=true then Oper.wp prog o a w K Q else E:=by
 obtain ⟨i0,hi,fH,iV,kz⟩:=jH acd
 exact nz fX s x _ ho 243 i0 _ 2 16 underlying219 hi fH iV kz rfl ae ae v n _ hs bj cD A m c _ hx hr (Pt.one ys) hn (fun v' w' h1=>h v' w' (by unfold aQ;rw [lR];exact h1))
theorem Rm {w0 w:World} {ops:Array Oper} {rest:List Oper} {o:Oper} {a:Act} {Q:Exit->Act->World->Prop} (fX:o.guard=none) (s x:Operand)
  (ho:aO o s x 219) (v:Value) (n:Nat) (xs:List Pt) (hs:a.eval s=v)
  (bj:w.ownsRow w0.heap.size 243 2 v n (aQ xs)) (cD:Ext w0 w) (y:Pt) (e:TypeId) (b:Nat) (hx:a.eval x=.slice (some ⟨b,0,none⟩) 1 1) (sg:b=w.heap.size) (hn:n<=1800000000000)
  (h:∀v' w',w'.ownsRow w0.heap.size 243 2 v' (n+1) (aQ (xs++[y]))->Ext w0 w'->(w.alloc (cO #[iI y.m,iI y.c] e)).grownBy w' v.ownBlock->(v'.ownBlock=v.ownBlock\/v'.ownBlock=some (w.heap.size+1))->wpList prog ops Q rest (a.put o.dst v') w'):wpList prog ops Q (o::rest) a (w.alloc (cO #[iI y.m,iI y.c] e)):=by
 subst sg;refine nW fX s x ho v n xs hs (bj.alloc _) (cD.alloc _) _ 1 1 [y] hx (dZ w _ e 2 _ (by simp [Pt.cells]) (by simp [Pt.cells])) aa ?_;intro v' w' h1 h2 h3 h4
 exact h v' w' h1 h2 h3 (sU h4)
abbrev Af.val (x:Af):Value:=.agg #[iI x.m,iI x.f]
def Af.cells (x:Af):List Value:=[iI x.m,iI x.f]
abbrev bF (xs:List Af):List Value:=xs.flatMap Af.cells
theorem Af.aG (x:Af):x.cells.length=2:=rfl
theorem Hp {w:World} {B n i:Nat} {A:OA} {xs:List Af} (h:Rd w B 2 A n (bF xs)) (hi:i<n):
  ∃b o x,A=some ⟨b,o,none⟩/\b<B/\xs[i]?=some x/\w.cell? (aA b (o+i*2))=some (iI x.m)/\w.cell? (aA b (o+i*2+1))=some (iI x.f):=by
 obtain ⟨b,o,x,rfl,hb,hx,hc⟩:=kQ Af.aG aa h hi
 exact ⟨b,o,x,rfl,hb,hx,hc 0 _ rfl,hc 1 _ rfl⟩
theorem ace:(prog.info? 227).map (fun i=>(i.zero,i.size,i.bytes))=some (some (.agg #[iI 0,iI 0]),2,16):=af
theorem Af.one (xs:List Af):∀u∈bF xs,u.oneCell'=true:=by
 intro u hu;obtain ⟨x,_,hx⟩:=vN.1 hu;simp [Af.cells] at hx;rcases hx with rfl|rfl<;>rfl
theorem Ut {w0 w:World} {ops:Array Oper} {rest:List Oper} {o:Oper} {a:Act} {Q:Exit->Act->World->Prop} (fX:o.guard=none) (s x:Operand)
  (ho:aO o s x 220) (v:Value) (n:Nat) (xs:List Af) (hs:a.eval s=v)
  (bj:w.ownsRow w0.heap.size 227 2 v n (bF xs)) (cD:Ext w0 w) (A:OA) (m c:Nat) (ys:List Af) (hx:a.eval x=.slice A m c) (hr:Rd w w.heap.size 2 A m (bF ys)) (hn:n+m<=2000000000000)
  (h:aH w0 w v 227 2 (n+m) (bF (xs++ys)) (wpList prog ops Q rest) a o):wpList prog ops Q (o::rest) a w:=by
 obtain ⟨i0,hi,fH,iV,kz⟩:=jH ace
 exact fp fX s x _ ho 227 i0 _ 2 16 underlying220 hi fH iV kz rfl ae ae v n _ hs bj cD A m c _ hx hr (Af.one ys) hn (fun v' w' h1=>h v' w' (by unfold bF;rw [lR];exact h1))
theorem asc {w0 w:World} {ops:Array Oper} {o:Oper} {a:Act} {K:Act->World->Prop} {Q:Exit->Act->World->Prop} {E:Prop} (fX:o.guard=none) (s x:Operand)
  (ho:aO o s x 220) (v:Value) (n:Nat) (xs:List Af) (hs:a.eval s=v)
  (bj:w.ownsRow w0.heap.size 227 2 v n (bF xs)) (cD:Ext w0 w) (A:OA) (m c:Nat) (ys:List Af) (hx:a.eval x=.slice A m c) (hr:Rd w w.heap.size 2 A m (bF ys)) (hn:n+m<=2000000000000)
  (h:aH w0 w v 227 2 (n+m) (bF (xs++ys)) K a o):if Region.wanted o (yielded ops a.tmps)=true then Oper.wp prog o a w K Q else E:=by
 obtain ⟨i0,hi,fH,iV,kz⟩:=jH ace
 exact nz fX s x _ ho 227 i0 _ 2 16 underlying220 hi fH iV kz rfl ae ae v n _ hs bj cD A m c _ hx hr (Af.one ys) hn (fun v' w' h1=>h v' w' (by unfold bF;rw [lR];exact h1))
theorem axo {w0 w:World} {ops:Array Oper} {rest:List Oper} {o:Oper} {a:Act} {Q:Exit->Act->World->Prop} (fX:o.guard=none) (s x:Operand)
  (ho:aO o s x 220) (v:Value) (n:Nat) (xs:List Af) (hs:a.eval s=v)
  (bj:w.ownsRow w0.heap.size 227 2 v n (bF xs)) (cD:Ext w0 w) (y:Af) (e:TypeId) (b:Nat) (hx:a.eval x=.slice (some ⟨b,0,none⟩) 1 1) (sg:b=w.heap.size) (hn:n<=1800000000000)
  (h:∀v' w',w'.ownsRow w0.heap.size 227 2 v' (n+1) (bF (xs++[y]))->Ext w0 w'->(w.alloc (cO #[iI y.m,iI y.f] e)).grownBy w' v.ownBlock->(v'.ownBlock=v.ownBlock\/v'.ownBlock=some (w.heap.size+1))->wpList prog ops Q rest (a.put o.dst v') w'):wpList prog ops Q (o::rest) a (w.alloc (cO #[iI y.m,iI y.f] e)):=by
 subst sg;refine Ut fX s x ho v n xs hs (bj.alloc _) (cD.alloc _) _ 1 1 [y] hx (dZ w _ e 2 _ mU mU) aa ?_;intro v' w' h1 h2 h3 h4
 exact h v' w' h1 h2 h3 (sU h4)
end Go.Proofs.YtodhjgngkkcjgaaGreatDoor
