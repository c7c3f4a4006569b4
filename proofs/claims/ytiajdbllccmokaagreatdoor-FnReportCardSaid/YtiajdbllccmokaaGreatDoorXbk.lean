import Derived.Test.YtiajdbllccmokaaGreatDoorXbg
namespace Go.Proofs.YtiajdbllccmokaaGreatDoor
open Go.ChangeShapes Go.WideShapes Go.ChangeAt Go.RowKit Go.Deep Go.Proofs.Tryz
set_option linter.unusedVariables false
set_option linter.unusedSimpArgs false
set_option maxRecDepth 100000
set_option maxHeartbeats 16000000
theorem mF {c:UInt8}:∀{a:List UInt8},c ∉ a->∀b,gP c (a++c::b)=a::gP c b
 |[],_,b=>by rw [lN,gP,aX rfl]
 |x::a,h,b=>by
  have hx:x≠c:=fun e=>h (by rw [e];exact nV ..)
  rw [nY,gP,aK hx,mF (fun h9=>h (pz _ h9)) b];rfl
theorem MD {c:UInt8}:∀{a:List UInt8},c ∉ a->gP c a=[a]
 |[],_=>rfl
 |x::a,h=>by
  have hx:x≠c:=fun e=>h (by rw [e];exact nV ..)
  rw [gP,aK hx,MD (fun h9=>h (pz _ h9))];rfl
theorem zE (m:Nat):(32:UInt8) ∉ (num m).data.toList:=by
 intro h;have e:(num m).data.toList=Lib.decDigits m:=rfl;rw [e,Lib.decDigits_eq] at h;obtain ⟨t,-,ht⟩:=zM.1 h;have h2:=sI UInt8.toNat ht;unfold Lib.dg at h2;rw [Cb] at h2;generalize m / 10 ^ (Lib.nDigits m - 1 - t)=q at h2;have h3:(32:UInt8).toNat=32:=rfl;omega
theorem abX {n0 m0 n1 m1 n2 m2:ByteArray} (h0:(32:UInt8) ∉ n0.data.toList) (k0:(32:UInt8) ∉ m0.data.toList) (h1:(32:UInt8) ∉ n1.data.toList) (k1:(32:UInt8) ∉ m1.data.toList) (h2:(32:UInt8) ∉ n2.data.toList) (k2:(32:UInt8) ∉ m2.data.toList):
  cut 32 (spt n0 m0 n1 m1 n2 m2)=[⟨#[103,97,116,101,115]⟩,n0,m0,⟨#[116]⟩,n1,m1,⟨#[116,119,111]⟩,n2,m2]:=by
 have e:(spt n0 m0 n1 m1 n2 m2).data.toList=[103,97,116,101,115]++32::(n0.data.toList++32::(m0.data.toList++32::([116]++32::(n1.data.toList++32::(m1.data.toList++32::([116,119,111]++32::(n2.data.toList++32::m2.data.toList))))))):=by
  unfold spt;simp only [acq,Uh,uE,nY,lN]
 unfold cut;rw [e,mF ae,mF h0,mF k0,mF ae,mF h1,mF k1,mF ae,mF h2,MD k2];rfl
theorem abY (f g:Nat->Nat):cut 32 (rep f g 3)=[⟨#[103,97,116,101,115]⟩,num (f 0),num (g 0),⟨#[116]⟩,num (f 1),num (g 1),⟨#[116,119,111]⟩,num (f 2),num (g 2)]:=by
 rw [<-JS]
 exact abX (zE _) (zE _) (zE _) (zE _) (zE _) (zE _)
theorem Tp {w:World} {B n:Nat} {A:OA} {xs:List ByteArray} (h:Rd w B 1 A n (jR xs)) (h0:0<n):∃b o,A=some ⟨b,o,none⟩/\b<B/\∀i,i<n->xs[i]?=some (xs.getD i ⟨#[]⟩)/\w.cell? (aA b (o+i))=some (.string (xs.getD i ⟨#[]⟩)):=by
 obtain ⟨b,o,x,rfl,hb,_,_⟩:=UO h h0;refine ⟨b,o,rfl,hb,fun i hi=>?_⟩;obtain ⟨b',o',y,e,_,hy,hc⟩:=UO h hi;injection e with e;injection e with e1 e2;subst e1 e2;have:xs.getD i ⟨#[]⟩=y:=by simp [List.getD,hy]
 rw [this]
 exact ⟨hy,hc⟩
theorem aqj (a:ByteArray):(a.toList==a.toList)=true:=beq_self_eq_true _
end Go.Proofs.YtiajdbllccmokaaGreatDoor
