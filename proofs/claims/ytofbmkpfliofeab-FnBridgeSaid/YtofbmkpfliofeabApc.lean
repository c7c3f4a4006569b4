/-
  Helper text (no claim of its own): apart over gates in chains.
-/
import Derived.Test.YtofbmkpfliofeabApt
import Derived.Test.YtofbmkpfliofeabCho
namespace Go.Proofs.Ytofbmkpfliofeab
open Go.ChangeShapes Go.WideShapes Go.ChangeAt Go.RowKit Go.Deep
set_option linter.unusedVariables false
theorem apart_of {n : Nat} (h1 : 1 ≤ n) (h4 : n ≤ 4) (A B : Option Addr) (la lb ca cb : Nat) (ga gb : List Gt) (w : World) (hla : ga.length = la) (hlb : gb.length = lb) (hA : Rd w w.heap.size 4 A la (gcells ga)) (hB : Rd w w.heap.size 4 B lb (gcells gb))
    (ka : la ≤ 1000000) (kb : lb ≤ 1000000) (hh : ∀ i, i < 2 ^ n → ∃ us, Chain (2 ^ n) ga (basis n i) us ∧ Chain (2 ^ n) gb (basis n i) us ∧ us.length = 2 ^ n ∧ ∀ x ∈ us, dok x = true) :
    Calls Try.prog 10 #[.slice A la ca, .slice B lb cb, .int .i64 n] w fun e w' => e = .returned (.tuple #[.int .i64 0, .bool true]) ∧ Ext w w' := by
  subst hla hlb
  have hx : ∀ i : Nat, ∃ us : List Dw, i < 2 ^ n → Chain (2 ^ n) ga (basis n i) us ∧ Chain (2 ^ n) gb (basis n i) us ∧ us.length = 2 ^ n ∧ ∀ x ∈ us, dok x = true := fun i => by
    by_cases hi : i < 2 ^ n
    · obtain ⟨us, h⟩ := hh i hi
      exact ⟨us, fun _ => h⟩
    · exact ⟨[], fun h => absurd h hi⟩
  obtain ⟨r, hr⟩ := Classical.axiomOfChoice hx
  exact apart_same h1 h4 A B ca cb ga gb r w hA hB
    (fun i hi => actsL_of h1 h4 (basis_St n i).len (fun x hx => ((basis_St n i).ok x hx).1) ka (hr i hi).1 A ca)
    (fun i hi => actsL_of h1 h4 (basis_St n i).len (fun x hx => ((basis_St n i).ok x hx).1) kb (hr i hi).2.1 B cb)
    (fun j hj => (hr j hj).2.2)
theorem pow_small {m : Nat} (h : m ≤ 20) : (1 : Int) * 2 ^ m * 16 ≤ 1073741824 := by
  have h1 : 2 ^ m ≤ 2 ^ 20 := Nat.pow_le_pow_right (by decide) h
  have h2 : ((2 : Int) ^ m) = ((2 ^ m : Nat) : Int) := by rw [Int.natCast_pow]; rfl
  rw [h2]
  have h3 : ((2 ^ m : Nat) : Int) ≤ ((2 ^ 20 : Nat) : Int) := by exact_mod_cast h1
  have h4 : ((2 ^ 20 : Nat) : Int) = 1048576 := by decide
  omega
/-- Lists of gates that do the same, from the basis states. -/
theorem same_chains {n : Nat} {ga gb : List Gt} (hv : ∀ g ∈ ga, vg g n = true) (hc : hcs ga ≤ 20) (hs : Same n ga gb) : ∀ i, i < 2 ^ n → ∃ us, Chain (2 ^ n) ga (basis n i) us ∧ Chain (2 ^ n) gb (basis n i) us ∧ us.length = 2 ^ n ∧ ∀ x ∈ us, dok x = true := fun i _ => by
  have hp := pow_small hc
  have h1 : (0 : Int) ≤ 1 := by decide
  obtain ⟨us, u1, u2⟩ := chain_of ga 0 1 (basis n i) hv (basis_St n i) (by omega) h1 (by have := le_pow h1 (hcs ga); omega)
  exact ⟨us, u1, hs 0 1 (basis n i) us (basis_St n i) h1 (by omega) hp u2, u2.1.len, fun x hx => (u2.1.ok x hx).1⟩
end Go.Proofs.Ytofbmkpfliofeab
