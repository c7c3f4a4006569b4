/-
  Helper text (no claim of its own): texts compared, cut and joined: what graphs need of it.
-/
import Derived.Test.YteecjnnompjmiabDoorCut
namespace Go.Proofs.YteecjnnompjmiabDoor
open Go.ChangeShapes Go.WideShapes Go.ChangeAt Go.RowKit Go.Deep
set_option linter.unusedVariables false
set_option linter.unusedSimpArgs false
theorem dig_size (q : Int) : (dig q).size = 1 := rfl
/-- Texts joined by a separator. -/
def jn (sep : ByteArray) : List ByteArray → ByteArray
  | [] => ⟨#[]⟩
  | x :: r => r.foldl (fun a y => a ++ sep ++ y) x
theorem jn_list (sep x : ByteArray) (r : List ByteArray) : (r.foldl (fun a y => a ++ sep ++ y) x).data.toList = x.data.toList ++ (r.map fun y => sep.data.toList ++ y.data.toList).flatten := by
  induction r generalizing x with
  | nil => simp
  | cons y r ih =>
    rw [List.foldl_cons, ih, List.map_cons, List.flatten_cons, ByteArray.data_append, ByteArray.data_append, Array.toList_append, Array.toList_append]
    simp only [List.append_assoc]
theorem str_beq {a b : ByteArray} : (a.toList == b.toList) = true ↔ a = b := by
  rw [ByteArray.toList_eq, ByteArray.toList_eq]
  constructor
  · intro h
    have := eq_of_beq h
    apply ByteArray.ext
    exact Array.ext' this
  · rintro rfl
    simp
theorem str_bne {a b : ByteArray} (h : a ≠ b) : (a.toList == b.toList) = false := by
  cases e : (a.toList == b.toList)
  · rfl
  · exact absurd (str_beq.1 e) h
theorem str_beq_self (a : ByteArray) : (a.toList == a.toList) = true := str_beq.2 rfl
theorem cutL_pre (c : UInt8) (a X : List UInt8) (ha : c ∉ a) : cutL c (a ++ X) = prep a (cutL c X) := by
  induction a with
  | nil => exact (prep_nil (cutL_ne _ _)).symm
  | cons b a ih =>
    have h1 : b ≠ c := fun e => ha (by rw [e]; exact List.mem_cons_self)
    rw [List.cons_append, cutL, if_neg h1, ih (fun h => ha (List.mem_cons_of_mem _ h)), prep_prep]
    rfl
theorem cutL_join (c : UInt8) (a : List UInt8) (ps : List (List UInt8)) (ha : c ∉ a) (hp : ∀ p ∈ ps, c ∉ p) : cutL c (a ++ (ps.map fun p => [c] ++ p).flatten) = a :: ps := by
  induction ps generalizing a with
  | nil => rw [cutL_pre c a _ ha]; simp [cutL, prep]
  | cons p ps ih =>
    rw [cutL_pre c a _ ha, List.map_cons, List.flatten_cons, List.append_assoc, List.singleton_append, cutL, if_pos rfl, ih p (hp p List.mem_cons_self) (fun q hq => hp q (List.mem_cons_of_mem _ hq))]
    simp [prep]
theorem cut_jn (c : UInt8) (x : ByteArray) (r : List ByteArray) (h : ∀ y ∈ x :: r, c ∉ y.data.toList) : cut c (jn ⟨#[c]⟩ (x :: r)) = x :: r := by
  refine (cut_of ?_).symm
  show _ = cutL c (r.foldl (fun a y => a ++ ⟨#[c]⟩ ++ y) x).data.toList
  rw [jn_list]
  have e : (r.map fun y : ByteArray => (⟨#[c]⟩ : ByteArray).data.toList ++ y.data.toList) = (r.map (·.data.toList)).map fun p => [c] ++ p := by
    rw [List.map_map]; rfl
  rw [e, cutL_join]
  · rfl
  · exact h x List.mem_cons_self
  · intro p hp
    obtain ⟨y, hy, rfl⟩ := List.mem_map.1 hp
    exact h y (List.mem_cons_of_mem _ hy)
theorem dig_blank {q : Int} (h0 : 0 ≤ q) (h4 : q ≤ 4) : (32 : UInt8) ∉ (dig q).data.toList := by
  rcases (by omega : q = 0 ∨ q = 1 ∨ q = 2 ∨ q = 3 ∨ q = 4) with rfl | rfl | rfl | rfl | rfl <;> decide
end Go.Proofs.YteecjnnompjmiabDoor
