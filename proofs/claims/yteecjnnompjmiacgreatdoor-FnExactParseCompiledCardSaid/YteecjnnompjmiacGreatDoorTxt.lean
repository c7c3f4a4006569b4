/-
  Helper text (no claim of its own): the texts of gates, operations and compiled results, in plain Lean.
-/
import Derived.Test.YteecjnnompjmiacGreatDoorVop
import Derived.Test.YteecjnnompjmiacGreatDoorFi
import Derived.Test.YteecjnnompjmiacGreatDoorSval
import Derived.Lib.Join
namespace Go.Proofs.YteecjnnompjmiacGreatDoor
open Go.ChangeShapes Go.WideShapes Go.ChangeAt Go.RowKit Go.Deep
set_option linter.unusedVariables false
set_option linter.unusedSimpArgs false
/-- The name of a gate's kind. -/
def gnm (k : Int) : ByteArray :=
  if k = 1 then ⟨#[120]⟩ else if k = 2 then ⟨#[121]⟩ else if k = 3 then ⟨#[122]⟩ else if k = 4 then ⟨#[104]⟩ else if k = 5 then ⟨#[115]⟩ else if k = 6 then ⟨#[115, 100]⟩
  else if k = 7 then ⟨#[116]⟩ else if k = 8 then ⟨#[116, 100]⟩ else if k = 9 then ⟨#[99, 120]⟩ else if k = 10 then ⟨#[99, 122]⟩ else if k = 11 then ⟨#[115, 119, 97, 112]⟩ else if k = 12 then ⟨#[99, 99, 120]⟩ else ⟨#[]⟩
theorem gnm_none {k : Int} (h : k < 1 ∨ 12 < k) : gnm k = ⟨#[]⟩ := by
  unfold gnm
  repeat rw [if_neg (by omega)]
theorem gnm_size (k : Int) : (gnm k).size ≤ 4 := by
  rcases (by omega : k = 1 ∨ k = 2 ∨ k = 3 ∨ k = 4 ∨ k = 5 ∨ k = 6 ∨ k = 7 ∨ k = 8 ∨ k = 9 ∨ k = 10 ∨ k = 11 ∨ k = 12 ∨ (k < 1 ∨ 12 < k)) with rfl | rfl | rfl | rfl | rfl | rfl | rfl | rfl | rfl | rfl | rfl | rfl | h
  all_goals first | (rw [gnm_none h]; decide) | decide
theorem dig_size (q : Int) : (dig q).size = 1 := rfl
/-- A text, and behind it the numbers, each behind a blank. -/
def rowS (s : ByteArray) (l : List Int) : ByteArray := l.foldl (fun s q => s ++ ⟨#[32]⟩ ++ dig q) s
theorem rowS_snoc (s : ByteArray) {l : List Int} {k : Nat} {q : Int} (h : l[k]? = some q) : rowS s (l.take (k + 1)) = rowS s (l.take k) ++ ⟨#[32]⟩ ++ dig q := by
  unfold rowS
  rw [take_snoc h, List.foldl_append]
  rfl
theorem rowS_size (s : ByteArray) (l : List Int) : (rowS s l).size = s.size + 2 * l.length := by
  unfold rowS
  induction l generalizing s with
  | nil => rfl
  | cons q l ih =>
    rw [List.foldl_cons, ih, ByteArray.size_append, ByteArray.size_append, dig_size]
    have : (⟨#[32]⟩ : ByteArray).size = 1 := rfl
    rw [this, List.length_cons]
    omega
theorem rowS_app (a b : ByteArray) (l : List Int) : a ++ rowS b l = rowS (a ++ b) l := by
  unfold rowS
  induction l generalizing b with
  | nil => rfl
  | cons q l ih => rw [List.foldl_cons, List.foldl_cons, ih]; simp only [ByteArray.append_assoc]
/-- The text of a gate. -/
def gtx (g : Gt) : ByteArray := if vg g 4 = true then rowS (gnm g.k) (qus g) else ⟨#[]⟩
theorem qus_len3 (g : Gt) : (qus g).length ≤ 3 := by
  rw [qus_len]
  have := ar_range g.k
  omega
theorem gtx_size (g : Gt) : (gtx g).size ≤ 10 := by
  unfold gtx
  split
  · rw [rowS_size]
    have := gnm_size g.k
    have := qus_len3 g
    omega
  · exact Nat.zero_le _
def wMea : ByteArray := ⟨#[109, 101, 97, 115, 117, 114, 101, 32]⟩
def wCle : ByteArray := ⟨#[99, 108, 101, 97, 110, 32]⟩
def wIf : ByteArray := ⟨#[105, 102, 32]⟩
def otx (o : Oq) : ByteArray :=
  if vOp o 4 3 = true then
    (if o.k = 2 then wMea ++ dig o.q ++ ⟨#[32]⟩ ++ dig o.bit else if o.k = 3 then wCle ++ dig o.q else if 0 < o.cond then wIf ++ dig (o.cond - 1) ++ ⟨#[32]⟩ ++ gtx o.g else gtx o.g)
  else ⟨#[]⟩
theorem otx_size (o : Oq) : (otx o).size ≤ 15 := by
  have hg := gtx_size o.g
  have e1 : (⟨#[32]⟩ : ByteArray).size = 1 := rfl
  have e2 : wMea.size = 8 := rfl
  have e3 : wCle.size = 6 := rfl
  have e4 : wIf.size = 3 := rfl
  unfold otx
  repeat' split
  all_goals first | exact Nat.zero_le _ | (simp only [ByteArray.size_append, dig_size, e1, e2, e3, e4]; omega) | omega
/-- Texts joined by a separator. -/
def jn (sep : ByteArray) : List ByteArray → ByteArray
  | [] => ⟨#[]⟩
  | x :: r => r.foldl (fun a y => a ++ sep ++ y) x
theorem jn_one (sep : ByteArray) {xs : List ByteArray} {y : ByteArray} (h : xs[0]? = some y) : jn sep (xs.take (0 + 1)) = y := by
  cases xs with
  | nil => cases h
  | cons x r =>
    obtain rfl := Option.some.inj (show some x = some y from h)
    rfl
theorem jn_snoc (sep : ByteArray) {xs : List ByteArray} {k : Nat} {y : ByteArray} (h : xs[k]? = some y) (hk : 0 < k) : jn sep (xs.take (k + 1)) = jn sep (xs.take k) ++ sep ++ y := by
  rw [take_snoc h]
  cases xs with
  | nil => cases h
  | cons x r =>
    obtain ⟨j, rfl⟩ : ∃ j, k = j + 1 := ⟨k - 1, by omega⟩
    rw [List.take_succ_cons]
    show (r.take j ++ [y]).foldl (fun a y => a ++ sep ++ y) x = (r.take j).foldl (fun a y => a ++ sep ++ y) x ++ sep ++ y
    rw [List.foldl_append]
    rfl
theorem jn_list (sep x : ByteArray) (r : List ByteArray) : (r.foldl (fun a y => a ++ sep ++ y) x).data.toList = x.data.toList ++ (r.map fun y => sep.data.toList ++ y.data.toList).flatten := by
  induction r generalizing x with
  | nil => simp
  | cons y r ih =>
    rw [List.foldl_cons, ih, List.map_cons, List.flatten_cons, ByteArray.data_append, ByteArray.data_append, Array.toList_append, Array.toList_append]
    simp only [List.append_assoc]
theorem inter_list (sep x : List UInt8) (r : List (List UInt8)) : sep.intercalate (x :: r) = x ++ (r.map fun y => sep ++ y).flatten := by
  induction r generalizing x with
  | nil => simp [List.intercalate]
  | cons y r ih =>
    have := ih y
    simp only [List.intercalate] at this ⊢
    rw [List.intersperse_cons_cons, List.flatten_cons, List.flatten_cons, this]
    simp
theorem jn_join (sep : ByteArray) (xs : List ByteArray) : (⟨(Lib.join (xs.map (·.data.toList)) sep.data.toList).toArray⟩ : ByteArray) = jn sep xs := by
  apply ByteArray.ext
  cases xs with
  | nil => rfl
  | cons x r =>
    show (Lib.join ((x :: r).map (·.data.toList)) sep.data.toList).toArray = (r.foldl (fun a y => a ++ sep ++ y) x).data
    apply Array.ext'
    rw [jn_list]
    show Lib.join (x.data.toList :: r.map (·.data.toList)) sep.data.toList = _
    unfold Lib.join
    rw [inter_list, List.map_map]
    rfl
theorem jn_size (sep : ByteArray) (xs : List ByteArray) (m : Nat) (h : ∀ x ∈ xs, x.size ≤ m) : (jn sep xs).size ≤ xs.length * (m + sep.size) := by
  cases xs with
  | nil => exact Nat.zero_le _
  | cons x r =>
    have key : ∀ (r : List ByteArray) (x : ByteArray), (∀ y ∈ r, y.size ≤ m) → (r.foldl (fun a y => a ++ sep ++ y) x).size ≤ x.size + r.length * (m + sep.size) := by
      intro r
      induction r with
      | nil => intro x _; simp
      | cons y r ih =>
        intro x hy
        rw [List.foldl_cons]
        have h1 := ih (x ++ sep ++ y) (fun z hz => hy z (List.mem_cons_of_mem _ hz))
        have h2 := hy y List.mem_cons_self
        rw [ByteArray.size_append, ByteArray.size_append] at h1
        rw [List.length_cons, Nat.succ_mul]
        omega
    have h1 := key r x (fun y hy => h y (List.mem_cons_of_mem _ hy))
    have h2 := h x List.mem_cons_self
    show (r.foldl (fun a y => a ++ sep ++ y) x).size ≤ _
    rw [List.length_cons, Nat.succ_mul]
    omega
end Go.Proofs.YteecjnnompjmiacGreatDoor
