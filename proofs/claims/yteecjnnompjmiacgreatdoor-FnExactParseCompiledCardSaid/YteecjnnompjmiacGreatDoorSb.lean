/-
  Helper text (no claim of its own): a text cut at a byte, by the program and by the reference.
-/
import Derived.Test.YteecjnnompjmiacGreatDoorCut
import Derived.Test.YteecjnnompjmiacGreatDoorStr
import Derived.Test.YteecjnnompjmiacGreatDoorShelf
namespace Go.Proofs.YteecjnnompjmiacGreatDoor
open Go.ChangeShapes Go.WideShapes Go.ChangeAt Go.RowKit Go.Deep
set_option linter.unusedVariables false
set_option linter.unusedSimpArgs false
theorem extr_data (s : ByteArray) (a b : Nat) : (s.extract a b).data.toList = (s.data.toList.drop a).take (b - a) := by
  rw [Lib.extract_data]
theorem sbyte_at (s : ByteArray) (k : Nat) (h : k < s.size) : s.data.toList[k]? = some s[k] := by
  rw [List.getElem?_eq_getElem (by rw [Array.length_toList]; exact h), Array.getElem_toList]
  rfl
theorem map_scells (xs : List ByteArray) : xs.map Value.string = scells xs := by
  induction xs with
  | nil => rfl
  | cons x r ih =>
    show Value.string x :: r.map Value.string = scell x ++ scells r
    rw [ih]
    rfl
theorem scells_len (xs : List ByteArray) : (scells xs).length = xs.length := by rw [← map_scells, List.length_map]
/-- A cell of a variable that holds an int. -/
def MaxOk (w : World) : Prop := ∃ g m, Tryz.prog.globalNamed "internal/bytealg.MaxLen" = some g ∧ w.cell? ⟨g, 0, none⟩ = some (.int .i64 m)
theorem MaxOk.ext {w w' : World} (h : MaxOk w) (hx : Ext w w') : MaxOk w' := by
  obtain ⟨g, m, hg, hc⟩ := h
  exact ⟨g, m, hg, (hx.cell (p := ⟨g, 0, none⟩) (World.block_lt_of_cell? _ _ hc)).trans hc⟩
theorem glob_cell {name : String} {g k : Nat} {w : World} {v : Value} (hg : Tryz.prog.globalNamed name = some g) (hc : w.cell? ⟨g, 0, none⟩ = some v) (hk : Tryz.prog.globalNamed name = some k) : w.cell? ⟨k, 0, none⟩ = some v := by
  obtain rfl := Option.some.inj (hg.symm.trans hk)
  exact hc
set_option maxRecDepth 100000 in
set_option maxHeartbeats 4000000 in
theorem impl_SplitByte_any (s : ByteArray) (c : UInt8) (n : Int) (hn : (c.toNat : Int) = n) (w : World) (hw : MaxOk w) (hs : s.size ≤ 2000000000) :
    Calls Tryz.prog 14 #[.string s, .int .u8 n] w fun e w' => ∃ b, e = .returned (.slice (some ⟨b, 0, none⟩) (cut c s).length (cut c s).length) ∧ Rd w' w'.heap.size 1 (some ⟨b, 0, none⟩) (cut c s).length (scells (cut c s)) ∧ Ext w w' := by
  have hcv := conv1 n c hn
  have HC : Hid (∀ w', Ext w w' → Calls Tryz.prog 31 #[.string s, .string ⟨[c].toArray⟩] w' fun e w'' => ∃ b, e = .returned (.slice (some ⟨b, 0, none⟩) (cut c s).length (cut c s).length) ∧ Rd w'' w''.heap.size 1 (some ⟨b, 0, none⟩) (cut c s).length (scells (cut c s)) ∧ Ext w' w'') := by
    intro w' hx
    obtain ⟨g, m, hg, hc⟩ := hw.ext hx
    refine (Tryz.strings_Split s ⟨[c].toArray⟩ m w' (by omega) (glob_cell hg hc (by kernel_rfl)) (Nat.le_refl 1)).mono ?_
    rintro e w'' ⟨rfl, rfl⟩
    have hl : Lib.countB s ⟨[c].toArray⟩ + 1 = (cut c s).length := by
      rw [← splitB_cut, Lib.splitB_all ⟨#[c]⟩ (Nat.le_refl 1) 0 _ s rfl]
    have hp : Lib.splitB ⟨[c].toArray⟩ 0 (Lib.countB s ⟨[c].toArray⟩) s = cut c s := splitB_cut c s
    rw [hl, hp]
    exact ⟨_, rfl, rd_newN w' _ _ _ _ 1 _ rfl (by rw [← map_scells]) (by rw [scells_len, Nat.mul_one]), (Ext.refl _).alloc _⟩
  clear hw
  subst hn
  go_enter Tryz.func14, Tryz.ntmps14
  go_wp2_with (go_at_call 31; (with_reducible refine (HC.out _ (by repeat (first | exact Ext.refl _ | assumption | refine Ext.alloc ?_ _ | refine Ext.drewN ?_ _ | refine Ext.drew ?_))).mono ?_); rintro e w2 ⟨b, rfl, hr, hx⟩)
  go_ret
  exact ⟨b, rfl, hr, Ext.trans ((Ext.refl w).alloc _) hx⟩
set_option maxRecDepth 100000 in
set_option maxHeartbeats 4000000 in
theorem spec_SplitByte_any (s : ByteArray) (c : UInt8) (n : Int) (hn : (c.toNat : Int) = n) (w : World) (hs : s.size ≤ 2000000) :
    Calls Tryz.prog 9 #[.string s, .int .u8 n] w fun e w' => ∃ v, e = .returned v ∧ w'.ownsRow w.heap.size 9 1 v (cut c s).length (scells (cut c s)) ∧ Ext w w' := by
  go_enter Tryz.func9, Tryz.ntmps9
  go_wp2
  go_loopw [5, 6, 7] (fun v fv iv wr => ∃ (ys : List ByteArray) (k : Nat), iv = .int .i64 k ∧ ys.length ≤ k ∧ wr.ownsRow w.heap.size 9 1 v ys.length (scells ys) ∧ Ext w wr ∧ ((∃ f : Nat, fv = .int .i64 f ∧ f ≤ k ∧ k ≤ s.size ∧ Hid (CutAt c s.data.toList (ys.map (·.data.toList)) f k)) ∨ (k = s.size + 1 ∧ (∃ f, fv = .int .i64 f) ∧ Hid (cut c s = ys)))) (fun _ _ i _ => s.size + 1 - (intOf i).toNat)
  case atStart => exact ⟨[], 0, rfl, Nat.le_refl _, own_empty w w _ _ (Ext.refl _), (by repeat (first | exact Ext.refl _ | assumption | refine Ext.alloc ?_ _ | refine Ext.drewN ?_ _ | refine Ext.drew ?_)), .inl ⟨0, rfl, Nat.le_refl _, Nat.zero_le _, CutAt.start _ _⟩⟩
  case round =>
    obtain ⟨ys, k, rfl, hyk, hown, hx, ⟨f, rfl, hf, hks, HA⟩ | ⟨rfl, ⟨f, rfl⟩, HF⟩⟩ := hrel
    · have hk0 : (0 : Int) ≤ (k : Int) := by omega
      have hkn : (k : Int) ≤ (s.size : Int) := by omega
      have hf0 : (0 : Int) ≤ (f : Int) := by omega
      have hfk : (f : Int) ≤ (k : Int) := by omega
      by_cases hlt : k < s.size
      · have hne : ((k : Int) == (s.size : Int)) = false := by simp; omega
        have hki : (k : Int) < (s.size : Int) := by omega
        have HB := Lib.hid (sbyte_at s k hlt)
        have hys : ys.length ≤ 2000001 := by omega
        by_cases hb : s[k] = c
        · have hbq : ((s[k].toNat : Int) == (c.toNat : Int)) = true := by rw [hb]; simp
          rw [hb] at HB
          clear hb
          go_wp2_with (at_builtin; refine appStr rfl _ _ rfl _ ys.length ys rfl hown hx (s.extract f k) _ _ rfl rfl (by omega) ?_; intro v1 w1 hown1 hx1 hg1 hb1)
          go_roundw
          case rel => exact ⟨ys ++ [s.extract f k], k + 1, by go_num, by simp; omega, by simpa using hown1, hx1, .inl ⟨k + 1, by go_num, Nat.le_refl _, by omega, by
            have := HA.out.cut HB.out
            rw [List.map_append]
            show CutAt _ _ (_ ++ [(s.extract f k).data.toList]) _ _
            rw [extr_data]
            exact this⟩⟩
          case measure => simp [intOf]; omega
        · have hbq : ((s[k].toNat : Int) == (c.toNat : Int)) = false := by
            simp
            intro h
            exact hb (UInt8.toNat_inj.1 (by omega))
          have HNE := Lib.hid hb
          clear hb
          go_wp2
          go_roundw
          case rel => exact ⟨ys, k + 1, by go_num, by omega, hown, hx, .inl ⟨f, rfl, by omega, by omega, HA.out.skip HB.out HNE.out⟩⟩
          case measure => simp [intOf]; omega
      · have hke : k = s.size := by omega
        subst hke
        have hne : ((s.size : Int) == (s.size : Int)) = true := by simp
        go_wp2_with (at_builtin; refine appStr rfl _ _ rfl _ ys.length ys rfl hown hx (s.extract f s.size) _ _ rfl rfl (by omega) ?_; intro v1 w1 hown1 hx1 hg1 hb1)
        go_roundw
        case rel => exact ⟨ys ++ [s.extract f s.size], s.size + 1, by go_num, by simp; omega, by simpa using hown1, hx1, .inr ⟨rfl, ⟨_, by go_num⟩, by
            have h1 := HA.out.fin' (by rw [Array.length_toList]; rfl)
            refine (cut_of ?_).symm
            rw [List.map_append, h1]
            show _ ++ [(s.extract f s.size).data.toList] = _
            rw [extr_data]⟩⟩
        case measure => simp [intOf]
    · have hgt : ¬ (((s.size + 1 : Nat) : Int) ≤ (s.size : Int)) := by omega
      rw [← HF.out] at hown
      go_wp2
      go_ret
      exact ⟨_, rfl, hown, hx⟩
end Go.Proofs.YteecjnnompjmiacGreatDoor
