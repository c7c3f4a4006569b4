/-
  Helper text (no claim of its own): the decomposition of ops, by the program and by the reference.
-/
import Derived.Test.YtngpkboocpaikabDoorGops
import Derived.Test.YtngpkboocpaikabDoorDec
namespace Go.Proofs.YtngpkboocpaikabDoor
open Go.ChangeShapes Go.WideShapes Go.ChangeAt Go.RowKit Go.Deep
def dec1 (o : Oq) : List Oq := if (o.k == 1) = true then gops (dec o.g) o.cond else if (o.k == 3) = true then [] else [o]
def decOps (xs : List Oq) : List Oq := xs.flatMap dec1
theorem decOps_snoc {xs : List Oq} {k : Nat} {o : Oq} (h : xs[k]? = some o) : decOps (xs.take (k + 1)) = decOps (xs.take k) ++ dec1 o := by
  unfold decOps; rw [take_snoc h, List.flatMap_append]; simp
theorem dec1_len (o : Oq) : (dec1 o).length ≤ 15 := by
  unfold dec1
  split
  · rw [gops_len]; exact dec_len _
  · split <;> simp
theorem decOps_len (xs : List Oq) : (decOps xs).length ≤ 15 * xs.length := by
  unfold decOps
  induction xs with
  | nil => simp
  | cons o xs ih => have := dec1_len o; rw [List.flatMap_cons, List.length_append, List.length_cons]; omega
theorem decOps_take (xs : List Oq) (k : Nat) : (decOps (xs.take k)).length ≤ 15 * k := by
  have h1 := decOps_len (xs.take k)
  have h2 : (xs.take k).length ≤ k := List.length_take_le _ _
  omega
theorem dec1_1 {o : Oq} (h : (o.k == 1) = true) : dec1 o = gops (dec o.g) o.cond := if_pos h
theorem dec1_3 {o : Oq} (h : (o.k == 1) = false) (h3 : (o.k == 3) = true) : dec1 o = [] := by unfold dec1; rw [if_neg (by simp [h]), if_pos h3]
theorem dec1_n {o : Oq} (h : (o.k == 1) = false) (h3 : (o.k == 3) = false) : dec1 o = [o] := by unfold dec1; rw [if_neg (by simp [h]), if_neg (by simp [h3])]

set_option maxRecDepth 100000 in
set_option maxHeartbeats 4000000 in
theorem spec_DecomposeOps_any (A : Option Addr) (n c : Nat) (xs : List Oq) (w : World) (h : Rd w w.heap.size 8 A n (ocells xs)) (hn : n ≤ 1048576) :
    Calls Tryd.prog 15 #[.slice A n c] w fun e w' => ∃ v, e = .returned v ∧ w'.ownsRow w.heap.size 61 8 v (decOps xs).length (ocells (decOps xs)) ∧ Ext w w' := by
  have hlen := Lib.hid (h.len Oq.cells_len (by omega))
  go_enter Tryd.func15, Tryd.ntmps15
  go_wp2
  go_loopw [3, 4] (fun v i wr => ∃ k : Nat, k ≤ n ∧ i = .int .i64 k ∧ wr.ownsRow w.heap.size 61 8 v (decOps (xs.take k)).length (ocells (decOps (xs.take k))) ∧ Ext w wr) (fun _ i _ => n - (intOf i).toNat)
  case atStart => exact ⟨0, Nat.zero_le _, rfl, own_empty w w _ _ (Ext.refl _), (by repeat (first | exact Ext.refl _ | assumption | refine Ext.alloc ?_ _ | refine Ext.drewN ?_ _ | refine Ext.drew ?_))⟩
  case round =>
    obtain ⟨k, hk, rfl, hown, hx⟩ := hrel
    by_cases hlt : k < n
    · obtain ⟨b, o, x, rfl, hb, hg, r0, r1, r2, r3, r4, r5, r6, r7⟩ := op_at h hlt
      have HS := Lib.hid (decOps_snoc hg)
      clear hg
      have hle := decOps_take xs k
      have hdl := dec_len x.g
      have HK : Hid (∀ w', Ext w w' → w'.cell? ⟨b, o + k * 8, none⟩ = some (.int .i64 x.k) ∧ w'.cell? ⟨b, o + k * 8 + 1, none⟩ = some (.int .i64 x.g.k) ∧ w'.cell? ⟨b, o + k * 8 + 2, none⟩ = some (.int .i64 x.g.a) ∧ w'.cell? ⟨b, o + k * 8 + 3, none⟩ = some (.int .i64 x.g.b) ∧ w'.cell? ⟨b, o + k * 8 + 4, none⟩ = some (.int .i64 x.g.c) ∧ w'.cell? ⟨b, o + k * 8 + 5, none⟩ = some (.int .i64 x.q) ∧ w'.cell? ⟨b, o + k * 8 + 6, none⟩ = some (.int .i64 x.bit) ∧ w'.cell? ⟨b, o + k * 8 + 7, none⟩ = some (.int .i64 x.cond)) :=
        fun w' hx' => ⟨(hx'.cell (p := ⟨b, o + k * 8, none⟩) hb).trans r0, (hx'.cell (p := ⟨b, o + k * 8 + 1, none⟩) hb).trans r1, (hx'.cell (p := ⟨b, o + k * 8 + 2, none⟩) hb).trans r2, (hx'.cell (p := ⟨b, o + k * 8 + 3, none⟩) hb).trans r3, (hx'.cell (p := ⟨b, o + k * 8 + 4, none⟩) hb).trans r4, (hx'.cell (p := ⟨b, o + k * 8 + 5, none⟩) hb).trans r5, (hx'.cell (p := ⟨b, o + k * 8 + 6, none⟩) hb).trans r6, (hx'.cell (p := ⟨b, o + k * 8 + 7, none⟩) hb).trans r7⟩
      clear r0 r1 r2 r3 r4 r5 r6 r7
      obtain ⟨h0, h1, h2, h3, h4, h5, h6, h7⟩ := HK.out wr hx
      have hk0 : (0 : Int) ≤ (k : Int) := by omega
      have hk1 : (k : Int) < (n : Int) := by omega
      cases hk1 : (x.k == 1)
      · cases hk3 : (x.k == 3)
        · have HD := Lib.hid (dec1_n hk1 hk3)
          go_wp2_with (at_builtin; refine appOp rfl _ _ rfl _ _ (decOps (xs.take k)) rfl hown hx x _ _ rfl rfl (by omega) ?_; intro v1 w1 hown1 hx1 hg1 hb1)
          go_roundw
          case rel => exact ⟨k + 1, by omega, by go_num, by rw [HS.out, HD.out, List.length_append]; exact hown1, hx1⟩
          case measure => simp [intOf]; omega
        · have HD := Lib.hid (dec1_3 hk1 hk3)
          go_wp2
          go_roundw
          case rel => exact ⟨k + 1, by omega, by go_num, by rw [HS.out, HD.out, List.append_nil]; exact hown, hx⟩
          case measure => simp [intOf]; omega
      · have HD := Lib.hid (dec1_1 hk1)
        have hgl := gops_len (dec x.g) x.cond
        have HL := Lib.hid hgl
        clear hgl
        go_wp2
        go_region_held3 (fun w' => w'.cell? ⟨b, o + k * 8, none⟩ = some (.int .i64 x.k) ∧ w'.cell? ⟨b, o + k * 8 + 1, none⟩ = some (.int .i64 x.g.k) ∧ w'.cell? ⟨b, o + k * 8 + 2, none⟩ = some (.int .i64 x.g.a) ∧ w'.cell? ⟨b, o + k * 8 + 3, none⟩ = some (.int .i64 x.g.b) ∧ w'.cell? ⟨b, o + k * 8 + 4, none⟩ = some (.int .i64 x.g.c) ∧ w'.cell? ⟨b, o + k * 8 + 5, none⟩ = some (.int .i64 x.q) ∧ w'.cell? ⟨b, o + k * 8 + 6, none⟩ = some (.int .i64 x.bit) ∧ w'.cell? ⟨b, o + k * 8 + 7, none⟩ = some (.int .i64 x.cond))
          (first | go_keep | exact HK.out _ (by assumption))
          (first
            | (go_at_call 28; refine (spec_DecomposeGate_any x.g _).mono ?_; rintro e w1 ⟨v1, rfl, ho1, hx1⟩; have hz1 : Ext w w1 := Ext.trans hx.drew hx1; have hy1 : Ext wr w1 := Ext.trans (Ext.refl wr).drew hx1; obtain ⟨A1, c1, rfl, hr1⟩ := own_slice ho1)
            | (go_at_call 27; refine (spec_GateOps_any A1 _ c1 (dec x.g) x.cond _ hr1 (by omega)).mono ?_; rintro e w2 ⟨v2, rfl, ho2, hx2⟩; have hz2 : Ext w w2 := Ext.trans hz1 hx2; obtain ⟨A2, c2, rfl, hr2⟩ := own_slice ho2)
            | (refine stepOpS (w0 := w) (by rfl) _ _ (by rfl) _ _ (decOps (xs.take k)) (by rfl) (own_ext (own_ext hown hy1) hx2) hz2 A2 _ c2 (gops (dec x.g) x.cond) (by rfl) hr2 (by rw [HL.out]; omega) ?_; intro v3 w3 ho3 hz3 hg3 hb3))
        go_wp2
        go_roundw
        case rel => exact ⟨k + 1, by omega, by go_num, by rw [HS.out, HD.out, List.length_append]; exact ho3, hz3⟩
        case measure => simp [intOf]; omega
    · rw [List.take_of_length_le (by rw [hlen.out]; omega)] at hown
      go_wp2
      go_ret
      exact ⟨_, rfl, hown, hx⟩

end Go.Proofs.YtngpkboocpaikabDoor
