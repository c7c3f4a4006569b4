/-
 Helper text (no claim of its own): the cursor of a draw. Only that each step returns, and in which range.
-/
import Derived.Test.YtdjckjfclhjpcaaGreatInt
namespace Go.Proofs.YtdjckjfclhjpcaaGreat
open Go.ChangeShapes Go.WideShapes Go.ChangeAt Go.RowKit Go.Deep
def u8c (x : Int) : List Value := [.int .u8 x]
abbrev u8cs (xs : List Int) : List Value := xs.flatMap u8c
theorem u8c_len (x : Int) : (u8c x).length = 1 := rfl
theorem byte_at {w : World} {B n i : Nat} {A : Option Addr} {xs : List Int} (h : Rd w B 1 A n (u8cs xs)) (hi : i < n) :
  ∃ b o x, A = some ⟨b, o, none⟩ ∧ b < B ∧ xs[i]? = some x ∧ w.cell? ⟨b, o + i, none⟩ = some (.int .u8 x) := by
 obtain ⟨b, o, x, e, hb, hx, hc⟩ := elem_at u8c_len (by omega) h hi
 exact ⟨b, o, x, e, hb, hx, by have := hc 0 _ rfl; rwa [Nat.mul_one, Nat.add_zero] at this⟩
set_option maxRecDepth 100000 in
theorem open_byte1 {H : Type} {enc : TypeId × Value → H} {w : World} {spare : Nat → Bool} {held : Bool} (n : Nat) (cs : List Value) (x : DataW H × List MemPlace) (h : DataW.trod enc Tryz.prog w 0 spare held n 5 cs = some x) :
  ∃ g : Int, cs = u8c g ∧ (0 ≤ g ∧ g ≤ 255) := by
 obtain ⟨k, h1, _, h2⟩ := DataW.trod_int Tryz.underlying5 h
 exact ⟨k, h1, wf_u8 h2⟩
theorem Tryz.cellsByte : Tryz.prog.cellsOf 5 = 1 := by kernel_rfl
set_option maxRecDepth 100000 in
theorem open_lbytes {H : Type} {enc : TypeId × Value → H} {w : World} {spare : Nat → Bool} {held : Bool} {base : Nat} {v : Value} {d : DataW H} {p : List MemPlace} (hv : Value.okWide Tryz.prog w .any base 22 v)
  (h : DataW.Trod enc Tryz.prog w 0 spare held 22 v d p) :
  ∃ (A : Option Addr) (n c : Nat) (bs : List Int), v = .slice A n c ∧ n ≤ c ∧ c ≤ maxLen ∧ Rd w w.heap.size 1 A n (u8cs bs) ∧ ∀ g ∈ bs, 0 ≤ g ∧ g ≤ 255 := by
 obtain ⟨a, len, cap, rfl⟩ := okWide_slice Tryz.underlying22 hv
 obtain ⟨n, hn⟩ := h
 obtain ⟨A, n, c, gs, e, r⟩ := open_row (Pg := fun g => 0 ≤ g ∧ g ≤ 255) u8c_len (by omega) Tryz.underlying22 Tryz.cellsByte open_byte1 hn
 simp [Value.cells] at e
 obtain ⟨rfl, rfl, rfl⟩ := e
 exact ⟨_, _, _, gs, rfl, r⟩

/-- The cursor in block g, over bytes that lie below it. -/
def Cur (w : World) (g : Nat) : Prop :=
 ∃ (A : Option Addr) (n c i : Nat) (h : Int) (bs : List Int), Blk w g 60 #[.slice A n c, .int .i64 i, .int .i64 h] ∧ i ≤ n ∧ n ≤ 1048576 ∧ Rd w g 1 A n (u8cs bs)
theorem Cur.lt {w : World} {g : Nat} (h : Cur w g) : g < w.heap.size := by
 obtain ⟨A, n, c, i, hh, bs, hB, _⟩ := h
 exact hB.lt
theorem Cur.ext {w w' : World} {g : Nat} (h : Cur w g) (hx : Ext w w') : Cur w' g := by
 have hl := h.lt
 obtain ⟨A, n, c, i, hh, bs, hB, h1, h2, h3⟩ := h
 exact ⟨A, n, c, i, hh, bs, hB.ext hx, h1, h2, h3.up hx (by omega)⟩
theorem Cur.grown {w w' : World} {g : Nat} {row : Option Nat} (h : Cur w g) (hg : w.grownBy w' row) (hr : ∀ k, row = some k → g < k) : Cur w' g := by
 have hl := h.lt
 obtain ⟨A, n, c, i, hh, bs, hB, h1, h2, h3⟩ := h
 exact ⟨A, n, c, i, hh, bs, hB.grown hg (fun k hk => by have := hr k hk; omega), h1, h2, h3.grown hg (by omega) (fun k hk => by have := hr k hk; omega)⟩
theorem Ext.gr {w w' : World} (h : Ext w w') (row : Option Nat) : w.grownBy w' row := ⟨h.os, h.tape, h.output, h.size, fun k hk _ => h.block k hk⟩
theorem gr_setCell {w w' : World} {g : Nat} (h : w.grownBy w' (some g)) (i : Nat) (u : Value) : w.grownBy (w'.setCell ⟨g, i, none⟩ u) (some g) :=
 ⟨h.os, h.tape, h.output, by simpa [World.setCell] using h.size, fun k hk hne => (Below.heap_setCell w' ⟨g, i, none⟩ u k (fun e => hne (by rw [e]))).trans (h.block k hk hne)⟩
theorem gr_drewN {w w' : World} {row : Option Nat} (h : w.grownBy w' row) (n : Nat) : w.grownBy (w'.drewN n) row := ⟨h.os, h.tape, h.output, h.size, h.block⟩
theorem Rd.ext' {w : World} {B size n : Nat} {A : Option Addr} {xs : List Value} (h : Rd w B size A n xs) (w' : World) (hx : Ext w w') (hB : B ≤ w.heap.size) : Rd w' B size A n xs := h.up hx hB
theorem and255 (x : Int) : 0 ≤ bits .and .i64 x 255 ∧ bits .and .i64 x 255 ≤ 255 := by
 have e : bits .and .i64 x 255 = IntKind.i64.wrap ((BitVec.ofInt 64 x &&& BitVec.ofInt 64 255).toNat : Int) := rfl
 have h1 : (BitVec.ofInt 64 x &&& BitVec.ofInt 64 255).toNat ≤ 255 := by
  rw [BitVec.toNat_and]
  exact Nat.le_trans Nat.and_le_right (by decide)
 rw [e]
 generalize (BitVec.ofInt 64 x &&& BitVec.ofInt 64 255).toNat = m at h1
 have : IntKind.i64.wrap (m : Int) = m := by rw [IntKind.wrap_i64]; omega
 omega

set_option maxRecDepth 100000 in
set_option maxHeartbeats 1000000 in
theorem l1New_any (A : Option Addr) (n c : Nat) (bs : List Int) (w : World) (h : Rd w w.heap.size 1 A n (u8cs bs)) (hn : n ≤ 1048576) :
  Calls Tryz.prog 12 #[.slice A n c] w fun e w' => e = .returned (.pointer (some ⟨w.heap.size, 0, none⟩)) ∧ Cur w' w.heap.size ∧ Ext w w' := by
 go_enter Tryz.func12, Tryz.ntmps12
 go_wp2
 go_loop [3, 4] (fun h i => ∃ (k : Nat) (hv : Int), k ≤ n ∧ i = .int .i64 k ∧ h = .int .i64 hv) (fun _ i => n - (intOf i).toNat)
 case atStart => exact ⟨0, _, Nat.zero_le _, rfl, rfl⟩
 case round =>
  obtain ⟨k, hv, hk, rfl, rfl⟩ := hrel
  by_cases hlt : k < n
  ·by_cases h4 : k < 4000
   ·obtain ⟨b, o, x, rfl, hb, hx, h0⟩ := byte_at h hlt
    clear hx
    go_wp2
    go_round
    case rel => exact ⟨k + 1, _, by omega, by go_num, rfl⟩
    case measure => simp [intOf]; omega
   ·go_wp2
    go_ret
    exact ⟨rfl, ⟨A, n, c, 0, _, bs, Blk.new _ _ _, Nat.zero_le _, hn, h.up ((Ext.refl w).alloc _) (Nat.le_refl _)⟩, xx⟩
  ·go_wp2
   go_ret
   exact ⟨rfl, ⟨A, n, c, 0, _, bs, Blk.new _ _ _, Nat.zero_le _, hn, h.up ((Ext.refl w).alloc _) (Nat.le_refl _)⟩, xx⟩

set_option maxRecDepth 100000 in
set_option maxHeartbeats 1000000 in
theorem l1Byte_any (g : Nat) (w : World) (h : Cur w g) :
  Calls Tryz.prog 45 #[.pointer (some ⟨g, 0, none⟩)] w fun e w' => ∃ x : Int, e = .returned (.int .i64 x) ∧ (0 ≤ x ∧ x ≤ 255) ∧ Cur w' g ∧ w.grownBy w' (some g) := by
 obtain ⟨A, n, c, i, hh, bs, hB, hi, hn, hr⟩ := h
 have b2 : w.cell? ⟨g, 2, none⟩ = some (.int .i64 hh) := hB.cell 2
 have f2 : w.frozen? ⟨g, 2, none⟩ = false := hB.frozen 2
 go_enter Tryz.func45, Tryz.ntmps45
 go_wp2
 generalize wrap64 (wrap64 (hh * 6364136223846793005) + 1442695040888963407) = h2
 have hg2 := gr_setCell (World.grownBy.refl w (some g)) 2 (.int .i64 h2)
 have hr2 := hr.grown hg2 (by have := hB.lt; omega) (fun k hk => by injection hk; omega)
 have hB2 : Blk (w.setCell ⟨g, 2, none⟩ (.int .i64 h2)) g 60 #[.slice A n c, .int .i64 i, .int .i64 h2] := hB.set_ 2 (.int .i64 h2)
 clear b2 f2 hB hr
 generalize w.setCell ⟨g, 2, none⟩ (.int .i64 h2) = W at *
 have b0 : W.cell? ⟨g, 0, none⟩ = some (.slice A n c) := hB2.cell 0
 have b1 : W.cell? ⟨g, 1, none⟩ = some (.int .i64 i) := hB2.cell 1
 have b2 : W.cell? ⟨g, 2, none⟩ = some (.int .i64 h2) := hB2.cell 2
 have f1 : W.frozen? ⟨g, 1, none⟩ = false := hB2.frozen 1
 by_cases hlt : i < n
 ·obtain ⟨b, o, x, rfl, hb, hx, h0⟩ := byte_at hr2 hlt
  clear hx
  have hd : decide ((i : Int) < (n : Int)) = true := by simp; omega
  have hd2 : decide (i < n) = true := by simp; omega
  go_quiet (fail)
  go_wp2
  go_quiet (fail)
  go_wp2
  go_quiet (fail)
  go_wp2
  go_ret
  refine ⟨_, rfl, and255 _, ⟨_, n, c, i + 1, h2, bs, Blk.set_ (w := W.drewN _) hB2 1 _, by omega, hn, ?_⟩, gr_setCell (gr_drewN hg2 _) _ _⟩
  exact (hr2.ext' _ (show Ext W _ by exact xx) (Nat.le_of_lt hB2.lt)).grown (gr_setCell (World.grownBy.refl _ (some g)) 1 _) (Nat.le_of_lt hB2.lt) (fun k hk => by injection hk; omega)
 ·have hd : decide ((i : Int) < (n : Int)) = false := by simp; omega
  have hd2 : decide (i < n) = false := by simp; omega
  go_quiet (fail)
  go_wp2
  go_quiet (fail)
  go_wp2
  go_ret
  exact ⟨_, rfl, and255 _, ⟨A, n, c, i, h2, bs, hB2, hi, hn, hr2.up (show Ext W _ by exact xx) (Nat.le_of_lt hB2.lt)⟩, by first | exact gr_drewN hg2 _ | exact gr_drewN (gr_drewN hg2 _) _⟩

set_option maxRecDepth 100000 in
set_option maxHeartbeats 1000000 in
theorem l1Below_any (g : Nat) (n : Int) (w : World) (h : Cur w g) (hn : -9223372036854775808 ≤ n ∧ n ≤ 256) :
  Calls Tryz.prog 32 #[.pointer (some ⟨g, 0, none⟩), .int .i64 n] w fun e w' => ∃ x : Int, e = .returned (.int .i64 x) ∧ (0 ≤ x ∧ (0 < n → x < n) ∧ (n ≤ 0 → x = 0)) ∧ Cur w' g ∧ w.grownBy w' (some g) := by
 obtain ⟨hI1, hI2⟩ := hn
 go_enter Tryz.func32, Tryz.ntmps32
 by_cases h0 : n ≤ 0
 ·go_wp2
  go_ret
  exact ⟨0, rfl, ⟨by omega, fun _ => by omega, fun _ => rfl⟩, h, World.grownBy.refl _ _⟩
 have h0' : 0 < n := by omega
 have hz : ¬ n = 0 := by omega
 have hm1 : ¬ n = -1 := by omega
 go_wp2_with fail
 refine (l1Byte_any g _ h).mono ?_
 rintro e w1 ⟨x, rfl, hx, hc1, hg1⟩
 obtain ⟨hx0, hx1⟩ := hx
 go_wp2
 go_ret
 refine ⟨_, rfl, ?_, hc1, hg1⟩
 exact ⟨Int.emod_nonneg _ hz, fun _ => Int.emod_lt_of_pos _ h0', fun h => absurd h (by omega)⟩

set_option maxRecDepth 100000 in
set_option maxHeartbeats 1000000 in
theorem l1Once_any (g : Nat) (n : Int) (w : World) (h : Cur w g) (hn : -9223372036854775808 ≤ n ∧ n ≤ 256) :
  Calls Tryz.prog 19 #[.pointer (some ⟨g, 0, none⟩), .int .i64 n] w fun e w' => ∃ b : Bool, e = .returned (.bool b) ∧ Cur w' g ∧ w.grownBy w' (some g) := by
 go_enter Tryz.func19, Tryz.ntmps19
 go_wp2_with fail
 refine (l1Below_any g n _ h hn).mono ?_
 rintro e w1 ⟨x, rfl, hx, hc1, hg1⟩
 go_wp2
 go_ret
 exact ⟨_, rfl, hc1, hg1⟩

set_option maxRecDepth 100000 in
set_option maxHeartbeats 1000000 in
theorem l1PickInt_any (g : Nat) (A : Option Addr) (n c : Nat) (xs : List Int) (w : World) (h : Cur w g) (hr : Rd w w.heap.size 1 A n (icells xs)) (hA : ∀ b o, A = some ⟨b, o, none⟩ → g < b) (hn : 0 < n ∧ n ≤ 256) :
  Calls Tryz.prog 39 #[.pointer (some ⟨g, 0, none⟩), .slice A n c] w fun e w' => ∃ x : Int, e = .returned (.int .i64 x) ∧ x ∈ xs ∧ Cur w' g ∧ w.grownBy w' (some g) := by
 obtain ⟨hn0, hn1⟩ := hn
 go_enter Tryz.func39, Tryz.ntmps39
 go_wp2_with fail
 refine (l1Below_any g n _ h (by omega)).mono ?_
 rintro e w1 ⟨x, rfl, ⟨hx0, hx1, _⟩, hc1, hg1⟩
 obtain ⟨j, rfl⟩ := Int.eq_ofNat_of_zero_le hx0
 have hj : j < n := by have := hx1 (by omega); omega
 clear hx1
 have hr1 : Rd w1 w1.heap.size 1 A n (icells xs) := by
  refine ⟨hr.1, fun h0 => ?_⟩
  obtain ⟨b, o, e, hb, hc⟩ := hr.2 h0
  have hgb := hA b o e
  exact ⟨b, o, e, Nat.lt_of_lt_of_le hb hg1.size, fun q u hu => (World.cell?_of_block (hg1.block b hb (fun e => by injection e; omega))).trans (hc q u hu)⟩
 obtain ⟨b, o, y, rfl, hb, hy, r0⟩ := int_at hr1 hj
 have HY := Lib.hid (List.mem_of_getElem? hy)
 clear hy
 go_wp2
 go_ret
 exact ⟨y, rfl, HY.out, hc1, hg1⟩
end Go.Proofs.YtdjckjfclhjpcaaGreat
