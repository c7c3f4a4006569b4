/-
  Helper text (no claim of its own): the draw for the ends of paths, and the laws' own small helpers.
-/
import Derived.Test.YtnnenocjmkbocaaDrawH
namespace Go.Proofs.Ytnnenocjmkbocaa
open Go.ChangeShapes Go.WideShapes Go.ChangeAt Go.RowKit Go.Deep
theorem big_any (A : Option Addr) (n c : Nat) (w : World) (hn : n ≤ maxLen) :
    Calls Try.prog 40 #[.slice A n c] w fun e w' => e = .returned (.bool (decide (1048576 < n))) ∧ w = w' := by
  unfold maxLen at hn
  go_enter Try.func40, Try.ntmps40
  go_wp2
  go_ret
  exact ⟨ret_bool (by first | rfl | (rw [decide_eq_decide]; omega)), rfl⟩
set_option maxRecDepth 100000 in
theorem at0_any (A : Option Addr) (n c i : Nat) (bs : List Int) (w : World) (h : Rd w w.heap.size 1 A n (u8cs bs)) (hb : ∀ g ∈ bs, 0 ≤ g ∧ g ≤ 255) (hn : n ≤ 1048576) (hi : i ≤ 1000) :
    Calls Try.prog 52 #[.slice A n c, .int .i64 i] w fun e w' => ∃ x : Nat, e = .returned (.int .i64 x) ∧ x ≤ 255 ∧ w = w' := by
  by_cases hlt : i < n
  · obtain ⟨b, o, x, rfl, hb', hx, h0⟩ := byte_at h hlt
    obtain ⟨h1, h2⟩ := hb x (List.mem_of_getElem? hx)
    obtain ⟨y, rfl⟩ := Int.eq_ofNat_of_zero_le h1
    clear hx
    go_enter Try.func52, Try.ntmps52
    go_wp2
    go_ret
    exact ⟨y, rfl, by omega, rfl⟩
  · go_enter Try.func52, Try.ntmps52
    go_wp2
    go_ret
    exact ⟨(i * 7 + n) % 256, ret_int (by omega), by omega, rfl⟩
/-- What DrawPathEnd hands back. -/
def DrewPath (w : World) (e : Ending) (w' : World) : Prop :=
  ∃ (A : Option Addr) (len cap : Nat) (gs : List Gt) (N i ch : Int), e = .returned (.tuple #[.slice A len cap, .int .i64 N, .int .i64 i, .int .i64 ch]) ∧ len ≤ 71 ∧ len ≤ cap ∧ cap ≤ maxLen ∧ Rd w' w'.heap.size 4 A len (gcells gs) ∧ I64 N ∧ I64 i ∧ I64 ch ∧ Ext w w'
theorem DrewPath.mk {w w' : World} {A : Option Addr} {len cap : Nat} {gs : List Gt} {N i ch : Int} (h : len ≤ 71 ∧ len ≤ cap ∧ cap ≤ maxLen ∧ Rd w' w'.heap.size 4 A len (gcells gs) ∧ I64 N ∧ I64 i ∧ I64 ch ∧ Ext w w') : DrewPath w (.returned (.tuple #[.slice A len cap, .int .i64 N, .int .i64 i, .int .i64 ch])) w' :=
  ⟨A, len, cap, gs, N, i, ch, rfl, h⟩
theorem own_cap {w : World} {B e size n c : Nat} {A : Option Addr} {xs : List Value} (h : w.ownsRow B e size (.slice A n c) n xs) : n ≤ c ∧ c ≤ maxLen := by
  rcases h.2 with ⟨h0, rfl⟩ | ⟨g, cap, cur, hv, _, _, hnc, hmx, _⟩
  · injection h0 with _ _ h3
    subst h3
    exact ⟨Nat.le_refl _, by unfold maxLen; omega⟩
  · injection hv with _ _ h3
    subst h3
    exact ⟨hnc, hmx⟩
/-- A drawn circuit whose header lies in block s, beside the cursor g. -/
def DP (w0 w : World) (g s : Nat) (N : Int) (A : Option Addr) (len cap : Nat) (gs : List Gt) : Prop :=
  Blk w s 128 #[.int .i64 N, .slice A len cap] ∧ w.ownsRow (g + 1) 61 4 (.slice A len cap) len (gcells gs) ∧ Cur w g ∧ Ext w0 w
section
variable {w0 w w' : World} {g s : Nat} {N : Int} {A : Option Addr} {len cap : Nat} {gs : List Gt}
theorem DP.drew (h : DP w0 w g s N A len cap gs) : DP w0 w.drew g s N A len cap gs := by
  obtain ⟨h1, h2, h3, h4⟩ := h
  exact ⟨h1, own_ext h2 (Ext.refl w).drew, h3.ext (Ext.refl w).drew, h4.drew⟩
theorem DP.alloc (h : DP w0 w g s N A len cap gs) (o : Obj) : DP w0 (w.alloc o) g s N A len cap gs := by
  obtain ⟨h1, h2, h3, h4⟩ := h
  exact ⟨h1.alloc o, own_ext h2 ((Ext.refl w).alloc o), h3.alloc o, h4.alloc o⟩
theorem DP.grown (h : DP w0 w g s N A len cap gs) (hg : w.grownBy w' (some g)) (hC : Cur w' g) (hs : g < s) (hw : w0.heap.size ≤ g) : DP w0 w' g s N A len cap gs := by
  obtain ⟨h1, h2, h3, h4⟩ := h
  exact ⟨h1.grown hg (fun k hk => by injection hk; omega), own_kept h2 hg (fun k hk => by injection hk; omega), hC, h4.grown hg (fun k hk => by injection hk; omega)⟩
end
/-- A literal that was laid ahead of a draw. -/
theorem rd_held {g : Nat} {w' : World} (W : World) (cs : Array Value) (e n size : Nat) (news : List Value) (hc : cs.toList = news) (hl : news.length = n * size) (hg : (W.alloc (.cells cs e)).drew.grownBy w' (some g)) (hgW : g < W.heap.size) : Rd w' w'.heap.size size (some ⟨W.heap.size, 0, none⟩) n news := by
  have h0 := rd_newN W cs W.heap.size e n size news rfl hc hl
  have hz := hg.size
  refine ⟨h0.1, fun hn => ?_⟩
  obtain ⟨b, o, e1, hb, hcell⟩ := h0.2 hn
  injection e1 with e1
  injection e1 with e1 e2
  subst e1 e2
  have hlt : W.heap.size < (W.alloc (.cells cs e)).drew.heap.size := by simp
  exact ⟨W.heap.size, 0, rfl, Nat.lt_of_lt_of_le hlt hz, fun q u hu => (World.cell?_of_block (hg.block W.heap.size hlt (fun e => by injection e; omega))).trans (hcell q u hu)⟩
set_option maxRecDepth 100000 in
set_option maxHeartbeats 2000000 in
theorem DrawPathEnd_any (A : Option Addr) (n c : Nat) (bs : List Int) (w : World) (h : Rd w w.heap.size 1 A n (u8cs bs)) (hn : n ≤ 1048576) :
    Calls Try.prog 49 #[.slice A n c] w (DrewPath w) := by
  go_enter Try.func49, Try.ntmps49
  go_wp2_with fail
  refine (l1New_any A n c bs _ h hn).mono ?_
  rintro e w1 ⟨rfl, hC1, hx1⟩
  obtain ⟨g, hg⟩ : ∃ g, g = w.heap.size := ⟨_, rfl⟩
  rw [← hg] at hC1 ⊢
  have hgw : w.heap.size ≤ g := by omega
  clear hg
  go_wp2_with fail
  refine (l11Bent_any g 10 (by omega) _ hC1).mono ?_
  rintro e w2 ⟨N, A2, len, cap, gs, rfl, hN, hlen, ho2, hC2, hG2⟩
  have hx2 : Ext w w2 := hx1.grown hG2 (fun k hk => by injection hk; omega)
  have hl2 := hC2.lt
  have hB3 := Blk.new w2 128 #[.int .i64 N, .slice A2 len cap]
  have hC3 := hC2.alloc (.cells #[.int .i64 N, .slice A2 len cap] 128)
  have ho3 := own_ext ho2 ((Ext.refl w2).alloc (.cells #[.int .i64 N, .slice A2 len cap] 128))
  have hx3 := hx2.alloc (.cells #[.int .i64 N, .slice A2 len cap] 128)
  have hg1 : g < w1.heap.size := hC1.lt
  clear hG2 hC2 ho2 hx2 hC1
  go_wp2
  generalize w2.alloc (.cells #[.int .i64 N, .slice A2 len cap] 128) = W at *
  generalize w2.heap.size = s at *
  have hs3 := hB3.lt
  have HK : Hid (∀ w', Blk w' s 128 #[.int .i64 N, .slice A2 len cap] → w'.cell? ⟨s, 0, none⟩ = some (.int .i64 N) ∧ w'.cell? ⟨s, 1, none⟩ = some (.slice A2 len cap)) := fun w' g0 => ⟨g0.cell 0, g0.cell 1⟩
  have p0 : W.cell? ⟨s, 0, none⟩ = some (.int .i64 N) := hB3.cell 0
  have p1 : W.cell? ⟨s, 1, none⟩ = some (.slice A2 len cap) := hB3.cell 1
  have hgs : g < s := hl2
  have hC3d : Cur W.drew g := hC3.ext (Ext.refl W).drew
  have hC3a : Cur (W.alloc (.cells #[.int .i64 0, .int .i64 1, .int .i64 5, .int .i64 7, .int .i64 63, .int .i64 (-1), .int .i64 9223372036854775807] 3)).drew g := (hC3.alloc _).ext (Ext.refl _).drew
  have HD : Hid (DP w W g s N A2 len cap gs) := Lib.hid ⟨hB3, own_base ho3 (by omega), hC3, hx3⟩
  have hB1 := hx1.size
  clear hx1
  go_region_held3 (fun w' => w'.cell? ⟨s, 0, none⟩ = some (.int .i64 N) ∧ w'.cell? ⟨s, 1, none⟩ = some (.slice A2 len cap))
    (first | go_keep | exact HK.out _ (by assumption))
    (first
      | (go_at_call 111; (with_reducible refine (l1Below_any g 8 _ hC3d (by omega)).mono ?_); rintro e w4 ⟨i, rfl, ⟨hi0, hi1, _⟩, hC4, hG4⟩; have hi2 : i < 8 := hi1 (by omega); clear hi1; have H4 := Lib.hid (HD.out.drew.grown hG4 hC4 hgs hgw); clear p0 p1; have hBw4 := H4.out.1; have hs4 := hBw4.lt; have hC4a : Cur (w4.alloc (.cells #[.int .i64 0, .int .i64 1, .int .i64 5, .int .i64 7, .int .i64 63, .int .i64 (-1), .int .i64 9223372036854775807] 3)) g := hC4.alloc _; have hL4 : Rd (w4.alloc (.cells #[.int .i64 0, .int .i64 1, .int .i64 5, .int .i64 7, .int .i64 63, .int .i64 (-1), .int .i64 9223372036854775807] 3)) (w4.alloc (.cells #[.int .i64 0, .int .i64 1, .int .i64 5, .int .i64 7, .int .i64 63, .int .i64 (-1), .int .i64 9223372036854775807] 3)).heap.size 1 (some ⟨w4.heap.size, 0, none⟩) 7 (icells [0, 1, 5, 7, 63, -1, 9223372036854775807]) := rd_newN w4 _ _ _ 7 1 _ rfl rfl rfl; have p0 : w4.cell? ⟨s, 0, none⟩ = some (.int .i64 N) := hBw4.cell 0; have p1 : w4.cell? ⟨s, 1, none⟩ = some (.slice A2 len cap) := hBw4.cell 1)
      | (go_at_call 111; (with_reducible refine (l1Below_any g 8 _ hC3a (by omega)).mono ?_); rintro e w4 ⟨i, rfl, ⟨hi0, hi1, _⟩, hC4, hG4⟩; have hi2 : i < 8 := hi1 (by omega); clear hi1; have H4 := Lib.hid ((HD.out.alloc _).drew.grown hG4 hC4 hgs hgw); clear p0 p1; have hBw4 := H4.out.1; have hs4 := hBw4.lt; have hL4 : Rd w4 w4.heap.size 1 (some ⟨W.heap.size, 0, none⟩) 7 (icells [0, 1, 5, 7, 63, -1, 9223372036854775807]) := rd_held W _ _ 7 1 _ rfl rfl hG4 (by omega); have p0 : w4.cell? ⟨s, 0, none⟩ = some (.int .i64 N) := hBw4.cell 0; have p1 : w4.cell? ⟨s, 1, none⟩ = some (.slice A2 len cap) := hBw4.cell 1)
      | (go_at_call 104; (with_reducible refine (l1PickInt_any g _ 7 _ [0, 1, 5, 7, 63, -1, 9223372036854775807] _ hC4a hL4 (by intro b o e; injection e with e; injection e with e1; omega) (by omega)).mono ?_); rintro e w5 ⟨ch, rfl, hch, hC5, hG5⟩; have H5 := Lib.hid ((H4.out.alloc _).grown hG5 hC5 hgs hgw); clear p0 p1; have hBw5 := H5.out.1; have p0 : w5.cell? ⟨s, 0, none⟩ = some (.int .i64 N) := hBw5.cell 0; have p1 : w5.cell? ⟨s, 1, none⟩ = some (.slice A2 len cap) := hBw5.cell 1)
      | (go_at_call 104; (with_reducible refine (l1PickInt_any g _ 7 _ [0, 1, 5, 7, 63, -1, 9223372036854775807] _ hC4 hL4 (by intro b o e; injection e with e; injection e with e1; omega) (by omega)).mono ?_); rintro e w5 ⟨ch, rfl, hch, hC5, hG5⟩; have H5 := Lib.hid (H4.out.grown hG5 hC5 hgs hgw); clear p0 p1; have hBw5 := H5.out.1; have p0 : w5.cell? ⟨s, 0, none⟩ = some (.int .i64 N) := hBw5.cell 0; have p1 : w5.cell? ⟨s, 1, none⟩ = some (.slice A2 len cap) := hBw5.cell 1))
  all_goals
    have hcap := own_cap H5.out.2.1
    have hrd := Rd.own H5.out.2.1
    have hchI : I64 ch := by unfold I64; simp at hch; omega
    clear hch
    go_wp2
    exact bodyPost_ret (v := .tuple #[.slice A2 len cap, .int .i64 N, .int .i64 i, .int .i64 ch]) (by simp [results, Try.results49, go_sem]) rfl (DrewPath.mk ⟨by omega, hcap.1, hcap.2, hrd, by unfold I64; omega, by unfold I64; omega, hchI, H5.out.2.2.2⟩)
end Go.Proofs.Ytnnenocjmkbocaa
