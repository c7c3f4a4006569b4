/-
 Helper text (no claim of its own): what is asked of statements before they are elaborated; only that it returns.
-/
import Derived.Test.YtdjckjfclhjpcaaGreatStm
namespace Go.Proofs.YtdjckjfclhjpcaaGreat
open Go.ChangeShapes Go.WideShapes Go.ChangeAt Go.RowKit Go.Deep
set_option linter.unusedVariables false
set_option linter.unusedSimpArgs false
theorem cells5s {w : World} {g : Nat} {x : Sc} (h : Blk w g 69 #[.int .i64 x.k, .string x.wd, .slice x.A x.n x.c, .int .i64 x.cnt, .slice x.B x.m x.e]) :
  w.cell? ⟨g, 0, none⟩ = some (.int .i64 x.k) ∧ w.cell? ⟨g, 1, none⟩ = some (.string x.wd) ∧ w.cell? ⟨g, 2, none⟩ = some (.slice x.A x.n x.c) ∧ w.cell? ⟨g, 3, none⟩ = some (.int .i64 x.cnt) ∧ w.cell? ⟨g, 4, none⟩ = some (.slice x.B x.m x.e) :=
 ⟨h.cell 0, h.cell 1, h.cell 2, h.cell 3, h.cell 4⟩
set_option maxRecDepth 100000 in
theorem l17Args_any (x : Sc) (w : World) : Calls Tryz.prog 70 #[x.val] w fun e w' => (∃ n b, e = .returned (.tuple #[.int .i64 n, .bool b])) ∧ Ext w w' := by
 go_enter Tryz.func70, Tryz.ntmps70
 go_wp2_with first
  | (go_at_call 91; refine (spec_GateKind_any _ _).mono ?_; rintro e w1 ⟨⟨k, rfl, _⟩, hx1⟩)
  | (go_at_call 50; refine (spec_Arity_any _ _).mono ?_; rintro e w2 ⟨rfl, rfl⟩)
 all_goals
  go_ret2
  exact ⟨⟨_, _, rfl⟩, by first | exact Ext.trans ((Ext.refl w).alloc _) hx1 | exact xx⟩
def RI (e : Ending) : Prop := ∃ r : Int, e = .returned (.int .i64 r)
/-- The sets of blocks are old. -/
def Old (w : World) (K : Nat → Prop) : Prop := ∀ b, K b → b < w.heap.size
theorem Old.ext {w w' : World} {K : Nat → Prop} (h : Old w K) (hx : Ext w w') : Old w' K := fun b hb => Nat.lt_of_lt_of_le (h b hb) hx.size
theorem Ss.ext {d : Nat} {w w' : World} {K : Nat → Prop} {A : Option Addr} {m : Nat} (h : Ss d w K A m) (hK : Old w K) (hx : Ext w w') : Ss d w' K A m := h.keep (fun b hb => hx.block b (hK b hb)) fun _ h => h
theorem Nm.ext {w w' : World} {K : Nat → Prop} {A : Option Addr} {n : Nat} (h : Nm w K A n) (hK : Old w K) (hx : Ext w w') : Nm w' K A n := h.keep (fun b hb => hx.block b (hK b hb)) fun _ h => h
theorem Sv.ext {d : Nat} {w w' : World} {K : Nat → Prop} {x : Sc} (h : Sv d w K x) (hK : Old w K) (hx : Ext w w') : Sv d w' K x := Sv.keep (fun b hb => hx.block b (hK b hb)) (fun _ h => h) h
/-- What a walk over a statement needs of it. -/
theorem Sv.parts {d : Nat} {w : World} {K : Nat → Prop} {x : Sc} (h : Sv (d + 1) w K x) (hK : Old w K) : (need x.k ≤ x.n ∧ x.n ≤ 4 ∧ x.n ≤ x.c ∧ x.m ≤ 10 ∧ x.wd.size ≤ 1000) ∧ (∃ xs : List ByteArray, (∀ y ∈ xs, y.size ≤ 1000) ∧ Rd w w.heap.size 1 x.A x.n (tcells xs)) := by
 obtain ⟨h1, h2, h2', h3, h4, ⟨xs, h5, h6⟩, _⟩ := h
 exact ⟨⟨h1, h2, h2', h3, h4⟩, xs, h5, h6.rd hK⟩
set_option maxRecDepth 100000 in
set_option maxHeartbeats 2000000 in
theorem l17All_of {d : Nat} (hd : ∀ (x : Sc) (K : Nat → Prop) (w : World), Sv d w K x → Old w K → Calls Tryz.prog 69 #[x.val] w fun e w' => RB e ∧ Ext w w')
  (A : Option Addr) (n c : Nat) (K : Nat → Prop) (w : World) (h : Ss d w K A n) (hK : Old w K) : Calls Tryz.prog 57 #[.slice A n c] w fun e w' => RB e ∧ Ext w w' := by
 have hn := h.1
 have HD := Lib.hid hd
 clear hd
 go_enter Tryz.func57, Tryz.ntmps57
 go_wp2
 go_loopw [3] (fun i wr => ∃ k : Nat, k ≤ n ∧ i = .int .i64 k ∧ Ext w wr) (fun i _ => n - (intOf i).toNat)
 case atStart => exact ⟨0, Nat.zero_le _, rfl, xx⟩
 case round =>
  obtain ⟨k, hk, rfl, hx⟩ := hrel
  by_cases hlt : k < n
  ·obtain ⟨ys, h1, h2⟩ := (h.ext hK hx).2
   obtain ⟨b, o, x, rfl, hb, hg, r0, r1, r2, r3, r4⟩ := sc_at (h1.rd (hK.ext hx)) hlt
   have HV : Hid (Sv d wr K x ∧ Old wr K) := ⟨h2 x (List.mem_of_getElem? hg), hK.ext hx⟩
   clear hg h1 h2
   go_wp2_with fail
   refine (HD.out x K _ HV.out.1 HV.out.2).mono ?_
   rintro e w1 ⟨⟨b1, rfl⟩, hx1⟩
   cases b1
   ·go_wp2
    go_ret
    exact ⟨⟨_, rfl⟩, hx.trans hx1⟩
   ·go_wp2
    go_roundw
    case rel => exact ⟨k + 1, by omega, by go_num, hx.trans hx1⟩
    case measure => simp [intOf]; omega
  ·go_wp2
   go_ret
   exact ⟨⟨_, rfl⟩, hx⟩
set_option maxRecDepth 100000 in
set_option maxHeartbeats 4000000 in
theorem IsValidStmt_any : ∀ (d : Nat) (x : Sc) (K : Nat → Prop) (w : World), Sv d w K x → Old w K → Calls Tryz.prog 69 #[x.val] w fun e w' => RB e ∧ Ext w w'
 | 0, _, _, _, h, _ => h.elim
 | d + 1, x, K, w, h, hK => by
  have HALL : Hid (∀ w', Ext w w' → Calls Tryz.prog 57 #[.slice x.B x.m x.e] w' fun e w'' => RB e ∧ Ext w' w'') := fun w' hx => l17All_of (fun y K w h1 h2 => IsValidStmt_any d y K w h1 h2) x.B x.m x.e K w' (h.body.ext hK hx) (hK.ext hx)
  obtain ⟨⟨p1, p2, p2', p3, p4⟩, xs, q1, q2⟩ := h.parts hK
  have HW : Hid (∀ w', Ext w w' → Calls Tryz.prog 56 #[.slice x.A x.n x.c] w' fun e w'' => RB e ∧ w' = w'') := fun w' hx => l17Words_any x.A x.n x.c xs w' (q2.ext hx) (by omega) (fun y hy => by have := q1 y hy; omega)
  clear q1 q2 h hK
  go_enter Tryz.func69, Tryz.ntmps69
  go_wp2_with fail
  refine (l17Args_any x _).mono ?_
  rintro e w1 ⟨⟨n, b, rfl⟩, hx1⟩
  have HX : Hid (Ext w w1) := Ext.trans xx hx1
  obtain ⟨y0, y1, y2, y3, y4⟩ := cells5s (x := x) ((Blk.new w 69 _).ext hx1)
  clear hx1
  generalize w.heap.size = s at *
  go_wp2_with first
   | (go_at_call 40; refine (l1In_rb _ _ _ _).mono ?_; rintro e w2 ⟨⟨b1, rfl⟩, rfl⟩; cases b1)
   | (go_at_call 56; refine (HW.out _ HX.out).mono ?_; rintro e w2 ⟨⟨b1, rfl⟩, rfl⟩; cases b1)
   | (go_at_call 57; refine (HALL.out _ HX.out).mono ?_; rintro e w2 ⟨⟨b1, rfl⟩, hx2⟩)
  all_goals
   go_ret
   exact ⟨⟨_, rfl⟩, by first | exact HX.out | exact HX.out.trans hx2⟩
set_option maxRecDepth 100000 in
set_option maxHeartbeats 4000000 in
theorem NestingDepth_any : ∀ (d : Nat) (A : Option Addr) (n c : Nat) (K : Nat → Prop) (w : World), Ss d w K A n → Old w K → Calls Tryz.prog 58 #[.slice A n c] w fun e w' => RI e ∧ Ext w w'
 | d, A, n, c, K, w, h, hK => by
  have hn := h.1
  have IH : Hid (∀ (d' : Nat), d = d' + 1 → ∀ (x : Sc) (w' : World), Sv d w' K x → Old w' K → Calls Tryz.prog 58 #[.slice x.B x.m x.e] w' fun e w'' => RI e ∧ Ext w' w'') := fun d' hd x w' hx hk => by
   subst hd
   exact NestingDepth_any d' x.B x.m x.e K w' hx.body hk
  go_enter Tryz.func58, Tryz.ntmps58
  go_wp2
  go_loopw [3, 4] (fun r i wr => ∃ (k : Nat) (y : Int), k ≤ n ∧ i = .int .i64 k ∧ r = .int .i64 y ∧ Ext w wr) (fun _ i _ => n - (intOf i).toNat)
  case atStart => exact ⟨0, 0, Nat.zero_le _, rfl, rfl, xx⟩
  case round =>
   obtain ⟨k, y, hk, rfl, rfl, hx⟩ := hrel
   by_cases hlt : k < n
   ·obtain ⟨zs, h1, h2⟩ := (h.ext hK hx).2
    obtain ⟨b, o, x, rfl, hb, hg, r0, r1, r2, r3, r4⟩ := sc_at (h1.rd (hK.ext hx)) hlt
    have HV : Hid (Sv d wr K x ∧ Old wr K) := ⟨h2 x (List.mem_of_getElem? hg), hK.ext hx⟩
    clear hg h1 h2
    go_wp2_with fail
    refine (l17Args_any x _).mono ?_
    rintro e w1 ⟨⟨na, ba, rfl⟩, hx1⟩
    have r4' := (hx1.cell (p := ⟨b, o + k * 5 + 4, none⟩) hb).trans r4
    cases ba
    ·go_wp2
     go_roundw
     case rel => exact ⟨k + 1, _, by omega, by go_num, rfl, hx.trans hx1⟩
     case measure => simp [intOf]; omega
    ·obtain ⟨d', hd⟩ : ∃ d', d = d' + 1 := by
      cases d with
      | zero => exact HV.out.1.elim
      | succ d' => exact ⟨d', rfl⟩
     go_wp2_with fail
     refine (IH.out d' hd x _ (HV.out.1.ext HV.out.2 hx1) (HV.out.2.ext hx1)).mono ?_
     rintro e w2 ⟨⟨z, rfl⟩, hx2⟩
     go_wp2_with fail
     refine (l1Max_any _ _ _).mono ?_
     rintro e w3 ⟨rfl, rfl⟩
     go_wp2
     go_roundw
     case rel => exact ⟨k + 1, _, by omega, by go_num, rfl, (hx.trans hx1).trans hx2⟩
     case measure => simp [intOf]; omega
   ·go_wp2
    go_ret
    exact ⟨⟨_, rfl⟩, hx⟩
set_option maxRecDepth 100000 in
set_option maxHeartbeats 4000000 in
theorem StmtTokenCount_any : ∀ (d : Nat) (A : Option Addr) (n c : Nat) (K : Nat → Prop) (w : World), Ss d w K A n → Old w K → Calls Tryz.prog 59 #[.slice A n c] w fun e w' => RI e ∧ Ext w w'
 | d, A, n, c, K, w, h, hK => by
  have hn := h.1
  have IH : Hid (∀ (d' : Nat), d = d' + 1 → ∀ (x : Sc) (w' : World), Sv d w' K x → Old w' K → Calls Tryz.prog 59 #[.slice x.B x.m x.e] w' fun e w'' => RI e ∧ Ext w' w'') := fun d' hd x w' hx hk => by
   subst hd
   exact StmtTokenCount_any d' x.B x.m x.e K w' hx.body hk
  go_enter Tryz.func59, Tryz.ntmps59
  go_wp2
  go_loopw [3, 4] (fun r i wr => ∃ (k : Nat) (y : Int), k ≤ n ∧ i = .int .i64 k ∧ r = .int .i64 y ∧ Ext w wr) (fun _ i _ => n - (intOf i).toNat)
  case atStart => exact ⟨0, 0, Nat.zero_le _, rfl, rfl, xx⟩
  case round =>
   obtain ⟨k, y, hk, rfl, rfl, hx⟩ := hrel
   by_cases hlt : k < n
   ·obtain ⟨zs, h1, h2⟩ := (h.ext hK hx).2
    obtain ⟨b, o, x, rfl, hb, hg, r0, r1, r2, r3, r4⟩ := sc_at (h1.rd (hK.ext hx)) hlt
    have HV : Hid (Sv d wr K x ∧ Old wr K) := ⟨h2 x (List.mem_of_getElem? hg), hK.ext hx⟩
    clear hg h1 h2
    go_wp2_with fail
    refine (l17Args_any x _).mono ?_
    rintro e w1 ⟨⟨na, ba, rfl⟩, hx1⟩
    have r0' := (hx1.cell (p := ⟨b, o + k * 5, none⟩) hb).trans r0
    have r2' := (hx1.cell (p := ⟨b, o + k * 5 + 2, none⟩) hb).trans r2
    have r4' := (hx1.cell (p := ⟨b, o + k * 5 + 4, none⟩) hb).trans r4
    obtain ⟨d', hd⟩ : ∃ d', d = d' + 1 := by
     cases d with
     | zero => exact HV.out.1.elim
     | succ d' => exact ⟨d', rfl⟩
    cases h2 : (x.k == 2) <;> cases ba
    ·go_wp2
     go_roundw
     case rel => exact ⟨k + 1, _, by omega, by go_num, rfl, hx.trans hx1⟩
     case measure => simp [intOf]; omega
    ·go_wp2_with fail
     refine (IH.out d' hd x _ (HV.out.1.ext HV.out.2 hx1) (HV.out.2.ext hx1)).mono ?_
     rintro e w2 ⟨⟨z, rfl⟩, hx2⟩
     go_wp2
     go_roundw
     case rel => exact ⟨k + 1, _, by omega, by go_num, rfl, (hx.trans hx1).trans hx2⟩
     case measure => simp [intOf]; omega
    ·go_wp2
     go_roundw
     case rel => exact ⟨k + 1, _, by omega, by go_num, rfl, hx.trans hx1⟩
     case measure => simp [intOf]; omega
    ·go_wp2_with fail
     refine (IH.out d' hd x _ (HV.out.1.ext HV.out.2 hx1) (HV.out.2.ext hx1)).mono ?_
     rintro e w2 ⟨⟨z, rfl⟩, hx2⟩
     go_wp2
     go_roundw
     case rel => exact ⟨k + 1, _, by omega, by go_num, rfl, (hx.trans hx1).trans hx2⟩
     case measure => simp [intOf]; omega
   ·go_wp2
    go_ret
    exact ⟨⟨_, rfl⟩, hx⟩
end Go.Proofs.YtdjckjfclhjpcaaGreat
