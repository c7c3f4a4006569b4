/-
  For every input, the law FnExactParseCompiled returns true. The tied card: of the row's list the gates' names, the table of powers and the two errors are read; that the library's own length is an int comes of the world's shape.
-/
import Derived.Test.YteecjnnompjmiacGreatDoorSpc
import Derived.Test.YteecjnnompjmiacGreatDoorIpc
import Derived.Test.YteecjnnompjmiacGreatDoorPcM
import Derived.Test.YteecjnnompjmiacGreatDoorLawV
import Derived.Test.YteecjnnompjmiacGreatDoorHandS
import Derived.Test.YteecjnnompjmiacGreatDoorCards
import Derived.Test.YteecjnnompjmiacGreatDoorTie
import Derived.LaidMore
import Derived.MakeChecks
import Derived.Stop.Joined
import Derived.Stop.LaidErr
import Derived.SevenTiedAt
import Derived.Lay
import Derived.LaidOnce
namespace Go.Proofs.YteecjnnompjmiacGreatDoor
open Go.ChangeShapes Go.WideShapes Go.ChangeAt Go.RowKit Go.Deep
set_option linter.unusedVariables false
namespace fnExactParseCompiled
set_option maxRecDepth 100000 in
set_option maxHeartbeats 8000000 in
theorem walk (s : ByteArray) (w : World) (hw : PW w) : Calls Tryz.prog 3 #[.string s] w fun e w' => e = .returned (.bool true) ∧ Ext w w' := by
  have HPW := Lib.hid hw
  clear hw
  go_enter Tryz.func3, Tryz.ntmps3
  by_cases hbig : (1048576 : Int) < (s.size : Int)
  · go_wp2
    go_ret
    exact ⟨rfl, Ext.refl _⟩
  have hs : s.size ≤ 1048576 := by omega
  go_wp2_with fail
  refine (spec_ParseCompiled_any s hs _).mono ?_
  rintro e w1 ⟨⟨v0, x, k, b1, b2, b3, rfl, hO0, hb0, hsm, hR0⟩, hx1⟩
  obtain ⟨A1, A2, A3, c1, c2, c3, rfl, -⟩ := id hO0
  have HSM : Hid (x.ops.length ≤ 1048576 ∧ x.st.length ≤ 1048576 ∧ x.fin.length ≤ 1048576) := hsm
  obtain ⟨l1, hl1⟩ : ∃ n, x.ops.length = n := ⟨_, rfl⟩
  obtain ⟨l2, hl2⟩ : ∃ n, x.st.length = n := ⟨_, rfl⟩
  obtain ⟨l3, hl3⟩ : ∃ n, x.fin.length = n := ⟨_, rfl⟩
  rw [hl1, hl2, hl3] at hO0 ⊢
  have HN1 := Lib.hid hl1
  have HN2 := Lib.hid hl2
  have HN3 := Lib.hid hl3
  have HO0 := Lib.hid hO0
  have HR0 := Lib.hid hR0
  have HX1 := Lib.hid hx1
  clear hO0 hR0 hx1 hb0 hl1 hl2 hl3 hsm
  have P1 : Hid (Blk (w1.alloc (.cells #[.int .i64 x.n, .int .i64 x.bits, .slice A1 l1 c1, .slice A2 l2 c2, .slice A3 l3 c3] 25)) w1.heap.size 25 #[.int .i64 x.n, .int .i64 x.bits, .slice A1 l1 c1, .slice A2 l2 c2, .slice A3 l3 c3]) := Blk.new _ _ _
  have X1 : Hid (Ext w1 (w1.alloc (.cells #[.int .i64 x.n, .int .i64 x.bits, .slice A1 l1 c1, .slice A2 l2 c2, .slice A3 l3 c3] 25))) := (Ext.refl _).alloc _
  go_upto_region 4 with (fail)
  generalize w1.alloc (.cells #[.int .i64 x.n, .int .i64 x.bits, .slice A1 l1 c1, .slice A2 l2 c2, .slice A3 l3 c3] 25) = W1 at *
  generalize w1.heap.size = p1 at *
  go_wp2_with fail
  refine (impl_ParseCompiled_any s hs _ (HPW.out.ext (HX1.out.trans X1.out))).mono ?_
  rintro e w2 ⟨⟨v1, x', k', d1, d2, d3, rfl, hO1, hbb, _, hR1⟩, hx2⟩
  obtain ⟨rfl, rfl⟩ := same HR0.out hR1
  obtain ⟨E1, E2, E3, e1, e2, e3, rfl, ⟨g2, m2⟩, ⟨g3, m3⟩, ⟨g1, m1⟩⟩ := id hO1
  rw [HN1.out, HN2.out, HN3.out] at hO1 ⊢
  rw [HN2.out] at g2 m2
  rw [HN3.out] at g3 m3
  rw [HN1.out] at g1 m1
  have HO1 := Lib.hid hO1
  have R1 := Lib.hid g1
  have R2 := Lib.hid g2
  have R3 := Lib.hid g3
  have M1 := Lib.hid m1
  have M2 := Lib.hid m2
  have M3 := Lib.hid m3
  have X2 := Lib.hid hx2
  have HBB := Lib.hid hbb
  clear hO1 hR1 hbb hx2 g1 g2 g3 m1 m2 m3
  have P2 : Hid (Blk (w2.alloc (.cells #[.int .i64 x.n, .int .i64 x.bits, .slice E1 l1 e1, .slice E2 l2 e2, .slice E3 l3 e3] 25)) w2.heap.size 25 #[.int .i64 x.n, .int .i64 x.bits, .slice E1 l1 e1, .slice E2 l2 e2, .slice E3 l3 e3]) := Blk.new _ _ _
  have X3 : Hid (Ext w2 (w2.alloc (.cells #[.int .i64 x.n, .int .i64 x.bits, .slice E1 l1 e1, .slice E2 l2 e2, .slice E3 l3 e3] 25))) := (Ext.refl _).alloc _
  go_upto_region 5 with (fail)
  generalize w2.alloc (.cells #[.int .i64 x.n, .int .i64 x.bits, .slice E1 l1 e1, .slice E2 l2 e2, .slice E3 l3 e3] 25) = W2 at *
  obtain ⟨p2, hp2⟩ : ∃ p2, w2.heap.size = p2 := ⟨_, rfl⟩
  rw [hp2] at P2 ⊢
  have HP2 := Lib.hid hp2
  clear hp2
  have a0 : W2.cell? ⟨p2, 0, none⟩ = some (.int .i64 x.n) := P2.out.cell 0
  have a1 : W2.cell? ⟨p2, 1, none⟩ = some (.int .i64 x.bits) := P2.out.cell 1
  have a2 : W2.cell? ⟨p2, 2, none⟩ = some (.slice E1 l1 e1) := P2.out.cell 2
  have a3 : W2.cell? ⟨p2, 3, none⟩ = some (.slice E2 l2 e2) := P2.out.cell 3
  have a4 : W2.cell? ⟨p2, 4, none⟩ = some (.slice E3 l3 e3) := P2.out.cell 4
  have q0 : W2.cell? ⟨p1, 0, none⟩ = some (.int .i64 x.n) := (P1.out.ext (X2.out.trans X3.out)).cell 0
  have q1 : W2.cell? ⟨p1, 1, none⟩ = some (.int .i64 x.bits) := (P1.out.ext (X2.out.trans X3.out)).cell 1
  have q2 : W2.cell? ⟨p1, 2, none⟩ = some (.slice A1 l1 c1) := (P1.out.ext (X2.out.trans X3.out)).cell 2
  have q3 : W2.cell? ⟨p1, 3, none⟩ = some (.slice A2 l2 c2) := (P1.out.ext (X2.out.trans X3.out)).cell 3
  have q4 : W2.cell? ⟨p1, 4, none⟩ = some (.slice A3 l3 c3) := (P1.out.ext (X2.out.trans X3.out)).cell 4
  have hse := eqCm_self x
  have H0 : Hid (CmAt W2 W1.heap.size (.agg #[.int .i64 x.n, .int .i64 x.bits, .slice A1 l1 c1, .slice A2 l2 c2, .slice A3 l3 c3]) x) := (HO0.out.ext X1.out).at_.up (X2.out.trans X3.out) (Nat.le_refl _)
  have HLL : Hid (x.ops.length ≤ 100000000 ∧ x.ops.length ≤ 100000000 ∧ x.st.length ≤ 100000000 ∧ x.st.length ≤ 100000000 ∧ x.fin.length ≤ 100000000 ∧ x.fin.length ≤ 100000000) := by
    obtain ⟨s1, s2, s3⟩ := HSM.out
    exact ⟨by omega, by omega, by omega, by omega, by omega, by omega⟩
  have HL2 : Hid (l1 ≤ 2000000 ∧ l2 ≤ 2000000 ∧ l3 ≤ 2000000) := by
    obtain ⟨s1, s2, s3⟩ := HSM.out
    rw [HN1.out] at s1
    rw [HN2.out] at s2
    rw [HN3.out] at s3
    exact ⟨by omega, by omega, by omega⟩
  go_wp2_with fail
  refine (eqCompiled_any _ _ x x _ (HO1.out.ext X3.out).at_ (H0.out.more (X2.out.trans X3.out).size) HLL.out).mono ?_
  rintro e w3 ⟨rfl, hx3⟩
  rw [hse]
  have X4 := Lib.hid hx3
  clear hx3 a0 a1 a2 a3 a4 q0 q1 q2 q3 q4
  have a0 : w3.cell? ⟨p2, 0, none⟩ = some (.int .i64 x.n) := (P2.out.ext X4.out).cell 0
  have a1 : w3.cell? ⟨p2, 1, none⟩ = some (.int .i64 x.bits) := (P2.out.ext X4.out).cell 1
  have a2 : w3.cell? ⟨p2, 2, none⟩ = some (.slice E1 l1 e1) := (P2.out.ext X4.out).cell 2
  have a3 : w3.cell? ⟨p2, 3, none⟩ = some (.slice E2 l2 e2) := (P2.out.ext X4.out).cell 3
  have a4 : w3.cell? ⟨p2, 4, none⟩ = some (.slice E3 l3 e3) := (P2.out.ext X4.out).cell 4
  go_wp2_with fail
  refine (markCompiled_any x.n x.bits E1 E2 E3 l1 e1 l2 e2 l3 e3 _ _ _ _ ⟨HBB.out.1, HBB.out.2.1⟩ (Nat.le_trans HBB.out.2.2 (X3.out.trans X4.out).size) HL2.out (own_ext R2.out (X3.out.trans X4.out)) M2.out (own_ext R3.out (X3.out.trans X4.out)) M3.out (own_ext R1.out (X3.out.trans X4.out)) M1.out).mono ?_
  rintro e w4 ⟨rfl, hmk, hkeep, hext, hsz⟩
  have MKK := Lib.hid hmk
  have N1 : Hid (∀ j, (Value.slice E1 l1 e1).ownBlock = some j → W1.heap.size ≤ j ∧ j < p2) := fun j hj => by have := R1.out.lt j hj; have := HP2.out; have := HBB.out; omega
  have N2 : Hid (∀ j, (Value.slice E2 l2 e2).ownBlock = some j → W1.heap.size ≤ j ∧ j < p2) := fun j hj => by have := R2.out.lt j hj; have := HP2.out; omega
  have N3 : Hid (∀ j, (Value.slice E3 l3 e3).ownBlock = some j → W1.heap.size ≤ j ∧ j < p2) := fun j hj => by have := R3.out.lt j hj; have := HP2.out; have := HBB.out; omega
  have LP1 := P1.out.lt
  have P3 : Hid (Blk w4 p2 25 #[.int .i64 x.n, .int .i64 x.bits, .slice E1 l1 e1, .slice E2 l2 e2, .slice E3 l3 e3]) := hkeep p2 _ _ (fun j hj => by have := (N1.out j hj).2; omega) (fun j hj => by have := (N2.out j hj).2; omega) (fun j hj => by have := (N3.out j hj).2; omega) (P2.out.ext X4.out)
  have P4 : Hid (Blk w4 p1 25 #[.int .i64 x.n, .int .i64 x.bits, .slice A1 l1 c1, .slice A2 l2 c2, .slice A3 l3 c3]) := hkeep p1 _ _ (fun j hj => by have := (N1.out j hj).1; omega) (fun j hj => by have := (N2.out j hj).1; omega) (fun j hj => by have := (N3.out j hj).1; omega) ((P1.out.ext (X2.out.trans X3.out)).ext X4.out)
  have XW : Hid (Ext W1 w4) := hext W1 (Nat.le_refl _) (X2.out.trans (X3.out.trans X4.out))
  have X5 : Hid (Ext w w4) := HX1.out.trans (X1.out.trans XW.out)
  have H4 : Hid (CmAt w4 W1.heap.size (.agg #[.int .i64 x.n, .int .i64 x.bits, .slice A1 l1 c1, .slice A2 l2 c2, .slice A3 l3 c3]) x) := (HO0.out.ext X1.out).at_.up XW.out (Nat.le_refl _)
  clear hmk hkeep hext hsz a0 a1 a2 a3 a4 LP1
  obtain ⟨z, hz⟩ : ∃ z : Int, ((1 + l1 * 8 + l2 + l3 : Nat) : Int) = z := ⟨_, rfl⟩
  have hz0 : ¬ (z < 0) := by omega
  have HZ := Lib.hid hz
  rw [hz]
  clear hz
  have a0 : w4.cell? ⟨p2, 0, none⟩ = some (.int .i64 x.n) := P3.out.cell 0
  have a1 : w4.cell? ⟨p2, 1, none⟩ = some (.int .i64 x.bits) := P3.out.cell 1
  have a2 : w4.cell? ⟨p2, 2, none⟩ = some (.slice E1 l1 e1) := P3.out.cell 2
  have a3 : w4.cell? ⟨p2, 3, none⟩ = some (.slice E2 l2 e2) := P3.out.cell 3
  have a4 : w4.cell? ⟨p2, 4, none⟩ = some (.slice E3 l3 e3) := P3.out.cell 4
  go_wp2_with fail
  refine (heldCompiled_any x.n x.bits E1 E2 E3 l1 e1 l2 e2 l3 e3 _ HL2.out MKK.out).mono ?_
  rintro e w5 ⟨rfl, hx5⟩
  rw [HZ.out]
  have X6 := Lib.hid hx5
  clear hx5 a0 a1 a2 a3 a4
  go_wp2_with fail
  refine (impl_ParseCompiled_any s hs _ (HPW.out.ext (X5.out.trans X6.out))).mono ?_
  rintro e w6 ⟨⟨v2, x', k', d1', d2', d3', rfl, hO2, _, _, hR2⟩, hx6⟩
  obtain ⟨rfl, rfl⟩ := same HR0.out hR2
  obtain ⟨F1, F2, F3, f1, f2, f3, rfl, -⟩ := id hO2
  rw [HN1.out, HN2.out, HN3.out] at hO2 ⊢
  have HO2 := Lib.hid hO2
  have X7 := Lib.hid hx6
  clear hO2 hR2 hx6
  have P5 : Hid (Blk (w6.alloc (.cells #[.int .i64 x.n, .int .i64 x.bits, .slice F1 l1 f1, .slice F2 l2 f2, .slice F3 l3 f3] 25)) w6.heap.size 25 #[.int .i64 x.n, .int .i64 x.bits, .slice F1 l1 f1, .slice F2 l2 f2, .slice F3 l3 f3]) := Blk.new _ _ _
  have X8 : Hid (Ext w6 (w6.alloc (.cells #[.int .i64 x.n, .int .i64 x.bits, .slice F1 l1 f1, .slice F2 l2 f2, .slice F3 l3 f3] 25))) := (Ext.refl _).alloc _
  go_upto_region 16 with (fail)
  generalize w6.alloc (.cells #[.int .i64 x.n, .int .i64 x.bits, .slice F1 l1 f1, .slice F2 l2 f2, .slice F3 l3 f3] 25) = W6 at *
  generalize w6.heap.size = p3 at *
  have XA : Hid (Ext w4 W6) := X6.out.trans (X7.out.trans X8.out)
  have a0 : W6.cell? ⟨p3, 0, none⟩ = some (.int .i64 x.n) := P5.out.cell 0
  have a1 : W6.cell? ⟨p3, 1, none⟩ = some (.int .i64 x.bits) := P5.out.cell 1
  have a2 : W6.cell? ⟨p3, 2, none⟩ = some (.slice F1 l1 f1) := P5.out.cell 2
  have a3 : W6.cell? ⟨p3, 3, none⟩ = some (.slice F2 l2 f2) := P5.out.cell 3
  have a4 : W6.cell? ⟨p3, 4, none⟩ = some (.slice F3 l3 f3) := P5.out.cell 4
  have q0 : W6.cell? ⟨p1, 0, none⟩ = some (.int .i64 x.n) := (P4.out.ext XA.out).cell 0
  have q1 : W6.cell? ⟨p1, 1, none⟩ = some (.int .i64 x.bits) := (P4.out.ext XA.out).cell 1
  have q2 : W6.cell? ⟨p1, 2, none⟩ = some (.slice A1 l1 c1) := (P4.out.ext XA.out).cell 2
  have q3 : W6.cell? ⟨p1, 3, none⟩ = some (.slice A2 l2 c2) := (P4.out.ext XA.out).cell 3
  have q4 : W6.cell? ⟨p1, 4, none⟩ = some (.slice A3 l3 c3) := (P4.out.ext XA.out).cell 4
  go_wp2_with fail
  refine (eqCompiled_any _ _ x x _ (HO2.out.ext X8.out).at_ ((H4.out.up XA.out XW.out.size).more (Nat.le_trans XW.out.size XA.out.size)) HLL.out).mono ?_
  rintro e w7 ⟨rfl, hx7⟩
  rw [hse]
  have XB : Hid (Ext w4 w7) := XA.out.trans hx7
  clear hx7 a0 a1 a2 a3 a4 q0 q1 q2 q3 q4
  have a0 : w7.cell? ⟨p2, 0, none⟩ = some (.int .i64 x.n) := (P3.out.ext XB.out).cell 0
  have a1 : w7.cell? ⟨p2, 1, none⟩ = some (.int .i64 x.bits) := (P3.out.ext XB.out).cell 1
  have a2 : w7.cell? ⟨p2, 2, none⟩ = some (.slice E1 l1 e1) := (P3.out.ext XB.out).cell 2
  have a3 : w7.cell? ⟨p2, 3, none⟩ = some (.slice E2 l2 e2) := (P3.out.ext XB.out).cell 3
  have a4 : w7.cell? ⟨p2, 4, none⟩ = some (.slice E3 l3 e3) := (P3.out.ext XB.out).cell 4
  go_wp2_with fail
  refine (heldCompiled_any x.n x.bits E1 E2 E3 l1 e1 l2 e2 l3 e3 _ HL2.out (MKK.out.ext XB.out)).mono ?_
  rintro e w8 ⟨rfl, hx8⟩
  rw [HZ.out]
  go_wp2
  go_ret
  exact ⟨rfl, X5.out.trans (XB.out.trans hx8)⟩
theorem gT : Tryz.prog.globalNamed "internal/strconv.uint64pow10" = some 6 := by kernel_rfl
theorem gTType : (Tryz.prog.globals[6]?).map (·.type) = some 123 := by kernel_rfl
theorem starE : "*" ++ "errors.errorString" = "*errors.errorString" := by decide
theorem rowE (u : TypeId) (h : Tryz.prog.typeName? 3 u = some "*errors.errorString") : u = 128 :=
  typeName_ptr_named (nm := "errors.errorString") (by rw [starE]; kernel_rfl) (by kernel_rfl) (by decide) u (by rw [starE]; exact h)
theorem pwOf (W : World) (h : laidMetH Tryz.prog Rows.fnExactParseCompiledRow.laid W) (hsh : W.ShapedOpen Tryz.prog) : PW W := by
  rw [MakeChecks.laidMetH_plain _ _ _ (by kernel_rfl)] at h
  have h2 := laidMet.tail (laidMet.tail h)
  have h4 := laidMet.tail (laidMet.tail h2)
  have h5 := laidMet.tail h4
  obtain ⟨_, _, hv1, _, _, _⟩ := laid_sentinel h4 (g := 5) (ti := 77) (tp := 128) (te := 130) (ts := 9) (by kernel_rfl) (by kernel_rfl) Tryz.underlying77 rowE Tryz.underlying128 Tryz.underlying130 rfl rfl Tryz.underlying9 (by kernel_rfl) (by kernel_rfl)
  obtain ⟨_, _, hv2, _, _, _⟩ := laid_sentinel h5 (g := 4) (ti := 77) (tp := 128) (te := 130) (ts := 9) (by kernel_rfl) (by kernel_rfl) Tryz.underlying77 rowE Tryz.underlying128 Tryz.underlying130 rfl rfl Tryz.underlying9 (by kernel_rfl) (by kernel_rfl)
  obtain ⟨m, hm⟩ := Tryz.laysM146.s1_3 W hsh
  exact ⟨gn_of_reads (Lib.laidMet.reads h (List.mem_cons_of_mem _ (List.mem_cons_of_mem _ (List.mem_cons_of_mem _ (List.mem_cons_of_mem _ (List.mem_cons_of_mem _ (List.mem_cons_of_mem _ List.mem_cons_self))))))),
    Lib.tabIs_of_head gT gTType Tryz.underlying123 Tryz.underlying104 (by kernel_rfl) (by kernel_rfl) h2,
    ⟨_, m, by kernel_rfl, hm⟩, errOk_of_var (g := 4) (by kernel_rfl) hv2, errOk_of_var (g := 5) (by kernel_rfl) hv1⟩
set_option maxRecDepth 100000 in
theorem met (os : Os) (args : Array Value) : laidMetH Tryz.prog Rows.fnExactParseCompiledRow.laid ((World.laidAll Tryz.prog os Rows.fnExactParseCompiledRow.laid).forCall (fun _ _ => 0) ⟨#[], args, []⟩).memory := by
  rw [MakeChecks.laidMetH_plain _ _ _ (by kernel_rfl)]
  exact laidMet_laidAll _ (by kernel_rfl) (by kernel_rfl)
set_option maxRecDepth 100000 in
theorem lifted (os : Os) (started : os.Started) (H : Type) (enc : TypeId × Value → H) :
    ReturnsInHanded {} Tryz.checked os 3 .any (fun w args => (Rows.fnExactParseCompiledSpec.pre enc Tryz.prog Tryz.f3 [] false w args ∧ laidMetH Tryz.prog Rows.fnExactParseCompiledRow.laid w) ∧ sizedMet enc Tryz.prog Tryz.f3 (OpenSpec.ofChange Rows.fnExactParseCompiledSpec) false w args)
      (Rows.fnExactParseCompiledSpec.post enc Tryz.prog Tryz.f3 false true false false) := by
  refine handed_and_shaped (C := Tryz.checked) (X := fun w _ => laidMetH Tryz.prog Rows.fnExactParseCompiledRow.laid w) (fun _ _ _ hh h => h.of_heap hh) own started (by kernel_rfl) Tryz.func3
    (ChangeSpec.witness_shaped (enc := enc) (C := Tryz.checked) (os := os) (X := fun w _ => laidMetH Tryz.prog Rows.fnExactParseCompiledRow.laid w) false (World.laidAll Tryz.prog os Rows.fnExactParseCompiledRow.laid) #[.string ⟨#[]⟩] 8 (World.laidAll_os _ _ _) (World.shaped_of_ZipB (by kernel_rfl) (by kernel_rfl)) (by kernel_rfl) (by kernel_rfl) (by kernel_rfl) (met os _)) ?_
  intro W base args ds gs before hval0 hW hL hsh
  have hval : ∀ (j : Nat) t v, Tryz.f3.params[j]? = some t → args[j]? = some v → Value.okWide Tryz.prog W .any base t v := hval0
  have hW' := hW
  obtain ⟨p, q, hA0, hV, rfl, hfz, hnd⟩ := hW
  have hA : DataW.TrodAll enc Tryz.prog W 0 (fun _ => true) true Tryz.f3.params.toList args.toList ds p := hA0
  rw [Tryz.params3] at hA hval
  obtain ⟨v0, vs0, d0, ds0, p0, q0, hargs, rfl, rfl, h0, r0⟩ := trodAll_cons hA
  obtain ⟨rfl, rfl, rfl⟩ := trodAll_nil r0
  obtain rfl : args = #[v0] := by cases args; simp_all
  obtain ⟨_, _, _, _, gd, _, rfl, _⟩ := trodVars_one hV
  clear hV
  clear hA0 hval0 hfz hnd
  have hPW := pwOf W hL hsh
  clear hL hsh
  obtain ⟨s, rfl, rfl, rfl, _⟩ := Go.ChangeMaps.open_string Tryz.underlying9 (hval 0 _ v0 rfl rfl) h0
  refine (walk s W hPW).mono fun e W' ⟨he, hx⟩ => ?_
  subst he
  exact ⟨_, rfl, law_postV (by kernel_rfl) (by rw [Tryz.params3]; decide +kernel) rfl hW' rfl rfl rfl hx⟩

theorem over : Rows.FnExactParseCompiledSaid :=
  OpenClaim.holds_of_wide 3 Tryz.f3 rfl rfl rfl rfl rfl rfl rfl ⟨rfl, rfl, rfl, rfl, rfl⟩ rfl rfl rfl rfl rfl (by kernel_rfl) Tryz.func3 (by kernel_rfl)
    (of_decide_eq_true (by kernel_rfl)) (by unfold Func.isWrapper; first | (rw [if_pos (by decide +kernel)]; kernel_rfl) | (rw [if_neg (by decide +kernel)]; exact ⟨rfl, rfl⟩))
    (fun os started H enc _ => lifted os started H enc)

/-- The statement: the tied card. -/
theorem proved : Rows.FnExactParseCompiledCardSaid :=
  Claim7.holds_tied_plain_at .later [] [.data, .data, .data, .data, .sentinel, .sentinel, .data, .pinned] true (true, "382e154e7db4e55025f9be33d7d3fd97f7a89364ba36802b76a4d1a329a9ec1f") true
    over (fun _ h => by cases h) (by kernel_rfl) (fun _ h => by cases h) fnExactParseCompiled_row_tie rfl ⟨rfl, rfl⟩ (by kernel_rfl) rfl
    (fun f fn hf hfn => by
      obtain rfl : f = 3 := Option.some.inj ((show Tryz.prog.funcNamed "loop.example/g00506/laws.FnExactParseCompiled" = some 3 by kernel_rfl).symm.trans hf) |>.symm
      obtain rfl : fn = Tryz.f3 := (Option.some.inj (Tryz.func3.symm.trans hfn)).symm
      exact ⟨by kernel_rfl, fun j t ht => by
        rw [Tryz.params3] at ht
        have hm : t ∈ [9] := by simpa using Array.mem_of_getElem? ht
        have hall : ([9].all fun u => !Tryz.prog.wantsStandIn u) = true := by kernel_rfl
        exact (show Tryz.prog.wantsStandIn t = false by simpa using List.all_eq_true.1 hall t hm)⟩)
    (by kernel_rfl)
#print axioms proved

end fnExactParseCompiled
end Go.Proofs.YteecjnnompjmiacGreatDoor
