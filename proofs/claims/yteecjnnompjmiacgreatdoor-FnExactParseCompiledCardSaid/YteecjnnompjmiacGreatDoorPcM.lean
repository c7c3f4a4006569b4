/-
  Helper text (no claim of its own). The tied card: of the row's list the gates' names, the table of powers and the two errors are read; that the library's own length is an int comes of the world's shape.
-/
import Derived.Test.YteecjnnompjmiacGreatDoorPcp
import Derived.Test.YteecjnnompjmiacGreatDoorIntM
import Derived.Test.YteecjnnompjmiacGreatDoorOpM
namespace Go.Proofs.YteecjnnompjmiacGreatDoor
open Go.ChangeShapes Go.WideShapes Go.ChangeAt Go.RowKit Go.Deep
set_option linter.unusedVariables false
namespace fnExactParseCompiled
theorem same {s : ByteArray} {x y : Cm} {k r : Bool} (h : CR s x k) (h' : CR s y r) : x = y ∧ k = r := by
  rcases h with ⟨rfl, hv, ht, hu⟩ | ⟨rfl, rfl, hn⟩
  · rcases h' with ⟨rfl, hv', ht', _⟩ | ⟨rfl, rfl, hn'⟩
    · exact ⟨hu y hv' ht'.symm, rfl⟩
    · exact absurd ht.symm (hn' x hv)
  · rcases h' with ⟨rfl, hv', ht', _⟩ | ⟨rfl, rfl, hn'⟩
    · exact absurd ht'.symm (hn y hv')
    · exact ⟨rfl, rfl⟩
/-- The value whose three rows bear the marks. -/
def MK (w : World) (b0 b1 b2 b3 : Nat) (n bits : Int) (A1 A2 A3 : Option Addr) (l1 c1 l2 c2 l3 c3 : Nat) : Prop :=
  (w.ownsRow b0 3 1 (.slice A2 l2 c2) l2 (mkd (1 + l1 * 8) l2) ∧ (∀ g, (Value.slice A2 l2 c2).ownBlock = some g → g < b1)) ∧
  (w.ownsRow b1 3 1 (.slice A3 l3 c3) l3 (mkd (1 + l1 * 8 + l2) l3) ∧ (∀ g, (Value.slice A3 l3 c3).ownBlock = some g → g < b2)) ∧
  (w.ownsRow b2 39 8 (.slice A1 l1 c1) l1 (mkd 1 (l1 * 8)) ∧ (∀ g, (Value.slice A1 l1 c1).ownBlock = some g → g < b3))
theorem MK.ext {w w' : World} {b0 b1 b2 b3 : Nat} {n bits : Int} {A1 A2 A3 : Option Addr} {l1 c1 l2 c2 l3 c3 : Nat} (h : MK w b0 b1 b2 b3 n bits A1 A2 A3 l1 c1 l2 c2 l3 c3) (hx : Ext w w') : MK w' b0 b1 b2 b3 n bits A1 A2 A3 l1 c1 l2 c2 l3 c3 :=
  ⟨⟨own_ext h.1.1 hx, h.1.2⟩, ⟨own_ext h.2.1.1 hx, h.2.1.2⟩, ⟨own_ext h.2.2.1 hx, h.2.2.2⟩⟩
set_option maxRecDepth 100000 in
set_option maxHeartbeats 4000000 in
theorem markCompiled_any {b0 b1 b2 b3 : Nat} (n bits : Int) (A1 A2 A3 : Option Addr) (l1 c1 l2 c2 l3 c3 : Nat) (xs ys zs : List Value) (w : World) (hb : b0 ≤ b1 ∧ b1 ≤ b2) (hb3 : b3 ≤ w.heap.size) (hl : l1 ≤ 2000000 ∧ l2 ≤ 2000000 ∧ l3 ≤ 2000000)
    (h2 : w.ownsRow b0 3 1 (.slice A2 l2 c2) l2 ys) (m2 : ∀ g, (Value.slice A2 l2 c2).ownBlock = some g → g < b1) (h3 : w.ownsRow b1 3 1 (.slice A3 l3 c3) l3 zs) (m3 : ∀ g, (Value.slice A3 l3 c3).ownBlock = some g → g < b2) (h1 : w.ownsRow b2 39 8 (.slice A1 l1 c1) l1 xs) (m1 : ∀ g, (Value.slice A1 l1 c1).ownBlock = some g → g < b3) :
    Calls Tryz.prog 7 #[.agg #[.int .i64 n, .int .i64 bits, .slice A1 l1 c1, .slice A2 l2 c2, .slice A3 l3 c3], .int .i64 1] w fun e w' => e = .returned (.int .i64 ((1 + l1 * 8 + l2 + l3 : Nat) : Int)) ∧ MK w' b0 b1 b2 b3 n bits A1 A2 A3 l1 c1 l2 c2 l3 c3 ∧ (∀ g t cs, (∀ k, (Value.slice A1 l1 c1).ownBlock = some k → k ≠ g) → (∀ k, (Value.slice A2 l2 c2).ownBlock = some k → k ≠ g) → (∀ k, (Value.slice A3 l3 c3).ownBlock = some k → k ≠ g) → Blk w g t cs → Blk w' g t cs) ∧ (∀ w0 : World, w0.heap.size ≤ b0 → Ext w0 w → Ext w0 w') ∧ w.heap.size ≤ w'.heap.size := by
  have HB := Lib.hid hb
  have HB3 := Lib.hid hb3
  have HL := Lib.hid hl
  have M1 := Lib.hid m1
  have M2 := Lib.hid m2
  have M3 := Lib.hid m3
  have K1 : Hid (∀ g, (Value.slice A1 l1 c1).ownBlock = some g → b2 ≤ g) := fun g hg => (h1.lt g hg).1
  have K2 : Hid (∀ g, (Value.slice A2 l2 c2).ownBlock = some g → b0 ≤ g) := fun g hg => (h2.lt g hg).1
  have K3 : Hid (∀ g, (Value.slice A3 l3 c3).ownBlock = some g → b1 ≤ g) := fun g hg => (h3.lt g hg).1
  have H1 := Lib.hid h1
  have H2 := Lib.hid h2
  have H3 := Lib.hid h3
  clear hb hb3 hl m1 m2 m3 h1 h2 h3
  go_enter Tryz.func7, Tryz.ntmps7
  have B0 : Hid (Blk (w.alloc (.cells #[.int .i64 n, .int .i64 bits, .slice A1 l1 c1, .slice A2 l2 c2, .slice A3 l3 c3] 25)) w.heap.size 25 #[.int .i64 n, .int .i64 bits, .slice A1 l1 c1, .slice A2 l2 c2, .slice A3 l3 c3]) := Blk.new _ _ _
  have X0 : Hid (Ext w (w.alloc (.cells #[.int .i64 n, .int .i64 bits, .slice A1 l1 c1, .slice A2 l2 c2, .slice A3 l3 c3] 25))) := (Ext.refl _).alloc _
  go_upto_region 1 with (fail)
  generalize w.alloc (.cells #[.int .i64 n, .int .i64 bits, .slice A1 l1 c1, .slice A2 l2 c2, .slice A3 l3 c3] 25) = W at *
  obtain ⟨p, hp⟩ : ∃ p, w.heap.size = p := ⟨_, rfl⟩
  have HP := Lib.hid hp
  rw [hp] at B0 ⊢
  clear hp
  have a2 : W.cell? ⟨p, 2, none⟩ = some (.slice A1 l1 c1) := B0.out.cell 2
  go_wp2_with fail
  refine (markOpS_any A1 l1 c1 b2 1 xs _ (own_ext H1.out X0.out) (by have := HL.out.1; omega) (by decide)).mono ?_
  rintro e w1 ⟨rfl, ho1, hg1⟩
  have O1 := Lib.hid ho1
  have G1 := Lib.hid hg1
  clear ho1 hg1 a2
  have B1 : Hid (Blk w1 p 25 #[.int .i64 n, .int .i64 bits, .slice A1 l1 c1, .slice A2 l2 c2, .slice A3 l3 c3]) := B0.out.grown G1.out (fun k hk => by have := M1.out k hk; have := HB3.out; have := HP.out; omega)
  have a3 : w1.cell? ⟨p, 3, none⟩ = some (.slice A2 l2 c2) := B1.out.cell 3
  obtain ⟨s1, hs1⟩ : ∃ s1 : Nat, 1 + l1 * 8 = s1 := ⟨_, rfl⟩
  rw [hs1]
  have HS1 := Lib.hid hs1
  clear hs1
  go_wp2_with fail
  refine (markIntS_any A2 l2 c2 b0 s1 ys _ (own_far (own_ext H2.out X0.out) G1.out (fun k hk e => by have := K1.out k e; have := M2.out k hk; have := HB.out.2; omega)) (by have := HL.out.2.1; omega) (by have := HS1.out; have := HL.out.1; omega)).mono ?_
  rintro e w2 ⟨rfl, ho2, hg2⟩
  have O2 := Lib.hid ho2
  have G2 := Lib.hid hg2
  clear ho2 hg2 a3
  have B2 : Hid (Blk w2 p 25 #[.int .i64 n, .int .i64 bits, .slice A1 l1 c1, .slice A2 l2 c2, .slice A3 l3 c3]) := B1.out.grown G2.out (fun k hk => by have := M2.out k hk; have := (H2.out.lt k hk).2; have := HP.out; omega)
  have a4 : w2.cell? ⟨p, 4, none⟩ = some (.slice A3 l3 c3) := B2.out.cell 4
  obtain ⟨s2, hs2⟩ : ∃ s2 : Nat, s1 + l2 = s2 := ⟨_, rfl⟩
  rw [hs2]
  have HS2 := Lib.hid hs2
  clear hs2
  go_wp2_with fail
  refine (markIntS_any A3 l3 c3 b1 s2 zs _ (own_far (own_far (own_ext H3.out X0.out) G1.out (fun k hk e => by have := K1.out k e; have := M3.out k hk; omega)) G2.out (fun k hk e => by have := M2.out k e; have := K3.out k hk; omega)) (by have := HL.out.2.2; omega) (by have := HS1.out; have := HS2.out; have := HL.out.1; have := HL.out.2.1; omega)).mono ?_
  rintro e w3 ⟨rfl, ho3, hg3⟩
  clear a4
  go_wp2
  go_ret
  refine ⟨by rw [HS1.out, HS2.out]; exact ret_int (show ((s2 : Int) + (l3 : Int)) = ((s2 + l3 : Nat) : Int) by omega), ⟨⟨?_, M2.out⟩, ⟨?_, M3.out⟩, ⟨?_, M1.out⟩⟩, ?_, ?_, ?_⟩
  · rw [HS1.out]
    exact own_far O2.out hg3 (fun k hk e => by have := K3.out k e; have := M2.out k hk; omega)
  · rw [HS1.out, HS2.out]
    exact ho3
  · exact own_far (own_far O1.out G2.out (fun k hk e => by have := M2.out k e; have := K1.out k hk; have := HB.out.2; omega)) hg3 (fun k hk e => by have := M3.out k e; have := K1.out k hk; omega)
  · intro g t cs n1 n2 n3 hB
    exact (((hB.ext X0.out).grown G1.out (fun k hk e => n1 k hk e.symm)).grown G2.out (fun k hk e => n2 k hk e.symm)).grown hg3 (fun k hk e => n3 k hk e.symm)
  · intro w0 hw0 hx
    have hp1 := HB.out.1
    have hp2 := HB.out.2
    exact Ext.grown (Ext.grown (Ext.grown (hx.trans X0.out) G1.out (fun k hk => by have := K1.out k hk; omega)) G2.out (fun k hk => by have := K2.out k hk; omega)) hg3 (fun k hk => by have := K3.out k hk; omega)
  · exact Nat.le_trans X0.out.size (Nat.le_trans G1.out.size (Nat.le_trans G2.out.size hg3.size))
set_option maxRecDepth 100000 in
set_option maxHeartbeats 4000000 in
theorem heldCompiled_any {b0 b1 b2 b3 : Nat} (n bits : Int) (A1 A2 A3 : Option Addr) (l1 c1 l2 c2 l3 c3 : Nat) (w : World) (hl : l1 ≤ 2000000 ∧ l2 ≤ 2000000 ∧ l3 ≤ 2000000) (h : MK w b0 b1 b2 b3 n bits A1 A2 A3 l1 c1 l2 c2 l3 c3) :
    Calls Tryz.prog 8 #[.agg #[.int .i64 n, .int .i64 bits, .slice A1 l1 c1, .slice A2 l2 c2, .slice A3 l3 c3], .int .i64 1] w fun e w' => e = .returned (.int .i64 ((1 + l1 * 8 + l2 + l3 : Nat) : Int)) ∧ Ext w w' := by
  have HL := Lib.hid hl
  have H := Lib.hid h
  clear hl h
  go_enter Tryz.func8, Tryz.ntmps8
  have B0 : Hid (Blk (w.alloc (.cells #[.int .i64 n, .int .i64 bits, .slice A1 l1 c1, .slice A2 l2 c2, .slice A3 l3 c3] 25)) w.heap.size 25 #[.int .i64 n, .int .i64 bits, .slice A1 l1 c1, .slice A2 l2 c2, .slice A3 l3 c3]) := Blk.new _ _ _
  have X0 : Hid (Ext w (w.alloc (.cells #[.int .i64 n, .int .i64 bits, .slice A1 l1 c1, .slice A2 l2 c2, .slice A3 l3 c3] 25))) := (Ext.refl _).alloc _
  go_upto_region 1 with (fail)
  generalize w.alloc (.cells #[.int .i64 n, .int .i64 bits, .slice A1 l1 c1, .slice A2 l2 c2, .slice A3 l3 c3] 25) = W at *
  generalize w.heap.size = p at *
  have H1 := Lib.hid (H.out.ext X0.out)
  have a2 : W.cell? ⟨p, 2, none⟩ = some (.slice A1 l1 c1) := B0.out.cell 2
  have a3 : W.cell? ⟨p, 3, none⟩ = some (.slice A2 l2 c2) := B0.out.cell 3
  have a4 : W.cell? ⟨p, 4, none⟩ = some (.slice A3 l3 c3) := B0.out.cell 4
  go_wp2_with fail
  refine (heldOpS_any A1 l1 c1 1 _ (Rd.own H1.out.2.2.1) (by have := HL.out.1; omega) (by decide)).mono ?_
  rintro e w1 ⟨rfl, rfl⟩
  obtain ⟨z1, hz1⟩ : ∃ z : Int, ((1 + l1 * 8 : Nat) : Int) = z := ⟨_, rfl⟩
  have hz10 : ¬ (z1 < 0) := by omega
  have HZ1 := Lib.hid hz1
  rw [hz1]
  clear hz1
  go_wp2_with fail
  rw [← HZ1.out]
  refine (heldIntS_any A2 l2 c2 (1 + l1 * 8) _ (Rd.own H1.out.1.1) (by have := HL.out.2.1; omega) (by have := HL.out.1; omega)).mono ?_
  rintro e w2 ⟨rfl, rfl⟩
  obtain ⟨z2, hz2⟩ : ∃ z : Int, ((1 + l1 * 8 + l2 : Nat) : Int) = z := ⟨_, rfl⟩
  have hz20 : ¬ (z2 < 0) := by omega
  have HZ2 := Lib.hid hz2
  rw [hz2]
  clear hz2
  go_wp2_with fail
  rw [← HZ2.out]
  refine (heldIntS_any A3 l3 c3 (1 + l1 * 8 + l2) _ (Rd.own H1.out.2.1.1) (by have := HL.out.2.2; omega) (by have := HL.out.1; have := HL.out.2.1; omega)).mono ?_
  rintro e w3 ⟨rfl, rfl⟩
  obtain ⟨z3, hz3⟩ : ∃ z : Int, ((1 + l1 * 8 + l2 + l3 : Nat) : Int) = z := ⟨_, rfl⟩
  have hz30 : ¬ (z3 < 0) := by omega
  have HZ3 := Lib.hid hz3
  rw [hz3]
  clear hz3
  go_wp2
  go_ret
  exact ⟨ret_int HZ3.out.symm, X0.out⟩
end fnExactParseCompiled
end Go.Proofs.YteecjnnompjmiacGreatDoor
