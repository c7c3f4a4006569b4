/-
  For every input, the law FnExactParseGraph returns true. The tied card: of the row's list the table of powers and the two errors are read; that the library's own length is an int comes of the world's shape.
-/
import Derived.Test.YtaiaaomjphnbfabDoorIpgr
import Derived.Test.YtaiaaomjphnbfabDoorGrM
import Derived.Test.YtaiaaomjphnbfabDoorLawV
import Derived.Test.YtaiaaomjphnbfabDoorHandS
import Derived.Test.YtaiaaomjphnbfabDoorCards
import Derived.Test.YtaiaaomjphnbfabDoorTie
import Derived.LaidMore
import Derived.MakeChecks
import Derived.Stop.Joined
import Derived.Stop.LaidErr
import Derived.SevenTiedAt
import Derived.Lay
import Derived.LaidOnce
namespace Go.Proofs.YtaiaaomjphnbfabDoor
open Go.ChangeShapes Go.WideShapes Go.ChangeAt Go.RowKit Go.Deep
set_option linter.unusedVariables false
namespace fnExactParseGraph
set_option maxRecDepth 100000 in
theorem heldGraph_any (N : Int) (A : Option Addr) (n c : Nat) (s : Nat) (w : World) (h : Rd w w.heap.size 2 A n (mkd s (n * 2))) (hn : n ≤ 100000000) (hs : s ≤ 1000000000000) :
    Calls Tryd.prog 8 #[.agg #[.int .i64 N, .slice A n c], .int .i64 s] w fun e w' => e = .returned (.int .i64 ((s + n * 2 : Nat) : Int)) ∧ Ext w w' := by
  have H := Lib.hid h
  clear h
  have hng : ¬ (((s + n * 2 : Nat) : Int) < 0) := by omega
  go_enter Tryd.func8, Tryd.ntmps8
  go_wp2_with fail
  refine (heldEdgeS_any A n c s _ (H.out.ext ((Ext.refl w).alloc _)) hn hs).mono ?_
  rintro e w1 ⟨rfl, rfl⟩
  obtain ⟨z, hz⟩ : ∃ z : Int, ((s + n * 2 : Nat) : Int) = z := ⟨_, rfl⟩
  have HZ := Lib.hid hz
  rw [hz] at hng ⊢
  clear hz
  go_wp2
  go_ret
  exact ⟨ret_int HZ.out.symm, (Ext.refl w).alloc _⟩
theorem same {s : ByteArray} {o o' : Gr} {k k' : Bool}
    (h : (k = true ∧ vgraph o = true ∧ fmtG o = s ∧ ∀ x : Gr, vgraph x = true → s = fmtG x → o = x) ∨ (k = false ∧ o = Gr0 ∧ ∀ x : Gr, vgraph x = true → s ≠ fmtG x))
    (h' : (k' = true ∧ vgraph o' = true ∧ fmtG o' = s ∧ ∀ x : Gr, vgraph x = true → s = fmtG x → o' = x) ∨ (k' = false ∧ o' = Gr0 ∧ ∀ x : Gr, vgraph x = true → s ≠ fmtG x)) : o = o' ∧ k = k' := by
  rcases h with ⟨rfl, hv, ht, hu⟩ | ⟨rfl, rfl, hn⟩
  · rcases h' with ⟨rfl, hv', ht', _⟩ | ⟨rfl, rfl, hn'⟩
    · exact ⟨hu o' hv' ht'.symm, rfl⟩
    · exact absurd ht.symm (hn' o hv)
  · rcases h' with ⟨rfl, hv', ht', _⟩ | ⟨rfl, rfl, hn'⟩
    · exact absurd ht'.symm (hn o' hv')
    · exact ⟨rfl, rfl⟩
set_option maxRecDepth 100000 in
set_option maxHeartbeats 4000000 in
theorem walk (s : ByteArray) (w : World) (hw : PW w) : Calls Tryd.prog 3 #[.string s] w fun e w' => e = .returned (.bool true) ∧ Ext w w' := by
  have HPW := Lib.hid hw
  clear hw
  go_enter Tryd.func3, Tryd.ntmps3
  by_cases hbig : (1048576 : Int) < (s.size : Int)
  · go_wp2
    go_ret
    exact ⟨rfl, Ext.refl _⟩
  have hs : s.size ≤ 1500000 := by omega
  go_wp2_with fail
  refine (spec_ParseGraph_any s hs _).mono ?_
  rintro e w1 ⟨⟨v0, x, k, b1, rfl, hO0, hb1, hl0, hR0⟩, hx1⟩
  obtain ⟨A0, c0, rfl, _⟩ := id hO0
  obtain ⟨n, hn⟩ : ∃ n, x.es.length = n := ⟨_, rfl⟩
  rw [hn] at hl0 hO0 ⊢
  have HN := Lib.hid hn
  have HO0 := Lib.hid hO0
  have HR0 := Lib.hid hR0
  have HX1 := Lib.hid hx1
  have HB1 := Lib.hid hb1
  have HL0 := Lib.hid hl0
  clear hO0 hR0 hx1 hb1 hl0 hn
  have P1 : Hid (Blk (w1.alloc (.cells #[.int .i64 x.n, .slice A0 n c0] 24)) w1.heap.size 24 #[.int .i64 x.n, .slice A0 n c0]) := Blk.new _ _ _
  have X1 : Hid (Ext w1 (w1.alloc (.cells #[.int .i64 x.n, .slice A0 n c0] 24))) := (Ext.refl _).alloc _
  go_upto_region 4 with (fail)
  generalize w1.alloc (.cells #[.int .i64 x.n, .slice A0 n c0] 24) = W1 at *
  obtain ⟨p1, hp1⟩ : ∃ p1, w1.heap.size = p1 := ⟨_, rfl⟩
  rw [hp1] at P1 HB1 ⊢
  clear hp1
  go_wp2_with fail
  refine (impl_ParseGraph_any s hs _ (HPW.out.ext (HX1.out.trans X1.out))).mono ?_
  rintro e w2 ⟨⟨v1, x', k', b2, rfl, hO1, hb2, hl1, hR1⟩, hx2⟩
  obtain ⟨rfl, rfl⟩ := same HR0.out hR1
  obtain ⟨A1, c1, rfl, hw1, hq1⟩ := id hO1
  rw [HN.out] at hl1 hO1 hw1 hq1 ⊢
  have HO1 := Lib.hid hO1
  have HW1 := Lib.hid hw1
  have HQ1 := Lib.hid hq1
  clear hw1 hq1
  have X2 := Lib.hid hx2
  have HB2 := Lib.hid hb2
  clear hO1 hR1 hb2 hl1 hx2
  have P2 : Hid (Blk (w2.alloc (.cells #[.int .i64 x.n, .slice A1 n c1] 24)) w2.heap.size 24 #[.int .i64 x.n, .slice A1 n c1]) := Blk.new _ _ _
  have X3 : Hid (Ext w2 (w2.alloc (.cells #[.int .i64 x.n, .slice A1 n c1] 24))) := (Ext.refl _).alloc _
  go_upto_region 5 with (fail)
  generalize w2.alloc (.cells #[.int .i64 x.n, .slice A1 n c1] 24) = W2 at *
  obtain ⟨p2, hp2⟩ : ∃ p2, w2.heap.size = p2 := ⟨_, rfl⟩
  rw [hp2] at P2 HB2 ⊢
  have HP2 := Lib.hid hp2
  clear hp2
  have a0 : W2.cell? ⟨p2, 0, none⟩ = some (.int .i64 x.n) := P2.out.cell 0
  have a1 : W2.cell? ⟨p2, 1, none⟩ = some (.slice A1 n c1) := P2.out.cell 1
  have d0 : W2.cell? ⟨p1, 0, none⟩ = some (.int .i64 x.n) := (P1.out.ext (X2.out.trans X3.out)).cell 0
  have d1 : W2.cell? ⟨p1, 1, none⟩ = some (.slice A0 n c0) := (P1.out.ext (X2.out.trans X3.out)).cell 1
  have hse := eqGr_self x
  have H0 : Hid (GrAt W2 W1.heap.size (.agg #[.int .i64 x.n, .slice A0 n c0]) x) := ((HO0.out.ext X1.out).at_.up (X2.out.trans X3.out) (Nat.le_refl _))
  have HXS : Hid (x.es.length ≤ 100000000) := by unfold Hid; rw [HN.out]; exact Nat.le_trans HL0.out (by decide)
  go_wp2_with fail
  refine (eqGraph_any _ _ x x _ (HO1.out.ext X3.out).at_ (H0.out.more (X2.out.trans X3.out).size) ⟨HXS.out, HXS.out⟩).mono ?_
  rintro e w3 ⟨rfl, hx3⟩
  rw [hse]
  have X4 := Lib.hid hx3
  clear hx3 a0 a1 d0 d1
  have a0 : w3.cell? ⟨p2, 0, none⟩ = some (.int .i64 x.n) := (P2.out.ext X4.out).cell 0
  have a1 : w3.cell? ⟨p2, 1, none⟩ = some (.slice A1 n c1) := (P2.out.ext X4.out).cell 1
  go_wp2_with fail
  refine (markGraph_any x.n A1 n c1 _ 1 _ _ (own_ext HW1.out (X3.out.trans X4.out)) (by have := HL0.out; omega) (by decide)).mono ?_
  rintro e w4 ⟨rfl, ho4, hg4⟩
  have HO4 := Lib.hid ho4
  have X5 : Hid (Ext w w4) := Ext.grown (HX1.out.trans (X1.out.trans (X2.out.trans (X3.out.trans X4.out)))) hg4 (fun q hq => Nat.le_trans (HX1.out.trans X1.out).size (HW1.out.lt q hq).1)
  have H4 : Hid (GrAt w4 W1.heap.size (.agg #[.int .i64 x.n, .slice A0 n c0]) x) := (H0.out.up X4.out (X2.out.trans X3.out).size).grown hg4 (X2.out.trans (X3.out.trans X4.out)).size (fun q hq => (HW1.out.lt q hq).1)
  have P3 : Hid (Blk w4 p2 24 #[.int .i64 x.n, .slice A1 n c1]) := (P2.out.ext X4.out).grown hg4 (fun q hq => by have := HQ1.out q hq; have := HB2.out; omega)
  have P4 : Hid (Blk w4 p1 24 #[.int .i64 x.n, .slice A0 n c0]) := ((P1.out.ext (X2.out.trans X3.out)).ext X4.out).grown hg4 (fun q hq => by have := (HW1.out.lt q hq).1; have := P1.out.lt; omega)
  have HS4 : Hid (W1.heap.size ≤ w4.heap.size) := Nat.le_trans (X2.out.trans (X3.out.trans X4.out)).size hg4.size
  clear ho4 hg4 a0 a1
  obtain ⟨z, hz⟩ : ∃ z : Int, ((1 + n * 2 : Nat) : Int) = z := ⟨_, rfl⟩
  have hz0 : ¬ (z < 0) := by omega
  have HZ := Lib.hid hz
  rw [hz]
  clear hz
  have a0 : w4.cell? ⟨p2, 0, none⟩ = some (.int .i64 x.n) := P3.out.cell 0
  have a1 : w4.cell? ⟨p2, 1, none⟩ = some (.slice A1 n c1) := P3.out.cell 1
  go_wp2_with fail
  refine (heldGraph_any x.n A1 n c1 1 _ (Rd.own HO4.out) (by have := HL0.out; omega) (by decide)).mono ?_
  rintro e w5 ⟨rfl, hx5⟩
  rw [HZ.out]
  have X6 := Lib.hid hx5
  clear hx5 a0 a1
  go_wp2_with fail
  refine (impl_ParseGraph_any s hs _ (HPW.out.ext (X5.out.trans X6.out))).mono ?_
  rintro e w6 ⟨⟨v2, x', k', b3, rfl, hO2, hb3, hl2, hR2⟩, hx6⟩
  obtain ⟨rfl, rfl⟩ := same HR0.out hR2
  obtain ⟨A2, c2, rfl, _⟩ := id hO2
  rw [HN.out] at hl2 hO2 ⊢
  have HO2 := Lib.hid hO2
  have X7 := Lib.hid hx6
  clear hO2 hR2 hb3 hl2 hx6
  have P5 : Hid (Blk (w6.alloc (.cells #[.int .i64 x.n, .slice A2 n c2] 24)) w6.heap.size 24 #[.int .i64 x.n, .slice A2 n c2]) := Blk.new _ _ _
  have X8 : Hid (Ext w6 (w6.alloc (.cells #[.int .i64 x.n, .slice A2 n c2] 24))) := (Ext.refl _).alloc _
  go_upto_region 16 with (fail)
  generalize w6.alloc (.cells #[.int .i64 x.n, .slice A2 n c2] 24) = W6 at *
  obtain ⟨p3, hp3⟩ : ∃ p3, w6.heap.size = p3 := ⟨_, rfl⟩
  rw [hp3] at P5 ⊢
  clear hp3
  have XA : Hid (Ext w4 W6) := X6.out.trans (X7.out.trans X8.out)
  have a0 : W6.cell? ⟨p3, 0, none⟩ = some (.int .i64 x.n) := P5.out.cell 0
  have a1 : W6.cell? ⟨p3, 1, none⟩ = some (.slice A2 n c2) := P5.out.cell 1
  have d0 : W6.cell? ⟨p1, 0, none⟩ = some (.int .i64 x.n) := (P4.out.ext XA.out).cell 0
  have d1 : W6.cell? ⟨p1, 1, none⟩ = some (.slice A0 n c0) := (P4.out.ext XA.out).cell 1
  go_wp2_with fail
  refine (eqGraph_any _ _ x x _ (HO2.out.ext X8.out).at_ ((H4.out.up XA.out HS4.out).more (Nat.le_trans HS4.out XA.out.size)) ⟨HXS.out, HXS.out⟩).mono ?_
  rintro e w7 ⟨rfl, hx7⟩
  rw [hse]
  have XB : Hid (Ext w4 w7) := XA.out.trans hx7
  clear hx7 a0 a1 d0 d1
  have a0 : w7.cell? ⟨p2, 0, none⟩ = some (.int .i64 x.n) := (P3.out.ext XB.out).cell 0
  have a1 : w7.cell? ⟨p2, 1, none⟩ = some (.slice A1 n c1) := (P3.out.ext XB.out).cell 1
  go_wp2_with fail
  refine (heldGraph_any x.n A1 n c1 1 _ ((Rd.own HO4.out).ext XB.out) (by have := HL0.out; omega) (by decide)).mono ?_
  rintro e w8 ⟨rfl, hx8⟩
  rw [HZ.out]
  go_wp2
  go_ret
  exact ⟨rfl, X5.out.trans (XB.out.trans hx8)⟩
theorem gT : Tryd.prog.globalNamed "internal/strconv.uint64pow10" = some 5 := by kernel_rfl
theorem gTType : (Tryd.prog.globals[5]?).map (·.type) = some 98 := by kernel_rfl
theorem starE : "*" ++ "errors.errorString" = "*errors.errorString" := by decide
theorem rowE (u : TypeId) (h : Tryd.prog.typeName? 3 u = some "*errors.errorString") : u = 94 :=
  typeName_ptr_named (nm := "errors.errorString") (by rw [starE]; kernel_rfl) (by kernel_rfl) (by decide) u (by rw [starE]; exact h)
theorem pwOf (W : World) (h : laidMetH Tryd.prog Rows.fnExactParseGraphRow.laid W) (hsh : W.ShapedOpen Tryd.prog) : PW W := by
  rw [MakeChecks.laidMetH_plain _ _ _ (by kernel_rfl)] at h
  have h2 := laidMet.tail (laidMet.tail h)
  have h4 := laidMet.tail (laidMet.tail h2)
  have h5 := laidMet.tail h4
  obtain ⟨_, _, hv1, _, _, _⟩ := laid_sentinel h4 (g := 2) (ti := 50) (tp := 94) (te := 96) (ts := 9) (by kernel_rfl) (by kernel_rfl) Tryd.underlying50 rowE Tryd.underlying94 Tryd.underlying96 rfl rfl Tryd.underlying9 (by kernel_rfl) (by kernel_rfl)
  obtain ⟨_, _, hv2, _, _, _⟩ := laid_sentinel h5 (g := 1) (ti := 50) (tp := 94) (te := 96) (ts := 9) (by kernel_rfl) (by kernel_rfl) Tryd.underlying50 rowE Tryd.underlying94 Tryd.underlying96 rfl rfl Tryd.underlying9 (by kernel_rfl) (by kernel_rfl)
  obtain ⟨m, hm⟩ := Tryd.laysM146.s1_3 W hsh
  exact ⟨Lib.tabIs_of_head gT gTType Tryd.underlying98 Tryd.underlying73 (by kernel_rfl) (by kernel_rfl) h2,
    ⟨_, m, by kernel_rfl, hm⟩, errOk_of_var (g := 1) (by kernel_rfl) hv2, errOk_of_var (g := 2) (by kernel_rfl) hv1⟩
set_option maxRecDepth 100000 in
theorem met (os : Os) (args : Array Value) : laidMetH Tryd.prog Rows.fnExactParseGraphRow.laid ((World.laidAll Tryd.prog os Rows.fnExactParseGraphRow.laid).forCall (fun _ _ => 0) ⟨#[], args, []⟩).memory := by
  rw [MakeChecks.laidMetH_plain _ _ _ (by kernel_rfl)]
  exact laidMet_laidAll _ (by kernel_rfl) (by kernel_rfl)
set_option maxRecDepth 100000 in
theorem lifted (os : Os) (started : os.Started) (H : Type) (enc : TypeId × Value → H) :
    ReturnsInHanded {} Tryd.checked os 3 .any (fun w args => (Rows.fnExactParseGraphSpec.pre enc Tryd.prog Tryd.f3 [] false w args ∧ laidMetH Tryd.prog Rows.fnExactParseGraphRow.laid w) ∧ sizedMet enc Tryd.prog Tryd.f3 (OpenSpec.ofChange Rows.fnExactParseGraphSpec) false w args)
      (Rows.fnExactParseGraphSpec.post enc Tryd.prog Tryd.f3 false true false false) := by
  refine handed_and_shaped (C := Tryd.checked) (X := fun w _ => laidMetH Tryd.prog Rows.fnExactParseGraphRow.laid w) (fun _ _ _ hh h => h.of_heap hh) own started (by kernel_rfl) Tryd.func3
    (ChangeSpec.witness_shaped (enc := enc) (C := Tryd.checked) (os := os) (X := fun w _ => laidMetH Tryd.prog Rows.fnExactParseGraphRow.laid w) false (World.laidAll Tryd.prog os Rows.fnExactParseGraphRow.laid) #[.string ⟨#[]⟩] 8 (World.laidAll_os _ _ _) (World.shaped_of_ZipB (by kernel_rfl) (by kernel_rfl)) (by kernel_rfl) (by kernel_rfl) (by kernel_rfl) (met os _)) ?_
  intro W base args ds gs before hval0 hW hL hsh
  have hval : ∀ (j : Nat) t v, Tryd.f3.params[j]? = some t → args[j]? = some v → Value.okWide Tryd.prog W .any base t v := hval0
  have hW' := hW
  obtain ⟨p, q, hA0, hV, rfl, hfz, hnd⟩ := hW
  have hA : DataW.TrodAll enc Tryd.prog W 0 (fun _ => true) true Tryd.f3.params.toList args.toList ds p := hA0
  rw [Tryd.params3] at hA hval
  obtain ⟨v0, vs0, d0, ds0, p0, q0, hargs, rfl, rfl, h0, r0⟩ := trodAll_cons hA
  obtain ⟨rfl, rfl, rfl⟩ := trodAll_nil r0
  obtain rfl : args = #[v0] := by cases args; simp_all
  clear hV
  clear hA0 hval0 hfz hnd
  have hPW := pwOf W hL hsh
  clear hL hsh
  obtain ⟨s, rfl, rfl, rfl, _⟩ := Go.ChangeMaps.open_string Tryd.underlying9 (hval 0 _ v0 rfl rfl) h0
  refine (walk s W hPW).mono fun e W' ⟨he, hx⟩ => ?_
  subst he
  exact ⟨_, rfl, law_post rfl (by rw [Tryd.params3]; decide +kernel) rfl hW' rfl rfl rfl hx⟩

theorem over : Rows.FnExactParseGraphSaid :=
  OpenClaim.holds_of_wide 3 Tryd.f3 rfl rfl rfl rfl rfl rfl rfl ⟨rfl, rfl, rfl, rfl, rfl⟩ rfl rfl rfl rfl rfl (by kernel_rfl) Tryd.func3 (by kernel_rfl)
    (of_decide_eq_true (by kernel_rfl)) (by unfold Func.isWrapper; first | (rw [if_pos (by decide +kernel)]; kernel_rfl) | (rw [if_neg (by decide +kernel)]; exact ⟨rfl, rfl⟩))
    (fun os started H enc _ => lifted os started H enc)

/-- The statement: the tied card. -/
theorem proved : Rows.FnExactParseGraphCardSaid :=
  Claim7.holds_tied_plain_at .later [] [.data, .data, .data, .data, .sentinel, .sentinel, .pinned] true (true, "2190ab110a593f31ffe4ce8b85e182d4aeaf0db3bc0d370880e129999c38f58d") true
    over (fun _ h => by cases h) (by kernel_rfl) (fun _ h => by cases h) fnExactParseGraph_row_tie rfl ⟨rfl, rfl⟩ (by kernel_rfl) rfl
    (fun f fn hf hfn => by
      obtain rfl : f = 3 := Option.some.inj ((show Tryd.prog.funcNamed "loop.example/g00506/laws.FnExactParseGraph" = some 3 by kernel_rfl).symm.trans hf) |>.symm
      obtain rfl : fn = Tryd.f3 := (Option.some.inj (Tryd.func3.symm.trans hfn)).symm
      exact ⟨by kernel_rfl, fun j t ht => by
        rw [Tryd.params3] at ht
        have hm : t ∈ [9] := by simpa using Array.mem_of_getElem? ht
        have hall : ([9].all fun u => !Tryd.prog.wantsStandIn u) = true := by kernel_rfl
        exact (show Tryd.prog.wantsStandIn t = false by simpa using List.all_eq_true.1 hall t hm)⟩)
    (by kernel_rfl)
#print axioms proved

end fnExactParseGraph
end Go.Proofs.YtaiaaomjphnbfabDoor
