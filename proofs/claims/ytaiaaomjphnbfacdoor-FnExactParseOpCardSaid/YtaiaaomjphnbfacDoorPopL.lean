/-
  For every input, the law FnExactParseOp returns true. The tied card: of the row's list the gates' names, the table of powers and the two errors are read; that the library's own length is an int comes of the world's shape.
-/
import Derived.Test.YtaiaaomjphnbfacDoorIpo
import Derived.Test.YtaiaaomjphnbfacDoorLawV
import Derived.Test.YtaiaaomjphnbfacDoorHandS
import Derived.Test.YtaiaaomjphnbfacDoorCards
import Derived.Test.YtaiaaomjphnbfacDoorTie
import Derived.LaidMore
import Derived.MakeChecks
import Derived.Stop.Joined
import Derived.Stop.LaidErr
import Derived.SevenTiedAt
import Derived.Lay
import Derived.LaidOnce
namespace Go.Proofs.YtaiaaomjphnbfacDoor
open Go.ChangeShapes Go.WideShapes Go.ChangeAt Go.RowKit Go.Deep
set_option linter.unusedVariables false
namespace fnExactParseOp
theorem same {s : ByteArray} {o o' : Oq} {k k' : Bool}
    (h : (k = true ∧ vOp o 4 3 = true ∧ otx o = s ∧ ∀ x : Oq, vOp x 4 3 = true → s = otx x → o = x) ∨ (k = false ∧ o = O0 ∧ ∀ x : Oq, vOp x 4 3 = true → s ≠ otx x))
    (h' : (k' = true ∧ vOp o' 4 3 = true ∧ otx o' = s ∧ ∀ x : Oq, vOp x 4 3 = true → s = otx x → o' = x) ∨ (k' = false ∧ o' = O0 ∧ ∀ x : Oq, vOp x 4 3 = true → s ≠ otx x)) : o = o' ∧ k = k' := by
  rcases h with ⟨rfl, hv, ht, hu⟩ | ⟨rfl, rfl, hn⟩
  · rcases h' with ⟨rfl, hv', ht', _⟩ | ⟨rfl, rfl, hn'⟩
    · exact ⟨hu o' hv' ht'.symm, rfl⟩
    · exact absurd ht.symm (hn' o hv)
  · rcases h' with ⟨rfl, hv', ht', _⟩ | ⟨rfl, rfl, hn'⟩
    · exact absurd ht'.symm (hn o' hv')
    · exact ⟨rfl, rfl⟩
set_option maxRecDepth 100000 in
set_option maxHeartbeats 4000000 in
theorem walk (s : ByteArray) (w : World) (hw : PW w) : Calls Tryd.prog 3 #[.string s] w fun e w' => e = .returned (.bool true) ∧ Ext w w' := by
  have HPW := Lib.hid hw
  clear hw
  go_enter Tryd.func3, Tryd.ntmps3
  by_cases hbig : (1048576 : Int) < (s.size : Int)
  · go_wp2
    go_ret
    exact ⟨rfl, Ext.refl _⟩
  have hs : s.size ≤ 1400000 := by omega
  go_wp2_with fail
  refine (spec_ParseOp_any s (by omega) _).mono ?_
  rintro e w1 ⟨⟨o, k, rfl, hr⟩, hx1⟩
  have HR := Lib.hid hr
  have HX1 := Lib.hid hx1
  clear hr hx1
  go_wp2_with fail
  refine (impl_ParseOp_any s hs _ (HPW.out.ext (HX1.out.alloc _))).mono ?_
  rintro e w2 ⟨⟨o', k', rfl, hr⟩, hx2⟩
  obtain ⟨rfl, rfl⟩ := same HR.out hr
  clear hr
  have HB1 : Hid (Blk (w1.alloc (.cells #[.int .i64 o.k, .int .i64 o.g.k, .int .i64 o.g.a, .int .i64 o.g.b, .int .i64 o.g.c, .int .i64 o.q, .int .i64 o.bit, .int .i64 o.cond] 25)) w1.heap.size 25 #[.int .i64 o.k, .int .i64 o.g.k, .int .i64 o.g.a, .int .i64 o.g.b, .int .i64 o.g.c, .int .i64 o.q, .int .i64 o.bit, .int .i64 o.cond]) := Blk.new _ _ _
  have HX2 := Lib.hid hx2
  clear hx2
  go_upto_region 5 with (fail)
  have HB2 : Hid (Blk (w2.alloc (.cells #[.int .i64 o.k, .int .i64 o.g.k, .int .i64 o.g.a, .int .i64 o.g.b, .int .i64 o.g.c, .int .i64 o.q, .int .i64 o.bit, .int .i64 o.cond] 25)) w2.heap.size 25 #[.int .i64 o.k, .int .i64 o.g.k, .int .i64 o.g.a, .int .i64 o.g.b, .int .i64 o.g.c, .int .i64 o.q, .int .i64 o.bit, .int .i64 o.cond]) := Blk.new _ _ _
  have HB3 : Hid (Blk (w2.alloc (.cells #[.int .i64 o.k, .int .i64 o.g.k, .int .i64 o.g.a, .int .i64 o.g.b, .int .i64 o.g.c, .int .i64 o.q, .int .i64 o.bit, .int .i64 o.cond] 25)) w1.heap.size 25 #[.int .i64 o.k, .int .i64 o.g.k, .int .i64 o.g.a, .int .i64 o.g.b, .int .i64 o.g.c, .int .i64 o.q, .int .i64 o.bit, .int .i64 o.cond]) := (HB1.out.ext HX2.out).alloc _
  have HX3 : Hid (Ext w (w2.alloc (.cells #[.int .i64 o.k, .int .i64 o.g.k, .int .i64 o.g.a, .int .i64 o.g.b, .int .i64 o.g.c, .int .i64 o.q, .int .i64 o.bit, .int .i64 o.cond] 25))) := Ext.alloc (HX1.out.trans (Ext.trans ((Ext.refl w1).alloc _) HX2.out)) _
  generalize w2.alloc (.cells #[.int .i64 o.k, .int .i64 o.g.k, .int .i64 o.g.a, .int .i64 o.g.b, .int .i64 o.g.c, .int .i64 o.q, .int .i64 o.bit, .int .i64 o.cond] 25) = w3 at *
  generalize w2.heap.size = g2 at *
  generalize w1.heap.size = g1 at *
  clear HB1 HX2 HX1
  obtain ⟨⟨a0, a1, a2, a3, a4, a5, a6, a7⟩, _⟩ := cells8 HB2.out
  obtain ⟨⟨b0, b1, b2, b3, b4, b5, b6, b7⟩, _⟩ := cells8 HB3.out
  have hse := eqO_self o
  go_wp2_with (go_at_call 6; refine (eqOp_any o o _).mono ?_; rintro e w9 ⟨rfl, hx9⟩; rw [hse])
  go_ret
  exact ⟨rfl, HX3.out.trans hx9⟩
theorem gT : Tryd.prog.globalNamed "internal/strconv.uint64pow10" = some 6 := by kernel_rfl
theorem gTType : (Tryd.prog.globals[6]?).map (·.type) = some 108 := by kernel_rfl
theorem starE : "*" ++ "errors.errorString" = "*errors.errorString" := by decide
theorem rowE (u : TypeId) (h : Tryd.prog.typeName? 3 u = some "*errors.errorString") : u = 104 :=
  typeName_ptr_named (nm := "errors.errorString") (by rw [starE]; kernel_rfl) (by kernel_rfl) (by decide) u (by rw [starE]; exact h)
theorem pwOf (W : World) (h : laidMetH Tryd.prog Rows.fnExactParseOpRow.laid W) (hsh : W.ShapedOpen Tryd.prog) : PW W := by
  rw [MakeChecks.laidMetH_plain _ _ _ (by kernel_rfl)] at h
  have h2 := laidMet.tail (laidMet.tail h)
  have h4 := laidMet.tail (laidMet.tail h2)
  have h5 := laidMet.tail h4
  obtain ⟨_, _, hv1, _, _, _⟩ := laid_sentinel h4 (g := 3) (ti := 56) (tp := 104) (te := 106) (ts := 9) (by kernel_rfl) (by kernel_rfl) Tryd.underlying56 rowE Tryd.underlying104 Tryd.underlying106 rfl rfl Tryd.underlying9 (by kernel_rfl) (by kernel_rfl)
  obtain ⟨_, _, hv2, _, _, _⟩ := laid_sentinel h5 (g := 2) (ti := 56) (tp := 104) (te := 106) (ts := 9) (by kernel_rfl) (by kernel_rfl) Tryd.underlying56 rowE Tryd.underlying104 Tryd.underlying106 rfl rfl Tryd.underlying9 (by kernel_rfl) (by kernel_rfl)
  obtain ⟨m, hm⟩ := Tryd.laysM146.s1_3 W hsh
  exact ⟨gn_of_reads (Lib.laidMet.reads h (List.mem_cons_of_mem _ (List.mem_cons_of_mem _ (List.mem_cons_of_mem _ (List.mem_cons_of_mem _ (List.mem_cons_of_mem _ (List.mem_cons_of_mem _ List.mem_cons_self))))))),
    Lib.tabIs_of_head gT gTType Tryd.underlying108 Tryd.underlying84 (by kernel_rfl) (by kernel_rfl) h2,
    ⟨_, m, by kernel_rfl, hm⟩, errOk_of_var (g := 2) (by kernel_rfl) hv2, errOk_of_var (g := 3) (by kernel_rfl) hv1⟩
set_option maxRecDepth 100000 in
theorem met (os : Os) (args : Array Value) : laidMetH Tryd.prog Rows.fnExactParseOpRow.laid ((World.laidAll Tryd.prog os Rows.fnExactParseOpRow.laid).forCall (fun _ _ => 0) ⟨#[], args, []⟩).memory := by
  rw [MakeChecks.laidMetH_plain _ _ _ (by kernel_rfl)]
  exact laidMet_laidAll _ (by kernel_rfl) (by kernel_rfl)
set_option maxRecDepth 100000 in
theorem lifted (os : Os) (started : os.Started) (H : Type) (enc : TypeId × Value → H) :
    ReturnsInHanded {} Tryd.checked os 3 .any (fun w args => (Rows.fnExactParseOpSpec.pre enc Tryd.prog Tryd.f3 [] false w args ∧ laidMetH Tryd.prog Rows.fnExactParseOpRow.laid w) ∧ sizedMet enc Tryd.prog Tryd.f3 (OpenSpec.ofChange Rows.fnExactParseOpSpec) false w args)
      (Rows.fnExactParseOpSpec.post enc Tryd.prog Tryd.f3 false true false false) := by
  refine handed_and_shaped (C := Tryd.checked) (X := fun w _ => laidMetH Tryd.prog Rows.fnExactParseOpRow.laid w) (fun _ _ _ hh h => h.of_heap hh) own started (by kernel_rfl) Tryd.func3
    (ChangeSpec.witness_shaped (enc := enc) (C := Tryd.checked) (os := os) (X := fun w _ => laidMetH Tryd.prog Rows.fnExactParseOpRow.laid w) false (World.laidAll Tryd.prog os Rows.fnExactParseOpRow.laid) #[.string ⟨#[]⟩] 8 (World.laidAll_os _ _ _) (World.shaped_of_ZipB (by kernel_rfl) (by kernel_rfl)) (by kernel_rfl) (by kernel_rfl) (by kernel_rfl) (met os _)) ?_
  intro W base args ds gs before hval0 hW hL hsh
  have hval : ∀ (j : Nat) t v, Tryd.f3.params[j]? = some t → args[j]? = some v → Value.okWide Tryd.prog W .any base t v := hval0
  have hW' := hW
  obtain ⟨p, q, hA0, hV, rfl, hfz, hnd⟩ := hW
  have hA : DataW.TrodAll enc Tryd.prog W 0 (fun _ => true) true Tryd.f3.params.toList args.toList ds p := hA0
  rw [Tryd.params3] at hA hval
  obtain ⟨v0, vs0, d0, ds0, p0, q0, hargs, rfl, rfl, h0, r0⟩ := trodAll_cons hA
  obtain ⟨rfl, rfl, rfl⟩ := trodAll_nil r0
  obtain rfl : args = #[v0] := by cases args; simp_all
  obtain ⟨_, _, _, _, gd, _, rfl, _⟩ := trodVars_one hV
  clear hV
  clear hA0 hval0 hfz hnd
  have hPW := pwOf W hL hsh
  clear hL hsh
  obtain ⟨s, rfl, rfl, rfl, _⟩ := Go.ChangeMaps.open_string Tryd.underlying9 (hval 0 _ v0 rfl rfl) h0
  refine (walk s W hPW).mono fun e W' ⟨he, hx⟩ => ?_
  subst he
  exact ⟨_, rfl, law_postV (by kernel_rfl) (by rw [Tryd.params3]; decide +kernel) rfl hW' rfl rfl rfl hx⟩

theorem over : Rows.FnExactParseOpSaid :=
  OpenClaim.holds_of_wide 3 Tryd.f3 rfl rfl rfl rfl rfl rfl rfl ⟨rfl, rfl, rfl, rfl, rfl⟩ rfl rfl rfl rfl rfl (by kernel_rfl) Tryd.func3 (by kernel_rfl)
    (of_decide_eq_true (by kernel_rfl)) (by unfold Func.isWrapper; first | (rw [if_pos (by decide +kernel)]; kernel_rfl) | (rw [if_neg (by decide +kernel)]; exact ⟨rfl, rfl⟩))
    (fun os started H enc _ => lifted os started H enc)

/-- The statement: the tied card. -/
theorem proved : Rows.FnExactParseOpCardSaid :=
  Claim7.holds_tied_plain_at .later [] [.data, .data, .data, .data, .sentinel, .sentinel, .data, .pinned] true (true, "ae2705f623cc6a8530260836053dd788efbe435a2de45d7ee80924f21cc50b90") true
    over (fun _ h => by cases h) (by kernel_rfl) (fun _ h => by cases h) fnExactParseOp_row_tie rfl ⟨rfl, rfl⟩ (by kernel_rfl) rfl
    (fun f fn hf hfn => by
      obtain rfl : f = 3 := Option.some.inj ((show Tryd.prog.funcNamed "loop.example/g00506/laws.FnExactParseOp" = some 3 by kernel_rfl).symm.trans hf) |>.symm
      obtain rfl : fn = Tryd.f3 := (Option.some.inj (Tryd.func3.symm.trans hfn)).symm
      exact ⟨by kernel_rfl, fun j t ht => by
        rw [Tryd.params3] at ht
        have hm : t ∈ [9] := by simpa using Array.mem_of_getElem? ht
        have hall : ([9].all fun u => !Tryd.prog.wantsStandIn u) = true := by kernel_rfl
        exact (show Tryd.prog.wantsStandIn t = false by simpa using List.all_eq_true.1 hall t hm)⟩)
    (by kernel_rfl)
#print axioms proved

end fnExactParseOp
end Go.Proofs.YtaiaaomjphnbfacDoor
