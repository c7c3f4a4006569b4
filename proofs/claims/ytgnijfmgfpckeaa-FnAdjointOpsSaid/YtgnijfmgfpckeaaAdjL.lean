/-
  For every code, the law FnAdjointOps returns true: taking the adjoint is an involution, and a routine followed by its adjoint is the identity. No condition.
-/
import Derived.Test.YtgnijfmgfpckeaaAdj
import Derived.Test.YtgnijfmgfpckeaaApt
import Derived.Test.YtgnijfmgfpckeaaDrawL
import Derived.Test.YtgnijfmgfpckeaaOpg
import Derived.Test.YtgnijfmgfpckeaaCmq
namespace Go.Proofs.Ytgnijfmgfpckeaa
open Go.ChangeShapes Go.WideShapes Go.ChangeAt Go.RowKit Go.Deep
set_option linter.unusedVariables false
set_option linter.unusedSimpArgs false
namespace fnAdjointOps
theorem opGates_adj (xs : List Oq) (h : ∀ x ∈ xs, (x.k == 1) = true) : opGates (adjO xs) = adjG (xs.map Oq.g) := by
  unfold adjO adjG opGates
  rw [← List.map_reverse, List.map_map]
  have hf : (xs.reverse.map invO).filter (fun o => o.k == 1) = xs.reverse.map invO := by
    rw [List.filter_eq_self]
    intro o ho
    obtain ⟨x, hx, rfl⟩ := List.mem_map.1 ho
    have hk := h x (List.mem_reverse.1 hx)
    rw [invO_1 hk]
    exact hk
  rw [hf, List.map_map]
  apply List.map_congr_left
  intro x hx
  have hk := h x (List.mem_reverse.1 hx)
  show (invO x).g = invG x.g
  rw [invO_1 hk]
theorem pow20 {m : Nat} (h : m ≤ 20) : (1 : Int) * 2 ^ m * 4 ≤ 1073741824 := by
  have h1 : 2 ^ m ≤ 2 ^ 20 := Nat.pow_le_pow_right (by decide) h
  have h2 : ((2 : Int) ^ m) = ((2 ^ m : Nat) : Int) := by rw [Int.natCast_pow]; rfl
  rw [h2]
  have h3 : ((2 ^ m : Nat) : Int) ≤ ((2 ^ 20 : Nat) : Int) := by exact_mod_cast h1
  have h4 : ((2 ^ 20 : Nat) : Int) = 1048576 := by decide
  omega
theorem apart_adj (A : Option Addr) (ca N : Nat) (gs : List Gt) (w : World) (hN : N = (gs ++ adjG gs).length) (h : Rd w w.heap.size 4 A N (gcells (gs ++ adjG gs))) (hg : ∀ g ∈ gs, vg g 3 = true) (hl : gs.length ≤ 20) :
    Calls Try.prog 10 #[.slice A N ca, .slice none 0 0, .int .i64 3] w fun e w' => e = .returned (.tuple #[.int .i64 0, .bool true]) ∧ Ext w w' := by
  subst hN
  have hlen : (gs ++ adjG gs).length ≤ 1000000 := by rw [List.length_append]; unfold adjG; rw [List.length_map, List.length_reverse]; omega
  exact apart_same (n := 3) (by omega) (by omega) A none ca 0 (gs ++ adjG gs) [] (basis 3) w h ⟨rfl, fun h => absurd h (by decide)⟩
    (fun i hi => actsL_of (by omega) (by omega) (basis_St 3 i).len (fun x hx => ((basis_St 3 i).ok x hx).1) hlen (there_back gs 0 1 (basis 3 i) hg (basis_St 3 i) (by omega) (by decide) (pow20 hl)) A ca)
    (fun i hi => actsL_of (by omega) (by omega) (basis_St 3 i).len (fun x hx => ((basis_St 3 i).ok x hx).1) (by decide) (Chain.nil _ _) none 0)
    (fun j hj => ⟨(basis_St 3 j).len, fun x hx => ((basis_St 3 j).ok x hx).1⟩)
set_option maxRecDepth 100000 in
set_option maxHeartbeats 4000000 in
theorem walk (A : Option Addr) (n c : Nat) (bs : List Int) (w : World) (h : Rd w w.heap.size 1 A n (u8cs bs)) (hm : n ≤ maxLen) (hb : ∀ g ∈ bs, 0 ≤ g ∧ g ≤ 255) :
    Calls Try.prog 3 #[.slice A n c] w fun e w' => e = .returned (.bool true) ∧ Ext w w' := by
  go_enter Try.func3, Try.ntmps3
  go_wp2_with fail
  refine (big_any A n c _ hm).mono ?_
  rintro e w0 ⟨rfl, rfl⟩
  by_cases hbig : 1048576 < n
  · have hd : decide (1048576 < n) = true := by simpa using hbig
    go_wp2
    go_ret
    exact ⟨rfl, Ext.refl _⟩
  have hd : decide (1048576 < n) = false := by simpa using hbig
  go_wp2_with fail
  refine (DrawAdjointOps_any A n c bs _ h (by omega)).mono ?_
  rintro e w1 ⟨L, len, cap, xs, rfl, hlen, hr1, hx1⟩
  have HLG := Lib.hid (hr1.len Oq.cells_len (by omega))
  have HLEN := Lib.hid hlen
  clear hd hbig
  go_wp2_with fail
  refine (impl_AdjointOps_any L len cap xs _ hr1 (by omega)).mono ?_
  rintro e w2 ⟨v2, rfl, ho2, hy2⟩
  obtain ⟨A2, c2, rfl, k2⟩ := own_slice ho2
  have hx2 := hx1.trans hy2
  have hr2 := hr1.ext hy2
  clear ho2 hr1 hx1 hy2
  have HAL : Hid ((adjO xs).length = len) := (adjO_len xs).trans HLG.out
  have HAA := Lib.hid (adjO_adjO xs)
  go_wp2_with fail
  refine (spec_AdjointOps_any L len cap xs _ hr2 (by omega)).mono ?_
  rintro e w3 ⟨v3, rfl, ho3, hy3⟩
  obtain ⟨A3, c3, rfl, k3⟩ := own_slice ho3
  have hx3 := hx2.trans hy3
  have hr3 := hr2.ext hy3
  replace k2 := k2.ext hy3
  clear ho3 hr2 hx2 hy3
  go_wp2_with fail
  refine (sameOps_any A2 A3 _ _ c2 c3 (adjO xs) (adjO xs) _ k2 k3 (by omega) (by omega)).mono ?_
  rintro e w4 ⟨rfl, hy4⟩
  rw [eqL_self _ eqO_self]
  have hx4 := hx3.trans hy4
  have hr4 := hr3.ext hy4
  replace k2 := k2.ext hy4
  clear k3 hr3 hx3 hy4
  go_wp2_with fail
  refine (impl_AdjointOps_any A2 len c2 (adjO xs) _ k2 (by omega)).mono ?_
  rintro e w5 ⟨v5, rfl, ho5, hy5⟩
  obtain ⟨A5, c5, rfl, k5⟩ := own_slice ho5
  have hx5 := hx4.trans hy5
  have hr5 := hr4.ext hy5
  replace k2 := k2.ext hy5
  rw [HAA.out] at k5
  clear ho5 hr4 hx4 hy5
  go_wp2_with fail
  refine (sameOps_any A5 L _ _ c5 cap xs xs _ k5 hr5 (by omega) (by omega)).mono ?_
  rintro e w6 ⟨rfl, hy6⟩
  rw [eqL_self _ eqO_self]
  have HX6 := Lib.hid (hx5.trans hy6)
  have HR6 := Lib.hid (hr5.ext hy6)
  have HK6 := Lib.hid (k2.ext hy6)
  clear k5 k2 hr5 hx5 hy6 hlen
  go_upto_region 8 with (fail)
  have HD0 : Hid ((w6.alloc (.cells #[] 30)).ownsRow w6.heap.size 30 4 (.slice (some ⟨w6.heap.size, 0, none⟩) 0 0) 0 (gcells ((xs.take 0).map Oq.g)) ∧ Ext w6 (w6.alloc (.cells #[] 30))) := ⟨own_lit (Ext.refl _) _ _ 4 0 #[] _ rfl rfl rfl (by omega), (Ext.refl _).alloc _⟩
  generalize w6.alloc (.cells #[] 30) = w7 at *
  go_wp2
  go_loopw [5, 6] (fun rv iv wr => ∃ (k : Nat) (A' : Option Addr) (c' : Nat), rv = .slice A' k c' ∧ iv = .int .i64 k ∧ k ≤ len ∧ Hid (wr.ownsRow w6.heap.size 30 4 (.slice A' k c') k (gcells ((xs.take k).map Oq.g)) ∧ Ext w6 wr) ∧ Hid (∀ x ∈ xs.take k, (x.k == 1) = true ∧ vg x.g 3 = true)) (fun _ i _ => len - (intOf i).toNat)
  case atStart => exact ⟨0, _, 0, rfl, rfl, Nat.zero_le _, HD0, by intro x hx; simp at hx⟩
  case round =>
    obtain ⟨k, A', c', rfl, rfl, hk, HD, HV⟩ := hrel
    clear HD0
    by_cases hlt : k < len
    · have HLT : Hid (k < len ∧ len ≤ 126) := ⟨hlt, HLEN.out⟩
      have h126 := HLEN.out
      have hk1 : IntKind.i64.wrap ((k : Int) + 1) = ((k + 1 : Nat) : Int) := by rw [IntWalk.i64_in _ (by omega)]; rfl
      have hk2 : wrap64 ((k : Int) + 1) = ((k + 1 : Nat) : Int) := by unfold wrap64; omega
      obtain ⟨b, o, x, rfl, -, hx, x0, x1, x2, x3, x4, x5, x6, x7⟩ := op_at (HR6.out.ext HD.out.2) hlt
      have HG := Lib.hid hx
      clear hx h126
      cases hk0 : (x.k == 1)
      · have hkn : (x.k != 1) = true := by rw [bne, hk0]; rfl
        go_wp2
        go_ret
        exact ⟨rfl, HX6.out.trans HD.out.2⟩
      · have hkn : (x.k != 1) = false := by rw [bne, hk0]; rfl
        have HVG : Hid (∀ w', Calls Try.prog 9 #[x.g.val, .int .i64 3] w' fun e w'' => e = .returned (.bool (vg x.g 3)) ∧ Ext w' w'') := fun w' => spec_IsValidGate_any x.g 3 w'
        obtain ⟨vb, hvb⟩ : ∃ vb, vg x.g 3 = vb := ⟨_, rfl⟩
        rw [hvb] at HVG
        have HVB := Lib.hid hvb
        have HK0 := Lib.hid hk0
        clear hvb hk0
        go_wp2_with fail
        refine (HVG.out _).mono ?_
        rintro e w8 ⟨rfl, hx8⟩
        have HR8 := (HR6.out.ext (HD.out.2.trans hx8))
        have HD8 : Hid (w8.ownsRow w6.heap.size 30 4 (.slice A' k c') k (gcells ((xs.take k).map Oq.g)) ∧ Ext w6 w8) := ⟨own_ext HD.out.1 hx8, HD.out.2.trans hx8⟩
        clear x0 x1 x2 x3 x4 x5 x6 x7 hx8
        cases vb
        · go_wp2
          go_ret
          exact ⟨rfl, HX6.out.trans HD8.out.2⟩
        · obtain ⟨b', o', x', he, -, hx', x0, x1, x2, x3, x4, x5, x6, x7⟩ := op_at HR8 HLT.out.1
          simp only [Option.some.injEq, Addr.mk.injEq] at he
          obtain ⟨rfl, rfl, -⟩ := he
          rw [HG.out] at hx'
          obtain rfl := Option.some.inj hx'
          clear HR8
          go_wp2_with (at_builtin; refine appGateS (w0 := w6) rfl _ _ rfl _ k ((xs.take k).map Oq.g) rfl (own_ext HD8.out.1 ((Ext.refl _).alloc _)) (HD8.out.2.alloc _) _ 1 1 [x.g] rfl (rd_new _ _ _ 4 _ (by simp [Gt.cells]) (by simp [Gt.cells])) (by have := HLT.out; omega) ?_; intro v' w9 g1 g2 g3 g4)
          obtain ⟨A9, c9, rfl, _⟩ := own_slice g1
          have HD9 : Hid (w9.ownsRow w6.heap.size 30 4 (.slice A9 (k + 1) c9) (k + 1) (gcells ((xs.take (k + 1)).map Oq.g)) ∧ Ext w6 w9) := ⟨by rw [List.take_add_one, HG.out, List.map_append]; exact g1, g2⟩
          have HV9 : Hid (∀ y ∈ xs.take (k + 1), (y.k == 1) = true ∧ vg y.g 3 = true) := by
            intro y hy
            rw [List.take_add_one, HG.out, List.mem_append] at hy
            rcases hy with hy | hy
            · exact HV.out y hy
            · obtain rfl : y = x := by simpa using hy
              exact ⟨HK0.out, HVB.out⟩
          clear g1 g2 g3 g4
          go_roundw
          case rel => exact ⟨k + 1, A9, c9, rfl, by first | rfl | rw [hk1] | rw [hk2], by have := HLT.out; omega, HD9, HV9⟩
          case measure => simp [intOf, hk2]; have := HLT.out; omega
    · have hkl : k = len := by omega
      have HT : Hid (xs.take k = xs) := List.take_of_length_le (by rw [HLG.out]; omega)
      have HV2 := Lib.hid HV.out
      have HD2 := Lib.hid HD.out
      unfold Hid at HV2 HD2
      rw [HT.out] at HV2 HD2
      replace HV2 := Lib.hid HV2
      replace HD2 := Lib.hid HD2
      clear HT HV HD hk hlt
      subst hkl
      have HGL : Hid ((xs.map Oq.g).length = k) := (List.length_map _).trans HLG.out
      by_cases h20 : 20 < k
      · have h20' : (20 : Int) < (k : Int) := by omega
        have h21 : (k : Int) > 20 := h20'
        go_wp2
        go_ret
        exact ⟨rfl, HX6.out.trans HD2.out.2⟩
      · have h20' : ¬ (20 : Int) < (k : Int) := by omega
        have h21 : ¬ (k : Int) > 20 := h20'
        have HOG : Hid (opGates (adjO xs) = adjG (xs.map Oq.g)) := opGates_adj xs (fun x hx => (HV2.out x hx).1)
        have H20 : Hid (k ≤ 20) := by show k ≤ 20; omega
        have HOL : Hid ((adjG (xs.map Oq.g)).length = k) := by show (adjG (xs.map Oq.g)).length = k; unfold adjG; rw [List.length_map, List.length_reverse]; exact HGL.out
        go_wp2_with fail
        refine (impl_OpGates_any A2 _ c2 (adjO xs) _ (HK6.out.ext HD2.out.2) (by omega)).mono ?_
        rintro e w8 ⟨v8, rfl, ho8, hy8⟩
        rw [HOG.out] at ho8
        rw [HOL.out] at ho8
        obtain ⟨A8, c8, rfl, k8⟩ := own_slice ho8
        have HK8 := Lib.hid k8
        have HD8 : Hid (w8.ownsRow w6.heap.size 30 4 (.slice A' k c') k (gcells (xs.map Oq.g)) ∧ Ext w6 w8) := ⟨own_ext HD2.out.1 hy8, HD2.out.2.trans hy8⟩
        clear ho8 k8 hy8 h20 h20' h21
        go_wp2_with (at_builtin; refine appGateS (w0 := w6) rfl _ _ rfl _ k (xs.map Oq.g) rfl HD8.out.1 HD8.out.2 A8 k c8 (adjG (xs.map Oq.g)) rfl HK8.out (by have := H20.out; omega) ?_; intro v' w9 g1 g2 g3 g4)
        obtain ⟨A9, c9, rfl, k9⟩ := own_slice g1
        have HC : Hid (Calls Try.prog 10 #[.slice A9 (k + k) c9, .slice none 0 0, .int .i64 3] w9 fun e w' => e = .returned (.tuple #[.int .i64 0, .bool true]) ∧ Ext w9 w') := apart_adj A9 c9 (k + k) (xs.map Oq.g) w9 (by rw [List.length_append, HGL.out, HOL.out]) k9 (fun g hg => by
          obtain ⟨x, hx, rfl⟩ := List.mem_map.1 hg
          exact (HV2.out x hx).2) (by rw [HGL.out]; exact H20.out)
        have HX9 := Lib.hid g2
        clear g1 g2 g3 g4 k9
        go_wp2_with fail
        refine HC.out.mono ?_
        rintro e w10 ⟨rfl, hx10⟩
        go_wp2
        go_ret
        exact ⟨rfl, (HX6.out.trans HX9.out).trans hx10⟩
set_option maxRecDepth 100000 in
theorem lifted (os : Os) (started : os.Started) (H : Type) (enc : TypeId × Value → H) :
    ReturnsInHanded {} Try.checked os 3 .any (Rows.fnAdjointOpsSpec.pre6 enc Try.prog Try.f3 Rows.fnAdjointOpsRow.domain false) (Rows.fnAdjointOpsSpec.post enc Try.prog Try.f3 false true false false) := by
  refine returnsInHanded_of_change (C := Try.checked) own started (by kernel_rfl) Try.func3
    (ChangeSpec.witness6 (enc := enc) (C := Try.checked) false ⟨#[], #[.slice none 0 0], []⟩ 8 (by kernel_rfl) (by kernel_rfl) (by kernel_rfl) (by kernel_rfl)) ?_
  intro W base args ds gs before hval0 hW hcnd _
  have hval : ∀ (j : Nat) t v, Try.f3.params[j]? = some t → args[j]? = some v → Value.okWide Try.prog W .any base t v := hval0
  have hW' := hW
  obtain ⟨p, q, hA0, hV, rfl, hfz, hnd⟩ := hW
  have hA : DataW.TrodAll enc Try.prog W 0 (fun _ => true) true Try.f3.params.toList args.toList ds p := hA0
  rw [Try.params3] at hA hval
  obtain ⟨v0, vs0, d0, ds0, p0, q0, hargs, rfl, rfl, h0, r0⟩ := trodAll_cons hA
  obtain ⟨rfl, rfl, rfl⟩ := trodAll_nil r0
  obtain rfl : args = #[v0] := by cases args; simp_all
  clear hA0 hval0 hfz hnd hV hcnd
  obtain ⟨A, n, c, bs, rfl, hnc0, hcm0, hr0, hok0⟩ := open_lbytes (hval 0 _ v0 rfl rfl) h0
  refine (walk A n c bs W hr0 (by omega) hok0).mono fun e W' ⟨he, hx⟩ => ?_
  subst he
  exact ⟨_, rfl, law_post rfl (by rw [Try.params3]; decide +kernel) rfl hW' rfl rfl rfl hx⟩

theorem over : Rows.fnAdjointOpsRow.holds Try.pinned (OpenSpec.ofChange Rows.fnAdjointOpsSpec) :=
  OpenClaim.holds_of_wide 3 Try.f3 rfl rfl rfl rfl rfl rfl rfl ⟨rfl, rfl, rfl, rfl, rfl⟩ rfl rfl rfl rfl rfl (by kernel_rfl) Try.func3 (by kernel_rfl)
    (of_decide_eq_true (by kernel_rfl)) (by unfold Func.isWrapper; first | (rw [if_pos (by decide +kernel)]; kernel_rfl) | (rw [if_neg (by decide +kernel)]; exact ⟨rfl, rfl⟩))
    (fun os started H enc _ => lifted os started H enc)

/-- The statement. -/
theorem proved : Rows.FnAdjointOpsSaid := over
#print axioms proved

end fnAdjointOps
end Go.Proofs.Ytgnijfmgfpckeaa
