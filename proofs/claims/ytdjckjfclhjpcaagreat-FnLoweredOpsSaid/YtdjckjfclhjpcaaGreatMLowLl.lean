/-
 For every code, the law FnLoweredOps returns true: decomposing the operations of a drawn routine preserves the simulation. No condition.
-/
import Derived.Test.YtdjckjfclhjpcaaGreatMLowLk
import Derived.Test.YtdjckjfclhjpcaaGreatMLowLi
import Derived.Test.YtdjckjfclhjpcaaGreatBase
import Derived.Test.YtdjckjfclhjpcaaGreatCmp
import Derived.Test.YtdjckjfclhjpcaaGreatMLowLj
/-
 Helper text (no claim of its own): one step of the simulation, by the reference. Printed by gen_sid.py.
-/
namespace Go.Proofs.YtdjckjfclhjpcaaGreat
open Go.ChangeShapes Go.WideShapes Go.ChangeAt Go.RowKit Go.Deep
set_option linter.unusedVariables false
set_option linter.unusedSimpArgs false
theorem z_at {w : World} {B i k : Nat} {A : Option Addr} {zs : List Zb} (h : Rd w B 2 A zs.length (zcells k zs)) (hi : i < zs.length) :
  ∃ b o z, A = some ⟨b, o, none⟩ ∧ b < B ∧ zs[i]? = some z ∧ w.cell? ⟨b, o + i * 2, none⟩ = some (.int .i64 z.1.bits) ∧ w.cell? ⟨b, o + i * 2 + 1, none⟩ = some (.slice z.2.1 k z.2.2) := by
 obtain ⟨b, o, z, rfl, hb, hz, hc⟩ := elem_at (zc_len k) (by omega) h hi
 exact ⟨b, o, z, rfl, hb, hz, hc 0 _ rfl, hc 1 _ rfl⟩
/-- The block's type. -/
def PBr (w : World) (A : Option Addr) (n : Nat) : Prop := 0 < n → ∀ b o, A = some ⟨b, o, none⟩ → ∃ cs, Blk w b 47 cs
/-- A list of branches in memory. -/
def ZR (k l : Nat) (L' : List Brn) (v : Value) (w' : World) : Prop := ∃ (A' : Option Addr) (c' : Nat) (zs' : List Zb), v = .slice A' zs'.length c' ∧ zs'.map (·.1) = L' ∧ Rd w' w'.heap.size 2 A' zs'.length (zcells k zs') ∧ ZX w' k l zs' ∧ PBr w' A' zs'.length
/-- A list of branches being made. -/
structure ZO (w W : World) (k l : Nat) (A : Option Addr) (c : Nat) (ys : List Zb) : Prop where
 o : W.ownsRow w.heap.size 47 2 (.slice A ys.length c) ys.length (zcells k ys)
 z : ZX W k l ys
 x : Ext w W
theorem ZO.ext {w W W' : World} {k l c : Nat} {A : Option Addr} {ys : List Zb} (h : ZO w W k l A c ys) (hx : Ext W W') : ZO w W' k l A c ys := ⟨own_ext h.o hx, h.z.kt (KT.ext hx), h.x.trans hx⟩
theorem ZO.app {w W W' : World} {k l c m c' : Nat} {A A' : Option Addr} {ys xs : List Zb} (h : ZO w W k l A c ys) (hx : ZX W k l xs) (g1 : W'.ownsRow w.heap.size 47 2 (.slice A' (ys.length + m) c') (ys.length + m) (zcells k ys ++ zcells k xs)) (g2 : Ext w W') (g3 : W.grownBy W' (Value.slice A ys.length c).ownBlock) (hm : m = xs.length) :
  ZO w W' k l A' c' (ys ++ xs) := by
 subst hm
 refine ⟨?_, (h.z.app hx).kt (KT.grown h.o (by decide) g3), g2⟩
 unfold zcells
 rw [List.length_append, List.flatMap_append]
 exact g1
theorem ZO.out {w W : World} {k l c : Nat} {A : Option Addr} {ys : List Zb} (h : ZO w W k l A c ys) {L : List Brn} (hL : ys.map (·.1) = L) : ZR k l L (.slice A ys.length c) W := ⟨A, c, ys, rfl, hL, Rd.own h.o, h.z, fun h0 b o e => own_block h.o (g := b) (by rw [e]; rfl)⟩
theorem take_map {zs : List Zb} {L : List Brn} (hz : zs.map (·.1) = L) {i : Nat} {z : Zb} (h : zs[i]? = some z) : L[i]? = some z.1 := by rw [← hz, List.getElem?_map, h]; rfl
theorem z_len {zs : List Zb} {L : List Brn} (hz : zs.map (·.1) = L) : zs.length = L.length := by rw [← hz, List.length_map]
theorem take_snoc' {α : Type} {l : List α} {i : Nat} {x : α} (h : l[i]? = some x) : l.take (i + 1) = l.take i ++ [x] := by rw [List.take_add_one, h]; rfl
theorem mea_len (k q bit : Nat) (b : Brn) : (mea k q bit b).length ≤ 2 := by rw [← meaK_2]; exact meaK_len k q bit b 2
theorem flatMap_len {L : List Brn} {f : Brn → List Brn} {m : Nat} (h : ∀ b, (f b).length ≤ m) : (L.flatMap f).length ≤ m * L.length := by
 induction L with
 | nil => exact Nat.zero_le _
 | cons a l ih =>
  rw [List.flatMap_cons, List.length_append, List.length_cons, Nat.mul_succ]
  have := h a
  omega
set_option maxRecDepth 100000 in
set_option maxHeartbeats 8000000 in
theorem l23Step_n {l k : Nat} (o : Oq) (h1 : (o.k == 1) = false) (h2 : (o.k == 2) = false) (L : List Brn) (hL : L.length ≤ 1000) (A : Option Addr) (c : Nat) (zs : List Zb) (hz : zs.map (·.1) = L) (w : World) (h : Rd w w.heap.size 2 A zs.length (zcells k zs)) (hx : ZX w k l zs) :
  Calls Tryz.prog 30 #[.slice A zs.length c, o.val] w fun e w' => (∃ v, e = .returned (.tuple #[v, .bool true]) ∧ ZR k l L v w') ∧ Ext w w' := by
 have HZX := Lib.hid hx
 have HRD := Lib.hid h
 have HZL := Lib.hid hz
 have HLL : Hid (zs.length ≤ 1000) := by unfold Hid; rw [z_len hz]; exact hL
 clear h hx hz hL
 obtain ⟨m, hm⟩ : ∃ m, zs.length = m := ⟨_, rfl⟩
 have HM := Lib.hid hm
 have hm1000 : m ≤ 1000 := by rw [← hm]; exact HLL.out
 have HRM : Hid (∀ (i : Nat) (W : World), i < m → Ext w W → ∃ b o z, A = some ⟨b, o, none⟩ ∧ zs[i]? = some z ∧ TX W z.2.1 k l z.1.r ∧ ∀ w', Ext W w' → w'.cell? ⟨b, o + i * 2, none⟩ = some (.int .i64 z.1.bits) ∧ w'.cell? ⟨b, o + i * 2 + 1, none⟩ = some (.slice z.2.1 k z.2.2)) := fun i W hi hx => by
  obtain ⟨b, o, z, e, hb, hz, h1, h2⟩ := z_at HRD.out (by rw [HM.out]; exact hi)
  exact ⟨b, o, z, e, hz, (HZX.out z (List.mem_of_getElem? hz)).kt (KT.ext hx), fun w' hx' => ⟨((hx.trans hx').cell (p := ⟨b, o + i * 2, none⟩) hb).trans h1, ((hx.trans hx').cell (p := ⟨b, o + i * 2 + 1, none⟩) hb).trans h2⟩⟩
 rw [hm]
 clear hm
 go_enter Tryz.func30, Tryz.ntmps30
 go_upto_region 3 with (fail)
 have HP0 : Hid (Blk (w.alloc (.cells #[.int .i64 o.k, .int .i64 o.g.k, .int .i64 o.g.a, .int .i64 o.g.b, .int .i64 o.g.c, .int .i64 o.q, .int .i64 o.bit, .int .i64 o.cond] 40)) w.heap.size 40 #[.int .i64 o.k, .int .i64 o.g.k, .int .i64 o.g.a, .int .i64 o.g.b, .int .i64 o.g.c, .int .i64 o.q, .int .i64 o.bit, .int .i64 o.cond]) := Blk.new _ _ _
 have HX0 : Hid (Ext w (w.alloc (.cells #[.int .i64 o.k, .int .i64 o.g.k, .int .i64 o.g.a, .int .i64 o.g.b, .int .i64 o.g.c, .int .i64 o.q, .int .i64 o.bit, .int .i64 o.cond] 40))) := (Ext.refl _).alloc _
 have HSP : w.heap.size + 1 = (w.alloc (.cells #[.int .i64 o.k, .int .i64 o.g.k, .int .i64 o.g.a, .int .i64 o.g.b, .int .i64 o.g.c, .int .i64 o.q, .int .i64 o.bit, .int .i64 o.cond] 40)).heap.size := by simp
 rw [HSP]
 clear HSP
 generalize w.alloc (.cells #[.int .i64 o.k, .int .i64 o.g.k, .int .i64 o.g.a, .int .i64 o.g.b, .int .i64 o.g.c, .int .i64 o.q, .int .i64 o.bit, .int .i64 o.cond] 40) = wP at *
 obtain ⟨p, hp⟩ : ∃ p, w.heap.size = p := ⟨_, rfl⟩
 rw [hp] at HP0 ⊢
 clear hp
 have HO0 : Hid (ZO wP (wP.alloc (.cells #[] 47)) k l (some ⟨wP.heap.size, 0, none⟩) 0 []) := ⟨own_empty wP wP _ 2 (Ext.refl _), ZX.nil, (Ext.refl _).alloc _⟩
 generalize wP.alloc (.cells #[] 47) = w0 at *
 go_loopw [6, 7] (fun ov iv wi => ∃ (i : Nat) (A' : Option Addr) (c' : Nat) (ys : List Zb), iv = .int .i64 i ∧ i ≤ m ∧ ov = .slice A' ys.length c' ∧ Hid (ys.map (·.1) = L.take i) ∧ Hid (ZO wP wi k l A' c' ys)) (fun _ i _ => m - (intOf i).toNat)
 case atStart => exact ⟨0, _, 0, [], rfl, Nat.zero_le _, rfl, rfl, HO0⟩
 case round =>
  obtain ⟨i, A', c', ys, rfl, hi, rfl, HY, HO⟩ := hrel
  clear HO0
  have HYL : Hid (ys.length ≤ i) := by
   have h9 := congrArg List.length HY.out
   rw [List.length_map] at h9
   unfold Hid
   rw [h9]
   rw [List.length_take]; omega
  by_cases hlt : i < m
  ·have hi1 : IntKind.i64.wrap ((i : Int) + 1) = ((i + 1 : Nat) : Int) := by rw [IntWalk.i64_in _ (by omega)]; rfl
   have hi2 : wrap64 ((i : Int) + 1) = ((i + 1 : Nat) : Int) := by unfold wrap64; omega
   have HI : Hid (i < m ∧ m ≤ 1000) := ⟨hlt, hm1000⟩
   obtain ⟨bx, ox, z, hAe, hzi, htx, hcz⟩ := HRM.out i wP hlt HX0.out
   subst hAe
   have HTX := Lib.hid (htx.kt (KT.ext HO.out.x))
   have HZI := Lib.hid hzi
   have HK : Hid (∀ w', Ext wP w' → (w'.cell? ⟨bx, ox + i * 2, none⟩ = some (.int .i64 z.1.bits) ∧ w'.cell? ⟨bx, ox + i * 2 + 1, none⟩ = some (.slice z.2.1 k z.2.2)) ∧ (w'.cell? ⟨p, 0, none⟩ = some (.int .i64 o.k) ∧ w'.cell? ⟨p, 1, none⟩ = some (.int .i64 o.g.k) ∧ w'.cell? ⟨p, 2, none⟩ = some (.int .i64 o.g.a) ∧ w'.cell? ⟨p, 3, none⟩ = some (.int .i64 o.g.b) ∧ w'.cell? ⟨p, 4, none⟩ = some (.int .i64 o.g.c) ∧ w'.cell? ⟨p, 5, none⟩ = some (.int .i64 o.q) ∧ w'.cell? ⟨p, 6, none⟩ = some (.int .i64 o.bit) ∧ w'.cell? ⟨p, 7, none⟩ = some (.int .i64 o.cond))) := fun w' hx => ⟨hcz w' hx, blk8x (HP0.out.ext hx)⟩
   clear htx hzi hcz
   obtain ⟨⟨z0, z1⟩, o0, o1, o2, o3, o4, o5, o6, o7⟩ := HK.out wr HO.out.x
   clear o1 o2 o3 o4 o5 o6 o7
   have HN : Hid (ys.length + 1 ≤ 1000000) := by have := HYL.out; unfold Hid; omega
   go_wp2_with (at_builtin; refine appBr (w0 := wP) rfl _ _ rfl _ ys.length (zcells k ys) rfl (own_ext HO.out.o ((Ext.refl _).alloc _)) (HO.out.x.alloc _) _ 1 1 k [z] rfl (rd_new _ _ _ 2 _ rfl rfl) HN.out ?_; intro v' w6 g1 g2 g3 g4)
   obtain ⟨A6, c6, rfl, -⟩ := own_slice g1
   have HO6 := Lib.hid ((HO.out.ext ((Ext.refl _).alloc _)).app (ZX.one (HTX.out.kt (KT.ext ((Ext.refl _).alloc _)))) g1 g2 g3 rfl)
   have HY6 : Hid ((ys ++ [z]).map (·.1) = L.take (i + 1)) := by
    unfold Hid
    rw [List.map_append, HY.out, take_snoc' (take_map HZL.out HZI.out)]
    rfl
   clear g1 g2 g3 g4 HO HK HTX z0 z1 o0
   go_roundw
   case rel => exact ⟨i + 1, A6, c6, _, by first | rfl | rw [hi1] | rw [hi2], by have := HI.out; omega, by first | (rw [List.length_append]; rfl) | rw [List.length_append], HY6, HO6⟩
   case measure => simp [intOf, hi2]; have := HI.out; omega
  ·have hil : i = m := by omega
   subst hil
   go_wp2
   go_ret2
   exact ⟨⟨_, rfl, HO.out.out (by rw [HY.out]; rw [← HM.out, z_len HZL.out, List.take_length])⟩, HX0.out.trans HO.out.x⟩
set_option maxRecDepth 100000 in
set_option maxHeartbeats 8000000 in
theorem l23Step_2 {n k : Nat} (hn1 : 1 ≤ n) (hn4 : n ≤ 4) (hk0 : 0 < k) (hk16 : k ≤ 16) (o : Oq) (q bit : Nat) (hoq : o.q = q) (hob : o.bit = bit) (hq : q < 4) (hbit : bit < 3) (h2 : (o.k == 2) = true) (L : List Brn) (hL : L.length ≤ 1000) (hB : ∀ b ∈ L, b.bits < 16) (A : Option Addr) (c : Nat) (zs : List Zb) (hz : zs.map (·.1) = L) (w : World) (h : Rd w w.heap.size 2 A zs.length (zcells k zs)) (hx : ZX w k (2 ^ n) zs) :
  Calls Tryz.prog 30 #[.slice A zs.length c, o.val] w fun e w' => (∃ v, e = .returned (.tuple #[v, .bool true]) ∧ ZR k (2 ^ n) (L.flatMap (mea k q bit)) v w') ∧ Ext w w' := by
 have HZX := Lib.hid hx
 have HRD := Lib.hid h
 have HZL := Lib.hid hz
 have HLL : Hid (zs.length ≤ 1000) := by unfold Hid; rw [z_len hz]; exact hL
 have HBB := Lib.hid hB
 have h1 : (o.k == 1) = false := by rw [beq_iff_eq.1 h2]; rfl
 have HMB : Hid (∀ (b : Brn) (X : Option Addr) (c : Nat) (w' : World), b.bits ≤ 1000 → TX w' X k (2 ^ n) b.r → Calls Tryz.prog 44 #[.agg #[.int .i64 b.bits, .slice X k c], .int .i64 o.q, .int .i64 o.bit] w' fun e w'' => (∃ (A : Option Addr) (c' : Nat) (zs : List Zb), e = .returned (.slice A zs.length c') ∧ zs.map (·.1) = mea k q bit b ∧ Rd w'' w''.heap.size 2 A zs.length (zcells k zs) ∧ ZX w'' k (2 ^ n) zs) ∧ Ext w' w'') := fun b X c w' hb ht => by rw [hoq, hob]; exact MeasureBranch_any hn1 hn4 k hk0 hk16 b X c q bit hq hbit hb w' ht
 clear hn1 hn4 hoq hob hB
 generalize 2 ^ n = l at *
 clear h hx hz hL
 obtain ⟨m, hm⟩ : ∃ m, zs.length = m := ⟨_, rfl⟩
 have HM := Lib.hid hm
 have hm1000 : m ≤ 1000 := by rw [← hm]; exact HLL.out
 have HRM : Hid (∀ (i : Nat) (W : World), i < m → Ext w W → ∃ b o z, A = some ⟨b, o, none⟩ ∧ zs[i]? = some z ∧ TX W z.2.1 k l z.1.r ∧ ∀ w', Ext W w' → w'.cell? ⟨b, o + i * 2, none⟩ = some (.int .i64 z.1.bits) ∧ w'.cell? ⟨b, o + i * 2 + 1, none⟩ = some (.slice z.2.1 k z.2.2)) := fun i W hi hx => by
  obtain ⟨b, o, z, e, hb, hz, h1, h2⟩ := z_at HRD.out (by rw [HM.out]; exact hi)
  exact ⟨b, o, z, e, hz, (HZX.out z (List.mem_of_getElem? hz)).kt (KT.ext hx), fun w' hx' => ⟨((hx.trans hx').cell (p := ⟨b, o + i * 2, none⟩) hb).trans h1, ((hx.trans hx').cell (p := ⟨b, o + i * 2 + 1, none⟩) hb).trans h2⟩⟩
 rw [hm]
 clear hm
 go_enter Tryz.func30, Tryz.ntmps30
 go_upto_region 3 with (fail)
 have HP0 : Hid (Blk (w.alloc (.cells #[.int .i64 o.k, .int .i64 o.g.k, .int .i64 o.g.a, .int .i64 o.g.b, .int .i64 o.g.c, .int .i64 o.q, .int .i64 o.bit, .int .i64 o.cond] 40)) w.heap.size 40 #[.int .i64 o.k, .int .i64 o.g.k, .int .i64 o.g.a, .int .i64 o.g.b, .int .i64 o.g.c, .int .i64 o.q, .int .i64 o.bit, .int .i64 o.cond]) := Blk.new _ _ _
 have HX0 : Hid (Ext w (w.alloc (.cells #[.int .i64 o.k, .int .i64 o.g.k, .int .i64 o.g.a, .int .i64 o.g.b, .int .i64 o.g.c, .int .i64 o.q, .int .i64 o.bit, .int .i64 o.cond] 40))) := (Ext.refl _).alloc _
 have HSP : w.heap.size + 1 = (w.alloc (.cells #[.int .i64 o.k, .int .i64 o.g.k, .int .i64 o.g.a, .int .i64 o.g.b, .int .i64 o.g.c, .int .i64 o.q, .int .i64 o.bit, .int .i64 o.cond] 40)).heap.size := by simp
 rw [HSP]
 clear HSP
 generalize w.alloc (.cells #[.int .i64 o.k, .int .i64 o.g.k, .int .i64 o.g.a, .int .i64 o.g.b, .int .i64 o.g.c, .int .i64 o.q, .int .i64 o.bit, .int .i64 o.cond] 40) = wP at *
 obtain ⟨p, hp⟩ : ∃ p, w.heap.size = p := ⟨_, rfl⟩
 rw [hp] at HP0 ⊢
 clear hp
 have HO0 : Hid (ZO wP (wP.alloc (.cells #[] 47)) k l (some ⟨wP.heap.size, 0, none⟩) 0 []) := ⟨own_empty wP wP _ 2 (Ext.refl _), ZX.nil, (Ext.refl _).alloc _⟩
 generalize wP.alloc (.cells #[] 47) = w0 at *
 go_loopw [6, 7] (fun ov iv wi => ∃ (i : Nat) (A' : Option Addr) (c' : Nat) (ys : List Zb), iv = .int .i64 i ∧ i ≤ m ∧ ov = .slice A' ys.length c' ∧ Hid (ys.map (·.1) = (L.take i).flatMap (mea k q bit)) ∧ Hid (ZO wP wi k l A' c' ys)) (fun _ i _ => m - (intOf i).toNat)
 case atStart => exact ⟨0, _, 0, [], rfl, Nat.zero_le _, rfl, rfl, HO0⟩
 case round =>
  obtain ⟨i, A', c', ys, rfl, hi, rfl, HY, HO⟩ := hrel
  clear HO0
  have HYL : Hid (ys.length ≤ 2000) := by
   have h9 := congrArg List.length HY.out
   rw [List.length_map] at h9
   unfold Hid
   rw [h9]
   have h8 := flatMap_len (L := L.take i) (m := 2) (mea_len k q bit); rw [List.length_take] at h8; omega
  by_cases hlt : i < m
  ·have hi1 : IntKind.i64.wrap ((i : Int) + 1) = ((i + 1 : Nat) : Int) := by rw [IntWalk.i64_in _ (by omega)]; rfl
   have hi2 : wrap64 ((i : Int) + 1) = ((i + 1 : Nat) : Int) := by unfold wrap64; omega
   have HI : Hid (i < m ∧ m ≤ 1000) := ⟨hlt, hm1000⟩
   obtain ⟨bx, ox, z, hAe, hzi, htx, hcz⟩ := HRM.out i wP hlt HX0.out
   subst hAe
   have HTX := Lib.hid (htx.kt (KT.ext HO.out.x))
   have HZI := Lib.hid hzi
   have HK : Hid (∀ w', Ext wP w' → (w'.cell? ⟨bx, ox + i * 2, none⟩ = some (.int .i64 z.1.bits) ∧ w'.cell? ⟨bx, ox + i * 2 + 1, none⟩ = some (.slice z.2.1 k z.2.2)) ∧ (w'.cell? ⟨p, 0, none⟩ = some (.int .i64 o.k) ∧ w'.cell? ⟨p, 1, none⟩ = some (.int .i64 o.g.k) ∧ w'.cell? ⟨p, 2, none⟩ = some (.int .i64 o.g.a) ∧ w'.cell? ⟨p, 3, none⟩ = some (.int .i64 o.g.b) ∧ w'.cell? ⟨p, 4, none⟩ = some (.int .i64 o.g.c) ∧ w'.cell? ⟨p, 5, none⟩ = some (.int .i64 o.q) ∧ w'.cell? ⟨p, 6, none⟩ = some (.int .i64 o.bit) ∧ w'.cell? ⟨p, 7, none⟩ = some (.int .i64 o.cond))) := fun w' hx => ⟨hcz w' hx, blk8x (HP0.out.ext hx)⟩
   clear htx hzi hcz
   obtain ⟨⟨z0, z1⟩, o0, o1, o2, o3, o4, o5, o6, o7⟩ := HK.out wr HO.out.x
   clear z0 z1 o0 o1 o2 o3 o4 o5 o6 o7
   have hzb : z.1.bits ≤ 1000 := Nat.le_of_lt (Nat.lt_of_lt_of_le (HBB.out z.1 (List.mem_of_getElem? (take_map HZL.out HZI.out))) (by decide))
   have hm2 : (mea k q bit z.1).length ≤ 2 := mea_len _ _ _ _
   obtain ⟨⟨z0, z1⟩, o0, o1, o2, o3, o4, o5, o6, o7⟩ := HK.out wr HO.out.x
   go_upto_region 13 with (fail)
   clear z0 z1 o0 o1 o2 o3 o4 o5 o6 o7
   refine wp_region_held_drew (S := fun w' => (w'.cell? ⟨bx, ox + i * 2, none⟩ = some (.int .i64 z.1.bits) ∧ w'.cell? ⟨bx, ox + i * 2 + 1, none⟩ = some (.slice z.2.1 k z.2.2)) ∧ (w'.cell? ⟨p, 0, none⟩ = some (.int .i64 o.k) ∧ w'.cell? ⟨p, 1, none⟩ = some (.int .i64 o.g.k) ∧ w'.cell? ⟨p, 2, none⟩ = some (.int .i64 o.g.a) ∧ w'.cell? ⟨p, 3, none⟩ = some (.int .i64 o.g.b) ∧ w'.cell? ⟨p, 4, none⟩ = some (.int .i64 o.g.c) ∧ w'.cell? ⟨p, 5, none⟩ = some (.int .i64 o.q) ∧ w'.cell? ⟨p, 6, none⟩ = some (.int .i64 o.bit) ∧ w'.cell? ⟨p, 7, none⟩ = some (.int .i64 o.cond))) (by kernel_rfl) (HK.out _ (HO.out.x.trans (Ext.refl wr).drew)) (fun hHeld => ?_)
   (refine tk 0 (v := ?_) ?_ ?_; rotate_left; · (intro w hSw; (try dsimp only at hSw); go_simp; all_goals with_reducible rfl))
   (try simp only [Act.put, L1, L2, L3, L4, L5, L6])
   (refine tk 1 (v := ?_) ?_ ?_; rotate_left; · (intro w hSw; (try dsimp only at hSw); go_simp; all_goals with_reducible rfl))
   (try simp only [Act.put, L1, L2, L3, L4, L5, L6])
   (refine tk 2 (v := ?_) ?_ ?_; rotate_left; · (intro w hSw; (try dsimp only at hSw); go_simp; all_goals with_reducible rfl))
   (try simp only [Act.put, L1, L2, L3, L4, L5, L6])
   (refine tk 3 (v := ?_) ?_ ?_; rotate_left; · (intro w hSw; (try dsimp only at hSw); go_simp; all_goals with_reducible rfl))
   (try simp only [Act.put, L1, L2, L3, L4, L5, L6])
   (refine tk 4 (v := ?_) ?_ ?_; rotate_left; · (intro w hSw; (try dsimp only at hSw); go_simp; all_goals with_reducible rfl))
   (try simp only [Act.put, L1, L2, L3, L4, L5, L6])
   (refine tk 5 (v := ?_) ?_ ?_; rotate_left; · (intro w hSw; (try dsimp only at hSw); go_simp; all_goals with_reducible rfl))
   (try simp only [Act.put, L1, L2, L3, L4, L5, L6])
   (refine tk 6 (v := ?_) ?_ ?_; rotate_left; · (intro w hSw; (try dsimp only at hSw); go_simp; all_goals with_reducible rfl))
   (try simp only [Act.put, L1, L2, L3, L4, L5, L6])
   (refine tk 7 (v := ?_) ?_ ?_; rotate_left; · (intro w hSw; (try dsimp only at hSw); go_simp; all_goals with_reducible rfl))
   (try simp only [Act.put, L1, L2, L3, L4, L5, L6])
   (refine tk 8 (v := ?_) ?_ ?_; rotate_left; · (intro w hSw; (try dsimp only at hSw); go_simp; all_goals with_reducible rfl))
   (try simp only [Act.put, L1, L2, L3, L4, L5, L6])
   refine wpAnyH_ready (rs := [9]) (by kernel_rfl) (by simp) ?_
   refine AllReadyH.cons rfl (fun K hK => ?_) AllReadyH.nil
   go_simp
   refine (HMB.out z.1 z.2.1 z.2.2 _ hzb (HTX.out.kt (KT.ext (Ext.refl wr).drew))).mono ?_
   rintro e w5 ⟨⟨A5, c5, xs, rfl, hxs, hr5, hz5⟩, hx5⟩
   have HYX : Hid (Ext wr w5) := (Ext.refl wr).drew.trans hx5
   have HO5 := Lib.hid (HO.out.ext HYX.out)
   have HXS := Lib.hid hxs
   have hxl : xs.length ≤ 2 := by rw [z_len hxs]; exact hm2
   have HN : Hid (ys.length + xs.length ≤ 1000000) := by have := HYL.out; unfold Hid; omega
   refine hK.out _ _ (HK.out _ HO5.out.x) (fun hHeld => ?_)
   clear hK K
   (try simp only [Act.put, L1, L2, L3, L4, L5, L6])
   refine wpAnyH_ready (rs := [10]) (by kernel_rfl) (by simp) ?_
   refine AllReadyH.cons rfl (fun K hK => ?_) AllReadyH.nil
   refine stepBr (w0 := wP) rfl _ _ rfl _ ys.length (zcells k ys) rfl HO5.out.o HO5.out.x _ xs.length c5 k xs rfl hr5 HN.out ?_
   intro v' w6 g1 g2 g3 g4
   obtain ⟨A6, c6, rfl, -⟩ := own_slice g1
   have HO6 := Lib.hid (HO5.out.app hz5 g1 g2 g3 rfl)
   have HY6 : Hid ((ys ++ xs).map (·.1) = (L.take (i + 1)).flatMap (mea k q bit)) := by
    unfold Hid
    rw [List.map_append, HY.out, HXS.out, take_snoc' (take_map HZL.out HZI.out), List.flatMap_append, List.flatMap_cons, List.flatMap_nil, List.append_nil]
   clear hr5 hz5 hxs hx5
   clear g1 g2 g3 g4
   refine hK.out _ _ (HK.out _ HO6.out.x) (fun hHeld => ?_)
   clear hK K
   (try simp only [Act.put, L1, L2, L3, L4, L5, L6])
   (refine tk 11 (v := ?_) ?_ ?_; rotate_left; · (intro w hSw; (try dsimp only at hSw); go_simp; all_goals with_reducible rfl))
   (try simp only [Act.put, L1, L2, L3, L4, L5, L6])
   (refine wpAnyH_done (by kernel_rfl) ?_ _)
   clear hHeld HK HO HO5 HYX HTX
   go_wp2
   go_roundw
   case rel => exact ⟨i + 1, A6, c6, _, by first | rfl | rw [hi1] | rw [hi2], by have := HI.out; omega, by first | (rw [List.length_append]; rfl) | rw [List.length_append], HY6, HO6⟩
   case measure => simp [intOf, hi2]; have := HI.out; omega
  ·have hil : i = m := by omega
   subst hil
   go_wp2
   go_ret2
   exact ⟨⟨_, rfl, HO.out.out (by rw [HY.out]; rw [← HM.out, z_len HZL.out, List.take_length])⟩, HX0.out.trans HO.out.x⟩
set_option maxRecDepth 100000 in
set_option maxHeartbeats 8000000 in
theorem l23Step_1 {n k : Nat} (hn1 : 1 ≤ n) (hn4 : n ≤ 4) (hk0 : 0 < k) (hk16 : k ≤ 16) (o : Oq) (hc3 : o.cond ≤ 3) (h1 : (o.k == 1) = true) (L L' : List Brn) (hA : All2 (StG n o.g o.cond) L L') (hL : L.length ≤ 1000) (hB : ∀ b ∈ L, b.bits < 16) (A : Option Addr) (c : Nat) (zs : List Zb) (hz : zs.map (·.1) = L) (w : World) (h : Rd w w.heap.size 2 A zs.length (zcells k zs)) (hx : ZX w k (2 ^ n) zs) :
  Calls Tryz.prog 30 #[.slice A zs.length c, o.val] w fun e w' => (∃ v, e = .returned (.tuple #[v, .bool true]) ∧ ZR k (2 ^ n) L' v w') ∧ Ext w w' := by
 have HZX := Lib.hid hx
 have HRD := Lib.hid h
 have HZL := Lib.hid hz
 have HLL : Hid (zs.length ≤ 1000) := by unfold Hid; rw [z_len hz]; exact hL
 have HBB := Lib.hid hB
 have HAL := Lib.hid hA
 have HLE : Hid (L'.length = L.length) := hA.len
 have HGA : Hid (∀ (b b' : Brn) (X : Option Addr) (c : Nat) (w' : World), StG n o.g o.cond b b' → b.bits < 16 → TX w' X k (2 ^ n) b.r → Calls Tryz.prog 43 #[.agg #[.int .i64 b.bits, .slice X k c], o.val] w' fun e w'' => GaR k (2 ^ n) b' e w'' ∧ Ext w' w'') := fun b b' X c w' hs hb ht => l23Gate_any hn1 hn4 hk0 hk16 o b b' hs hc3 hb X c w' ht
 clear hn1 hn4 hB hA
 generalize 2 ^ n = l at *
 clear h hx hz hL
 obtain ⟨m, hm⟩ : ∃ m, zs.length = m := ⟨_, rfl⟩
 have HM := Lib.hid hm
 have hm1000 : m ≤ 1000 := by rw [← hm]; exact HLL.out
 have HRM : Hid (∀ (i : Nat) (W : World), i < m → Ext w W → ∃ b o z, A = some ⟨b, o, none⟩ ∧ zs[i]? = some z ∧ TX W z.2.1 k l z.1.r ∧ ∀ w', Ext W w' → w'.cell? ⟨b, o + i * 2, none⟩ = some (.int .i64 z.1.bits) ∧ w'.cell? ⟨b, o + i * 2 + 1, none⟩ = some (.slice z.2.1 k z.2.2)) := fun i W hi hx => by
  obtain ⟨b, o, z, e, hb, hz, h1, h2⟩ := z_at HRD.out (by rw [HM.out]; exact hi)
  exact ⟨b, o, z, e, hz, (HZX.out z (List.mem_of_getElem? hz)).kt (KT.ext hx), fun w' hx' => ⟨((hx.trans hx').cell (p := ⟨b, o + i * 2, none⟩) hb).trans h1, ((hx.trans hx').cell (p := ⟨b, o + i * 2 + 1, none⟩) hb).trans h2⟩⟩
 rw [hm]
 clear hm
 go_enter Tryz.func30, Tryz.ntmps30
 go_upto_region 3 with (fail)
 have HP0 : Hid (Blk (w.alloc (.cells #[.int .i64 o.k, .int .i64 o.g.k, .int .i64 o.g.a, .int .i64 o.g.b, .int .i64 o.g.c, .int .i64 o.q, .int .i64 o.bit, .int .i64 o.cond] 40)) w.heap.size 40 #[.int .i64 o.k, .int .i64 o.g.k, .int .i64 o.g.a, .int .i64 o.g.b, .int .i64 o.g.c, .int .i64 o.q, .int .i64 o.bit, .int .i64 o.cond]) := Blk.new _ _ _
 have HX0 : Hid (Ext w (w.alloc (.cells #[.int .i64 o.k, .int .i64 o.g.k, .int .i64 o.g.a, .int .i64 o.g.b, .int .i64 o.g.c, .int .i64 o.q, .int .i64 o.bit, .int .i64 o.cond] 40))) := (Ext.refl _).alloc _
 have HSP : w.heap.size + 1 = (w.alloc (.cells #[.int .i64 o.k, .int .i64 o.g.k, .int .i64 o.g.a, .int .i64 o.g.b, .int .i64 o.g.c, .int .i64 o.q, .int .i64 o.bit, .int .i64 o.cond] 40)).heap.size := by simp
 rw [HSP]
 clear HSP
 generalize w.alloc (.cells #[.int .i64 o.k, .int .i64 o.g.k, .int .i64 o.g.a, .int .i64 o.g.b, .int .i64 o.g.c, .int .i64 o.q, .int .i64 o.bit, .int .i64 o.cond] 40) = wP at *
 obtain ⟨p, hp⟩ : ∃ p, w.heap.size = p := ⟨_, rfl⟩
 rw [hp] at HP0 ⊢
 clear hp
 have HO0 : Hid (ZO wP (wP.alloc (.cells #[] 47)) k l (some ⟨wP.heap.size, 0, none⟩) 0 []) := ⟨own_empty wP wP _ 2 (Ext.refl _), ZX.nil, (Ext.refl _).alloc _⟩
 generalize wP.alloc (.cells #[] 47) = w0 at *
 go_loopw [6, 7] (fun ov iv wi => ∃ (i : Nat) (A' : Option Addr) (c' : Nat) (ys : List Zb), iv = .int .i64 i ∧ i ≤ m ∧ ov = .slice A' ys.length c' ∧ Hid (ys.map (·.1) = L'.take i) ∧ Hid (ZO wP wi k l A' c' ys)) (fun _ i _ => m - (intOf i).toNat)
 case atStart => exact ⟨0, _, 0, [], rfl, Nat.zero_le _, rfl, rfl, HO0⟩
 case round =>
  obtain ⟨i, A', c', ys, rfl, hi, rfl, HY, HO⟩ := hrel
  clear HO0
  have HYL : Hid (ys.length ≤ i) := by
   have h9 := congrArg List.length HY.out
   rw [List.length_map] at h9
   unfold Hid
   rw [h9]
   rw [List.length_take]; omega
  by_cases hlt : i < m
  ·have hi1 : IntKind.i64.wrap ((i : Int) + 1) = ((i + 1 : Nat) : Int) := by rw [IntWalk.i64_in _ (by omega)]; rfl
   have hi2 : wrap64 ((i : Int) + 1) = ((i + 1 : Nat) : Int) := by unfold wrap64; omega
   have HI : Hid (i < m ∧ m ≤ 1000) := ⟨hlt, hm1000⟩
   obtain ⟨bx, ox, z, hAe, hzi, htx, hcz⟩ := HRM.out i wP hlt HX0.out
   subst hAe
   have HTX := Lib.hid (htx.kt (KT.ext HO.out.x))
   have HZI := Lib.hid hzi
   have HK : Hid (∀ w', Ext wP w' → (w'.cell? ⟨bx, ox + i * 2, none⟩ = some (.int .i64 z.1.bits) ∧ w'.cell? ⟨bx, ox + i * 2 + 1, none⟩ = some (.slice z.2.1 k z.2.2)) ∧ (w'.cell? ⟨p, 0, none⟩ = some (.int .i64 o.k) ∧ w'.cell? ⟨p, 1, none⟩ = some (.int .i64 o.g.k) ∧ w'.cell? ⟨p, 2, none⟩ = some (.int .i64 o.g.a) ∧ w'.cell? ⟨p, 3, none⟩ = some (.int .i64 o.g.b) ∧ w'.cell? ⟨p, 4, none⟩ = some (.int .i64 o.g.c) ∧ w'.cell? ⟨p, 5, none⟩ = some (.int .i64 o.q) ∧ w'.cell? ⟨p, 6, none⟩ = some (.int .i64 o.bit) ∧ w'.cell? ⟨p, 7, none⟩ = some (.int .i64 o.cond))) := fun w' hx => ⟨hcz w' hx, blk8x (HP0.out.ext hx)⟩
   clear htx hzi hcz
   obtain ⟨⟨z0, z1⟩, o0, o1, o2, o3, o4, o5, o6, o7⟩ := HK.out wr HO.out.x
   clear z0 z1 o0 o1 o2 o3 o4 o5 o6 o7
   have HZB : Hid (z.1.bits < 16) := HBB.out z.1 (List.mem_of_getElem? (take_map HZL.out HZI.out))
   obtain ⟨b', hbe, hst⟩ := HAL.out.at_ (take_map HZL.out HZI.out)
   have HBE := Lib.hid hbe
   have HST := Lib.hid hst
   clear hbe hst
   have HN : Hid (ys.length + 1 ≤ 1000000) := by have := HYL.out; unfold Hid; omega
   obtain ⟨⟨z0, z1⟩, o0, o1, o2, o3, o4, o5, o6, o7⟩ := HK.out wr HO.out.x
   go_upto_region 8 with (fail)
   clear z0 z1 o0 o1 o2 o3 o4 o5 o6 o7
   refine wp_region_held_drew (S := fun w' => (w'.cell? ⟨bx, ox + i * 2, none⟩ = some (.int .i64 z.1.bits) ∧ w'.cell? ⟨bx, ox + i * 2 + 1, none⟩ = some (.slice z.2.1 k z.2.2)) ∧ (w'.cell? ⟨p, 0, none⟩ = some (.int .i64 o.k) ∧ w'.cell? ⟨p, 1, none⟩ = some (.int .i64 o.g.k) ∧ w'.cell? ⟨p, 2, none⟩ = some (.int .i64 o.g.a) ∧ w'.cell? ⟨p, 3, none⟩ = some (.int .i64 o.g.b) ∧ w'.cell? ⟨p, 4, none⟩ = some (.int .i64 o.g.c) ∧ w'.cell? ⟨p, 5, none⟩ = some (.int .i64 o.q) ∧ w'.cell? ⟨p, 6, none⟩ = some (.int .i64 o.bit) ∧ w'.cell? ⟨p, 7, none⟩ = some (.int .i64 o.cond))) (by kernel_rfl) (HK.out _ (HO.out.x.trans (Ext.refl wr).drew)) (fun hHeld => ?_)
   (refine tk 0 (v := ?_) ?_ ?_; rotate_left; · (intro w hSw; (try dsimp only at hSw); go_simp; all_goals with_reducible rfl))
   (try simp only [Act.put, L1, L2, L3, L4, L5, L6])
   (refine tk 1 (v := ?_) ?_ ?_; rotate_left; · (intro w hSw; (try dsimp only at hSw); go_simp; all_goals with_reducible rfl))
   (try simp only [Act.put, L1, L2, L3, L4, L5, L6])
   (refine tk 2 (v := ?_) ?_ ?_; rotate_left; · (intro w hSw; (try dsimp only at hSw); go_simp; all_goals with_reducible rfl))
   (try simp only [Act.put, L1, L2, L3, L4, L5, L6])
   (refine tk 3 (v := ?_) ?_ ?_; rotate_left; · (intro w hSw; (try dsimp only at hSw); go_simp; all_goals with_reducible rfl))
   (try simp only [Act.put, L1, L2, L3, L4, L5, L6])
   (refine tk 4 (v := ?_) ?_ ?_; rotate_left; · (intro w hSw; (try dsimp only at hSw); go_simp; all_goals with_reducible rfl))
   (try simp only [Act.put, L1, L2, L3, L4, L5, L6])
   have HE : Hid (Ext wr wr.drew) := (Ext.refl wr).drew
   generalize wr.drew = wd at *
   refine wpAnyH_ready (rs := [5, 9]) (by kernel_rfl) (by simp) ?_
   refine AllReadyH.cons rfl (fun K hK => ?_) (AllReadyH.cons rfl (fun K hK => ?_) AllReadyH.nil)
   ·skip
    go_simp
    refine (HGA.out z.1 b' z.2.1 z.2.2 _ HST.out HZB.out (HTX.out.kt (KT.ext HE.out))).mono ?_
    rintro e wc ⟨⟨X5, c5, rfl, ht5⟩, hx5⟩
    have HT := Lib.hid ht5
    replace HE := Lib.hid (HE.out.trans hx5)
    clear ht5 hx5
    refine hK.out _ _ (HK.out _ (HO.out.x.trans HE.out)) (fun hHeld => ?_)
    clear hK K
    (try simp only [Act.put, L1, L2, L3, L4, L5, L6])
    (refine tk 6 (v := ?_) ?_ ?_; rotate_left; · (intro w hSw; (try dsimp only at hSw); go_simp; all_goals with_reducible rfl))
    (try simp only [Act.put, L1, L2, L3, L4, L5, L6])
    (refine tk 7 (v := ?_) ?_ ?_; rotate_left; · (intro w hSw; (try dsimp only at hSw); go_simp; all_goals with_reducible rfl))
    (try simp only [Act.put, L1, L2, L3, L4, L5, L6])
    (refine tk 8 (v := ?_) ?_ ?_; rotate_left; · (intro w hSw; (try dsimp only at hSw); go_simp; all_goals with_reducible rfl))
    (try simp only [Act.put, L1, L2, L3, L4, L5, L6])
    refine wpAnyH_ready (rs := [9]) (by kernel_rfl) (by simp) ?_
    refine AllReadyH.cons rfl (fun K hK => ?_) AllReadyH.nil
    go_simp
    have hxA : Ext wc (wc.alloc (.cells #[.int .i64 0, .slice none 0 0] 47)) := (Ext.refl _).alloc _
    obtain ⟨s, hs⟩ : ∃ s, wc.heap.size = s := ⟨_, rfl⟩
    have HB : Hid (Blk (wc.alloc (.cells #[.int .i64 0, .slice none 0 0] 47)) s 47 #[.int .i64 0, .slice none 0 0]) := by rw [← hs]; exact Blk.new _ _ _
    have HS : Hid (wr.heap.size ≤ s) := by rw [← hs]; exact HE.out.size
    replace HE := Lib.hid (HE.out.trans hxA)
    replace HT := Lib.hid (HT.out.kt (KT.ext hxA))
    try rw [hs]
    refine hK.out _ _ (HK.out _ (HO.out.x.trans HE.out)) (fun hHeld => ?_)
    clear hK K
    (try simp only [Act.put, L1, L2, L3, L4, L5, L6])
    clear hxA hs
    generalize (wc.alloc (.cells #[.int .i64 0, .slice none 0 0] 47)) = wl at *
    refine wpAnyH_ready (rs := [10]) (by kernel_rfl) (by simp) ?_
    refine AllReadyH.cons rfl (fun K hK => ?_) AllReadyH.nil
    obtain ⟨⟨q0, q1⟩, f0, f1⟩ := blk2x HB.out
    go_simp
    have HE7 : Hid (Ext wr ((wl.setCell ⟨s, 0, none⟩ (.int .i64 b'.bits)).setCell ⟨s, 1, none⟩ (.slice X5 k c5))) := (HE.out.setCell (p := ⟨s, 0, none⟩) HS.out (.int .i64 b'.bits)).setCell (p := ⟨s, 1, none⟩) HS.out (.slice X5 k c5)
    have HT7 : Hid (TX ((wl.setCell ⟨s, 0, none⟩ (.int .i64 b'.bits)).setCell ⟨s, 1, none⟩ (.slice X5 k c5)) X5 k l b'.r) := HT.out.kt ((KT.set_ HB.out (by decide) (.int .i64 b'.bits)).trans (KT.set_ (HB.out.set_ 0 (.int .i64 b'.bits)) (by decide) (.slice X5 k c5)))
    have HB7 : Hid (Blk ((wl.setCell ⟨s, 0, none⟩ (.int .i64 b'.bits)).setCell ⟨s, 1, none⟩ (.slice X5 k c5)) s 47 #[.int .i64 b'.bits, .slice X5 k c5]) := (HB.out.set_ 0 (.int .i64 b'.bits)).set_ 1 (.slice X5 k c5)
    refine hK.out _ _ (HK.out _ (HO.out.x.trans HE7.out)) (fun hHeld => ?_)
    clear hK K
    (try simp only [Act.put, L1, L2, L3, L4, L5, L6])
    (refine tk 11 (v := ?_) ?_ ?_; rotate_left; · (intro w hSw; (try dsimp only at hSw); go_simp; all_goals with_reducible rfl))
    (try simp only [Act.put, L1, L2, L3, L4, L5, L6])
    (refine wpAnyH_done (by kernel_rfl) ?_ _)
    clear q0 q1 f0 f1 hHeld HB HT HE HS HTX HK
    generalize ((wl.setCell ⟨s, 0, none⟩ (.int .i64 b'.bits)).setCell ⟨s, 1, none⟩ (.slice X5 k c5)) = w7 at *
    have HO7 := Lib.hid (HO.out.ext HE7.out)
    clear HO HE7
    obtain ⟨⟨q0, q1⟩, -⟩ := blk2x HB7.out
    go_wp2_with (at_builtin; refine appBr (w0 := wP) rfl _ _ rfl _ ys.length (zcells k ys) rfl (own_ext HO7.out.o ((Ext.refl _).alloc _)) (HO7.out.x.alloc _) _ 1 1 k [((b', X5, c5) : Zb)] rfl (rd_new _ _ _ 2 _ rfl rfl) HN.out ?_; intro v' w6 g1 g2 g3 g4)
    obtain ⟨A6, c6, rfl, -⟩ := own_slice g1
    have HO6 := Lib.hid ((HO7.out.ext ((Ext.refl _).alloc _)).app (ZX.one (HT7.out.kt (KT.ext ((Ext.refl _).alloc _)))) g1 g2 g3 rfl)
    have HY6 : Hid ((ys ++ [((b', X5, c5) : Zb)]).map (·.1) = L'.take (i + 1)) := by
     unfold Hid
     rw [List.map_append, HY.out, take_snoc' HBE.out]
     rfl
    clear g1 g2 g3 g4 HO7 HT7 HB7
    go_roundw
    case rel => exact ⟨i + 1, A6, c6, _, by first | rfl | rw [hi1] | rw [hi2], by have := HI.out; omega, by first | (rw [List.length_append]; rfl) | rw [List.length_append], HY6, HO6⟩
    case measure => simp [intOf, hi2]; have := HI.out; omega
   ·skip
    go_simp
    have hxA : Ext wd (wd.alloc (.cells #[.int .i64 0, .slice none 0 0] 47)) := (Ext.refl _).alloc _
    obtain ⟨s, hs⟩ : ∃ s, wd.heap.size = s := ⟨_, rfl⟩
    have HB : Hid (Blk (wd.alloc (.cells #[.int .i64 0, .slice none 0 0] 47)) s 47 #[.int .i64 0, .slice none 0 0]) := by rw [← hs]; exact Blk.new _ _ _
    have HS : Hid (wr.heap.size ≤ s) := by rw [← hs]; exact HE.out.size
    replace HE := Lib.hid (HE.out.trans hxA)
    try rw [hs]
    refine hK.out _ _ (HK.out _ (HO.out.x.trans HE.out)) (fun hHeld => ?_)
    clear hK K
    (try simp only [Act.put, L1, L2, L3, L4, L5, L6])
    clear hxA hs
    generalize (wd.alloc (.cells #[.int .i64 0, .slice none 0 0] 47)) = wl at *
    refine wpAnyH_ready (rs := [5]) (by kernel_rfl) (by simp) ?_
    refine AllReadyH.cons rfl (fun K hK => ?_) AllReadyH.nil
    go_simp
    refine (HGA.out z.1 b' z.2.1 z.2.2 _ HST.out HZB.out (HTX.out.kt (KT.ext HE.out))).mono ?_
    rintro e wc ⟨⟨X5, c5, rfl, ht5⟩, hx5⟩
    have HT := Lib.hid ht5
    replace HE := Lib.hid (HE.out.trans hx5)
    replace HB := Lib.hid (HB.out.ext hx5)
    clear ht5 hx5
    refine hK.out _ _ (HK.out _ (HO.out.x.trans HE.out)) (fun hHeld => ?_)
    clear hK K
    (try simp only [Act.put, L1, L2, L3, L4, L5, L6])
    (refine tk 6 (v := ?_) ?_ ?_; rotate_left; · (intro w hSw; (try dsimp only at hSw); go_simp; all_goals with_reducible rfl))
    (try simp only [Act.put, L1, L2, L3, L4, L5, L6])
    (refine tk 7 (v := ?_) ?_ ?_; rotate_left; · (intro w hSw; (try dsimp only at hSw); go_simp; all_goals with_reducible rfl))
    (try simp only [Act.put, L1, L2, L3, L4, L5, L6])
    (refine tk 8 (v := ?_) ?_ ?_; rotate_left; · (intro w hSw; (try dsimp only at hSw); go_simp; all_goals with_reducible rfl))
    (try simp only [Act.put, L1, L2, L3, L4, L5, L6])
    refine wpAnyH_ready (rs := [10]) (by kernel_rfl) (by simp) ?_
    refine AllReadyH.cons rfl (fun K hK => ?_) AllReadyH.nil
    obtain ⟨⟨q0, q1⟩, f0, f1⟩ := blk2x HB.out
    go_simp
    have HE7 : Hid (Ext wr ((wc.setCell ⟨s, 0, none⟩ (.int .i64 b'.bits)).setCell ⟨s, 1, none⟩ (.slice X5 k c5))) := (HE.out.setCell (p := ⟨s, 0, none⟩) HS.out (.int .i64 b'.bits)).setCell (p := ⟨s, 1, none⟩) HS.out (.slice X5 k c5)
    have HT7 : Hid (TX ((wc.setCell ⟨s, 0, none⟩ (.int .i64 b'.bits)).setCell ⟨s, 1, none⟩ (.slice X5 k c5)) X5 k l b'.r) := HT.out.kt ((KT.set_ HB.out (by decide) (.int .i64 b'.bits)).trans (KT.set_ (HB.out.set_ 0 (.int .i64 b'.bits)) (by decide) (.slice X5 k c5)))
    have HB7 : Hid (Blk ((wc.setCell ⟨s, 0, none⟩ (.int .i64 b'.bits)).setCell ⟨s, 1, none⟩ (.slice X5 k c5)) s 47 #[.int .i64 b'.bits, .slice X5 k c5]) := (HB.out.set_ 0 (.int .i64 b'.bits)).set_ 1 (.slice X5 k c5)
    refine hK.out _ _ (HK.out _ (HO.out.x.trans HE7.out)) (fun hHeld => ?_)
    clear hK K
    (try simp only [Act.put, L1, L2, L3, L4, L5, L6])
    (refine tk 11 (v := ?_) ?_ ?_; rotate_left; · (intro w hSw; (try dsimp only at hSw); go_simp; all_goals with_reducible rfl))
    (try simp only [Act.put, L1, L2, L3, L4, L5, L6])
    (refine wpAnyH_done (by kernel_rfl) ?_ _)
    clear q0 q1 f0 f1 hHeld HB HT HE HS HTX HK
    generalize ((wc.setCell ⟨s, 0, none⟩ (.int .i64 b'.bits)).setCell ⟨s, 1, none⟩ (.slice X5 k c5)) = w7 at *
    have HO7 := Lib.hid (HO.out.ext HE7.out)
    clear HO HE7
    obtain ⟨⟨q0, q1⟩, -⟩ := blk2x HB7.out
    go_wp2_with (at_builtin; refine appBr (w0 := wP) rfl _ _ rfl _ ys.length (zcells k ys) rfl (own_ext HO7.out.o ((Ext.refl _).alloc _)) (HO7.out.x.alloc _) _ 1 1 k [((b', X5, c5) : Zb)] rfl (rd_new _ _ _ 2 _ rfl rfl) HN.out ?_; intro v' w6 g1 g2 g3 g4)
    obtain ⟨A6, c6, rfl, -⟩ := own_slice g1
    have HO6 := Lib.hid ((HO7.out.ext ((Ext.refl _).alloc _)).app (ZX.one (HT7.out.kt (KT.ext ((Ext.refl _).alloc _)))) g1 g2 g3 rfl)
    have HY6 : Hid ((ys ++ [((b', X5, c5) : Zb)]).map (·.1) = L'.take (i + 1)) := by
     unfold Hid
     rw [List.map_append, HY.out, take_snoc' HBE.out]
     rfl
    clear g1 g2 g3 g4 HO7 HT7 HB7
    go_roundw
    case rel => exact ⟨i + 1, A6, c6, _, by first | rfl | rw [hi1] | rw [hi2], by have := HI.out; omega, by first | (rw [List.length_append]; rfl) | rw [List.length_append], HY6, HO6⟩
    case measure => simp [intOf, hi2]; have := HI.out; omega
  ·have hil : i = m := by omega
   subst hil
   go_wp2
   go_ret2
   exact ⟨⟨_, rfl, HO.out.out (by rw [HY.out]; rw [← HM.out, z_len HZL.out, ← HLE.out, List.take_length])⟩, HX0.out.trans HO.out.x⟩
end Go.Proofs.YtdjckjfclhjpcaaGreat
/-
 Helper text (no claim of its own): the simulation of a valid routine, by the reference.
-/
namespace Go.Proofs.YtdjckjfclhjpcaaGreat
open Go.ChangeShapes Go.WideShapes Go.ChangeAt Go.RowKit Go.Deep
set_option linter.unusedVariables false
set_option linter.unusedSimpArgs false
/-- The ops may be run one behind the other, from j measured values on. -/
def Runs (n bits : Int) : List Oq → Nat → Prop
 | [], _ => True
 | o :: os, j => okRun n bits j o = true ∧ Runs n bits os (if (o.k == 2) = true then j + 1 else j)
theorem runs_of {n bits : Int} : ∀ (os : List Oq) (j : Nat), (os.foldl (runS n bits) (some j)).isSome = true → Runs n bits os j
 | [], _, _ => trivial
 | o :: os, j, h => by
  rw [List.foldl_cons] at h
  by_cases hk : okRun n bits j o = true
  ·have e : runS n bits (some j) o = some (if (o.k == 2) = true then j + 1 else j) := by simp [runS, hk]
   rw [e] at h
   exact ⟨hk, runs_of os _ h⟩
  ·have e : runS n bits (some j) o = none := by simp [runS, hk]
   rw [e, runS_none] at h
   cases h
/-- What an op of a valid routine is. -/
structure OkO (n : Nat) (j : Nat) (o : Oq) : Prop where
 c : (o.k == 1) = true → 0 ≤ o.cond ∧ o.cond ≤ 3
 g : (o.k == 1) = true → vg o.g n = true
 m : (o.k == 2) = true → ∃ q : Nat, o.q = q ∧ o.bit = j ∧ q < 4 ∧ j < 3
theorem okO_of {n : Nat} {bits : Int} {j : Nat} {o : Oq} (h : okRun (n : Int) bits j o = true) : OkO n j o := by
 unfold okRun at h
 simp only [Bool.and_eq_true] at h
 obtain ⟨⟨hv, hc⟩, hm⟩ := h
 have hv0 := hv
 unfold vOp inB at hv
 simp only [Bool.and_eq_true, decide_eq_true_eq] at hv
 obtain ⟨⟨hn, hb⟩, hv⟩ := hv
 refine ⟨fun h1 => ?_, fun h1 => ?_, fun h2 => ?_⟩
 ·rw [if_pos (beq_iff_eq.1 h1)] at hv
  simp only [Bool.and_eq_true, decide_eq_true_eq] at hv
  omega
 ·rw [if_pos (beq_iff_eq.1 h1)] at hv
  simp only [Bool.and_eq_true, decide_eq_true_eq] at hv
  exact hv.1.2
 ·rw [h2] at hm
  have hbj : o.bit = (j : Int) := by simpa using hm
  have hk := beq_iff_eq.1 h2
  rw [if_neg (by omega), if_pos hk] at hv
  simp only [Bool.and_eq_true, decide_eq_true_eq] at hv
  obtain ⟨q, hq⟩ := Int.eq_ofNat_of_zero_le hv.1.2.1
  exact ⟨q, hq, hbj, by omega, by omega⟩
/-- The bounds of a list of branches. -/
def Bdd (j : Nat) (L : List Brn) : Prop := L.length ≤ 2 ^ j ∧ ∀ b ∈ L, b.bits < 2 ^ j
theorem mea_bits {k q bit : Nat} {b : Brn} (hb : b.bits < 2 ^ bit) : ∀ b' ∈ mea k q bit b, b'.bits < 2 ^ (bit + 1) := by
 intro b' hb'
 have h2 : 2 ^ (bit + 1) = 2 ^ bit * 2 := Nat.pow_succ ..
 unfold mea mea1 at hb'
 rw [List.mem_append] at hb'
 rcases hb' with hb' | hb' <;> split at hb'
 ·rw [List.mem_singleton] at hb'
  subst hb'
  show b.bits + 0 * 2 ^ bit < _
  omega
 ·cases hb'
 ·rw [List.mem_singleton] at hb'
  subst hb'
  show b.bits + 1 * 2 ^ bit < _
  omega
 ·cases hb'
theorem bdd_step {n k j : Nat} {o : Oq} {L M : List Brn} (ho : OkO n j o) (hS : StR n k o L M) (hb : Bdd j L) : Bdd (if (o.k == 2) = true then j + 1 else j) M := by
 cases h2 : (o.k == 2) with
 | true =>
  obtain ⟨q, h3, h4, h5, h6⟩ := ho.m h2
  have h1 : (o.k == 1) = false := by rw [beq_iff_eq.1 h2]; rfl
  have e := (stR_2 h1 h2).1 hS
  rw [if_pos rfl]
  have h7 : o.bit.toNat = j := by rw [h4]; rfl
  rw [h7] at e
  subst e
  refine ⟨?_, fun b' hb' => ?_⟩
  ·have h8 := flatMap_len (L := L) (m := 2) (mea_len k o.q.toNat j)
   have h9 := hb.1
   rw [Nat.pow_succ]
   omega
  ·obtain ⟨b, h8, h9⟩ := List.mem_flatMap.1 hb'
   exact mea_bits (hb.2 b h8) b' h9
 | false =>
  rw [if_neg (by decide)]
  cases h1 : (o.k == 1) with
  | true =>
   have hA := (stR_1 h1).1 hS
   refine ⟨by rw [hA.len]; exact hb.1, fun b' hb' => ?_⟩
   obtain ⟨b, h3, h4⟩ := All2.mem hA b' hb'
   rw [h4.1]
   exact hb.2 b h3
  | false =>
   have e := (stR_n h1 h2).1 hS
   subst e
   exact hb
/-- The lists of branches, one behind the other. -/
theorem path_seq {n k : Nat} {bits : Int} : ∀ (os : List Oq) (j : Nat) (L L' : List Brn), Path n k os L L' → Runs (n : Int) bits os j → Bdd j L → j ≤ 3 →
  ∃ M : Nat → List Brn, M 0 = L ∧ M os.length = L' ∧ ∀ i o, os[i]? = some o → StR n k o (M i) (M (i + 1)) ∧ (M i).length ≤ 8 ∧ (∀ b ∈ M i, b.bits < 16) ∧ ∃ j', OkO n j' o
 | [], j, L, L', hp, _, _, _ => ⟨fun _ => L, rfl, hp.symm, fun i o h => by simp at h⟩
 | o :: os, j, L, L', hp, hr, hb, hj => by
  obtain ⟨M1, hS, hp⟩ := hp
  obtain ⟨hk, hr⟩ := hr
  have ho := okO_of hk
  have hj' : (if (o.k == 2) = true then j + 1 else j) ≤ 3 := by
   split
   ·rename_i h2
    obtain ⟨q, h3, h4, h5, h6⟩ := ho.m h2
    omega
   ·exact hj
  obtain ⟨M, h0, hn, hs⟩ := path_seq os _ M1 L' hp hr (bdd_step ho hS hb) hj'
  have hpj : (2 : Nat) ^ j ≤ 8 := Nat.pow_le_pow_right (n := 2) (by decide) hj
  refine ⟨fun i => match i with | 0 => L | i + 1 => M i, rfl, hn, fun i u hu => ?_⟩
  cases i with
  | zero =>
   have hu' : o = u := by simpa using hu
   subst hu'
   refine ⟨by show StR n k o L (M 0); rw [h0]; exact hS, Nat.le_trans hb.1 hpj, fun b h => Nat.lt_of_lt_of_le (hb.2 b h) (by omega), j, ho⟩
  | succ i => exact hs i u (by simpa using hu)
theorem vRt_runs {x : Rt} (h : vRt x = true) : Runs x.n x.bits x.ops 0 := by
 unfold vRt at h
 simp only [Bool.and_eq_true] at h
 have h5 := h.2
 unfold lst at h5
 refine runs_of _ _ ?_
 unfold runF at h5
 cases hf : x.ops.foldl (runS x.n x.bits) (some 0) with
 | none => rw [hf] at h5; cases h5
 | some j => rfl
theorem bdd0 (n : Nat) : Bdd 0 [bra0 n] := ⟨Nat.le_refl _, fun b hb => by obtain rfl := List.mem_singleton.1 hb; exact Nat.zero_lt_one⟩
/-- One step of the simulation. -/
theorem l23Step_any {n k : Nat} (hn1 : 1 ≤ n) (hn4 : n ≤ 4) (hk0 : 0 < k) (hk16 : k ≤ 16) (o : Oq) (j : Nat) (ho : OkO n j o) (L L' : List Brn) (hS : StR n k o L L') (hL : L.length ≤ 8) (hB : ∀ b ∈ L, b.bits < 16) (v : Value) (w : World) (hz : ZR k (2 ^ n) L v w) :
  Calls Tryz.prog 30 #[v, o.val] w fun e w' => (∃ v', e = .returned (.tuple #[v', .bool true]) ∧ ZR k (2 ^ n) L' v' w') ∧ Ext w w' := by
 obtain ⟨A, c, zs, rfl, h1, h2, h3, -⟩ := hz
 have hL' : L.length ≤ 1000 := Nat.le_trans hL (by decide)
 cases hk1 : (o.k == 1) with
 | true => exact l23Step_1 hn1 hn4 hk0 hk16 o (ho.c hk1).2 hk1 L L' ((stR_1 hk1).1 hS) hL' hB A c zs h1 w h2 h3
 | false =>
  cases hk2 : (o.k == 2) with
  | true =>
   obtain ⟨q, hq, hb, hq4, hj3⟩ := ho.m hk2
   have e := (stR_2 hk1 hk2).1 hS
   rw [hq, hb] at e
   have e1 : ((q : Int)).toNat = q := rfl
   have e2 : ((j : Int)).toNat = j := rfl
   rw [e1, e2] at e
   subst e
   exact l23Step_2 hn1 hn4 hk0 hk16 o q j hq hb hq4 hj3 hk2 L hL' hB A c zs h1 w h2 h3
  | false =>
   have e := (stR_n hk1 hk2).1 hS
   subst e
   exact l23Step_n o hk1 hk2 L' hL' A c zs h1 w h2 h3
theorem ZR.ext {k l : Nat} {L : List Brn} {v : Value} {w w' : World} (h : ZR k l L v w) (hx : Ext w w') : ZR k l L v w' := by
 obtain ⟨A, c, zs, e, h1, h2, h3, h4⟩ := h
 refine ⟨A, c, zs, e, h1, h2.ext hx, h3.kt (KT.ext hx), fun h0 b o e => ?_⟩
 obtain ⟨cs, hb⟩ := h4 h0 b o e
 exact ⟨cs, hb.ext hx⟩
set_option maxRecDepth 100000 in
set_option maxHeartbeats 8000000 in
theorem SimulatePrefix_no (x : Rt) (hv : vRt x = false) (A : Option Addr) (c : Nat) (w : World) (h : Rd w w.heap.size 8 A x.ops.length (ocells x.ops)) (hl : x.ops.length ≤ 1000000) :
  Calls Tryz.prog 17 #[.agg #[.int .i64 x.n, .int .i64 x.inn, .int .i64 x.bits, .slice A x.ops.length c], .int .i64 x.ops.length] w fun e w' => (∃ v, e = .returned (.tuple #[v, .bool false])) ∧ Ext w w' := by
 have HVR : Hid (∀ w', Ext w w' → Calls Tryz.prog 28 #[.agg #[.int .i64 x.n, .int .i64 x.inn, .int .i64 x.bits, .slice A x.ops.length c]] w' fun e w'' => e = .returned (.bool false) ∧ Ext w' w'') := fun w' hx => by
  have := spec_IsValidRoutine_any A c x w' (h.ext hx) (by omega)
  rw [hv] at this
  exact this
 clear h
 go_enter Tryz.func17, Tryz.ntmps17
 have HB : Hid (Blk (w.alloc (.cells #[.int .i64 x.n, .int .i64 x.inn, .int .i64 x.bits, .slice A x.ops.length c] 26)) w.heap.size 26 #[.int .i64 x.n, .int .i64 x.inn, .int .i64 x.bits, .slice A x.ops.length c]) := Blk.new _ _ _
 have HX : Hid (Ext w (w.alloc (.cells #[.int .i64 x.n, .int .i64 x.inn, .int .i64 x.bits, .slice A x.ops.length c] 26))) := (Ext.refl _).alloc _
 go_upto_region 1 with (fail)
 generalize w.alloc (.cells #[.int .i64 x.n, .int .i64 x.inn, .int .i64 x.bits, .slice A x.ops.length c] 26) = w1 at *
 obtain ⟨⟨t0, t1, t2, t3⟩, -⟩ := cells4 HB.out
 go_wp2_with fail
 refine (HVR.out _ HX.out).mono ?_
 rintro e w2 ⟨rfl, hx2⟩
 have HX2 := Lib.hid (HX.out.trans hx2)
 clear t0 t1 t2 t3 hx2
 go_wp2
 go_ret2
 exact ⟨⟨_, rfl⟩, HX2.out.alloc _⟩
set_option maxRecDepth 100000 in
set_option maxHeartbeats 8000000 in
theorem SimulatePrefix_any (x : Rt) (hv : vRt x = true) (n inn : Nat) (hn : x.n = n) (hi : x.inn = inn) (L' : List Brn) (hp : Path n (2 ^ inn) x.ops [bra0 n] L') (A : Option Addr) (c : Nat) (w : World) (h : Rd w w.heap.size 8 A x.ops.length (ocells x.ops)) :
  Calls Tryz.prog 17 #[.agg #[.int .i64 x.n, .int .i64 x.inn, .int .i64 x.bits, .slice A x.ops.length c], .int .i64 x.ops.length] w fun e w' => (∃ v, e = .returned (.tuple #[v, .bool true]) ∧ ZR (2 ^ inn) (2 ^ n) L' v w') ∧ Ext w w' := by
 obtain ⟨⟨hn1, hn4⟩, hin, hl⟩ : (1 ≤ n ∧ n ≤ 4) ∧ (1 ≤ inn ∧ inn ≤ n) ∧ x.ops.length ≤ 120 := by
  have h9 := hv
  unfold vRt inB at h9
  simp only [Bool.and_eq_true, decide_eq_true_eq] at h9
  omega
 have hrun := vRt_runs hv
 rw [hn] at hrun
 obtain ⟨M, hM0, hMn, hMs⟩ := path_seq x.ops 0 _ _ hp hrun (bdd0 n) (by decide)
 have HVR : Hid (∀ w', Ext w w' → Calls Tryz.prog 28 #[.agg #[.int .i64 x.n, .int .i64 x.inn, .int .i64 x.bits, .slice A x.ops.length c]] w' fun e w'' => e = .returned (.bool true) ∧ Ext w' w'') := fun w' hx => by
  have := spec_IsValidRoutine_any A c x w' (h.ext hx) (by omega)
  rw [hv] at this
  exact this
 have hk16 : 2 ^ inn ≤ 16 := by rcases (show inn = 1 ∨ inn = 2 ∨ inn = 3 ∨ inn = 4 by omega) with rfl | rfl | rfl | rfl <;> decide
 have hk0 : 0 < 2 ^ inn := Nat.pow_pos (by decide)
 have HIB : Hid (∀ w', Calls Tryz.prog 29 #[.int .i64 x.n, .int .i64 x.inn] w' fun e w'' => (∃ (X : Option Addr) (c : Nat), e = .returned (.agg #[.int .i64 0, .slice X (2 ^ inn) c]) ∧ TX w'' X (2 ^ inn) (2 ^ n) (bra0 n).r) ∧ Ext w' w'') := fun w' => by rw [hn, hi]; exact InitialBranch_any hn1 hn4 hin.1 hin.2 w'
 have HST : Hid (∀ (i : Nat) (o : Oq) (v : Value) (w' : World), x.ops[i]? = some o → ZR (2 ^ inn) (2 ^ n) (M i) v w' → Calls Tryz.prog 30 #[v, o.val] w' fun e w'' => (∃ v', e = .returned (.tuple #[v', .bool true]) ∧ ZR (2 ^ inn) (2 ^ n) (M (i + 1)) v' w'') ∧ Ext w' w'') := fun i o v w' ho hz => by
  obtain ⟨h1, h2, h3, j, h4⟩ := hMs i o ho
  exact l23Step_any hn1 hn4 hk0 hk16 o j h4 _ _ h1 h2 h3 v w' hz
 have HRD := Lib.hid h
 have HMN : Hid (M x.ops.length = L') := hMn
 have HM0 : Hid (M 0 = [bra0 n]) := hM0
 clear hn1 hn4 hin hk0 hk16 hrun hMs h hp hMn hM0 hv hn hi
 generalize 2 ^ inn = k at *
 generalize 2 ^ n = l at *
 obtain ⟨xn, hxn⟩ : ∃ xn, x.n = xn := ⟨_, rfl⟩
 obtain ⟨xi, hxi⟩ : ∃ xi, x.inn = xi := ⟨_, rfl⟩
 obtain ⟨xb, hxb⟩ : ∃ xb, x.bits = xb := ⟨_, rfl⟩
 obtain ⟨os, hos⟩ : ∃ os, x.ops = os := ⟨_, rfl⟩
 rw [hos] at hl HRD HMN HST HVR ⊢
 rw [hxn, hxi] at HIB
 rw [hxn, hxi, hxb] at HVR ⊢
 clear hxn hxi hxb hos
 obtain ⟨m, hm⟩ : ∃ m, os.length = m := ⟨_, rfl⟩
 have HML := Lib.hid hm
 rw [hm] at hl HRD HMN HVR ⊢
 clear hm
 go_enter Tryz.func17, Tryz.ntmps17
 have HB : Hid (Blk (w.alloc (.cells #[.int .i64 xn, .int .i64 xi, .int .i64 xb, .slice A m c] 26)) w.heap.size 26 #[.int .i64 xn, .int .i64 xi, .int .i64 xb, .slice A m c]) := Blk.new _ _ _
 have HX : Hid (Ext w (w.alloc (.cells #[.int .i64 xn, .int .i64 xi, .int .i64 xb, .slice A m c] 26))) := (Ext.refl _).alloc _
 go_upto_region 1 with (fail)
 generalize w.alloc (.cells #[.int .i64 xn, .int .i64 xi, .int .i64 xb, .slice A m c] 26) = w1 at *
 obtain ⟨p, hp⟩ : ∃ p, w.heap.size = p := ⟨_, rfl⟩
 rw [hp] at HB ⊢
 clear hp
 obtain ⟨⟨t0, t1, t2, t3⟩, -⟩ := cells4 HB.out
 go_wp2_with fail
 refine (HVR.out _ HX.out).mono ?_
 rintro e w2 ⟨rfl, hx2⟩
 have HB2 := Lib.hid (HB.out.ext hx2)
 have HX2 := Lib.hid (HX.out.trans hx2)
 clear t0 t1 t2 t3 hx2 HB HX HVR
 obtain ⟨⟨t0, t1, t2, t3⟩, -⟩ := cells4 HB2.out
 go_wp2_with fail
 refine (HIB.out _).mono ?_
 rintro e w3 ⟨⟨X, cx, rfl, htx⟩, hx3⟩
 have HB3 := Lib.hid (HB2.out.ext hx3)
 have HX3 := Lib.hid (HX2.out.trans hx3)
 have HT3 := Lib.hid htx
 clear t0 t1 t2 t3 hx3 HB2 HX2 htx HIB
 go_upto_region 5 with (fail)
 have HB4 := Lib.hid (HB3.out.alloc (.cells #[.int .i64 0, .slice X k cx] 47))
 have HX4 := Lib.hid (HX3.out.alloc (.cells #[.int .i64 0, .slice X k cx] 47))
 have HZ4 : Hid (ZR k l (M 0) (.slice (some ⟨w3.heap.size, 0, none⟩) 1 1) (w3.alloc (.cells #[.int .i64 0, .slice X k cx] 47))) := ⟨_, 1, [((bra0 n, X, cx) : Zb)], rfl, by rw [HM0.out]; rfl, rd_new _ _ _ 2 _ rfl rfl, ZX.one (HT3.out.kt (KT.ext ((Ext.refl _).alloc _))), fun h0 b o e => by injection e with e; injection e with e1; subst e1; exact ⟨_, Blk.new _ _ _⟩⟩
 clear HB3 HX3 HT3 HM0
 generalize w3.alloc (.cells #[.int .i64 0, .slice X k cx] 47) = w4 at *
 generalize (Value.slice (some ⟨w3.heap.size, 0, none⟩) 1 1) = v4 at *
 go_loopw [6, 7] (fun lv iv wi => ∃ i : Nat, iv = .int .i64 i ∧ i ≤ m ∧ Hid (ZR k l (M i) lv wi) ∧ Hid (Blk wi p 26 #[.int .i64 xn, .int .i64 xi, .int .i64 xb, .slice A m c]) ∧ Hid (Ext w wi)) (fun _ i _ => m - (intOf i).toNat)
 case atStart => exact ⟨0, rfl, Nat.zero_le _, HZ4, HB4, HX4⟩
 case round =>
  obtain ⟨i, rfl, hi, HZ, HB, HX⟩ := hrel
  clear HZ4 HB4 HX4
  obtain ⟨⟨t0, t1, t2, t3⟩, -⟩ := cells4 HB.out
  by_cases hlt : i < m
  ·have hi1 : IntKind.i64.wrap ((i : Int) + 1) = ((i + 1 : Nat) : Int) := by rw [IntWalk.i64_in _ (by omega)]; rfl
   have hi2 : wrap64 ((i : Int) + 1) = ((i + 1 : Nat) : Int) := by unfold wrap64; omega
   have HI : Hid (i < m ∧ m ≤ 120) := ⟨hlt, hl⟩
   have hilt : (i : Int) < (m : Int) := by omega
   obtain ⟨b, o, g, rfl, hb, hg, h0, h1, h2, h3, h4, h5, h6, h7⟩ := op_at (HRD.out.ext HX.out) hlt
   have HG := Lib.hid hg
   clear hg hb
   go_wp2_with fail
   refine (HST.out i g _ _ HG.out HZ.out).mono ?_
   rintro e w5 ⟨⟨v5, rfl, hz5⟩, hx5⟩
   have HZ5 := Lib.hid hz5
   have HB5 := Lib.hid (HB.out.ext hx5)
   have HX5 := Lib.hid (HX.out.trans hx5)
   clear hz5 hx5 HZ HB HX h0 h1 h2 h3 h4 h5 h6 h7 t0 t1 t2 t3
   go_wp2
   go_roundw
   case rel => exact ⟨i + 1, by first | rfl | rw [hi1] | rw [hi2], by have := HI.out; omega, HZ5, HB5, HX5⟩
   case measure => simp [intOf, hi2]; have := HI.out; omega
  ·have hil : i = m := by omega
   subst hil
   go_wp2
   go_ret2
   exact ⟨⟨_, rfl, by rw [← HMN.out]; exact HZ.out⟩, HX.out⟩
end Go.Proofs.YtdjckjfclhjpcaaGreat
/-
 Helper text (no claim of its own): the simulation, and whether lists of branches are equal, by the reference. Printed by gen_sif.py.
-/
namespace Go.Proofs.YtdjckjfclhjpcaaGreat
open Go.ChangeShapes Go.WideShapes Go.ChangeAt Go.RowKit Go.Deep
set_option linter.unusedVariables false
set_option linter.unusedSimpArgs false
set_option maxRecDepth 100000 in
set_option maxHeartbeats 8000000 in
theorem Simulate_no (x : Rt) (hv : vRt x = false) (hl : x.ops.length ≤ 1000000) (A : Option Addr) (c : Nat) (w : World) (h : Rd w w.heap.size 8 A x.ops.length (ocells x.ops)) :
  Calls Tryz.prog 9 #[.agg #[.int .i64 x.n, .int .i64 x.inn, .int .i64 x.bits, .slice A x.ops.length c]] w fun e w' => (∃ v, e = .returned (.tuple #[v, .bool false])) ∧ Ext w w' := by
 have HSP : Hid (∀ w', Ext w w' → Calls Tryz.prog 17 #[.agg #[.int .i64 x.n, .int .i64 x.inn, .int .i64 x.bits, .slice A x.ops.length c], .int .i64 x.ops.length] w' fun e w'' => (∃ v, e = .returned (.tuple #[v, .bool false])) ∧ Ext w' w'') := fun w' hx => SimulatePrefix_no x hv A c w' (h.ext hx) hl
 clear h hv
 go_enter Tryz.func9, Tryz.ntmps9
 have HB : Hid (Blk (w.alloc (.cells #[.int .i64 x.n, .int .i64 x.inn, .int .i64 x.bits, .slice A x.ops.length c] 26)) w.heap.size 26 #[.int .i64 x.n, .int .i64 x.inn, .int .i64 x.bits, .slice A x.ops.length c]) := Blk.new _ _ _
 have HX : Hid (Ext w (w.alloc (.cells #[.int .i64 x.n, .int .i64 x.inn, .int .i64 x.bits, .slice A x.ops.length c] 26))) := (Ext.refl _).alloc _
 go_upto_region 1 with (fail)
 generalize w.alloc (.cells #[.int .i64 x.n, .int .i64 x.inn, .int .i64 x.bits, .slice A x.ops.length c] 26) = w1 at *
 obtain ⟨⟨t0, t1, t2, t3⟩, -⟩ := cells4 HB.out
 go_wp2_with fail
 refine (HSP.out _ HX.out).mono ?_
 rintro e w2 ⟨⟨v, rfl⟩, hx2⟩
 go_wp2
 go_ret2
 exact ⟨⟨_, rfl⟩, HX.out.trans hx2⟩
set_option maxRecDepth 100000 in
set_option maxHeartbeats 8000000 in
theorem Simulate_any (x : Rt) (hv : vRt x = true) (n inn : Nat) (hn : x.n = n) (hi : x.inn = inn) (L' : List Brn) (hp : Path n (2 ^ inn) x.ops [bra0 n] L') (A : Option Addr) (c : Nat) (w : World) (h : Rd w w.heap.size 8 A x.ops.length (ocells x.ops)) :
  Calls Tryz.prog 9 #[.agg #[.int .i64 x.n, .int .i64 x.inn, .int .i64 x.bits, .slice A x.ops.length c]] w fun e w' => (∃ v, e = .returned (.tuple #[v, .bool true]) ∧ ZR (2 ^ inn) (2 ^ n) L' v w') ∧ Ext w w' := by
 have HSP : Hid (∀ w', Ext w w' → Calls Tryz.prog 17 #[.agg #[.int .i64 x.n, .int .i64 x.inn, .int .i64 x.bits, .slice A x.ops.length c], .int .i64 x.ops.length] w' fun e w'' => (∃ v, e = .returned (.tuple #[v, .bool true]) ∧ ZR (2 ^ inn) (2 ^ n) L' v w'') ∧ Ext w' w'') := fun w' hx => SimulatePrefix_any x hv n inn hn hi L' hp A c w' (h.ext hx)
 clear h hv hp hn hi
 generalize 2 ^ inn = k at *
 generalize 2 ^ n = l at *
 go_enter Tryz.func9, Tryz.ntmps9
 have HB : Hid (Blk (w.alloc (.cells #[.int .i64 x.n, .int .i64 x.inn, .int .i64 x.bits, .slice A x.ops.length c] 26)) w.heap.size 26 #[.int .i64 x.n, .int .i64 x.inn, .int .i64 x.bits, .slice A x.ops.length c]) := Blk.new _ _ _
 have HX : Hid (Ext w (w.alloc (.cells #[.int .i64 x.n, .int .i64 x.inn, .int .i64 x.bits, .slice A x.ops.length c] 26))) := (Ext.refl _).alloc _
 go_upto_region 1 with (fail)
 generalize w.alloc (.cells #[.int .i64 x.n, .int .i64 x.inn, .int .i64 x.bits, .slice A x.ops.length c] 26) = w1 at *
 obtain ⟨⟨t0, t1, t2, t3⟩, -⟩ := cells4 HB.out
 go_wp2_with fail
 refine (HSP.out _ HX.out).mono ?_
 rintro e w2 ⟨⟨v, rfl, hz⟩, hx2⟩
 go_wp2
 go_ret2
 exact ⟨⟨_, rfl, hz⟩, HX.out.trans hx2⟩
/-- A routine's cell is set: lists of branches are kept. -/
theorem zr_set {k l : Nat} {L : List Brn} {v : Value} {w : World} {q i : Nat} {cs : Array Value} (h : ZR k l L v w) (hq : Blk w q 26 cs) (u : Value) : ZR k l L v (w.setCell ⟨q, i, none⟩ u) := by
 obtain ⟨A, c, zs, e, h1, h2, h3, h4⟩ := h
 have hne : ∀ b o, A = some ⟨b, o, none⟩ → 0 < zs.length → b ≠ q ∧ ∃ cs, Blk w b 47 cs := fun b o e h0 => by
  obtain ⟨ds, hb⟩ := h4 h0 b o e
  refine ⟨?_, ds, hb⟩
  rintro rfl
  unfold Blk at hb hq
  rw [hb] at hq
  injection hq with hq
  injection hq with _ h9
  exact absurd h9 (by decide)
 refine ⟨A, c, zs, e, h1, ⟨h2.1, fun h0 => ?_⟩, h3.kt (KT.set_ hq (by decide) u), fun h0 b o e => ?_⟩
 ·obtain ⟨b, o, e, hb, hc⟩ := h2.2 h0
  exact ⟨b, o, e, by simp [World.setCell]; exact hb, fun j u' hu' => (World.cell?_of_block (a := ⟨b, o + j, none⟩) (Below.heap_setCell w ⟨q, i, none⟩ u b (hne b o e h0).1)).trans (hc j u' hu')⟩
 ·obtain ⟨h5, ds, h6⟩ := hne b o e h0
  exact ⟨ds, h6.far (p := ⟨q, i, none⟩) h5 u⟩
/-- A routine's cell is set: lists of operations are kept. -/
theorem rd_far {w : World} {q i m : Nat} {A : Option Addr} {xs : List Oq} {z0 z1 z2 z3 : Value} (h : Rd w w.heap.size 8 A m (ocells xs)) (hq : Blk w q 26 #[z0, z1, z2, z3]) (u : Value) : Rd (w.setCell ⟨q, i, none⟩ u) (w.setCell ⟨q, i, none⟩ u).heap.size 8 A m (ocells xs) :=
 ⟨h.1, fun h0 => by
  obtain ⟨b, o, e, hb, hc⟩ := h.2 h0
  have hbq : b ≠ q := by
   rintro rfl
   have h7 : 7 < (ocells xs).length := by rw [h.1]; omega
   have h8 := hc 7 _ (List.getElem?_eq_getElem h7)
   rw [hq.cell (o + 7), Array.getElem?_eq_none (by simp)] at h8
   cases h8
  exact ⟨b, o, e, by simp [World.setCell]; exact hb, fun j u' hu' => (World.cell?_of_block (a := ⟨b, o + j, none⟩) (Below.heap_setCell w ⟨q, i, none⟩ u b hbq)).trans (hc j u' hu')⟩⟩
set_option maxRecDepth 100000 in
set_option maxHeartbeats 8000000 in
theorem EqualMatrix_same {k l : Nat} (hk : k ≤ 16) (hl : l ≤ 1048576) (r : Nat → List Dw) (X Y : Option Addr) (c d : Nat) (w : World) (hx : TX w X k l r) (hy : TX w Y k l r) :
  Calls Tryz.prog 18 #[.slice X k c, .slice Y k d] w fun e w' => e = .returned (.bool true) ∧ Ext w w' := by
 have HX := Lib.hid hx
 have HY := Lib.hid hy
 have HES : Hid (∀ (j b1 c1 b2 c2 : Nat) (w' : World), TT w' b1 l (r j) → TT w' b2 l (r j) → Calls Tryz.prog 31 #[.slice (some ⟨b1, 0, none⟩) l c1, .slice (some ⟨b2, 0, none⟩) l c2] w' fun e w'' => e = .returned (.bool true) ∧ Ext w' w'') := fun j b1 c1 b2 c2 w' h1 h2 => by
  refine (EqualState_any _ _ c1 c2 l (r j) (r j) w' h1.2 h2.2 h1.len h1.len hl).mono ?_
  rintro e w'' ⟨⟨b, rfl, hb⟩, hx⟩
  rw [hb.2 rfl]
  exact ⟨rfl, hx⟩
 clear hx hy
 go_enter Tryz.func18, Tryz.ntmps18
 go_wp2
 go_loopw [5] (fun iv wi => ∃ i : Nat, iv = .int .i64 i ∧ i ≤ k ∧ Hid (Ext w wi)) (fun i _ => k - (intOf i).toNat)
 case atStart => exact ⟨0, rfl, Nat.zero_le _, Ext.refl _⟩
 case round =>
  obtain ⟨i, rfl, hi, HE⟩ := hrel
  by_cases hlt : i < k
  ·have hi1 : IntKind.i64.wrap ((i : Int) + 1) = ((i + 1 : Nat) : Int) := by rw [IntWalk.i64_in _ (by omega)]; rfl
   have hi2 : wrap64 ((i : Int) + 1) = ((i + 1 : Nat) : Int) := by unfold wrap64; omega
   have HI : Hid (i < k ∧ k ≤ 16) := ⟨hlt, hk⟩
   have hi0 : (0 : Int) ≤ (i : Int) := by omega
   have hik : (i : Int) < (k : Int) := by omega
   obtain ⟨bx, b1, c1, e1, hc1, ht1⟩ := (HX.out.kt (KT.ext HE.out)).at_ hlt
   obtain ⟨bY, b2, c2, e2, hc2, ht2⟩ := (HY.out.kt (KT.ext HE.out)).at_ hlt
   subst e1 e2
   have HK : Hid (∀ w', Ext wr w' → (w'.cell? ⟨bx, i, none⟩ = some (.slice (some ⟨b1, 0, none⟩) l c1) ∧ w'.cell? ⟨bY, i, none⟩ = some (.slice (some ⟨b2, 0, none⟩) l c2))) := fun w' hx => ⟨hc1 w' hx, hc2 w' hx⟩
   have HT1 := Lib.hid ht1
   have HT2 := Lib.hid ht2
   clear hc1 hc2 ht1 ht2
   go_upto_region 6 with (fail)
   refine wp_region_held_drew (S := fun w' => (w'.cell? ⟨bx, i, none⟩ = some (.slice (some ⟨b1, 0, none⟩) l c1) ∧ w'.cell? ⟨bY, i, none⟩ = some (.slice (some ⟨b2, 0, none⟩) l c2))) (by kernel_rfl) (HK.out _ (Ext.refl wr).drew) (fun hHeld => ?_)
   (refine tk 0 (v := ?_) ?_ ?_; rotate_left; · (intro w hSw; (try dsimp only at hSw); go_simp; all_goals with_reducible rfl))
   (try simp only [Act.put, L1, L2, L3, L4, L5, L6])
   (refine tk 1 (v := ?_) ?_ ?_; rotate_left; · (intro w hSw; (try dsimp only at hSw); go_simp; all_goals with_reducible rfl))
   (try simp only [Act.put, L1, L2, L3, L4, L5, L6])
   (refine tk 2 (v := ?_) ?_ ?_; rotate_left; · (intro w hSw; (try dsimp only at hSw); go_simp; all_goals with_reducible rfl))
   (try simp only [Act.put, L1, L2, L3, L4, L5, L6])
   (refine tk 3 (v := ?_) ?_ ?_; rotate_left; · (intro w hSw; (try dsimp only at hSw); go_simp; all_goals with_reducible rfl))
   (try simp only [Act.put, L1, L2, L3, L4, L5, L6])
   (refine tk 4 (v := ?_) ?_ ?_; rotate_left; · (intro w hSw; (try dsimp only at hSw); go_simp; all_goals with_reducible rfl))
   (try simp only [Act.put, L1, L2, L3, L4, L5, L6])
   (refine tk 5 (v := ?_) ?_ ?_; rotate_left; · (intro w hSw; (try dsimp only at hSw); go_simp; all_goals with_reducible rfl))
   (try simp only [Act.put, L1, L2, L3, L4, L5, L6])
   (refine tk 6 (v := ?_) ?_ ?_; rotate_left; · (intro w hSw; (try dsimp only at hSw); go_simp; all_goals with_reducible rfl))
   (try simp only [Act.put, L1, L2, L3, L4, L5, L6])
   (refine tk 7 (v := ?_) ?_ ?_; rotate_left; · (intro w hSw; (try dsimp only at hSw); go_simp; all_goals with_reducible rfl))
   (try simp only [Act.put, L1, L2, L3, L4, L5, L6])
   refine wpAnyH_ready (rs := [8]) (by kernel_rfl) (by simp) ?_
   refine AllReadyH.cons rfl (fun K hK => ?_) AllReadyH.nil
   go_simp
   refine (HES.out i b1 c1 b2 c2 _ (HT1.out.ext (Ext.refl wr).drew) (HT2.out.ext (Ext.refl wr).drew)).mono ?_
   rintro e w5 ⟨rfl, hx5⟩
   have HQ : Hid (Ext wr w5) := (Ext.refl wr).drew.trans hx5
   clear hx5
   refine hK.out _ _ (HK.out _ HQ.out) (fun hHeld => ?_)
   clear hK K
   (try simp only [Act.put, L1, L2, L3, L4, L5, L6])
   (refine tk 9 (v := ?_) ?_ ?_; rotate_left; · (intro w hSw; (try dsimp only at hSw); go_simp; all_goals with_reducible rfl))
   (try simp only [Act.put, L1, L2, L3, L4, L5, L6])
   (refine wpAnyH_done (by kernel_rfl) ?_ _)
   have HE5 := Lib.hid (HE.out.trans HQ.out)
   clear hHeld HK HQ HE HT1 HT2
   go_wp2
   go_roundw
   case rel => exact ⟨i + 1, by first | rfl | rw [hi1] | rw [hi2], by have := HI.out; omega, HE5⟩
   case measure => simp [intOf, hi2]; have := HI.out; omega
  ·have hik2 : i = k := by omega
   subst hik2
   go_wp2
   go_ret
   exact ⟨rfl, HE.out⟩
set_option maxRecDepth 100000 in
set_option maxHeartbeats 8000000 in
theorem EqualBranches_same {k l : Nat} (hk : k ≤ 16) (hl : l ≤ 1048576) (L : List Brn) (hL : L.length ≤ 1000000) (u v : Value) (w : World) (hu : ZR k l L u w) (hv : ZR k l L v w) :
  Calls Tryz.prog 10 #[u, v] w fun e w' => e = .returned (.bool true) ∧ Ext w w' := by
 obtain ⟨A, c, zs, rfl, h1, h2, h3, -⟩ := hu
 obtain ⟨B, d, ys, rfl, h4, h5, h6, -⟩ := hv
 have HZ := Lib.hid (And.intro h1 (And.intro h2 h3))
 have HY := Lib.hid (And.intro h4 (And.intro h5 h6))
 have e1 := z_len h1
 have e2 := z_len h4
 obtain ⟨m, hm⟩ : ∃ m, L.length = m := ⟨_, rfl⟩
 rw [hm] at e1 e2 hL
 have HL1 := Lib.hid e1
 have HL2 := Lib.hid e2
 rw [e1, e2]
 have HES : Hid (∀ (r : Nat → List Dw) (X Y : Option Addr) (c d : Nat) (w' : World), TX w' X k l r → TX w' Y k l r → Calls Tryz.prog 18 #[.slice X k c, .slice Y k d] w' fun e w'' => e = .returned (.bool true) ∧ Ext w' w'') := fun r X Y c d w' h1 h2 => EqualMatrix_same hk hl r X Y c d w' h1 h2
 clear h1 h2 h3 h4 h5 h6 e1 e2 hm
 go_enter Tryz.func10, Tryz.ntmps10
 go_wp2
 go_loopw [5] (fun iv wi => ∃ i : Nat, iv = .int .i64 i ∧ i ≤ m ∧ Hid (Ext w wi)) (fun i _ => m - (intOf i).toNat)
 case atStart => exact ⟨0, rfl, Nat.zero_le _, Ext.refl _⟩
 case round =>
  obtain ⟨i, rfl, hi, HE⟩ := hrel
  by_cases hlt : i < m
  ·have hi1 : IntKind.i64.wrap ((i : Int) + 1) = ((i + 1 : Nat) : Int) := by rw [IntWalk.i64_in _ (by omega)]; rfl
   have hi2 : wrap64 ((i : Int) + 1) = ((i + 1 : Nat) : Int) := by unfold wrap64; omega
   have HI : Hid (i < m ∧ m ≤ 1000000) := ⟨hlt, hL⟩
   have hi0 : (0 : Int) ≤ (i : Int) := by omega
   have hik : (i : Int) < (m : Int) := by omega
   obtain ⟨bx, ox, z, e1, hb1, hz1, hc1, hc2⟩ := z_at HZ.out.2.1 (by rw [HL1.out]; exact hlt)
   obtain ⟨bY, oy, z', e2, hb2, hz2, hc3, hc4⟩ := z_at HY.out.2.1 (by rw [HL2.out]; exact hlt)
   subst e1 e2
   have hzz : z'.1 = z.1 := by
    have h8 := take_map HZ.out.1 hz1
    have h9 := take_map HY.out.1 hz2
    rw [h8] at h9
    exact (Option.some.inj h9).symm
   have HK : Hid (∀ w', Ext wr w' → ((w'.cell? ⟨bx, ox + i * 2, none⟩ = some (.int .i64 z.1.bits) ∧ w'.cell? ⟨bx, ox + i * 2 + 1, none⟩ = some (.slice z.2.1 k z.2.2)) ∧ w'.cell? ⟨bY, oy + i * 2, none⟩ = some (.int .i64 z'.1.bits) ∧ w'.cell? ⟨bY, oy + i * 2 + 1, none⟩ = some (.slice z'.2.1 k z'.2.2))) := fun w' hx => ⟨⟨((HE.out.trans hx).cell (p := ⟨bx, ox + i * 2, none⟩) hb1).trans hc1, ((HE.out.trans hx).cell (p := ⟨bx, ox + i * 2 + 1, none⟩) hb1).trans hc2⟩, ((HE.out.trans hx).cell (p := ⟨bY, oy + i * 2, none⟩) hb2).trans hc3, ((HE.out.trans hx).cell (p := ⟨bY, oy + i * 2 + 1, none⟩) hb2).trans hc4⟩
   have HT1 : Hid (TX wr z.2.1 k l z.1.r) := (HZ.out.2.2 z (List.mem_of_getElem? hz1)).kt (KT.ext HE.out)
   have HT2 : Hid (TX wr z'.2.1 k l z.1.r) := by unfold Hid; rw [← hzz]; exact (HY.out.2.2 z' (List.mem_of_getElem? hz2)).kt (KT.ext HE.out)
   rw [hzz] at HK
   clear hc1 hc2 hc3 hc4 hb1 hb2 hz1 hz2 hzz
   go_upto_region 6 with (fail)
   refine wp_region_held_drew (S := fun w' => ((w'.cell? ⟨bx, ox + i * 2, none⟩ = some (.int .i64 z.1.bits) ∧ w'.cell? ⟨bx, ox + i * 2 + 1, none⟩ = some (.slice z.2.1 k z.2.2)) ∧ w'.cell? ⟨bY, oy + i * 2, none⟩ = some (.int .i64 z.1.bits) ∧ w'.cell? ⟨bY, oy + i * 2 + 1, none⟩ = some (.slice z'.2.1 k z'.2.2))) (by kernel_rfl) (HK.out _ (Ext.refl wr).drew) (fun hHeld => ?_)
   (refine tk 0 (v := ?_) ?_ ?_; rotate_left; · (intro w hSw; (try dsimp only at hSw); go_simp; all_goals with_reducible rfl))
   (try simp only [Act.put, L1, L2, L3, L4, L5, L6])
   (refine tk 1 (v := ?_) ?_ ?_; rotate_left; · (intro w hSw; (try dsimp only at hSw); go_simp; all_goals with_reducible rfl))
   (try simp only [Act.put, L1, L2, L3, L4, L5, L6])
   (refine tk 2 (v := ?_) ?_ ?_; rotate_left; · (intro w hSw; (try dsimp only at hSw); go_simp; all_goals with_reducible rfl))
   (try simp only [Act.put, L1, L2, L3, L4, L5, L6])
   (refine tk 3 (v := ?_) ?_ ?_; rotate_left; · (intro w hSw; (try dsimp only at hSw); go_simp; all_goals with_reducible rfl))
   (try simp only [Act.put, L1, L2, L3, L4, L5, L6])
   (refine tk 4 (v := ?_) ?_ ?_; rotate_left; · (intro w hSw; (try dsimp only at hSw); go_simp; all_goals with_reducible rfl))
   (try simp only [Act.put, L1, L2, L3, L4, L5, L6])
   (refine tk 5 (v := ?_) ?_ ?_; rotate_left; · (intro w hSw; (try dsimp only at hSw); go_simp; all_goals with_reducible rfl))
   (try simp only [Act.put, L1, L2, L3, L4, L5, L6])
   (refine tk 6 (v := ?_) ?_ ?_; rotate_left; · (intro w hSw; (try dsimp only at hSw); go_simp; all_goals with_reducible rfl))
   (try simp only [Act.put, L1, L2, L3, L4, L5, L6])
   (refine tk 7 (v := ?_) ?_ ?_; rotate_left; · (intro w hSw; (try dsimp only at hSw); go_simp; all_goals with_reducible rfl))
   (try simp only [Act.put, L1, L2, L3, L4, L5, L6])
   (refine tk 8 (v := ?_) ?_ ?_; rotate_left; · (intro w hSw; (try dsimp only at hSw); go_simp; all_goals with_reducible rfl))
   (try simp only [Act.put, L1, L2, L3, L4, L5, L6])
   (refine tk 9 (v := ?_) ?_ ?_; rotate_left; · (intro w hSw; (try dsimp only at hSw); go_simp; all_goals with_reducible rfl))
   (try simp only [Act.put, L1, L2, L3, L4, L5, L6])
   (refine tk 10 (v := ?_) ?_ ?_; rotate_left; · (intro w hSw; (try dsimp only at hSw); go_simp; all_goals with_reducible rfl))
   (try simp only [Act.put, L1, L2, L3, L4, L5, L6])
   (refine tk 11 (v := ?_) ?_ ?_; rotate_left; · (intro w hSw; (try dsimp only at hSw); go_simp; all_goals with_reducible rfl))
   (try simp only [Act.put, L1, L2, L3, L4, L5, L6])
   (refine tk 12 (v := ?_) ?_ ?_; rotate_left; · (intro w hSw; (try dsimp only at hSw); go_simp; all_goals with_reducible rfl))
   (try simp only [Act.put, L1, L2, L3, L4, L5, L6])
   (refine tk 13 (v := ?_) ?_ ?_; rotate_left; · (intro w hSw; (try dsimp only at hSw); go_simp; all_goals with_reducible rfl))
   (try simp only [Act.put, L1, L2, L3, L4, L5, L6])
   (refine tk 14 (v := ?_) ?_ ?_; rotate_left; · (intro w hSw; (try dsimp only at hSw); go_simp; all_goals with_reducible rfl))
   (try simp only [Act.put, L1, L2, L3, L4, L5, L6])
   (refine tk 15 (v := ?_) ?_ ?_; rotate_left; · (intro w hSw; (try dsimp only at hSw); go_simp; all_goals with_reducible rfl))
   (try simp only [Act.put, L1, L2, L3, L4, L5, L6])
   (refine tk 16 (v := ?_) ?_ ?_; rotate_left; · (intro w hSw; (try dsimp only at hSw); go_simp; all_goals with_reducible rfl))
   (try simp only [Act.put, L1, L2, L3, L4, L5, L6])
   (refine tk 17 (v := ?_) ?_ ?_; rotate_left; · (intro w hSw; (try dsimp only at hSw); go_simp; all_goals with_reducible rfl))
   (try simp only [Act.put, L1, L2, L3, L4, L5, L6])
   (refine tk 18 (v := ?_) ?_ ?_; rotate_left; · (intro w hSw; (try dsimp only at hSw); go_simp; all_goals with_reducible rfl))
   (try simp only [Act.put, L1, L2, L3, L4, L5, L6])
   (refine tk 19 (v := ?_) ?_ ?_; rotate_left; · (intro w hSw; (try dsimp only at hSw); go_simp; all_goals with_reducible rfl))
   (try simp only [Act.put, L1, L2, L3, L4, L5, L6])
   (refine tk 20 (v := ?_) ?_ ?_; rotate_left; · (intro w hSw; (try dsimp only at hSw); go_simp; all_goals with_reducible rfl))
   (try simp only [Act.put, L1, L2, L3, L4, L5, L6])
   (refine tk 21 (v := ?_) ?_ ?_; rotate_left; · (intro w hSw; (try dsimp only at hSw); go_simp; all_goals with_reducible rfl))
   (try simp only [Act.put, L1, L2, L3, L4, L5, L6])
   refine wpAnyH_ready (rs := [22]) (by kernel_rfl) (by simp) ?_
   refine AllReadyH.cons rfl (fun K hK => ?_) AllReadyH.nil
   go_simp
   refine (HES.out z.1.r z.2.1 z'.2.1 z.2.2 z'.2.2 _ (HT1.out.kt (KT.ext (Ext.refl wr).drew)) (HT2.out.kt (KT.ext (Ext.refl wr).drew))).mono ?_
   rintro e w5 ⟨rfl, hx5⟩
   have HQ : Hid (Ext wr w5) := (Ext.refl wr).drew.trans hx5
   clear hx5
   refine hK.out _ _ (HK.out _ HQ.out) (fun hHeld => ?_)
   clear hK K
   (try simp only [Act.put, L1, L2, L3, L4, L5, L6])
   (refine tk 23 (v := ?_) ?_ ?_; rotate_left; · (intro w hSw; (try dsimp only at hSw); go_simp; all_goals with_reducible rfl))
   (try simp only [Act.put, L1, L2, L3, L4, L5, L6])
   (refine tk 24 (v := ?_) ?_ ?_; rotate_left; · (intro w hSw; (try dsimp only at hSw); go_simp; all_goals with_reducible rfl))
   (try simp only [Act.put, L1, L2, L3, L4, L5, L6])
   (refine wpAnyH_done (by kernel_rfl) ?_ _)
   have HE5 := Lib.hid (HE.out.trans HQ.out)
   clear hHeld HK HQ HE HT1 HT2
   go_wp2
   go_roundw
   case rel => exact ⟨i + 1, by first | rfl | rw [hi1] | rw [hi2], by have := HI.out; omega, HE5⟩
   case measure => simp [intOf, hi2]; have := HI.out; omega
  ·have hik2 : i = m := by omega
   subst hik2
   go_wp2
   go_ret
   exact ⟨rfl, HE.out⟩
end Go.Proofs.YtdjckjfclhjpcaaGreat
/-
 Helper text (no claim of its own): a routine's decomposition is valid where the routine is, and both are simulated alike.
-/
namespace Go.Proofs.YtdjckjfclhjpcaaGreat
open Go.ChangeShapes Go.WideShapes Go.ChangeAt Go.RowKit Go.Deep
set_option linter.unusedVariables false
theorem runs_mem {n bits : Int} : ∀ {os : List Oq} {j : Nat}, Runs n bits os j → ∀ o ∈ os, ∃ j', okRun n bits j' o = true
 | o :: os, j, h, o', ho => by
  rcases List.mem_cons.1 ho with rfl | ho
  ·exact ⟨j, h.1⟩
  ·exact runs_mem h.2 o' ho
/-- A gate of a valid op, put into an op of the same condition. -/
theorem ok_gop {n : Nat} {bits : Int} {j : Nat} {o : Oq} {g : Gt} (h : okRun (n : Int) bits j o = true) (h1 : (o.k == 1) = true) (hg : vg g n = true) : okRun (n : Int) bits j (gop o.cond g) = true := by
 unfold okRun at h ⊢
 simp only [Bool.and_eq_true] at h ⊢
 obtain ⟨⟨hv, hc⟩, -⟩ := h
 refine ⟨⟨?_, hc⟩, by show (!((1 : Int) == 2) || _) = true; rfl⟩
 unfold vOp at hv ⊢
 simp only [Bool.and_eq_true] at hv ⊢
 rw [if_pos (beq_iff_eq.1 h1)] at hv
 rw [if_pos (show (gop o.cond g).k = 1 from rfl)]
 simp only [Bool.and_eq_true] at hv ⊢
 exact ⟨hv.1, ⟨eqO_self _, hg⟩, hv.2.2⟩
theorem fold_gops {n : Nat} {bits : Int} {j : Nat} {c : Int} : ∀ (gs : List Gt), (∀ g ∈ gs, okRun (n : Int) bits j (gop c g) = true) → (gops gs c).foldl (runS (n : Int) bits) (some j) = some j
 | [], _ => rfl
 | g :: gs, h => by
  show (gops gs c).foldl (runS (n : Int) bits) (runS (n : Int) bits (some j) (gop c g)) = some j
  have e : runS (n : Int) bits (some j) (gop c g) = some j := by
   have h1 := h g (List.mem_cons_self ..)
   show (if okRun (n : Int) bits j (gop c g) = true then some (if ((gop c g).k == 2) = true then j + 1 else j) else none) = some j
   rw [if_pos h1, if_neg (by show ¬ ((1 : Int) == 2) = true; decide)]
  rw [e]
  exact fold_gops gs fun g' h' => h g' (List.mem_cons_of_mem _ h')
theorem fold_dec1 {n : Nat} {bits : Int} {j : Nat} {o : Oq} (h : okRun (n : Int) bits j o = true) : (dec1 o).foldl (runS (n : Int) bits) (some j) = some (if (o.k == 2) = true then j + 1 else j) := by
 cases h1 : (o.k == 1) with
 | true =>
  have h2 : (o.k == 2) = false := by rw [beq_iff_eq.1 h1]; rfl
  rw [dec1_1 h1, h2, if_neg (by decide)]
  have hg := (okO_of h).g h1
  exact fold_gops _ fun g hg' => ok_gop h h1 ((same_dec hg).2 g hg')
 | false =>
  cases h3 : (o.k == 3) with
  | true =>
   have h2 : (o.k == 2) = false := by rw [beq_iff_eq.1 h3]; rfl
   rw [dec1_3 h1 h3, h2, if_neg (by decide)]
   rfl
  | false =>
   rw [dec1_n h1 h3]
   show (if okRun (n : Int) bits j o = true then some (if (o.k == 2) = true then j + 1 else j) else none) = _
   rw [if_pos h]
theorem fold_dec {n : Nat} {bits : Int} : ∀ (xs : List Oq) (j j' : Nat), xs.foldl (runS (n : Int) bits) (some j) = some j' → (decOps xs).foldl (runS (n : Int) bits) (some j) = some j'
 | [], _, _, h => h
 | o :: xs, j, j', h => by
  rw [List.foldl_cons] at h
  by_cases hk : okRun (n : Int) bits j o = true
  ·have e : runS (n : Int) bits (some j) o = some (if (o.k == 2) = true then j + 1 else j) := by
    show (if okRun (n : Int) bits j o = true then some (if (o.k == 2) = true then j + 1 else j) else none) = _
    rw [if_pos hk]
   rw [e] at h
   show ((o :: xs).flatMap dec1).foldl _ _ = _
   rw [List.flatMap_cons, List.foldl_append, fold_dec1 hk]
   exact fold_dec xs _ _ h
  ·have e : runS (n : Int) bits (some j) o = none := by
    show (if okRun (n : Int) bits j o = true then some (if (o.k == 2) = true then j + 1 else j) else none) = _
    rw [if_neg hk]
   rw [e, runS_none] at h
   cases h
/-- The decomposed routine. -/
def decRt (x : Rt) : Rt := ⟨x.n, x.inn, x.bits, decOps x.ops⟩
theorem vRt_dec {x : Rt} (h : vRt x = true) (hl : (decOps x.ops).length ≤ 120) : vRt (decRt x) = true := by
 have h0 := vRt_bd h
 obtain ⟨n, hn⟩ := Int.eq_ofNat_of_zero_le (show 0 ≤ x.n by omega)
 unfold vRt at h ⊢
 simp only [Bool.and_eq_true] at h ⊢
 refine ⟨⟨h.1.1, decide_eq_true hl⟩, ?_⟩
 have h5 := h.2
 unfold lst runF at h5 ⊢
 show ((decOps x.ops).foldl (runS x.n x.bits) (some 0)).any (fun k => (k : Int) == x.bits) = true
 rw [hn] at h5 ⊢
 cases hf : x.ops.foldl (runS (n : Int) x.bits) (some 0) with
 | none => rw [hf] at h5; cases h5
 | some j =>
  rw [hf] at h5
  rw [fold_dec _ _ _ hf]
  exact h5
theorem path_len {n k : Nat} {bits : Int} : ∀ (os : List Oq) (j : Nat) (L L' : List Brn), Path n k os L L' → Runs (n : Int) bits os j → Bdd j L → j ≤ 3 → L'.length ≤ 8
 | [], j, L, L', hp, _, hb, hj => by
  have e : L' = L := hp
  rw [e]
  exact Nat.le_trans hb.1 (Nat.pow_le_pow_right (n := 2) (by decide) hj)
 | o :: os, j, L, L', hp, hr, hb, hj => by
  obtain ⟨M1, hS, hp⟩ := hp
  obtain ⟨hk, hr⟩ := hr
  have ho := okO_of hk
  have hj' : (if (o.k == 2) = true then j + 1 else j) ≤ 3 := by
   split
   ·rename_i h2
    obtain ⟨q, h3, h4, h5, h6⟩ := ho.m h2
    omega
   ·exact hj
  exact path_len os _ M1 L' hp hr (bdd_step ho hS hb) hj'
/-- What the law needs: both simulations end alike. -/
theorem both {x : Rt} (h : vRt x = true) (hh : hcx x.ops ≤ 22) : ∃ (n inn : Nat) (L : List Brn), x.n = n ∧ x.inn = inn ∧ (1 ≤ n ∧ n ≤ 4) ∧ (1 ≤ inn ∧ inn ≤ 4) ∧ Path n (2 ^ inn) x.ops [bra0 n] L ∧ Path n (2 ^ inn) (decOps x.ops) [bra0 n] L ∧ L.length ≤ 8 := by
 have h9 := h
 unfold vRt inB at h9
 simp only [Bool.and_eq_true, decide_eq_true_eq] at h9
 obtain ⟨n, hn⟩ := Int.eq_ofNat_of_zero_le (show 0 ≤ x.n by omega)
 obtain ⟨inn, hi⟩ := Int.eq_ofNat_of_zero_le (show 0 ≤ x.inn by omega)
 have hr := vRt_runs h
 rw [hn] at hr
 have hv : ∀ o ∈ x.ops, (o.k == 1) = true → vg o.g n = true := fun o ho h1 => by
  obtain ⟨j, hj⟩ := runs_mem hr o ho
  exact (okO_of hj).g h1
 obtain ⟨L, l1, l2, -⟩ := sim_dec (k := 2 ^ inn) x.ops 0 [bra0 n] hv (inv0 n) (by omega)
 exact ⟨n, inn, L, hn, hi, by omega, by omega, l1, l2, path_len x.ops 0 _ _ l1 hr (bdd0 n) (by decide)⟩
end Go.Proofs.YtdjckjfclhjpcaaGreat
/-
 Helper text (no claim of its own): Edge as records, slices of them, and the laws' own helpers on them (size, copy, comparison). Printed by gen_fam.py.
-/
namespace Go.Proofs.YtdjckjfclhjpcaaGreat
open Go.ChangeShapes Go.WideShapes Go.ChangeAt Go.RowKit Go.Deep

structure Ed where
 a : Int
 b : Int
def Ed.ok (x : Ed) : Prop := I64 x.a ∧ I64 x.b
abbrev Ed.val (x : Ed) : Value := .agg #[.int .i64 x.a, .int .i64 x.b]
def Ed.cells (x : Ed) : List Value := [.int .i64 x.a, .int .i64 x.b]
abbrev ecells (xs : List Ed) : List Value := xs.flatMap Ed.cells
theorem Ed.cells_len (x : Ed) : x.cells.length = 2 := rfl
theorem Ed.one (xs : List Ed) : ∀ u ∈ ecells xs, u.oneCell' = true := by
 intro u hu
 obtain ⟨x, _, hx⟩ := List.mem_flatMap.1 hu
 simp [Ed.cells] at hx
 rcases hx with rfl | rfl <;> rfl
end Go.Proofs.YtdjckjfclhjpcaaGreat
/-
 Helper text (no claim of its own): further comparisons of slices. Printed by gen_cmp.py.
-/
namespace Go.Proofs.YtdjckjfclhjpcaaGreat
open Go.ChangeShapes Go.WideShapes Go.ChangeAt Go.RowKit Go.Deep
set_option maxRecDepth 100000 in
set_option maxHeartbeats 2000000 in
theorem sameOps_any (A B : Option Addr) (n m c d : Nat) (xs ys : List Oq) (w : World) (h : Rd w w.heap.size 8 A n (ocells xs)) (h' : Rd w w.heap.size 8 B m (ocells ys)) (hn : n ≤ 2000000000000) (hm : m ≤ 2000000000000) :
  Calls Tryz.prog 7 #[.slice A n c, .slice B m d] w fun e w' => e = .returned (.bool (eqL eqO xs ys)) ∧ Ext w w' := by
 by_cases hnm : n = m
 ·subst hnm
  go_enter Tryz.func7, Tryz.ntmps7
  go_wp2
  go_loopw [5] (fun i wr => ∃ k : Nat, k ≤ n ∧ i = .int .i64 k ∧ Hid (eqL eqO (xs.take k) (ys.take k) = true) ∧ ∃ q, wr = w.drewN q) (fun i _ => n - (intOf i).toNat)
  case atStart => exact ⟨0, Nat.zero_le _, rfl, by simp [Hid, eqL], 0, rfl⟩
  case round =>
   obtain ⟨k, hk, rfl, HQ, q, rfl⟩ := hrel
   by_cases hlt : k < n
   ·obtain ⟨b, o, g, rfl, hb, hg, h0, h1, h2, h3, h4, h5, h6, h7⟩ := op_at h hlt
    obtain ⟨b', o', g', rfl, hb', hg', r0, r1, r2, r3, r4, r5, r6, r7⟩ := op_at h' hlt
    have HG := Lib.hid hg
    have HG' := Lib.hid hg'
    clear hg hg'
    cases hq : eqO g g'
    ·have HF := Lib.hid (eqL_false eqO HG.out HG'.out hq)
     have HN := (show ∀ w, (Op.equalIn 10000 40 g.val g'.val).run Tryz.prog w = .ok false w from fun w => by rw [eqIn_op, hq])
     have HE := Tryz.eqgOp
     go_wp2
     go_quiet (fail)
     go_wp2
     go_ret
     exact ⟨ret_bool HF.out.symm, xx⟩
    ·have HN := (show ∀ w, (Op.equalIn 10000 40 g.val g'.val).run Tryz.prog w = .ok true w from fun w => by rw [eqIn_op, hq])
     have HE := Tryz.eqgOp
     go_wp2
     go_quiet (fail)
     go_wp2
     go_roundw
     case rel => exact ⟨k + 1, by omega, by go_num, by unfold Hid; rw [eqL_snoc _ HG.out HG'.out, HQ.out, hq]; rfl, _, rfl⟩
     case measure => simp [intOf]; omega
   ·have : k = n := by omega
    subst this
    rw [List.take_of_length_le (by rw [h.len Oq.cells_len (by omega)]; omega), List.take_of_length_le (by rw [h'.len Oq.cells_len (by omega)]; omega)] at HQ
    go_wp2
    go_ret
    exact ⟨ret_bool HQ.out.symm, xx⟩
 ·have hnm' : ((n : Int) != (m : Int)) = true := by rw [bne_iff_ne]; omega
  have HF := Lib.hid (eqL_len eqO xs ys (by rw [h.len Oq.cells_len (by omega), h'.len Oq.cells_len (by omega)]; exact hnm))
  go_enter Tryz.func7, Tryz.ntmps7
  go_wp2
  go_ret
  exact ⟨ret_bool HF.out.symm, Ext.refl _⟩
end Go.Proofs.YtdjckjfclhjpcaaGreat
/-
 Helper text (no claim of its own): the draw for the ends of paths, and the laws' own small helpers.
-/
namespace Go.Proofs.YtdjckjfclhjpcaaGreat
open Go.ChangeShapes Go.WideShapes Go.ChangeAt Go.RowKit Go.Deep
theorem big_any (A : Option Addr) (n c : Nat) (w : World) (hn : n ≤ maxLen) :
  Calls Tryz.prog 4 #[.slice A n c] w fun e w' => e = .returned (.bool (decide (1048576 < n))) ∧ w = w' := by
 unfold maxLen at hn
 go_enter Tryz.func4, Tryz.ntmps4
 go_wp2
 go_ret
 exact ⟨ret_bool (by first | rfl | (rw [decide_eq_decide]; omega)), rfl⟩
end Go.Proofs.YtdjckjfclhjpcaaGreat
namespace Go.Proofs.YtdjckjfclhjpcaaGreat
open Go.ChangeShapes Go.WideShapes Go.ChangeAt Go.RowKit Go.Deep
set_option linter.unusedVariables false
set_option linter.unusedSimpArgs false
namespace fnLoweredOps
set_option maxRecDepth 100000 in
set_option maxHeartbeats 8000000 in
theorem walk (A : Option Addr) (n c : Nat) (bs : List Int) (w : World) (h : Rd w w.heap.size 1 A n (u8cs bs)) (hm : n ≤ maxLen) (hb : ∀ g ∈ bs, 0 ≤ g ∧ g ≤ 255) :
  Calls Tryz.prog 3 #[.slice A n c] w fun e w' => e = .returned (.bool true) ∧ Ext w w' := by
 go_enter Tryz.func3, Tryz.ntmps3
 go_wp2_with fail
 refine (big_any A n c _ hm).mono ?_
 rintro e w0 ⟨rfl, rfl⟩
 by_cases hbig : 1048576 < n
 ·have hd : decide (1048576 < n) = true := by simpa using hbig
  go_wp2
  go_ret
  exact ⟨rfl, Ext.refl _⟩
 have hd : decide (1048576 < n) = false := by simpa using hbig
 go_wp2_with fail
 refine (DrawSimulate_any A n c bs _ h (by omega)).mono ?_
 rintro e w1 ⟨⟨x, A1, c1, rfl, hrd, hlen, hhc⟩, hx1⟩
 have HR1 := Lib.hid hrd
 have HLEN := Lib.hid hlen
 have HX1 := Lib.hid hx1
 have HBO : Hid (vRt x = true → ∃ (n inn : Nat) (L : List Brn), x.n = n ∧ x.inn = inn ∧ (1 ≤ n ∧ n ≤ 4) ∧ (1 ≤ inn ∧ inn ≤ 4) ∧ Path n (2 ^ inn) x.ops [bra0 n] L ∧ Path n (2 ^ inn) (decOps x.ops) [bra0 n] L ∧ L.length ≤ 8) := fun hv => both hv hhc
 clear hd hbig hrd hlen hhc hx1 h hm hb
 have HX2 : Hid (Ext w (w1.alloc (.cells #[.int .i64 x.n, .int .i64 x.inn, .int .i64 x.bits, .slice A1 x.ops.length c1] 26))) := HX1.out.alloc _
 have HQ2 : Hid (Blk (w1.alloc (.cells #[.int .i64 x.n, .int .i64 x.inn, .int .i64 x.bits, .slice A1 x.ops.length c1] 26)) w1.heap.size 26 #[.int .i64 x.n, .int .i64 x.inn, .int .i64 x.bits, .slice A1 x.ops.length c1]) := Blk.new _ _ _
 have HR2 := Lib.hid (HR1.out.ext ((Ext.refl w1).alloc (.cells #[.int .i64 x.n, .int .i64 x.inn, .int .i64 x.bits, .slice A1 x.ops.length c1] 26)))
 have HQW : Hid (w.heap.size ≤ w1.heap.size) := HX1.out.size
 have HQB : Hid (∀ b o, A1 = some ⟨b, o, none⟩ → 0 < x.ops.length → b ≠ w1.heap.size) := fun b o e h0 => by
  obtain ⟨b', o', e', hb', -⟩ := HR1.out.2 h0
  rw [e] at e'
  injection e' with e'
  injection e' with e1
  omega
 go_upto_region 4 with (fail)
 generalize w1.alloc (.cells #[.int .i64 x.n, .int .i64 x.inn, .int .i64 x.bits, .slice A1 x.ops.length c1] 26) = w2 at *
 generalize w1.heap.size = q at *
 clear HR1 HX1
 obtain ⟨⟨t0, t1, t2, t3⟩, -⟩ := cells4 HQ2.out
 go_wp2_with fail
 refine (impl_DecomposeOps_any A1 _ c1 x.ops _ HR2.out (by have := HLEN.out; omega)).mono ?_
 rintro e w3 ⟨v3, rfl, ho3, hx3⟩
 obtain ⟨A3, c3, rfl, k3⟩ := own_slice ho3
 have HO3 : Hid (∀ g, (Value.slice A3 (decOps x.ops).length c3).ownBlock = some g → w2.heap.size ≤ g) := fun g hg => (ho3.lt g hg).1
 have HQL : Hid (q < w2.heap.size) := HQ2.out.lt
 have HQ3 := Lib.hid (HQ2.out.ext hx3)
 have HR3 := Lib.hid (HR2.out.ext hx3)
 have HK3 := Lib.hid k3
 have HX3 := Lib.hid (HX2.out.trans hx3)
 have HDL : Hid ((decOps x.ops).length ≤ 100000) := by
  have h9 := decOps_len x.ops
  have := HLEN.out
  unfold Hid
  omega
 clear t0 t1 t2 t3 ho3 k3 hx3 HQ2 HR2 HX2
 obtain ⟨⟨t0, t1, t2, t3⟩, -⟩ := cells4 HQ3.out
 go_wp2_with fail
 refine (spec_DecomposeOps_any A1 _ c1 x.ops _ HR3.out (by have := HLEN.out; omega)).mono ?_
 rintro e w4 ⟨v4, rfl, ho4, hx4⟩
 obtain ⟨A4, c4, rfl, k4⟩ := own_slice ho4
 have HQ4 := Lib.hid (HQ3.out.ext hx4)
 have HR4 := Lib.hid (HR3.out.ext hx4)
 have HK4 := Lib.hid (HK3.out.ext hx4)
 have HX4 := Lib.hid (HX3.out.trans hx4)
 clear t0 t1 t2 t3 ho4 hx4 HQ3 HR3 HX3 HK3
 go_wp2_with fail
 refine (sameOps_any A3 A4 _ _ c3 c4 (decOps x.ops) (decOps x.ops) _ HK4.out k4 (by have := HDL.out; omega) (by have := HDL.out; omega)).mono ?_
 rintro e w5 ⟨rfl, hx5⟩
 rw [eqL_self _ eqO_self]
 have HQ5 := Lib.hid (HQ4.out.ext hx5)
 have HR5 := Lib.hid (HR4.out.ext hx5)
 have HK5 := Lib.hid (HK4.out.ext hx5)
 have HX5 := Lib.hid (HX4.out.trans hx5)
 clear k4 hx5 HQ4 HR4 HX4 HK4
 obtain ⟨⟨t0, t1, t2, t3⟩, -⟩ := cells4 HQ5.out
 cases hv : vRt x with
 | false =>
  have HSN : Hid (∀ (A : Option Addr) (c : Nat) (w' : World), Rd w' w'.heap.size 8 A x.ops.length (ocells x.ops) → Calls Tryz.prog 9 #[.agg #[.int .i64 x.n, .int .i64 x.inn, .int .i64 x.bits, .slice A x.ops.length c]] w' fun e w'' => (∃ v, e = .returned (.tuple #[v, .bool false])) ∧ Ext w' w'') := fun A c w' hr => Simulate_no x hv (by have := HLEN.out; omega) A c w' hr
  clear hv HBO
  go_wp2_with fail
  refine (HSN.out A1 c1 _ HR5.out).mono ?_
  rintro e w6 ⟨⟨v6, rfl⟩, hx6⟩
  have HX6 := Lib.hid (HX5.out.trans hx6)
  clear t0 t1 t2 t3 hx6 HSN
  go_wp2
  go_ret
  exact ⟨rfl, HX6.out⟩
 | true =>
  obtain ⟨nn, inn, L, hn, hi, hn4, hi4, hp1, hp2, hL⟩ := HBO.out hv
  have HSI1 : Hid (∀ (A : Option Addr) (c : Nat) (w' : World), Rd w' w'.heap.size 8 A x.ops.length (ocells x.ops) → Calls Tryz.prog 9 #[.agg #[.int .i64 x.n, .int .i64 x.inn, .int .i64 x.bits, .slice A x.ops.length c]] w' fun e w'' => (∃ v, e = .returned (.tuple #[v, .bool true]) ∧ ZR (2 ^ inn) (2 ^ nn) L v w'') ∧ Ext w' w'') := fun A c w' hr => Simulate_any x hv nn inn hn hi L hp1 A c w' hr
  have HSI2 : Hid ((decOps x.ops).length ≤ 120 → ∀ (A : Option Addr) (c : Nat) (w' : World), Rd w' w'.heap.size 8 A (decOps x.ops).length (ocells (decOps x.ops)) → Calls Tryz.prog 9 #[.agg #[.int .i64 x.n, .int .i64 x.inn, .int .i64 x.bits, .slice A (decOps x.ops).length c]] w' fun e w'' => (∃ v, e = .returned (.tuple #[v, .bool true]) ∧ ZR (2 ^ inn) (2 ^ nn) L v w'') ∧ Ext w' w'') := fun hl A c w' hr => Simulate_any (decRt x) (vRt_dec hv hl) nn inn hn hi L hp2 A c w' hr
  have hk16 : 2 ^ inn ≤ 16 := by rcases (show inn = 1 ∨ inn = 2 ∨ inn = 3 ∨ inn = 4 by omega) with rfl | rfl | rfl | rfl <;> decide
  have hl16 : 2 ^ nn ≤ 1048576 := by rcases (show nn = 1 ∨ nn = 2 ∨ nn = 3 ∨ nn = 4 by omega) with rfl | rfl | rfl | rfl <;> decide
  have HEB : Hid (∀ (u v : Value) (w' : World), ZR (2 ^ inn) (2 ^ nn) L u w' → ZR (2 ^ inn) (2 ^ nn) L v w' → Calls Tryz.prog 10 #[u, v] w' fun e w'' => e = .returned (.bool true) ∧ Ext w' w'') := fun u v w' h1 h2 => EqualBranches_same hk16 hl16 L (by omega) u v w' h1 h2
  clear hv hn hi hn4 hi4 hp1 hp2 hL hk16 hl16 HBO
  generalize 2 ^ inn = k at *
  generalize 2 ^ nn = l at *
  obtain ⟨m, hm⟩ : ∃ m, (decOps x.ops).length = m := ⟨_, rfl⟩
  rw [hm] at HSI2 HK5 HO3 HDL ⊢
  clear hm
  go_wp2_with fail
  refine (HSI1.out A1 c1 _ HR5.out).mono ?_
  rintro e w6 ⟨⟨v6, rfl, hz6⟩, hx6⟩
  have HZ6 := Lib.hid hz6
  have HQ6 := Lib.hid (HQ5.out.ext hx6)
  have HK6 := Lib.hid (HK5.out.ext hx6)
  have HX6 := Lib.hid (HX5.out.trans hx6)
  clear t0 t1 t2 t3 hz6 hx6 HQ5 HR5 HX5 HK5 HSI1
  by_cases hm120 : 120 < m
  ·have h1 : (120 : Int) < (m : Int) := by omega
   have h2 : decide ((m : Int) > 120) = true := by simp; omega
   go_wp2
   go_ret
   exact ⟨rfl, HX6.out⟩
  ·have h1 : ¬ (120 : Int) < (m : Int) := by omega
   have h2 : decide ((m : Int) > 120) = false := by simp; omega
   have HM : Hid (m ≤ 120) := by unfold Hid; omega
   obtain ⟨⟨t0, t1, t2, t3⟩, f0, f1, f2, f3⟩ := cells4 HQ6.out
   go_upto_region 11 with (fail)
   have HQ7 : Hid (Blk (w6.setCell ⟨q, 3, none⟩ (.slice A3 m c3)) q 26 #[.int .i64 x.n, .int .i64 x.inn, .int .i64 x.bits, .slice A3 m c3]) := HQ6.out.set_ 3 (.slice A3 m c3)
   have HX7 : Hid (Ext w (w6.setCell ⟨q, 3, none⟩ (.slice A3 m c3))) := HX6.out.setCell (p := ⟨q, 3, none⟩) HQW.out _
   have HZ7 : Hid (ZR k l L v6 (w6.setCell ⟨q, 3, none⟩ (.slice A3 m c3))) := zr_set HZ6.out HQ6.out _
   have HK7 : Hid (Rd (w6.setCell ⟨q, 3, none⟩ (.slice A3 m c3)) (w6.setCell ⟨q, 3, none⟩ (.slice A3 m c3)).heap.size 8 A3 m (ocells (decOps x.ops))) := rd_far HK6.out HQ6.out _
   clear HQ6 HX6 HZ6 HK6 t0 t1 t2 t3 f0 f1 f2 f3 h1 h2 hm120
   generalize w6.setCell ⟨q, 3, none⟩ (.slice A3 m c3) = w7 at *
   obtain ⟨⟨t0, t1, t2, t3⟩, -⟩ := cells4 HQ7.out
   go_wp2_with fail
   refine (HSI2.out HM.out A3 c3 _ HK7.out).mono ?_
   rintro e w8 ⟨⟨v8, rfl, hz8⟩, hx8⟩
   have HZ8 := Lib.hid hz8
   have HU8 := Lib.hid (HZ7.out.ext hx8)
   have HX8 := Lib.hid (HX7.out.trans hx8)
   clear t0 t1 t2 t3 hz8 hx8 HQ7 HX7 HZ7 HK7 HSI2
   go_wp2_with fail
   refine (HEB.out v6 v8 _ HU8.out HZ8.out).mono ?_
   rintro e w9 ⟨rfl, hx9⟩
   go_wp2
   go_ret
   exact ⟨rfl, HX8.out.trans hx9⟩
set_option maxRecDepth 100000 in
theorem lifted (os : Os) (started : os.Started) (H : Type) (enc : TypeId × Value → H) :
  ReturnsInHanded {} Tryz.checked os 3 .any (Rows.fnLoweredOpsSpec.pre6 enc Tryz.prog Tryz.f3 Rows.fnLoweredOpsRow.domain false) (Rows.fnLoweredOpsSpec.post enc Tryz.prog Tryz.f3 false true false false) := by
 refine returnsInHanded_of_change (C := Tryz.checked) own started (by kernel_rfl) Tryz.func3
  (ChangeSpec.witness6 (enc := enc) (C := Tryz.checked) false ⟨#[], #[.slice none 0 0], []⟩ 8 (by kernel_rfl) (by kernel_rfl) (by kernel_rfl) (by kernel_rfl)) ?_
 intro W base args ds gs before hval0 hW hcnd _
 have hval : ∀ (j : Nat) t v, Tryz.f3.params[j]? = some t → args[j]? = some v → Value.okWide Tryz.prog W .any base t v := hval0
 have hW' := hW
 obtain ⟨p, q, hA0, hV, rfl, hfz, hnd⟩ := hW
 have hA : DataW.TrodAll enc Tryz.prog W 0 (fun _ => true) true Tryz.f3.params.toList args.toList ds p := hA0
 rw [Tryz.params3] at hA hval
 obtain ⟨v0, vs0, d0, ds0, p0, q0, hargs, rfl, rfl, h0, r0⟩ := trodAll_cons hA
 obtain ⟨rfl, rfl, rfl⟩ := trodAll_nil r0
 obtain rfl : args = #[v0] := by cases args; simp_all
 clear hA0 hval0 hfz hnd hV hcnd
 obtain ⟨A, n, c, bs, rfl, hnc0, hcm0, hr0, hok0⟩ := open_lbytes (hval 0 _ v0 rfl rfl) h0
 refine (walk A n c bs W hr0 (by omega) hok0).mono fun e W' ⟨he, hx⟩ => ?_
 subst he
 exact ⟨_, rfl, law_post rfl (by rw [Tryz.params3]; decide +kernel) rfl hW' rfl rfl rfl hx⟩

theorem over : Rows.fnLoweredOpsRow.holds Tryz.pinned (OpenSpec.ofChange Rows.fnLoweredOpsSpec) :=
 OpenClaim.holds_of_wide 3 Tryz.f3 rfl rfl rfl rfl rfl rfl rfl ⟨rfl, rfl, rfl, rfl, rfl⟩ rfl rfl rfl rfl rfl (by kernel_rfl) Tryz.func3 (by kernel_rfl)
  (of_decide_eq_true (by kernel_rfl)) (by unfold Func.isWrapper; first | (rw [if_pos (by decide +kernel)]; kernel_rfl) | (rw [if_neg (by decide +kernel)]; exact ⟨rfl, rfl⟩))
  (fun os started H enc _ => lifted os started H enc)

/-- The statement. -/
theorem proved : Rows.FnLoweredOpsSaid := over
#print axioms proved

end fnLoweredOps
end Go.Proofs.YtdjckjfclhjpcaaGreat
