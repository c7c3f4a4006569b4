/-
  Helper text (no claim of its own): lists of numbers read out of a line, by the program and by the reference. Printed by gen_lp.py.
-/
import Derived.Test.YteecjnnompjmiacGreatDoorIpo
import Derived.Test.YteecjnnompjmiacGreatDoorRow
namespace Go.Proofs.YteecjnnompjmiacGreatDoor
open Go.ChangeShapes Go.WideShapes Go.ChangeAt Go.RowKit Go.Deep
set_option linter.unusedVariables false
set_option linter.unusedSimpArgs false
def digs (p : List Int) : Prop := ∀ q ∈ p, 0 ≤ q ∧ q ≤ 4
theorem row_jn (f : ByteArray) (p : List Int) : rowS f p = jn ⟨#[32]⟩ (f :: p.map dig) := (jn_digs _ _ _).symm
theorem row_cut {f : ByteArray} {p : List Int} (hf : (32 : UInt8) ∉ f.data.toList) (hp : digs p) : cut 32 (rowS f p) = f :: p.map dig := by
  rw [row_jn]
  refine cut_jn 32 f _ ?_
  intro y hy
  rcases List.mem_cons.1 hy with rfl | hy
  · exact hf
  · obtain ⟨q, hq, rfl⟩ := List.mem_map.1 hy
    exact dig_blank (hp q hq).1 (hp q hq).2
def RN (ts : List ByteArray) (xs : List Int) : Prop := xs.length ≤ ts.length ∧ ∀ (j : Nat) (q : Int), xs[j]? = some q → ∃ t, ts[j]? = some t ∧ ∃ ok, PN t q ok
theorem RN.nil (ts : List ByteArray) : RN ts [] := ⟨Nat.zero_le _, fun j e h => by simp at h⟩
theorem RN.snoc {ts : List ByteArray} {xs : List Int} {t : ByteArray} {q : Int} {ok : Bool} {k : Nat} (h : RN ts xs) (hk : xs.length = k) (ht : ts[k]? = some t) (he : PN t q ok) : RN ts (xs ++ [q]) := by
  subst hk
  have hl := (List.getElem?_eq_some_iff.1 ht).1
  refine ⟨by simp; omega, fun j y hj => ?_⟩
  by_cases hlt : j < xs.length
  · rw [List.getElem?_append_left hlt] at hj
    exact h.2 j y hj
  · have hj2 := (List.getElem?_eq_some_iff.1 hj).1
    simp at hj2
    obtain rfl : j = xs.length := by omega
    rw [List.getElem?_append_right (Nat.le_refl _)] at hj
    simp at hj
    subst hj
    exact ⟨t, ht, ok, he⟩
theorem rn_same {ts : List ByteArray} {xs p : List Int} (h : RN ts xs) (hts : ts = p.map dig) (hp : digs p) (hl : xs.length = ts.length) : xs = p := by
  subst hts
  rw [List.length_map] at hl
  apply List.ext_getElem?
  intro j
  by_cases hj : j < xs.length
  · have hx : xs[j]? = some xs[j] := List.getElem?_eq_getElem hj
    have hg : p[j]? = some (p[j]'(by omega)) := List.getElem?_eq_getElem (by omega)
    obtain ⟨t, ht, ok, hn⟩ := h.2 j _ hx
    rw [List.getElem?_map, hg] at ht
    have hq := hp _ (List.mem_of_getElem? hg)
    rw [hx, hg, (hn.2.2 _ hq.1 hq.2 (Option.some.inj ht).symm).1]
  · rw [List.getElem?_eq_none (by omega), List.getElem?_eq_none (by omega)]
theorem own_nilI (w : World) (B : Nat) (e : TypeId) : w.ownsRow B e 1 (.slice none 0 0) 0 [] := ⟨rfl, .inl ⟨rfl, rfl⟩⟩
theorem strs_getD {w : World} {B n : Nat} {A : Option Addr} {xs : List ByteArray} (h : Rd w B 1 A n (scells xs)) (h0 : 0 < n) : ∃ b o, A = some ⟨b, o, none⟩ ∧ b < B ∧ ∀ i, i < n → xs[i]? = some (xs.getD i ⟨#[]⟩) ∧ w.cell? ⟨b, o + i, none⟩ = some (.string (xs.getD i ⟨#[]⟩)) := by
  obtain ⟨b, o, x, rfl, hb, _, _⟩ := str_at h h0
  refine ⟨b, o, rfl, hb, fun i hi => ?_⟩
  obtain ⟨b', o', y, e, _, hy, hc⟩ := str_at h hi
  injection e with e; injection e with e1 e2; subst e1 e2
  have : xs.getD i ⟨#[]⟩ = y := by simp [List.getD, hy]
  rw [this]
  exact ⟨hy, hc⟩
/-- What is known of a list read by the reference, by the program. -/
def LS (s : ByteArray) (xs : List Int) : Prop := xs.length ≤ 5 ∧ ∀ (f : ByteArray) (p : List Int), (32 : UInt8) ∉ f.data.toList → digs p → p.length ≤ 4 → s = rowS f p → xs = p
def LI (s f : ByteArray) (xs : List Int) : Prop := xs.length ≤ s.size ∧ ∀ p : List Int, (32 : UInt8) ∉ f.data.toList → digs p → s = rowS f p → xs = p
def ListRes (Q : List Int → Prop) (b0 : Nat) (e : Ending) (w' : World) : Prop := ∃ (v : Value) (xs : List Int), e = .returned v ∧ w'.ownsRow b0 3 1 v xs.length (icells xs) ∧ Q xs
set_option maxRecDepth 100000 in
set_option maxHeartbeats 4000000 in
theorem spec_l45Perm_any (s : ByteArray) (hs : s.size ≤ 1500000) (w : World) : Calls Tryz.prog 10 #[.string s] w fun e w' => ListRes (LS s) w.heap.size e w' ∧ Ext w w' := by
  go_enter Tryz.func10, Tryz.ntmps10
  go_wp2_with fail
  refine (spec_SplitByte_any s 32 32 rfl _ (by omega)).mono ?_
  rintro e w1 ⟨v1, rfl, ho1, hx1⟩
  have hcn := cut_ne 32 s
  have hcl := cut_len 32 s
  obtain ⟨A1, c1, rfl, hr1⟩ := own_slice ho1
  obtain ⟨b, o, rfl, hb, hys⟩ := strs_getD hr1 hcn
  have HX1 := Lib.hid hx1
  have HY : Hid (∀ w', Ext w1 w' → ∀ i, i < (cut 32 s).length → w'.cell? ⟨b, o + i, none⟩ = some (.string ((cut 32 s).getD i ⟨#[]⟩))) := fun w' q i hi => (q.cell (p := ⟨b, o + i, none⟩) hb).trans (hys i hi).2
  have HYS : Hid (∀ i, i < (cut 32 s).length → (cut 32 s)[i]? = some ((cut 32 s).getD i ⟨#[]⟩)) := fun i hi => (hys i hi).1
  have HZ : Hid (∀ i, ((cut 32 s).getD i ⟨#[]⟩).size ≤ 2000000) := fun i => getD_size (fun y hy => by have := cut_size hy; omega) i
  obtain ⟨m, hm⟩ : ∃ m, (cut 32 s).length = m := ⟨_, rfl⟩
  rw [hm] at HY HYS hcn hcl ⊢
  have HM := Lib.hid hm
  clear hm hys hr1 ho1 hx1 hb
  go_wp2
  go_loopw [4, 5] (fun ov iv wr => ∃ (k : Nat) (xs : List Int), iv = .int .i64 ((k + 1 : Nat) : Int) ∧ k ≤ 5 ∧ k + 1 ≤ m ∧ wr.ownsRow w1.heap.size 3 1 ov k (icells xs) ∧ Ext w1 wr ∧ Hid (RN ((cut 32 s).drop 1) xs)) (fun _ i _ => 7 - (intOf i).toNat)
  case atStart => exact ⟨0, [], rfl, by omega, by omega, own_empty w1 w1 _ _ (Ext.refl w1), (Ext.refl w1).alloc _, RN.nil _⟩
  case round =>
    obtain ⟨k, xs, rfl, hk5, hkm, hown, hx, RR⟩ := hrel
    have hlen : xs.length = k := by obtain ⟨A', c', rfl, hr⟩ := own_slice hown; exact hr.len (by intro x; rfl) (by omega)
    have HLEN := Lib.hid hlen
    clear hlen
    by_cases hc : k + 1 < m ∧ k + 1 ≤ 5
    · obtain ⟨hc1, hc2⟩ := hc
      have hci1 : ((k + 1 : Nat) : Int) < (m : Int) := by omega
      have hci2 : ((k + 1 : Nat) : Int) ≤ 5 := by omega
      have hk0 : (0 : Int) ≤ ((k + 1 : Nat) : Int) := by omega
      obtain ⟨t, ht⟩ : ∃ t, (cut 32 s).getD (k + 1) ⟨#[]⟩ = t := ⟨_, rfl⟩
      have HT : Hid (((cut 32 s).drop 1)[k]? = some t) := by unfold Hid; rw [List.getElem?_drop, Nat.add_comm, HYS.out (k + 1) hc1, ht]
      have HTZ : Hid (t.size ≤ 2000000) := by unfold Hid; rw [← ht]; exact HZ.out _
      have q1 : wr.cell? ⟨b, o + (k + 1), none⟩ = some (.string t) := by rw [← ht]; exact HY.out _ hx (k + 1) hc1
      clear ht
      have K5 : Hid (k + 1 < m ∧ k + 1 ≤ 5) := ⟨hc1, hc2⟩
      obtain ⟨k1, hk1⟩ : ∃ k1, k + 1 = k1 := ⟨_, rfl⟩
      rw [hk1] at hci1 hci2 hk0 q1 ⊢
      have HK1 := Lib.hid hk1
      clear hk1 hc1 hc2 hkm
      go_wp2_with fail
      refine (spec_ParseNumber_any t HTZ.out _).mono ?_
      rintro e w3 ⟨⟨n, ok, rfl, hp⟩, hx3⟩
      have HP := Lib.hid hp
      clear hp q1
      have hown3 := own_ext hown hx3
      have hx4 := hx.trans hx3
      clear hx3 hown
      go_wp2_with (at_builtin; refine appInt rfl _ _ rfl _ k xs rfl hown3 hx4 n _ _ rfl rfl (by omega) ?_; intro v1 w5 hown5 hx5 hg5 hb5)
      go_roundw
      case rel => exact ⟨k + 1, xs ++ [n], by have := HK1.out; have := K5.out; go_num, by have := K5.out; omega, by have := K5.out; omega, hown5, hx5, Lib.hid (RR.out.snoc HLEN.out HT.out HP.out)⟩
      case measure => simp [intOf]; have := HK1.out; have := K5.out; omega
    · have HF : Hid (LS s xs) := by
        refine ⟨by have := HLEN.out; omega, fun f p hf hp hpl he => ?_⟩
        have hc' : cut 32 s = f :: p.map dig := by rw [he, row_cut hf hp]
        have hmm := HM.out
        rw [hc'] at hmm
        simp at hmm
        have hR := RR.out
        rw [hc'] at hR
        exact rn_same hR rfl hp (by have := HLEN.out; have := hR.1; simp at this ⊢; omega)
      have HO : Hid (wr.ownsRow w.heap.size 3 1 u4 xs.length (icells xs)) := by unfold Hid; rw [HLEN.out]; exact own_base hown HX1.out.size
      obtain ⟨k1, hk1⟩ : ∃ k1, k + 1 = k1 := ⟨_, rfl⟩
      rw [hk1]
      by_cases hc1 : k1 < m
      · have hci1 : (k1 : Int) < (m : Int) := by omega
        have hci2 : ¬ ((k1 : Int) ≤ 5) := by omega
        clear hk1 hc hc1 hk5 hkm
        go_wp2
        go_ret
        exact ⟨⟨_, xs, rfl, HO.out, HF.out⟩, HX1.out.trans hx⟩
      · have hci1 : ¬ ((k1 : Int) < (m : Int)) := by omega
        clear hk1 hc hc1 hk5 hkm
        go_wp2
        go_ret
        exact ⟨⟨_, xs, rfl, HO.out, HF.out⟩, HX1.out.trans hx⟩
set_option maxRecDepth 100000 in
set_option maxHeartbeats 4000000 in
theorem impl_layoutIn_any (s f : ByteArray) (hs : s.size ≤ 1500000) (w : World) (hw : PW w) : Calls Tryz.prog 15 #[.string s, .string f] w fun e w' => ListRes (LI s f) w.heap.size e w' ∧ Ext w w' := by
  have HPW := Lib.hid hw
  clear hw
  go_enter Tryz.func15, Tryz.ntmps15
  go_wp2_with fail
  refine (impl_SplitByte_any s 32 32 rfl _ HPW.out.max (by omega)).mono ?_
  rintro e w1 ⟨b, rfl, hr1, hx1⟩
  have hcn := cut_ne 32 s
  have hcl := cut_len 32 s
  obtain ⟨b', o', hbo, hb, hys⟩ := strs_getD hr1 hcn
  injection hbo with hbo; injection hbo with e1 e2; subst e1 e2
  have HX1 := Lib.hid hx1
  have HY : Hid (∀ w', Ext w1 w' → ∀ i, i < (cut 32 s).length → w'.cell? ⟨b, i, none⟩ = some (.string ((cut 32 s).getD i ⟨#[]⟩))) := fun w' q i hi => by have := (hys i hi).2; rw [Nat.zero_add] at this; exact (q.cell (p := ⟨b, i, none⟩) hb).trans this
  have HYS : Hid (∀ i, i < (cut 32 s).length → (cut 32 s)[i]? = some ((cut 32 s).getD i ⟨#[]⟩)) := fun i hi => (hys i hi).1
  have HZ : Hid (∀ i, ((cut 32 s).getD i ⟨#[]⟩).size ≤ 2000000000000) := fun i => Nat.le_trans (getD_size (m := 1500000) (fun y hy => by have := cut_size hy; omega) i) (by decide)
  obtain ⟨y0, hy0⟩ : ∃ y, (cut 32 s).getD 0 ⟨#[]⟩ = y := ⟨_, rfl⟩
  obtain ⟨m, hm⟩ : ∃ m, (cut 32 s).length = m := ⟨_, rfl⟩
  rw [hm] at HY HYS hcn hcl ⊢
  have HM := Lib.hid hm
  have HY0 := Lib.hid hy0
  have HMS : Hid (m ≤ s.size + 1) := hcl
  have HQ0 : Hid (∀ w', Ext w1 w' → w'.cell? ⟨b, 0, none⟩ = some (.string y0)) := fun w' q => by rw [← HY0.out]; exact HY.out w' q 0 hcn
  have HMB : Hid (m ≤ 1500001) := by unfold Hid; omega
  have HFP : Hid (∀ p : List Int, (32 : UInt8) ∉ f.data.toList → digs p → s = rowS f p → y0 = f ∧ m = p.length + 1 ∧ (cut 32 s).drop 1 = p.map dig) := by
    intro p hf hp he
    have hc' : cut 32 s = f :: p.map dig := by rw [he, row_cut hf hp]
    refine ⟨?_, ?_, ?_⟩
    · rw [← hy0, hc']; rfl
    · rw [← hm, hc']; simp
    · rw [hc']; rfl
  have hm0 : (0 : Int) < (m : Int) := by omega
  clear hm hy0 hys hr1 hx1 hb hcl
  by_cases h1 : m = 1
  · subst h1
    go_wp2
    go_loopw [6, 17] (fun ov iv wr => iv = .int .i64 0 ∧ wr.ownsRow w1.heap.size 3 1 ov 0 (icells []) ∧ Ext w1 wr) (fun _ i _ => 1 - (intOf i).toNat)
    case atStart => exact ⟨rfl, own_empty w1 w1 _ _ (Ext.refl w1), (Ext.refl w1).alloc _⟩
    case round =>
      obtain ⟨rfl, hown, hx⟩ := hrel
      have HF : Hid (LI s f []) := ⟨Nat.zero_le _, fun p hf hp he => by have := (HFP.out p hf hp he).2.1; simp at this; exact this.symm⟩
      have HO : Hid (wr.ownsRow w.heap.size 3 1 u6 0 (icells [])) := own_base hown HX1.out.size
      have r0 := HQ0.out _ hx
      obtain ⟨qq, hqq⟩ : ∃ qq, (ByteArray.toList y0 == ByteArray.toList f) = qq := ⟨_, rfl⟩
      cases qq
      · go_wp2
        go_ret
        exact ⟨⟨_, [], rfl, own_nilI _ _ _, HF.out⟩, HX1.out.trans hx⟩
      · go_wp2
        go_ret
        exact ⟨⟨_, [], rfl, HO.out, HF.out⟩, HX1.out.trans hx⟩
  have hm2 : 2 ≤ m := by omega
  have hm1 : (1 : Int) < (m : Int) := by omega
  obtain ⟨n1, hn1⟩ : ∃ n1, m = n1 + 1 := ⟨m - 1, by omega⟩
  subst hn1
  have hn0 : ¬ (n1 = 0) := by omega
  go_wp2
  clear hm0 h1 hm2 hm1 hcn
  go_loopw [6, 17] (fun ov iv wr => ∃ (k : Nat) (xs : List Int), iv = .int .i64 k ∧ k ≤ n1 ∧ wr.ownsRow w1.heap.size 3 1 ov k (icells xs) ∧ Ext w1 wr ∧ Hid (RN ((cut 32 s).drop 1) xs)) (fun _ i _ => n1 - (intOf i).toNat)
  case atStart => exact ⟨0, [], rfl, Nat.zero_le _, own_empty w1 w1 _ _ (Ext.refl w1), (Ext.refl w1).alloc _, RN.nil _⟩
  case round =>
    obtain ⟨k, xs, rfl, hk, hown, hx, RR⟩ := hrel
    have hlen : xs.length = k := by obtain ⟨A', c', rfl, hr⟩ := own_slice hown; exact hr.len (by intro x; rfl) (by omega)
    have HLEN := Lib.hid hlen
    clear hlen
    by_cases hlt : k < n1
    · have hki : (k : Int) < (n1 : Int) := by omega
      have hk0 : (0 : Int) ≤ (k : Int) := by omega
      have hkk : (k : Int) ≤ 2000000 := by have := HMB.out; omega
      obtain ⟨t, ht⟩ : ∃ t, (cut 32 s).getD (k + 1) ⟨#[]⟩ = t := ⟨_, rfl⟩
      have HT : Hid (((cut 32 s).drop 1)[k]? = some t) := by unfold Hid; rw [List.getElem?_drop, Nat.add_comm, HYS.out (k + 1) (by omega), ht]
      have HTZ : Hid (t.size ≤ 2000000000000) := by unfold Hid; rw [← ht]; exact HZ.out _
      have q1 : wr.cell? ⟨b, 1 + k, none⟩ = some (.string t) := by rw [← ht, Nat.add_comm]; exact HY.out _ hx (k + 1) (by omega)
      have HLT : Hid (k < n1) := hlt
      clear ht hlt hk
      go_wp2_with fail
      refine (impl_ParseNumber_any t HTZ.out _ (HPW.out.ext (HX1.out.trans hx))).mono ?_
      rintro e w3 ⟨⟨n, ok, rfl, hp⟩, hx3⟩
      have HP := Lib.hid hp
      clear hp q1
      have hown3 := own_ext hown hx3
      have hx4 := hx.trans hx3
      clear hx3 hown
      cases ok
      · have HF : Hid (LI s f []) := ⟨Nat.zero_le _, fun p hf hp he => by
          have hd := (HFP.out p hf hp he).2.2
          have ht := HT.out
          rw [hd, List.getElem?_map] at ht
          cases hg : p[k]? with
          | none => rw [hg] at ht; cases ht
          | some q =>
            rw [hg] at ht
            have hq := hp q (List.mem_of_getElem? hg)
            have := (HP.out.2.2 q hq.1 hq.2 (Option.some.inj ht).symm).2
            cases this⟩
        go_wp2
        go_ret
        exact ⟨⟨_, [], rfl, own_nilI _ _ _, HF.out⟩, HX1.out.trans hx4⟩
      · go_wp2_with (at_builtin; refine appInt rfl _ _ rfl _ k xs rfl hown3 hx4 n _ _ rfl rfl (by omega) ?_; intro v1 w5 hown5 hx5 hg5 hb5)
        go_roundw
        case rel => exact ⟨k + 1, xs ++ [n], by go_num, by have := HLT.out; omega, hown5, hx5, Lib.hid (RR.out.snoc HLEN.out HT.out HP.out)⟩
        case measure => simp [intOf]; have := HLT.out; omega
    · have hki : ¬ ((k : Int) < (n1 : Int)) := by omega
      have hkn : k = n1 := by omega
      have HF : Hid (LI s f xs) := by
        refine ⟨by have := HLEN.out; have := HMS.out; omega, fun p hf hp he => ?_⟩
        obtain ⟨_, h2, h3⟩ := HFP.out p hf hp he
        have hR := RR.out
        rw [h3] at hR
        exact rn_same hR rfl hp (by have := HLEN.out; simp; omega)
      have HO : Hid (wr.ownsRow w.heap.size 3 1 u6 xs.length (icells xs)) := by unfold Hid; rw [HLEN.out]; exact own_base hown HX1.out.size
      have r0 := HQ0.out _ hx
      obtain ⟨qq, hqq⟩ : ∃ qq, (ByteArray.toList y0 == ByteArray.toList f) = qq := ⟨_, rfl⟩
      cases qq
      · have HE : Hid (LI s f []) := ⟨Nat.zero_le _, fun p hf hp he => by
          have := (HFP.out p hf hp he).1
          rw [this, str_beq_self] at hqq
          cases hqq⟩
        clear hkn hlt
        go_wp2
        go_ret
        exact ⟨⟨_, [], rfl, own_nilI _ _ _, HE.out⟩, HX1.out.trans hx⟩
      · clear hkn hlt
        go_wp2
        go_ret
        exact ⟨⟨_, xs, rfl, HO.out, HF.out⟩, HX1.out.trans hx⟩
end Go.Proofs.YteecjnnompjmiacGreatDoor
