/-
 Helper text (no claim of its own): one region of the drawn bodies of programs. Printed by gen_drs.py.
-/
import Derived.Test.YtdjckjfclhjpcaaGreatMLowLd
namespace Go.Proofs.YtdjckjfclhjpcaaGreat
open Go.ChangeShapes Go.WideShapes Go.ChangeAt Go.RowKit Go.Deep
set_option linter.unusedVariables false
set_option linter.unusedSimpArgs false
theorem blk5f {w : World} {g t : Nat} {a b c d e : Value} (h : Blk w g t #[a, b, c, d, e]) : (w.cell? ⟨g, 0, none⟩ = some a ∧ w.cell? ⟨g, 1, none⟩ = some b ∧ w.cell? ⟨g, 2, none⟩ = some c ∧ w.cell? ⟨g, 3, none⟩ = some d ∧ w.cell? ⟨g, 4, none⟩ = some e) ∧ w.frozen? ⟨g, 0, none⟩ = false ∧ w.frozen? ⟨g, 1, none⟩ = false ∧ w.frozen? ⟨g, 2, none⟩ = false ∧ w.frozen? ⟨g, 3, none⟩ = false ∧ w.frozen? ⟨g, 4, none⟩ = false :=
 ⟨⟨h.cell 0, h.cell 1, h.cell 2, h.cell 3, h.cell 4⟩, h.frozen 0, h.frozen 1, h.frozen 2, h.frozen 3, h.frozen 4⟩
/-- Five cells stored. -/
abbrev st5 (w : World) (q : Nat) (a b c d e : Value) : World := ((((w.setCell ⟨q, 0, none⟩ a).setCell ⟨q, 1, none⟩ b).setCell ⟨q, 2, none⟩ c).setCell ⟨q, 3, none⟩ d).setCell ⟨q, 4, none⟩ e
theorem blk_st5 {w : World} {g t : Nat} {z0 z1 z2 z3 z4 : Value} (h : Blk w g t #[z0, z1, z2, z3, z4]) (a b c d e : Value) : Blk (st5 w g a b c d e) g t #[a, b, c, d, e] := ((((h.set_ 0 a).set_ 1 b).set_ 2 c).set_ 3 d).set_ 4 e
theorem far_st5 {w : World} {g q t : Nat} {cs : Array Value} (h : Blk w g t cs) (hq : g ≠ q) (a b c d e : Value) : Blk (st5 w q a b c d e) g t cs := ((((h.far hq a).far hq b).far hq c).far hq d).far hq e
theorem cur_st5 {w : World} {g q : Nat} (h : Cur w g) (hq : g < q) (a b c d e : Value) : Cur (st5 w q a b c d e) g := ((((h.set_ hq a).set_ hq b).set_ hq c).set_ hq d).set_ hq e
theorem gr_st5 {w0 w : World} {g q : Nat} (h : w0.grownBy w (some g)) (hq : w0.heap.size ≤ q) (a b c d e : Value) : w0.grownBy (st5 w q a b c d e) (some g) := gr_set (gr_set (gr_set (gr_set (gr_set h hq a) hq b) hq c) hq d) hq e
theorem ns_one (w : World) (x : ByteArray) (hx : x.size ≤ 1000) : Ns (w.alloc (.cells #[.string x] 9)) (some ⟨w.heap.size, 0, none⟩) 1 :=
 ⟨[x], by simpa using hx, rfl, fun _ => ⟨w.heap.size, _, rfl, Blk.new _ _ _, fun i u hu => by
  cases i with
  | zero => exact hu
  | succ i => simp [tcell] at hu⟩⟩
set_option maxRecDepth 100000 in
set_option maxHeartbeats 32000000 in
theorem ctl_reg {Q : Exit → Act → World → Prop} {g bf of k6 c6 : Nat} {f0 : ByteArray} {wf : World} {x1 x2 x3 x4 x5 x6 x7 x8 x9 x10 x11 x12 x13 x15 x16 x17 x18 x19 x20 x21 x22 x23 x24 x25 x26 x27 x28 x29 x30 x31 x32 x33 x34 x35 x36 x37 x38 x39 x40 x41 x42 x43 x44 x45 x46 x47 x48 x49 x50 x51 x52 x53 x54 x55 x56 x57 x58 x59 x60 x61 x62 x63 x64 x65 x66 x67 x68 x69 x70 x71 x72 x73 x74 x75 x76 x77 x78 x79 x80 x81 x82 x83 x84 x85 x86 x87 x88 x89 x90 x91 x92 x93 x94 x95 x96 x97 x98 x99 x100 x101 x102 x103 x104 x105 x106 x107 x108 x109 x110 x111 x112 x113 x114 x115 x116 x117 x118 x119 x120 x121 x122 x123 x124 x125 x126 x127 x128 x129 x130 x131 x132 x133 x134 x135 x136 x137 x138 x139 x140 x141 x142 x143 x144 x145 x146 x147 x148 x149 : Value} (hpq : PQ Q) (hC : Cur wf g) (hgl : g < wf.heap.size) (h60 : 0 < k6) (hsf : ∀ w', wf.grownBy w' (some g) → w'.cell? ⟨bf, of, none⟩ = some (.string f0))
  (hQ : ∀ (y82 y83 y84 y85 y86 y87 y88 y89 : Value) (lt la : Nat) (x : ByteArray) (wx : World), x.size ≤ 1000 → Cur wx g → wf.grownBy wx (some g) → wf.heap.size ≤ lt → wf.heap.size ≤ la → Blk wx la 9 #[.string f0] → Blk wx lt 69 #[.int .i64 1, .string x, .slice (some ⟨la, 0, none⟩) 1 1, .int .i64 0, .slice none 0 0] → Q .normal ⟨List.toArray ((.pointer (some ⟨g, 0, none⟩)) :: x1 :: x2 :: x3 :: x4 :: x5 :: x6 :: x7 :: x8 :: x9 :: x10 :: x11 :: x12 :: x13 :: (.slice (some ⟨bf, of, none⟩) k6 c6) :: (.pointer (some ⟨lt, 0, none⟩)) :: x16 :: x17 :: x18 :: x19 :: x20 :: x21 :: x22 :: x23 :: x24 :: x25 :: x26 :: x27 :: x28 :: x29 :: x30 :: x31 :: x32 :: x33 :: x34 :: x35 :: x36 :: x37 :: x38 :: x39 :: x40 :: x41 :: x42 :: x43 :: x44 :: x45 :: x46 :: x47 :: x48 :: x49 :: x50 :: x51 :: x52 :: x53 :: x54 :: x55 :: x56 :: x57 :: x58 :: x59 :: x60 :: x61 :: x62 :: x63 :: x64 :: x65 :: x66 :: x67 :: x68 :: x69 :: x70 :: x71 :: x72 :: x73 :: x74 :: x75 :: x76 :: x77 :: x78 :: x79 :: x80 :: x81 :: y82 :: y83 :: y84 :: y85 :: y86 :: y87 :: y88 :: y89 :: x90 :: x91 :: x92 :: x93 :: x94 :: x95 :: x96 :: x97 :: x98 :: x99 :: x100 :: x101 :: x102 :: x103 :: x104 :: x105 :: x106 :: x107 :: x108 :: x109 :: x110 :: x111 :: x112 :: x113 :: x114 :: x115 :: x116 :: x117 :: x118 :: x119 :: x120 :: x121 :: x122 :: x123 :: x124 :: x125 :: x126 :: x127 :: x128 :: x129 :: x130 :: x131 :: x132 :: x133 :: x134 :: x135 :: x136 :: x137 :: x138 :: x139 :: x140 :: x141 :: x142 :: x143 :: x144 :: x145 :: x146 :: x147 :: x148 :: x149 :: []), []⟩ wx) :
  (Code.region 19 (regOf Tryz.f34 19) true).wp Tryz.prog Q ⟨List.toArray ((.pointer (some ⟨g, 0, none⟩)) :: x1 :: x2 :: x3 :: x4 :: x5 :: x6 :: x7 :: x8 :: x9 :: x10 :: x11 :: x12 :: x13 :: (.slice (some ⟨bf, of, none⟩) k6 c6) :: x15 :: x16 :: x17 :: x18 :: x19 :: x20 :: x21 :: x22 :: x23 :: x24 :: x25 :: x26 :: x27 :: x28 :: x29 :: x30 :: x31 :: x32 :: x33 :: x34 :: x35 :: x36 :: x37 :: x38 :: x39 :: x40 :: x41 :: x42 :: x43 :: x44 :: x45 :: x46 :: x47 :: x48 :: x49 :: x50 :: x51 :: x52 :: x53 :: x54 :: x55 :: x56 :: x57 :: x58 :: x59 :: x60 :: x61 :: x62 :: x63 :: x64 :: x65 :: x66 :: x67 :: x68 :: x69 :: x70 :: x71 :: x72 :: x73 :: x74 :: x75 :: x76 :: x77 :: x78 :: x79 :: x80 :: x81 :: x82 :: x83 :: x84 :: x85 :: x86 :: x87 :: x88 :: x89 :: x90 :: x91 :: x92 :: x93 :: x94 :: x95 :: x96 :: x97 :: x98 :: x99 :: x100 :: x101 :: x102 :: x103 :: x104 :: x105 :: x106 :: x107 :: x108 :: x109 :: x110 :: x111 :: x112 :: x113 :: x114 :: x115 :: x116 :: x117 :: x118 :: x119 :: x120 :: x121 :: x122 :: x123 :: x124 :: x125 :: x126 :: x127 :: x128 :: x129 :: x130 :: x131 :: x132 :: x133 :: x134 :: x135 :: x136 :: x137 :: x138 :: x139 :: x140 :: x141 :: x142 :: x143 :: x144 :: x145 :: x146 :: x147 :: x148 :: x149 :: []), []⟩ wf := by
 have HGF := Lib.hid hgl
 have HCW := Lib.hid hC
 have HSF := Lib.hid hsf
 have HQ := Lib.hid hQ
 have h6i : (0 : Int) < (k6 : Int) := by omega
 clear hC hgl hsf hQ
 simp +decide only [regOf, regIn, Tryz.f34, if_true, if_false]
 refine wp_region_held_drew (S := (fun w' => w'.cell? ⟨bf, of, none⟩ = some (.string f0))) (by kernel_rfl) (HSF.out _ ((Ext.refl wf).drew.gr _)) (fun hHeld => ?_)
 (refine tkq 0 (v := ?_) ?_ ?_; rotate_left; · (intro w hSw; (try dsimp only at hSw); go_simp; all_goals with_reducible rfl))
 (try simp only [Act.put, L1, L2, L3, L4, L5, L6])
 (refine tkq 3 (v := ?_) ?_ ?_; rotate_left; · (intro w hSw; (try dsimp only at hSw); go_simp; all_goals with_reducible rfl))
 (try simp only [Act.put, L1, L2, L3, L4, L5, L6])
 (refine tkq 4 (v := ?_) ?_ ?_; rotate_left; · (intro w hSw; (try dsimp only at hSw); go_simp; all_goals with_reducible rfl))
 (try simp only [Act.put, L1, L2, L3, L4, L5, L6])
 (refine wpAnyH_take (i := 5) (v := (.string f0)) rfl (by kernel_rfl) (by kernel_rfl) (by kernel_rfl) (fun _ _ _ h => hpq.out h) (Or.inl ⟨by rfl, ?_⟩) (by assumption) ?_; · (intro w hSw; (try dsimp only at hSw); go_simp; first | done | (rw [hSw]; rfl)))
 (try simp only [Act.put, L1, L2, L3, L4, L5, L6])
 have HG : Hid (wf.grownBy wf.drew (some g)) := (Ext.refl wf).drew.gr _
 have HC : Hid (Cur wf.drew g) := HCW.out.ext (Ext.refl wf).drew
 obtain ⟨wd, hwd⟩ : ∃ wd, wf.drew = wd := ⟨_, rfl⟩
 rw [hwd] at HG HC ⊢
 clear hwd
 refine wpAnyH_ready (rs := [1, 6, 8]) (by kernel_rfl) (by simp) ?_
 refine AllReadyH.cons rfl (fun K hK => ?_) (AllReadyH.cons rfl (fun K hK => ?_) (AllReadyH.cons rfl (fun K hK => ?_) AllReadyH.nil))
 ·skip
  go_simp
  have hxP : Ext wd (wd.alloc (.cells #[.string ⟨#[120]⟩, .string ⟨#[122]⟩, .string ⟨#[115]⟩, .string ⟨#[121]⟩, .string ⟨#[104]⟩] 9)) := (Ext.refl wd).alloc _
  obtain ⟨lp, hlp⟩ : ∃ lp, wd.heap.size = lp := ⟨_, rfl⟩
  have HPN : Hid (Rd (wd.alloc (.cells #[.string ⟨#[120]⟩, .string ⟨#[122]⟩, .string ⟨#[115]⟩, .string ⟨#[121]⟩, .string ⟨#[104]⟩] 9)) (wd.alloc (.cells #[.string ⟨#[120]⟩, .string ⟨#[122]⟩, .string ⟨#[115]⟩, .string ⟨#[121]⟩, .string ⟨#[104]⟩] 9)).heap.size 1 (some ⟨lp, 0, none⟩) 5 (tcells [⟨#[120]⟩, ⟨#[122]⟩, ⟨#[115]⟩, ⟨#[121]⟩, ⟨#[104]⟩])) := by rw [← hlp]; exact rd_newN wd _ _ _ 5 1 _ rfl (by simp [tcell]) (by simp [tcell])
  have HPO : Hid (g < lp) := by rw [← hlp]; exact Nat.lt_of_lt_of_le HGF.out HG.out.size
  try rw [hlp]
  replace HG := Lib.hid (gr_ext HG.out hxP)
  replace HC := Lib.hid (HC.out.ext hxP)
  have HP := HPN
  refine hK.out _ _ (HSF.out _ HG.out) (fun hHeld => ?_)
  clear hK K
  (try simp only [Act.put, L1, L2, L3, L4, L5, L6])
  clear HPN hxP hlp
  generalize (wd.alloc (.cells #[.string ⟨#[120]⟩, .string ⟨#[122]⟩, .string ⟨#[115]⟩, .string ⟨#[121]⟩, .string ⟨#[104]⟩] 9)) = wp at *
  refine wpAnyH_ready (rs := [2, 6, 8]) (by kernel_rfl) (by simp) ?_
  refine AllReadyH.cons rfl (fun K hK => ?_) (AllReadyH.cons rfl (fun K hK => ?_) (AllReadyH.cons rfl (fun K hK => ?_) AllReadyH.nil))
  ·skip
   go_simp
   refine (l1Pick_any g _ 5 5 _ _ HC.out HP.out (by intro b o e; injection e with e; injection e with e1; have := HPO.out; omega) (by omega)).mono ?_
   rintro e wc ⟨x, rfl, hxm, hC6, hG6⟩
   have HX : Hid (x.size ≤ 1000) := by
    unfold Hid
    simp at hxm
    rcases hxm with rfl | rfl | rfl | rfl | rfl <;> decide
   clear HP hxm
   replace HG := Lib.hid (gr_trans HG.out hG6)
   replace HC : Hid (Cur wc g) := hC6
   clear hC6 hG6
   refine hK.out _ _ (HSF.out _ HG.out) (fun hHeld => ?_)
   clear hK K
   (try simp only [Act.put, L1, L2, L3, L4, L5, L6])
   refine wpAnyH_ready (rs := [6, 8]) (by kernel_rfl) (by simp) ?_
   refine AllReadyH.cons rfl (fun K hK => ?_) (AllReadyH.cons rfl (fun K hK => ?_) AllReadyH.nil)
   ·skip
    go_simp
    have hxL : Ext wc (wc.alloc (.cells #[.string f0] 9)) := (Ext.refl wc).alloc _
    obtain ⟨la, hla⟩ : ∃ la, wc.heap.size = la := ⟨_, rfl⟩
    have HAN : Hid (Blk (wc.alloc (.cells #[.string f0] 9)) la 9 #[.string f0]) := by rw [← hla]; exact Blk.new _ _ _
    have HLO : Hid (wf.heap.size ≤ la) := by rw [← hla]; exact HG.out.size
    try rw [hla]
    replace HG := Lib.hid (gr_ext HG.out hxL)
    replace HC := Lib.hid (HC.out.ext hxL)
    have HA := HAN
    refine hK.out _ _ (HSF.out _ HG.out) (fun hHeld => ?_)
    clear hK K
    (try simp only [Act.put, L1, L2, L3, L4, L5, L6])
    clear HAN hxL hla
    generalize (wc.alloc (.cells #[.string f0] 9)) = wl at *
    (refine tkq 7 (v := ?_) ?_ ?_; rotate_left; · (intro w hSw; (try dsimp only at hSw); go_simp; all_goals with_reducible rfl))
    (try simp only [Act.put, L1, L2, L3, L4, L5, L6])
    refine wpAnyH_ready (rs := [8]) (by kernel_rfl) (by simp) ?_
    refine AllReadyH.cons rfl (fun K hK => ?_) AllReadyH.nil
    go_simp
    have hxT : Ext wl (wl.alloc (.cells #[.int .i64 0, .string ⟨#[]⟩, .slice none 0 0, .int .i64 0, .slice none 0 0] 69)) := (Ext.refl wl).alloc _
    obtain ⟨lt, hlt⟩ : ∃ lt, wl.heap.size = lt := ⟨_, rfl⟩
    have HTN : Hid (Blk (wl.alloc (.cells #[.int .i64 0, .string ⟨#[]⟩, .slice none 0 0, .int .i64 0, .slice none 0 0] 69)) lt 69 #[.int .i64 0, .string ⟨#[]⟩, .slice none 0 0, .int .i64 0, .slice none 0 0]) := by rw [← hlt]; exact Blk.new _ _ _
    have HTO : Hid (wf.heap.size ≤ lt) := by rw [← hlt]; exact HG.out.size
    try rw [hlt]
    replace HA := Lib.hid (HA.out.ext hxT)
    replace HG := Lib.hid (gr_ext HG.out hxT)
    replace HC := Lib.hid (HC.out.ext hxT)
    have HT := HTN
    refine hK.out _ _ (HSF.out _ HG.out) (fun hHeld => ?_)
    clear hK K
    (try simp only [Act.put, L1, L2, L3, L4, L5, L6])
    clear HTN hxT hlt
    generalize (wl.alloc (.cells #[.int .i64 0, .string ⟨#[]⟩, .slice none 0 0, .int .i64 0, .slice none 0 0] 69)) = wt at *
    refine wpAnyH_ready (rs := [9]) (by kernel_rfl) (by simp) ?_
    refine AllReadyH.cons rfl (fun K hK => ?_) AllReadyH.nil
    obtain ⟨⟨r0, r1, r2, r3, r4⟩, e0, e1, e2, e3, e4⟩ := blk5f HT.out
    go_simp
    have HT5 : Hid (Blk (st5 wt lt (.int .i64 1) (.string x) (.slice (some ⟨la, 0, none⟩) 1 1) (.int .i64 0) (.slice none 0 0)) lt 69 #[.int .i64 1, .string x, .slice (some ⟨la, 0, none⟩) 1 1, .int .i64 0, .slice none 0 0]) := blk_st5 HT.out (.int .i64 1) (.string x) (.slice (some ⟨la, 0, none⟩) 1 1) (.int .i64 0) (.slice none 0 0)
    have HA5 : Hid (Blk (st5 wt lt (.int .i64 1) (.string x) (.slice (some ⟨la, 0, none⟩) 1 1) (.int .i64 0) (.slice none 0 0)) la 9 #[.string f0]) := far_st5 HA.out (blk_ne HA.out HT.out (by decide)) (.int .i64 1) (.string x) (.slice (some ⟨la, 0, none⟩) 1 1) (.int .i64 0) (.slice none 0 0)
    have HG5 : Hid (wf.grownBy (st5 wt lt (.int .i64 1) (.string x) (.slice (some ⟨la, 0, none⟩) 1 1) (.int .i64 0) (.slice none 0 0)) (some g)) := gr_st5 HG.out HTO.out (.int .i64 1) (.string x) (.slice (some ⟨la, 0, none⟩) 1 1) (.int .i64 0) (.slice none 0 0)
    have HC5 : Hid (Cur (st5 wt lt (.int .i64 1) (.string x) (.slice (some ⟨la, 0, none⟩) 1 1) (.int .i64 0) (.slice none 0 0)) g) := cur_st5 HC.out (Nat.lt_of_lt_of_le HGF.out HTO.out) (.int .i64 1) (.string x) (.slice (some ⟨la, 0, none⟩) 1 1) (.int .i64 0) (.slice none 0 0)
    refine hK.out _ _ (HSF.out _ HG5.out) (fun hHeld => ?_)
    clear hK K
    (try simp only [Act.put, L1, L2, L3, L4, L5, L6])
    (refine wpAnyH_done (by kernel_rfl) ?_ _)
    exact HQ.out _ _ _ _ _ _ _ _ lt la x _ HX.out HC5.out HG5.out HTO.out HLO.out HA5.out HT5.out
   ·skip
    go_simp
    have hxT : Ext wc (wc.alloc (.cells #[.int .i64 0, .string ⟨#[]⟩, .slice none 0 0, .int .i64 0, .slice none 0 0] 69)) := (Ext.refl wc).alloc _
    obtain ⟨lt, hlt⟩ : ∃ lt, wc.heap.size = lt := ⟨_, rfl⟩
    have HTN : Hid (Blk (wc.alloc (.cells #[.int .i64 0, .string ⟨#[]⟩, .slice none 0 0, .int .i64 0, .slice none 0 0] 69)) lt 69 #[.int .i64 0, .string ⟨#[]⟩, .slice none 0 0, .int .i64 0, .slice none 0 0]) := by rw [← hlt]; exact Blk.new _ _ _
    have HTO : Hid (wf.heap.size ≤ lt) := by rw [← hlt]; exact HG.out.size
    try rw [hlt]
    replace HG := Lib.hid (gr_ext HG.out hxT)
    replace HC := Lib.hid (HC.out.ext hxT)
    have HT := HTN
    refine hK.out _ _ (HSF.out _ HG.out) (fun hHeld => ?_)
    clear hK K
    (try simp only [Act.put, L1, L2, L3, L4, L5, L6])
    clear HTN hxT hlt
    generalize (wc.alloc (.cells #[.int .i64 0, .string ⟨#[]⟩, .slice none 0 0, .int .i64 0, .slice none 0 0] 69)) = wt at *
    refine wpAnyH_ready (rs := [6]) (by kernel_rfl) (by simp) ?_
    refine AllReadyH.cons rfl (fun K hK => ?_) AllReadyH.nil
    go_simp
    have hxL : Ext wt (wt.alloc (.cells #[.string f0] 9)) := (Ext.refl wt).alloc _
    obtain ⟨la, hla⟩ : ∃ la, wt.heap.size = la := ⟨_, rfl⟩
    have HAN : Hid (Blk (wt.alloc (.cells #[.string f0] 9)) la 9 #[.string f0]) := by rw [← hla]; exact Blk.new _ _ _
    have HLO : Hid (wf.heap.size ≤ la) := by rw [← hla]; exact HG.out.size
    try rw [hla]
    replace HT := Lib.hid (HT.out.ext hxL)
    replace HG := Lib.hid (gr_ext HG.out hxL)
    replace HC := Lib.hid (HC.out.ext hxL)
    have HA := HAN
    refine hK.out _ _ (HSF.out _ HG.out) (fun hHeld => ?_)
    clear hK K
    (try simp only [Act.put, L1, L2, L3, L4, L5, L6])
    clear HAN hxL hla
    generalize (wt.alloc (.cells #[.string f0] 9)) = wl at *
    (refine tkq 7 (v := ?_) ?_ ?_; rotate_left; · (intro w hSw; (try dsimp only at hSw); go_simp; all_goals with_reducible rfl))
    (try simp only [Act.put, L1, L2, L3, L4, L5, L6])
    refine wpAnyH_ready (rs := [9]) (by kernel_rfl) (by simp) ?_
    refine AllReadyH.cons rfl (fun K hK => ?_) AllReadyH.nil
    obtain ⟨⟨r0, r1, r2, r3, r4⟩, e0, e1, e2, e3, e4⟩ := blk5f HT.out
    go_simp
    have HT5 : Hid (Blk (st5 wl lt (.int .i64 1) (.string x) (.slice (some ⟨la, 0, none⟩) 1 1) (.int .i64 0) (.slice none 0 0)) lt 69 #[.int .i64 1, .string x, .slice (some ⟨la, 0, none⟩) 1 1, .int .i64 0, .slice none 0 0]) := blk_st5 HT.out (.int .i64 1) (.string x) (.slice (some ⟨la, 0, none⟩) 1 1) (.int .i64 0) (.slice none 0 0)
    have HA5 : Hid (Blk (st5 wl lt (.int .i64 1) (.string x) (.slice (some ⟨la, 0, none⟩) 1 1) (.int .i64 0) (.slice none 0 0)) la 9 #[.string f0]) := far_st5 HA.out (blk_ne HA.out HT.out (by decide)) (.int .i64 1) (.string x) (.slice (some ⟨la, 0, none⟩) 1 1) (.int .i64 0) (.slice none 0 0)
    have HG5 : Hid (wf.grownBy (st5 wl lt (.int .i64 1) (.string x) (.slice (some ⟨la, 0, none⟩) 1 1) (.int .i64 0) (.slice none 0 0)) (some g)) := gr_st5 HG.out HTO.out (.int .i64 1) (.string x) (.slice (some ⟨la, 0, none⟩) 1 1) (.int .i64 0) (.slice none 0 0)
    have HC5 : Hid (Cur (st5 wl lt (.int .i64 1) (.string x) (.slice (some ⟨la, 0, none⟩) 1 1) (.int .i64 0) (.slice none 0 0)) g) := cur_st5 HC.out (Nat.lt_of_lt_of_le HGF.out HTO.out) (.int .i64 1) (.string x) (.slice (some ⟨la, 0, none⟩) 1 1) (.int .i64 0) (.slice none 0 0)
    refine hK.out _ _ (HSF.out _ HG5.out) (fun hHeld => ?_)
    clear hK K
    (try simp only [Act.put, L1, L2, L3, L4, L5, L6])
    (refine wpAnyH_done (by kernel_rfl) ?_ _)
    exact HQ.out _ _ _ _ _ _ _ _ lt la x _ HX.out HC5.out HG5.out HTO.out HLO.out HA5.out HT5.out
  ·skip
   go_simp
   have hxL : Ext wp (wp.alloc (.cells #[.string f0] 9)) := (Ext.refl wp).alloc _
   obtain ⟨la, hla⟩ : ∃ la, wp.heap.size = la := ⟨_, rfl⟩
   have HAN : Hid (Blk (wp.alloc (.cells #[.string f0] 9)) la 9 #[.string f0]) := by rw [← hla]; exact Blk.new _ _ _
   have HLO : Hid (wf.heap.size ≤ la) := by rw [← hla]; exact HG.out.size
   try rw [hla]
   replace HP := Lib.hid (HP.out.ext hxL)
   replace HG := Lib.hid (gr_ext HG.out hxL)
   replace HC := Lib.hid (HC.out.ext hxL)
   have HA := HAN
   refine hK.out _ _ (HSF.out _ HG.out) (fun hHeld => ?_)
   clear hK K
   (try simp only [Act.put, L1, L2, L3, L4, L5, L6])
   clear HAN hxL hla
   generalize (wp.alloc (.cells #[.string f0] 9)) = wl at *
   refine wpAnyH_ready (rs := [2, 8]) (by kernel_rfl) (by simp) ?_
   refine AllReadyH.cons rfl (fun K hK => ?_) (AllReadyH.cons rfl (fun K hK => ?_) AllReadyH.nil)
   ·skip
    go_simp
    refine (l1Pick_any g _ 5 5 _ _ HC.out HP.out (by intro b o e; injection e with e; injection e with e1; have := HPO.out; omega) (by omega)).mono ?_
    rintro e wc ⟨x, rfl, hxm, hC6, hG6⟩
    have HX : Hid (x.size ≤ 1000) := by
     unfold Hid
     simp at hxm
     rcases hxm with rfl | rfl | rfl | rfl | rfl <;> decide
    clear HP hxm
    replace HA := Lib.hid (HA.out.grown hG6 (fun q hq => by injection hq; have := HLO.out; have := HGF.out; omega))
    replace HG := Lib.hid (gr_trans HG.out hG6)
    replace HC : Hid (Cur wc g) := hC6
    clear hC6 hG6
    refine hK.out _ _ (HSF.out _ HG.out) (fun hHeld => ?_)
    clear hK K
    (try simp only [Act.put, L1, L2, L3, L4, L5, L6])
    (refine tkq 7 (v := ?_) ?_ ?_; rotate_left; · (intro w hSw; (try dsimp only at hSw); go_simp; all_goals with_reducible rfl))
    (try simp only [Act.put, L1, L2, L3, L4, L5, L6])
    refine wpAnyH_ready (rs := [8]) (by kernel_rfl) (by simp) ?_
    refine AllReadyH.cons rfl (fun K hK => ?_) AllReadyH.nil
    go_simp
    have hxT : Ext wc (wc.alloc (.cells #[.int .i64 0, .string ⟨#[]⟩, .slice none 0 0, .int .i64 0, .slice none 0 0] 69)) := (Ext.refl wc).alloc _
    obtain ⟨lt, hlt⟩ : ∃ lt, wc.heap.size = lt := ⟨_, rfl⟩
    have HTN : Hid (Blk (wc.alloc (.cells #[.int .i64 0, .string ⟨#[]⟩, .slice none 0 0, .int .i64 0, .slice none 0 0] 69)) lt 69 #[.int .i64 0, .string ⟨#[]⟩, .slice none 0 0, .int .i64 0, .slice none 0 0]) := by rw [← hlt]; exact Blk.new _ _ _
    have HTO : Hid (wf.heap.size ≤ lt) := by rw [← hlt]; exact HG.out.size
    try rw [hlt]
    replace HA := Lib.hid (HA.out.ext hxT)
    replace HG := Lib.hid (gr_ext HG.out hxT)
    replace HC := Lib.hid (HC.out.ext hxT)
    have HT := HTN
    refine hK.out _ _ (HSF.out _ HG.out) (fun hHeld => ?_)
    clear hK K
    (try simp only [Act.put, L1, L2, L3, L4, L5, L6])
    clear HTN hxT hlt
    generalize (wc.alloc (.cells #[.int .i64 0, .string ⟨#[]⟩, .slice none 0 0, .int .i64 0, .slice none 0 0] 69)) = wt at *
    refine wpAnyH_ready (rs := [9]) (by kernel_rfl) (by simp) ?_
    refine AllReadyH.cons rfl (fun K hK => ?_) AllReadyH.nil
    obtain ⟨⟨r0, r1, r2, r3, r4⟩, e0, e1, e2, e3, e4⟩ := blk5f HT.out
    go_simp
    have HT5 : Hid (Blk (st5 wt lt (.int .i64 1) (.string x) (.slice (some ⟨la, 0, none⟩) 1 1) (.int .i64 0) (.slice none 0 0)) lt 69 #[.int .i64 1, .string x, .slice (some ⟨la, 0, none⟩) 1 1, .int .i64 0, .slice none 0 0]) := blk_st5 HT.out (.int .i64 1) (.string x) (.slice (some ⟨la, 0, none⟩) 1 1) (.int .i64 0) (.slice none 0 0)
    have HA5 : Hid (Blk (st5 wt lt (.int .i64 1) (.string x) (.slice (some ⟨la, 0, none⟩) 1 1) (.int .i64 0) (.slice none 0 0)) la 9 #[.string f0]) := far_st5 HA.out (blk_ne HA.out HT.out (by decide)) (.int .i64 1) (.string x) (.slice (some ⟨la, 0, none⟩) 1 1) (.int .i64 0) (.slice none 0 0)
    have HG5 : Hid (wf.grownBy (st5 wt lt (.int .i64 1) (.string x) (.slice (some ⟨la, 0, none⟩) 1 1) (.int .i64 0) (.slice none 0 0)) (some g)) := gr_st5 HG.out HTO.out (.int .i64 1) (.string x) (.slice (some ⟨la, 0, none⟩) 1 1) (.int .i64 0) (.slice none 0 0)
    have HC5 : Hid (Cur (st5 wt lt (.int .i64 1) (.string x) (.slice (some ⟨la, 0, none⟩) 1 1) (.int .i64 0) (.slice none 0 0)) g) := cur_st5 HC.out (Nat.lt_of_lt_of_le HGF.out HTO.out) (.int .i64 1) (.string x) (.slice (some ⟨la, 0, none⟩) 1 1) (.int .i64 0) (.slice none 0 0)
    refine hK.out _ _ (HSF.out _ HG5.out) (fun hHeld => ?_)
    clear hK K
    (try simp only [Act.put, L1, L2, L3, L4, L5, L6])
    (refine wpAnyH_done (by kernel_rfl) ?_ _)
    exact HQ.out _ _ _ _ _ _ _ _ lt la x _ HX.out HC5.out HG5.out HTO.out HLO.out HA5.out HT5.out
   ·skip
    go_simp
    have hxT : Ext wl (wl.alloc (.cells #[.int .i64 0, .string ⟨#[]⟩, .slice none 0 0, .int .i64 0, .slice none 0 0] 69)) := (Ext.refl wl).alloc _
    obtain ⟨lt, hlt⟩ : ∃ lt, wl.heap.size = lt := ⟨_, rfl⟩
    have HTN : Hid (Blk (wl.alloc (.cells #[.int .i64 0, .string ⟨#[]⟩, .slice none 0 0, .int .i64 0, .slice none 0 0] 69)) lt 69 #[.int .i64 0, .string ⟨#[]⟩, .slice none 0 0, .int .i64 0, .slice none 0 0]) := by rw [← hlt]; exact Blk.new _ _ _
    have HTO : Hid (wf.heap.size ≤ lt) := by rw [← hlt]; exact HG.out.size
    try rw [hlt]
    replace HP := Lib.hid (HP.out.ext hxT)
    replace HA := Lib.hid (HA.out.ext hxT)
    replace HG := Lib.hid (gr_ext HG.out hxT)
    replace HC := Lib.hid (HC.out.ext hxT)
    have HT := HTN
    refine hK.out _ _ (HSF.out _ HG.out) (fun hHeld => ?_)
    clear hK K
    (try simp only [Act.put, L1, L2, L3, L4, L5, L6])
    clear HTN hxT hlt
    generalize (wl.alloc (.cells #[.int .i64 0, .string ⟨#[]⟩, .slice none 0 0, .int .i64 0, .slice none 0 0] 69)) = wt at *
    refine wpAnyH_ready (rs := [2]) (by kernel_rfl) (by simp) ?_
    refine AllReadyH.cons rfl (fun K hK => ?_) AllReadyH.nil
    go_simp
    refine (l1Pick_any g _ 5 5 _ _ HC.out HP.out (by intro b o e; injection e with e; injection e with e1; have := HPO.out; omega) (by omega)).mono ?_
    rintro e wc ⟨x, rfl, hxm, hC6, hG6⟩
    have HX : Hid (x.size ≤ 1000) := by
     unfold Hid
     simp at hxm
     rcases hxm with rfl | rfl | rfl | rfl | rfl <;> decide
    clear HP hxm
    replace HA := Lib.hid (HA.out.grown hG6 (fun q hq => by injection hq; have := HLO.out; have := HGF.out; omega))
    replace HT := Lib.hid (HT.out.grown hG6 (fun q hq => by injection hq; have := HTO.out; have := HGF.out; omega))
    replace HG := Lib.hid (gr_trans HG.out hG6)
    replace HC : Hid (Cur wc g) := hC6
    clear hC6 hG6
    refine hK.out _ _ (HSF.out _ HG.out) (fun hHeld => ?_)
    clear hK K
    (try simp only [Act.put, L1, L2, L3, L4, L5, L6])
    (refine tkq 7 (v := ?_) ?_ ?_; rotate_left; · (intro w hSw; (try dsimp only at hSw); go_simp; all_goals with_reducible rfl))
    (try simp only [Act.put, L1, L2, L3, L4, L5, L6])
    refine wpAnyH_ready (rs := [9]) (by kernel_rfl) (by simp) ?_
    refine AllReadyH.cons rfl (fun K hK => ?_) AllReadyH.nil
    obtain ⟨⟨r0, r1, r2, r3, r4⟩, e0, e1, e2, e3, e4⟩ := blk5f HT.out
    go_simp
    have HT5 : Hid (Blk (st5 wc lt (.int .i64 1) (.string x) (.slice (some ⟨la, 0, none⟩) 1 1) (.int .i64 0) (.slice none 0 0)) lt 69 #[.int .i64 1, .string x, .slice (some ⟨la, 0, none⟩) 1 1, .int .i64 0, .slice none 0 0]) := blk_st5 HT.out (.int .i64 1) (.string x) (.slice (some ⟨la, 0, none⟩) 1 1) (.int .i64 0) (.slice none 0 0)
    have HA5 : Hid (Blk (st5 wc lt (.int .i64 1) (.string x) (.slice (some ⟨la, 0, none⟩) 1 1) (.int .i64 0) (.slice none 0 0)) la 9 #[.string f0]) := far_st5 HA.out (blk_ne HA.out HT.out (by decide)) (.int .i64 1) (.string x) (.slice (some ⟨la, 0, none⟩) 1 1) (.int .i64 0) (.slice none 0 0)
    have HG5 : Hid (wf.grownBy (st5 wc lt (.int .i64 1) (.string x) (.slice (some ⟨la, 0, none⟩) 1 1) (.int .i64 0) (.slice none 0 0)) (some g)) := gr_st5 HG.out HTO.out (.int .i64 1) (.string x) (.slice (some ⟨la, 0, none⟩) 1 1) (.int .i64 0) (.slice none 0 0)
    have HC5 : Hid (Cur (st5 wc lt (.int .i64 1) (.string x) (.slice (some ⟨la, 0, none⟩) 1 1) (.int .i64 0) (.slice none 0 0)) g) := cur_st5 HC.out (Nat.lt_of_lt_of_le HGF.out HTO.out) (.int .i64 1) (.string x) (.slice (some ⟨la, 0, none⟩) 1 1) (.int .i64 0) (.slice none 0 0)
    refine hK.out _ _ (HSF.out _ HG5.out) (fun hHeld => ?_)
    clear hK K
    (try simp only [Act.put, L1, L2, L3, L4, L5, L6])
    (refine wpAnyH_done (by kernel_rfl) ?_ _)
    exact HQ.out _ _ _ _ _ _ _ _ lt la x _ HX.out HC5.out HG5.out HTO.out HLO.out HA5.out HT5.out
  ·skip
   go_simp
   have hxT : Ext wp (wp.alloc (.cells #[.int .i64 0, .string ⟨#[]⟩, .slice none 0 0, .int .i64 0, .slice none 0 0] 69)) := (Ext.refl wp).alloc _
   obtain ⟨lt, hlt⟩ : ∃ lt, wp.heap.size = lt := ⟨_, rfl⟩
   have HTN : Hid (Blk (wp.alloc (.cells #[.int .i64 0, .string ⟨#[]⟩, .slice none 0 0, .int .i64 0, .slice none 0 0] 69)) lt 69 #[.int .i64 0, .string ⟨#[]⟩, .slice none 0 0, .int .i64 0, .slice none 0 0]) := by rw [← hlt]; exact Blk.new _ _ _
   have HTO : Hid (wf.heap.size ≤ lt) := by rw [← hlt]; exact HG.out.size
   try rw [hlt]
   replace HP := Lib.hid (HP.out.ext hxT)
   replace HG := Lib.hid (gr_ext HG.out hxT)
   replace HC := Lib.hid (HC.out.ext hxT)
   have HT := HTN
   refine hK.out _ _ (HSF.out _ HG.out) (fun hHeld => ?_)
   clear hK K
   (try simp only [Act.put, L1, L2, L3, L4, L5, L6])
   clear HTN hxT hlt
   generalize (wp.alloc (.cells #[.int .i64 0, .string ⟨#[]⟩, .slice none 0 0, .int .i64 0, .slice none 0 0] 69)) = wt at *
   refine wpAnyH_ready (rs := [2, 6]) (by kernel_rfl) (by simp) ?_
   refine AllReadyH.cons rfl (fun K hK => ?_) (AllReadyH.cons rfl (fun K hK => ?_) AllReadyH.nil)
   ·skip
    go_simp
    refine (l1Pick_any g _ 5 5 _ _ HC.out HP.out (by intro b o e; injection e with e; injection e with e1; have := HPO.out; omega) (by omega)).mono ?_
    rintro e wc ⟨x, rfl, hxm, hC6, hG6⟩
    have HX : Hid (x.size ≤ 1000) := by
     unfold Hid
     simp at hxm
     rcases hxm with rfl | rfl | rfl | rfl | rfl <;> decide
    clear HP hxm
    replace HT := Lib.hid (HT.out.grown hG6 (fun q hq => by injection hq; have := HTO.out; have := HGF.out; omega))
    replace HG := Lib.hid (gr_trans HG.out hG6)
    replace HC : Hid (Cur wc g) := hC6
    clear hC6 hG6
    refine hK.out _ _ (HSF.out _ HG.out) (fun hHeld => ?_)
    clear hK K
    (try simp only [Act.put, L1, L2, L3, L4, L5, L6])
    refine wpAnyH_ready (rs := [6]) (by kernel_rfl) (by simp) ?_
    refine AllReadyH.cons rfl (fun K hK => ?_) AllReadyH.nil
    go_simp
    have hxL : Ext wc (wc.alloc (.cells #[.string f0] 9)) := (Ext.refl wc).alloc _
    obtain ⟨la, hla⟩ : ∃ la, wc.heap.size = la := ⟨_, rfl⟩
    have HAN : Hid (Blk (wc.alloc (.cells #[.string f0] 9)) la 9 #[.string f0]) := by rw [← hla]; exact Blk.new _ _ _
    have HLO : Hid (wf.heap.size ≤ la) := by rw [← hla]; exact HG.out.size
    try rw [hla]
    replace HT := Lib.hid (HT.out.ext hxL)
    replace HG := Lib.hid (gr_ext HG.out hxL)
    replace HC := Lib.hid (HC.out.ext hxL)
    have HA := HAN
    refine hK.out _ _ (HSF.out _ HG.out) (fun hHeld => ?_)
    clear hK K
    (try simp only [Act.put, L1, L2, L3, L4, L5, L6])
    clear HAN hxL hla
    generalize (wc.alloc (.cells #[.string f0] 9)) = wl at *
    (refine tkq 7 (v := ?_) ?_ ?_; rotate_left; · (intro w hSw; (try dsimp only at hSw); go_simp; all_goals with_reducible rfl))
    (try simp only [Act.put, L1, L2, L3, L4, L5, L6])
    refine wpAnyH_ready (rs := [9]) (by kernel_rfl) (by simp) ?_
    refine AllReadyH.cons rfl (fun K hK => ?_) AllReadyH.nil
    obtain ⟨⟨r0, r1, r2, r3, r4⟩, e0, e1, e2, e3, e4⟩ := blk5f HT.out
    go_simp
    have HT5 : Hid (Blk (st5 wl lt (.int .i64 1) (.string x) (.slice (some ⟨la, 0, none⟩) 1 1) (.int .i64 0) (.slice none 0 0)) lt 69 #[.int .i64 1, .string x, .slice (some ⟨la, 0, none⟩) 1 1, .int .i64 0, .slice none 0 0]) := blk_st5 HT.out (.int .i64 1) (.string x) (.slice (some ⟨la, 0, none⟩) 1 1) (.int .i64 0) (.slice none 0 0)
    have HA5 : Hid (Blk (st5 wl lt (.int .i64 1) (.string x) (.slice (some ⟨la, 0, none⟩) 1 1) (.int .i64 0) (.slice none 0 0)) la 9 #[.string f0]) := far_st5 HA.out (blk_ne HA.out HT.out (by decide)) (.int .i64 1) (.string x) (.slice (some ⟨la, 0, none⟩) 1 1) (.int .i64 0) (.slice none 0 0)
    have HG5 : Hid (wf.grownBy (st5 wl lt (.int .i64 1) (.string x) (.slice (some ⟨la, 0, none⟩) 1 1) (.int .i64 0) (.slice none 0 0)) (some g)) := gr_st5 HG.out HTO.out (.int .i64 1) (.string x) (.slice (some ⟨la, 0, none⟩) 1 1) (.int .i64 0) (.slice none 0 0)
    have HC5 : Hid (Cur (st5 wl lt (.int .i64 1) (.string x) (.slice (some ⟨la, 0, none⟩) 1 1) (.int .i64 0) (.slice none 0 0)) g) := cur_st5 HC.out (Nat.lt_of_lt_of_le HGF.out HTO.out) (.int .i64 1) (.string x) (.slice (some ⟨la, 0, none⟩) 1 1) (.int .i64 0) (.slice none 0 0)
    refine hK.out _ _ (HSF.out _ HG5.out) (fun hHeld => ?_)
    clear hK K
    (try simp only [Act.put, L1, L2, L3, L4, L5, L6])
    (refine wpAnyH_done (by kernel_rfl) ?_ _)
    exact HQ.out _ _ _ _ _ _ _ _ lt la x _ HX.out HC5.out HG5.out HTO.out HLO.out HA5.out HT5.out
   ·skip
    go_simp
    have hxL : Ext wt (wt.alloc (.cells #[.string f0] 9)) := (Ext.refl wt).alloc _
    obtain ⟨la, hla⟩ : ∃ la, wt.heap.size = la := ⟨_, rfl⟩
    have HAN : Hid (Blk (wt.alloc (.cells #[.string f0] 9)) la 9 #[.string f0]) := by rw [← hla]; exact Blk.new _ _ _
    have HLO : Hid (wf.heap.size ≤ la) := by rw [← hla]; exact HG.out.size
    try rw [hla]
    replace HP := Lib.hid (HP.out.ext hxL)
    replace HT := Lib.hid (HT.out.ext hxL)
    replace HG := Lib.hid (gr_ext HG.out hxL)
    replace HC := Lib.hid (HC.out.ext hxL)
    have HA := HAN
    refine hK.out _ _ (HSF.out _ HG.out) (fun hHeld => ?_)
    clear hK K
    (try simp only [Act.put, L1, L2, L3, L4, L5, L6])
    clear HAN hxL hla
    generalize (wt.alloc (.cells #[.string f0] 9)) = wl at *
    refine wpAnyH_ready (rs := [2]) (by kernel_rfl) (by simp) ?_
    refine AllReadyH.cons rfl (fun K hK => ?_) AllReadyH.nil
    go_simp
    refine (l1Pick_any g _ 5 5 _ _ HC.out HP.out (by intro b o e; injection e with e; injection e with e1; have := HPO.out; omega) (by omega)).mono ?_
    rintro e wc ⟨x, rfl, hxm, hC6, hG6⟩
    have HX : Hid (x.size ≤ 1000) := by
     unfold Hid
     simp at hxm
     rcases hxm with rfl | rfl | rfl | rfl | rfl <;> decide
    clear HP hxm
    replace HA := Lib.hid (HA.out.grown hG6 (fun q hq => by injection hq; have := HLO.out; have := HGF.out; omega))
    replace HT := Lib.hid (HT.out.grown hG6 (fun q hq => by injection hq; have := HTO.out; have := HGF.out; omega))
    replace HG := Lib.hid (gr_trans HG.out hG6)
    replace HC : Hid (Cur wc g) := hC6
    clear hC6 hG6
    refine hK.out _ _ (HSF.out _ HG.out) (fun hHeld => ?_)
    clear hK K
    (try simp only [Act.put, L1, L2, L3, L4, L5, L6])
    (refine tkq 7 (v := ?_) ?_ ?_; rotate_left; · (intro w hSw; (try dsimp only at hSw); go_simp; all_goals with_reducible rfl))
    (try simp only [Act.put, L1, L2, L3, L4, L5, L6])
    refine wpAnyH_ready (rs := [9]) (by kernel_rfl) (by simp) ?_
    refine AllReadyH.cons rfl (fun K hK => ?_) AllReadyH.nil
    obtain ⟨⟨r0, r1, r2, r3, r4⟩, e0, e1, e2, e3, e4⟩ := blk5f HT.out
    go_simp
    have HT5 : Hid (Blk (st5 wc lt (.int .i64 1) (.string x) (.slice (some ⟨la, 0, none⟩) 1 1) (.int .i64 0) (.slice none 0 0)) lt 69 #[.int .i64 1, .string x, .slice (some ⟨la, 0, none⟩) 1 1, .int .i64 0, .slice none 0 0]) := blk_st5 HT.out (.int .i64 1) (.string x) (.slice (some ⟨la, 0, none⟩) 1 1) (.int .i64 0) (.slice none 0 0)
    have HA5 : Hid (Blk (st5 wc lt (.int .i64 1) (.string x) (.slice (some ⟨la, 0, none⟩) 1 1) (.int .i64 0) (.slice none 0 0)) la 9 #[.string f0]) := far_st5 HA.out (blk_ne HA.out HT.out (by decide)) (.int .i64 1) (.string x) (.slice (some ⟨la, 0, none⟩) 1 1) (.int .i64 0) (.slice none 0 0)
    have HG5 : Hid (wf.grownBy (st5 wc lt (.int .i64 1) (.string x) (.slice (some ⟨la, 0, none⟩) 1 1) (.int .i64 0) (.slice none 0 0)) (some g)) := gr_st5 HG.out HTO.out (.int .i64 1) (.string x) (.slice (some ⟨la, 0, none⟩) 1 1) (.int .i64 0) (.slice none 0 0)
    have HC5 : Hid (Cur (st5 wc lt (.int .i64 1) (.string x) (.slice (some ⟨la, 0, none⟩) 1 1) (.int .i64 0) (.slice none 0 0)) g) := cur_st5 HC.out (Nat.lt_of_lt_of_le HGF.out HTO.out) (.int .i64 1) (.string x) (.slice (some ⟨la, 0, none⟩) 1 1) (.int .i64 0) (.slice none 0 0)
    refine hK.out _ _ (HSF.out _ HG5.out) (fun hHeld => ?_)
    clear hK K
    (try simp only [Act.put, L1, L2, L3, L4, L5, L6])
    (refine wpAnyH_done (by kernel_rfl) ?_ _)
    exact HQ.out _ _ _ _ _ _ _ _ lt la x _ HX.out HC5.out HG5.out HTO.out HLO.out HA5.out HT5.out
 ·skip
  go_simp
  have hxL : Ext wd (wd.alloc (.cells #[.string f0] 9)) := (Ext.refl wd).alloc _
  obtain ⟨la, hla⟩ : ∃ la, wd.heap.size = la := ⟨_, rfl⟩
  have HAN : Hid (Blk (wd.alloc (.cells #[.string f0] 9)) la 9 #[.string f0]) := by rw [← hla]; exact Blk.new _ _ _
  have HLO : Hid (wf.heap.size ≤ la) := by rw [← hla]; exact HG.out.size
  try rw [hla]
  replace HG := Lib.hid (gr_ext HG.out hxL)
  replace HC := Lib.hid (HC.out.ext hxL)
  have HA := HAN
  refine hK.out _ _ (HSF.out _ HG.out) (fun hHeld => ?_)
  clear hK K
  (try simp only [Act.put, L1, L2, L3, L4, L5, L6])
  clear HAN hxL hla
  generalize (wd.alloc (.cells #[.string f0] 9)) = wl at *
  refine wpAnyH_ready (rs := [1, 8]) (by kernel_rfl) (by simp) ?_
  refine AllReadyH.cons rfl (fun K hK => ?_) (AllReadyH.cons rfl (fun K hK => ?_) AllReadyH.nil)
  ·skip
   go_simp
   have hxP : Ext wl (wl.alloc (.cells #[.string ⟨#[120]⟩, .string ⟨#[122]⟩, .string ⟨#[115]⟩, .string ⟨#[121]⟩, .string ⟨#[104]⟩] 9)) := (Ext.refl wl).alloc _
   obtain ⟨lp, hlp⟩ : ∃ lp, wl.heap.size = lp := ⟨_, rfl⟩
   have HPN : Hid (Rd (wl.alloc (.cells #[.string ⟨#[120]⟩, .string ⟨#[122]⟩, .string ⟨#[115]⟩, .string ⟨#[121]⟩, .string ⟨#[104]⟩] 9)) (wl.alloc (.cells #[.string ⟨#[120]⟩, .string ⟨#[122]⟩, .string ⟨#[115]⟩, .string ⟨#[121]⟩, .string ⟨#[104]⟩] 9)).heap.size 1 (some ⟨lp, 0, none⟩) 5 (tcells [⟨#[120]⟩, ⟨#[122]⟩, ⟨#[115]⟩, ⟨#[121]⟩, ⟨#[104]⟩])) := by rw [← hlp]; exact rd_newN wl _ _ _ 5 1 _ rfl (by simp [tcell]) (by simp [tcell])
   have HPO : Hid (g < lp) := by rw [← hlp]; exact Nat.lt_of_lt_of_le HGF.out HG.out.size
   try rw [hlp]
   replace HA := Lib.hid (HA.out.ext hxP)
   replace HG := Lib.hid (gr_ext HG.out hxP)
   replace HC := Lib.hid (HC.out.ext hxP)
   have HP := HPN
   refine hK.out _ _ (HSF.out _ HG.out) (fun hHeld => ?_)
   clear hK K
   (try simp only [Act.put, L1, L2, L3, L4, L5, L6])
   clear HPN hxP hlp
   generalize (wl.alloc (.cells #[.string ⟨#[120]⟩, .string ⟨#[122]⟩, .string ⟨#[115]⟩, .string ⟨#[121]⟩, .string ⟨#[104]⟩] 9)) = wp at *
   refine wpAnyH_ready (rs := [2, 8]) (by kernel_rfl) (by simp) ?_
   refine AllReadyH.cons rfl (fun K hK => ?_) (AllReadyH.cons rfl (fun K hK => ?_) AllReadyH.nil)
   ·skip
    go_simp
    refine (l1Pick_any g _ 5 5 _ _ HC.out HP.out (by intro b o e; injection e with e; injection e with e1; have := HPO.out; omega) (by omega)).mono ?_
    rintro e wc ⟨x, rfl, hxm, hC6, hG6⟩
    have HX : Hid (x.size ≤ 1000) := by
     unfold Hid
     simp at hxm
     rcases hxm with rfl | rfl | rfl | rfl | rfl <;> decide
    clear HP hxm
    replace HA := Lib.hid (HA.out.grown hG6 (fun q hq => by injection hq; have := HLO.out; have := HGF.out; omega))
    replace HG := Lib.hid (gr_trans HG.out hG6)
    replace HC : Hid (Cur wc g) := hC6
    clear hC6 hG6
    refine hK.out _ _ (HSF.out _ HG.out) (fun hHeld => ?_)
    clear hK K
    (try simp only [Act.put, L1, L2, L3, L4, L5, L6])
    (refine tkq 7 (v := ?_) ?_ ?_; rotate_left; · (intro w hSw; (try dsimp only at hSw); go_simp; all_goals with_reducible rfl))
    (try simp only [Act.put, L1, L2, L3, L4, L5, L6])
    refine wpAnyH_ready (rs := [8]) (by kernel_rfl) (by simp) ?_
    refine AllReadyH.cons rfl (fun K hK => ?_) AllReadyH.nil
    go_simp
    have hxT : Ext wc (wc.alloc (.cells #[.int .i64 0, .string ⟨#[]⟩, .slice none 0 0, .int .i64 0, .slice none 0 0] 69)) := (Ext.refl wc).alloc _
    obtain ⟨lt, hlt⟩ : ∃ lt, wc.heap.size = lt := ⟨_, rfl⟩
    have HTN : Hid (Blk (wc.alloc (.cells #[.int .i64 0, .string ⟨#[]⟩, .slice none 0 0, .int .i64 0, .slice none 0 0] 69)) lt 69 #[.int .i64 0, .string ⟨#[]⟩, .slice none 0 0, .int .i64 0, .slice none 0 0]) := by rw [← hlt]; exact Blk.new _ _ _
    have HTO : Hid (wf.heap.size ≤ lt) := by rw [← hlt]; exact HG.out.size
    try rw [hlt]
    replace HA := Lib.hid (HA.out.ext hxT)
    replace HG := Lib.hid (gr_ext HG.out hxT)
    replace HC := Lib.hid (HC.out.ext hxT)
    have HT := HTN
    refine hK.out _ _ (HSF.out _ HG.out) (fun hHeld => ?_)
    clear hK K
    (try simp only [Act.put, L1, L2, L3, L4, L5, L6])
    clear HTN hxT hlt
    generalize (wc.alloc (.cells #[.int .i64 0, .string ⟨#[]⟩, .slice none 0 0, .int .i64 0, .slice none 0 0] 69)) = wt at *
    refine wpAnyH_ready (rs := [9]) (by kernel_rfl) (by simp) ?_
    refine AllReadyH.cons rfl (fun K hK => ?_) AllReadyH.nil
    obtain ⟨⟨r0, r1, r2, r3, r4⟩, e0, e1, e2, e3, e4⟩ := blk5f HT.out
    go_simp
    have HT5 : Hid (Blk (st5 wt lt (.int .i64 1) (.string x) (.slice (some ⟨la, 0, none⟩) 1 1) (.int .i64 0) (.slice none 0 0)) lt 69 #[.int .i64 1, .string x, .slice (some ⟨la, 0, none⟩) 1 1, .int .i64 0, .slice none 0 0]) := blk_st5 HT.out (.int .i64 1) (.string x) (.slice (some ⟨la, 0, none⟩) 1 1) (.int .i64 0) (.slice none 0 0)
    have HA5 : Hid (Blk (st5 wt lt (.int .i64 1) (.string x) (.slice (some ⟨la, 0, none⟩) 1 1) (.int .i64 0) (.slice none 0 0)) la 9 #[.string f0]) := far_st5 HA.out (blk_ne HA.out HT.out (by decide)) (.int .i64 1) (.string x) (.slice (some ⟨la, 0, none⟩) 1 1) (.int .i64 0) (.slice none 0 0)
    have HG5 : Hid (wf.grownBy (st5 wt lt (.int .i64 1) (.string x) (.slice (some ⟨la, 0, none⟩) 1 1) (.int .i64 0) (.slice none 0 0)) (some g)) := gr_st5 HG.out HTO.out (.int .i64 1) (.string x) (.slice (some ⟨la, 0, none⟩) 1 1) (.int .i64 0) (.slice none 0 0)
    have HC5 : Hid (Cur (st5 wt lt (.int .i64 1) (.string x) (.slice (some ⟨la, 0, none⟩) 1 1) (.int .i64 0) (.slice none 0 0)) g) := cur_st5 HC.out (Nat.lt_of_lt_of_le HGF.out HTO.out) (.int .i64 1) (.string x) (.slice (some ⟨la, 0, none⟩) 1 1) (.int .i64 0) (.slice none 0 0)
    refine hK.out _ _ (HSF.out _ HG5.out) (fun hHeld => ?_)
    clear hK K
    (try simp only [Act.put, L1, L2, L3, L4, L5, L6])
    (refine wpAnyH_done (by kernel_rfl) ?_ _)
    exact HQ.out _ _ _ _ _ _ _ _ lt la x _ HX.out HC5.out HG5.out HTO.out HLO.out HA5.out HT5.out
   ·skip
    go_simp
    have hxT : Ext wp (wp.alloc (.cells #[.int .i64 0, .string ⟨#[]⟩, .slice none 0 0, .int .i64 0, .slice none 0 0] 69)) := (Ext.refl wp).alloc _
    obtain ⟨lt, hlt⟩ : ∃ lt, wp.heap.size = lt := ⟨_, rfl⟩
    have HTN : Hid (Blk (wp.alloc (.cells #[.int .i64 0, .string ⟨#[]⟩, .slice none 0 0, .int .i64 0, .slice none 0 0] 69)) lt 69 #[.int .i64 0, .string ⟨#[]⟩, .slice none 0 0, .int .i64 0, .slice none 0 0]) := by rw [← hlt]; exact Blk.new _ _ _
    have HTO : Hid (wf.heap.size ≤ lt) := by rw [← hlt]; exact HG.out.size
    try rw [hlt]
    replace HP := Lib.hid (HP.out.ext hxT)
    replace HA := Lib.hid (HA.out.ext hxT)
    replace HG := Lib.hid (gr_ext HG.out hxT)
    replace HC := Lib.hid (HC.out.ext hxT)
    have HT := HTN
    refine hK.out _ _ (HSF.out _ HG.out) (fun hHeld => ?_)
    clear hK K
    (try simp only [Act.put, L1, L2, L3, L4, L5, L6])
    clear HTN hxT hlt
    generalize (wp.alloc (.cells #[.int .i64 0, .string ⟨#[]⟩, .slice none 0 0, .int .i64 0, .slice none 0 0] 69)) = wt at *
    refine wpAnyH_ready (rs := [2]) (by kernel_rfl) (by simp) ?_
    refine AllReadyH.cons rfl (fun K hK => ?_) AllReadyH.nil
    go_simp
    refine (l1Pick_any g _ 5 5 _ _ HC.out HP.out (by intro b o e; injection e with e; injection e with e1; have := HPO.out; omega) (by omega)).mono ?_
    rintro e wc ⟨x, rfl, hxm, hC6, hG6⟩
    have HX : Hid (x.size ≤ 1000) := by
     unfold Hid
     simp at hxm
     rcases hxm with rfl | rfl | rfl | rfl | rfl <;> decide
    clear HP hxm
    replace HA := Lib.hid (HA.out.grown hG6 (fun q hq => by injection hq; have := HLO.out; have := HGF.out; omega))
    replace HT := Lib.hid (HT.out.grown hG6 (fun q hq => by injection hq; have := HTO.out; have := HGF.out; omega))
    replace HG := Lib.hid (gr_trans HG.out hG6)
    replace HC : Hid (Cur wc g) := hC6
    clear hC6 hG6
    refine hK.out _ _ (HSF.out _ HG.out) (fun hHeld => ?_)
    clear hK K
    (try simp only [Act.put, L1, L2, L3, L4, L5, L6])
    (refine tkq 7 (v := ?_) ?_ ?_; rotate_left; · (intro w hSw; (try dsimp only at hSw); go_simp; all_goals with_reducible rfl))
    (try simp only [Act.put, L1, L2, L3, L4, L5, L6])
    refine wpAnyH_ready (rs := [9]) (by kernel_rfl) (by simp) ?_
    refine AllReadyH.cons rfl (fun K hK => ?_) AllReadyH.nil
    obtain ⟨⟨r0, r1, r2, r3, r4⟩, e0, e1, e2, e3, e4⟩ := blk5f HT.out
    go_simp
    have HT5 : Hid (Blk (st5 wc lt (.int .i64 1) (.string x) (.slice (some ⟨la, 0, none⟩) 1 1) (.int .i64 0) (.slice none 0 0)) lt 69 #[.int .i64 1, .string x, .slice (some ⟨la, 0, none⟩) 1 1, .int .i64 0, .slice none 0 0]) := blk_st5 HT.out (.int .i64 1) (.string x) (.slice (some ⟨la, 0, none⟩) 1 1) (.int .i64 0) (.slice none 0 0)
    have HA5 : Hid (Blk (st5 wc lt (.int .i64 1) (.string x) (.slice (some ⟨la, 0, none⟩) 1 1) (.int .i64 0) (.slice none 0 0)) la 9 #[.string f0]) := far_st5 HA.out (blk_ne HA.out HT.out (by decide)) (.int .i64 1) (.string x) (.slice (some ⟨la, 0, none⟩) 1 1) (.int .i64 0) (.slice none 0 0)
    have HG5 : Hid (wf.grownBy (st5 wc lt (.int .i64 1) (.string x) (.slice (some ⟨la, 0, none⟩) 1 1) (.int .i64 0) (.slice none 0 0)) (some g)) := gr_st5 HG.out HTO.out (.int .i64 1) (.string x) (.slice (some ⟨la, 0, none⟩) 1 1) (.int .i64 0) (.slice none 0 0)
    have HC5 : Hid (Cur (st5 wc lt (.int .i64 1) (.string x) (.slice (some ⟨la, 0, none⟩) 1 1) (.int .i64 0) (.slice none 0 0)) g) := cur_st5 HC.out (Nat.lt_of_lt_of_le HGF.out HTO.out) (.int .i64 1) (.string x) (.slice (some ⟨la, 0, none⟩) 1 1) (.int .i64 0) (.slice none 0 0)
    refine hK.out _ _ (HSF.out _ HG5.out) (fun hHeld => ?_)
    clear hK K
    (try simp only [Act.put, L1, L2, L3, L4, L5, L6])
    (refine wpAnyH_done (by kernel_rfl) ?_ _)
    exact HQ.out _ _ _ _ _ _ _ _ lt la x _ HX.out HC5.out HG5.out HTO.out HLO.out HA5.out HT5.out
  ·skip
   go_simp
   have hxT : Ext wl (wl.alloc (.cells #[.int .i64 0, .string ⟨#[]⟩, .slice none 0 0, .int .i64 0, .slice none 0 0] 69)) := (Ext.refl wl).alloc _
   obtain ⟨lt, hlt⟩ : ∃ lt, wl.heap.size = lt := ⟨_, rfl⟩
   have HTN : Hid (Blk (wl.alloc (.cells #[.int .i64 0, .string ⟨#[]⟩, .slice none 0 0, .int .i64 0, .slice none 0 0] 69)) lt 69 #[.int .i64 0, .string ⟨#[]⟩, .slice none 0 0, .int .i64 0, .slice none 0 0]) := by rw [← hlt]; exact Blk.new _ _ _
   have HTO : Hid (wf.heap.size ≤ lt) := by rw [← hlt]; exact HG.out.size
   try rw [hlt]
   replace HA := Lib.hid (HA.out.ext hxT)
   replace HG := Lib.hid (gr_ext HG.out hxT)
   replace HC := Lib.hid (HC.out.ext hxT)
   have HT := HTN
   refine hK.out _ _ (HSF.out _ HG.out) (fun hHeld => ?_)
   clear hK K
   (try simp only [Act.put, L1, L2, L3, L4, L5, L6])
   clear HTN hxT hlt
   generalize (wl.alloc (.cells #[.int .i64 0, .string ⟨#[]⟩, .slice none 0 0, .int .i64 0, .slice none 0 0] 69)) = wt at *
   refine wpAnyH_ready (rs := [1]) (by kernel_rfl) (by simp) ?_
   refine AllReadyH.cons rfl (fun K hK => ?_) AllReadyH.nil
   go_simp
   have hxP : Ext wt (wt.alloc (.cells #[.string ⟨#[120]⟩, .string ⟨#[122]⟩, .string ⟨#[115]⟩, .string ⟨#[121]⟩, .string ⟨#[104]⟩] 9)) := (Ext.refl wt).alloc _
   obtain ⟨lp, hlp⟩ : ∃ lp, wt.heap.size = lp := ⟨_, rfl⟩
   have HPN : Hid (Rd (wt.alloc (.cells #[.string ⟨#[120]⟩, .string ⟨#[122]⟩, .string ⟨#[115]⟩, .string ⟨#[121]⟩, .string ⟨#[104]⟩] 9)) (wt.alloc (.cells #[.string ⟨#[120]⟩, .string ⟨#[122]⟩, .string ⟨#[115]⟩, .string ⟨#[121]⟩, .string ⟨#[104]⟩] 9)).heap.size 1 (some ⟨lp, 0, none⟩) 5 (tcells [⟨#[120]⟩, ⟨#[122]⟩, ⟨#[115]⟩, ⟨#[121]⟩, ⟨#[104]⟩])) := by rw [← hlp]; exact rd_newN wt _ _ _ 5 1 _ rfl (by simp [tcell]) (by simp [tcell])
   have HPO : Hid (g < lp) := by rw [← hlp]; exact Nat.lt_of_lt_of_le HGF.out HG.out.size
   try rw [hlp]
   replace HA := Lib.hid (HA.out.ext hxP)
   replace HT := Lib.hid (HT.out.ext hxP)
   replace HG := Lib.hid (gr_ext HG.out hxP)
   replace HC := Lib.hid (HC.out.ext hxP)
   have HP := HPN
   refine hK.out _ _ (HSF.out _ HG.out) (fun hHeld => ?_)
   clear hK K
   (try simp only [Act.put, L1, L2, L3, L4, L5, L6])
   clear HPN hxP hlp
   generalize (wt.alloc (.cells #[.string ⟨#[120]⟩, .string ⟨#[122]⟩, .string ⟨#[115]⟩, .string ⟨#[121]⟩, .string ⟨#[104]⟩] 9)) = wp at *
   refine wpAnyH_ready (rs := [2]) (by kernel_rfl) (by simp) ?_
   refine AllReadyH.cons rfl (fun K hK => ?_) AllReadyH.nil
   go_simp
   refine (l1Pick_any g _ 5 5 _ _ HC.out HP.out (by intro b o e; injection e with e; injection e with e1; have := HPO.out; omega) (by omega)).mono ?_
   rintro e wc ⟨x, rfl, hxm, hC6, hG6⟩
   have HX : Hid (x.size ≤ 1000) := by
    unfold Hid
    simp at hxm
    rcases hxm with rfl | rfl | rfl | rfl | rfl <;> decide
   clear HP hxm
   replace HA := Lib.hid (HA.out.grown hG6 (fun q hq => by injection hq; have := HLO.out; have := HGF.out; omega))
   replace HT := Lib.hid (HT.out.grown hG6 (fun q hq => by injection hq; have := HTO.out; have := HGF.out; omega))
   replace HG := Lib.hid (gr_trans HG.out hG6)
   replace HC : Hid (Cur wc g) := hC6
   clear hC6 hG6
   refine hK.out _ _ (HSF.out _ HG.out) (fun hHeld => ?_)
   clear hK K
   (try simp only [Act.put, L1, L2, L3, L4, L5, L6])
   (refine tkq 7 (v := ?_) ?_ ?_; rotate_left; · (intro w hSw; (try dsimp only at hSw); go_simp; all_goals with_reducible rfl))
   (try simp only [Act.put, L1, L2, L3, L4, L5, L6])
   refine wpAnyH_ready (rs := [9]) (by kernel_rfl) (by simp) ?_
   refine AllReadyH.cons rfl (fun K hK => ?_) AllReadyH.nil
   obtain ⟨⟨r0, r1, r2, r3, r4⟩, e0, e1, e2, e3, e4⟩ := blk5f HT.out
   go_simp
   have HT5 : Hid (Blk (st5 wc lt (.int .i64 1) (.string x) (.slice (some ⟨la, 0, none⟩) 1 1) (.int .i64 0) (.slice none 0 0)) lt 69 #[.int .i64 1, .string x, .slice (some ⟨la, 0, none⟩) 1 1, .int .i64 0, .slice none 0 0]) := blk_st5 HT.out (.int .i64 1) (.string x) (.slice (some ⟨la, 0, none⟩) 1 1) (.int .i64 0) (.slice none 0 0)
   have HA5 : Hid (Blk (st5 wc lt (.int .i64 1) (.string x) (.slice (some ⟨la, 0, none⟩) 1 1) (.int .i64 0) (.slice none 0 0)) la 9 #[.string f0]) := far_st5 HA.out (blk_ne HA.out HT.out (by decide)) (.int .i64 1) (.string x) (.slice (some ⟨la, 0, none⟩) 1 1) (.int .i64 0) (.slice none 0 0)
   have HG5 : Hid (wf.grownBy (st5 wc lt (.int .i64 1) (.string x) (.slice (some ⟨la, 0, none⟩) 1 1) (.int .i64 0) (.slice none 0 0)) (some g)) := gr_st5 HG.out HTO.out (.int .i64 1) (.string x) (.slice (some ⟨la, 0, none⟩) 1 1) (.int .i64 0) (.slice none 0 0)
   have HC5 : Hid (Cur (st5 wc lt (.int .i64 1) (.string x) (.slice (some ⟨la, 0, none⟩) 1 1) (.int .i64 0) (.slice none 0 0)) g) := cur_st5 HC.out (Nat.lt_of_lt_of_le HGF.out HTO.out) (.int .i64 1) (.string x) (.slice (some ⟨la, 0, none⟩) 1 1) (.int .i64 0) (.slice none 0 0)
   refine hK.out _ _ (HSF.out _ HG5.out) (fun hHeld => ?_)
   clear hK K
   (try simp only [Act.put, L1, L2, L3, L4, L5, L6])
   (refine wpAnyH_done (by kernel_rfl) ?_ _)
   exact HQ.out _ _ _ _ _ _ _ _ lt la x _ HX.out HC5.out HG5.out HTO.out HLO.out HA5.out HT5.out
 ·skip
  go_simp
  have hxT : Ext wd (wd.alloc (.cells #[.int .i64 0, .string ⟨#[]⟩, .slice none 0 0, .int .i64 0, .slice none 0 0] 69)) := (Ext.refl wd).alloc _
  obtain ⟨lt, hlt⟩ : ∃ lt, wd.heap.size = lt := ⟨_, rfl⟩
  have HTN : Hid (Blk (wd.alloc (.cells #[.int .i64 0, .string ⟨#[]⟩, .slice none 0 0, .int .i64 0, .slice none 0 0] 69)) lt 69 #[.int .i64 0, .string ⟨#[]⟩, .slice none 0 0, .int .i64 0, .slice none 0 0]) := by rw [← hlt]; exact Blk.new _ _ _
  have HTO : Hid (wf.heap.size ≤ lt) := by rw [← hlt]; exact HG.out.size
  try rw [hlt]
  replace HG := Lib.hid (gr_ext HG.out hxT)
  replace HC := Lib.hid (HC.out.ext hxT)
  have HT := HTN
  refine hK.out _ _ (HSF.out _ HG.out) (fun hHeld => ?_)
  clear hK K
  (try simp only [Act.put, L1, L2, L3, L4, L5, L6])
  clear HTN hxT hlt
  generalize (wd.alloc (.cells #[.int .i64 0, .string ⟨#[]⟩, .slice none 0 0, .int .i64 0, .slice none 0 0] 69)) = wt at *
  refine wpAnyH_ready (rs := [1, 6]) (by kernel_rfl) (by simp) ?_
  refine AllReadyH.cons rfl (fun K hK => ?_) (AllReadyH.cons rfl (fun K hK => ?_) AllReadyH.nil)
  ·skip
   go_simp
   have hxP : Ext wt (wt.alloc (.cells #[.string ⟨#[120]⟩, .string ⟨#[122]⟩, .string ⟨#[115]⟩, .string ⟨#[121]⟩, .string ⟨#[104]⟩] 9)) := (Ext.refl wt).alloc _
   obtain ⟨lp, hlp⟩ : ∃ lp, wt.heap.size = lp := ⟨_, rfl⟩
   have HPN : Hid (Rd (wt.alloc (.cells #[.string ⟨#[120]⟩, .string ⟨#[122]⟩, .string ⟨#[115]⟩, .string ⟨#[121]⟩, .string ⟨#[104]⟩] 9)) (wt.alloc (.cells #[.string ⟨#[120]⟩, .string ⟨#[122]⟩, .string ⟨#[115]⟩, .string ⟨#[121]⟩, .string ⟨#[104]⟩] 9)).heap.size 1 (some ⟨lp, 0, none⟩) 5 (tcells [⟨#[120]⟩, ⟨#[122]⟩, ⟨#[115]⟩, ⟨#[121]⟩, ⟨#[104]⟩])) := by rw [← hlp]; exact rd_newN wt _ _ _ 5 1 _ rfl (by simp [tcell]) (by simp [tcell])
   have HPO : Hid (g < lp) := by rw [← hlp]; exact Nat.lt_of_lt_of_le HGF.out HG.out.size
   try rw [hlp]
   replace HT := Lib.hid (HT.out.ext hxP)
   replace HG := Lib.hid (gr_ext HG.out hxP)
   replace HC := Lib.hid (HC.out.ext hxP)
   have HP := HPN
   refine hK.out _ _ (HSF.out _ HG.out) (fun hHeld => ?_)
   clear hK K
   (try simp only [Act.put, L1, L2, L3, L4, L5, L6])
   clear HPN hxP hlp
   generalize (wt.alloc (.cells #[.string ⟨#[120]⟩, .string ⟨#[122]⟩, .string ⟨#[115]⟩, .string ⟨#[121]⟩, .string ⟨#[104]⟩] 9)) = wp at *
   refine wpAnyH_ready (rs := [2, 6]) (by kernel_rfl) (by simp) ?_
   refine AllReadyH.cons rfl (fun K hK => ?_) (AllReadyH.cons rfl (fun K hK => ?_) AllReadyH.nil)
   ·skip
    go_simp
    refine (l1Pick_any g _ 5 5 _ _ HC.out HP.out (by intro b o e; injection e with e; injection e with e1; have := HPO.out; omega) (by omega)).mono ?_
    rintro e wc ⟨x, rfl, hxm, hC6, hG6⟩
    have HX : Hid (x.size ≤ 1000) := by
     unfold Hid
     simp at hxm
     rcases hxm with rfl | rfl | rfl | rfl | rfl <;> decide
    clear HP hxm
    replace HT := Lib.hid (HT.out.grown hG6 (fun q hq => by injection hq; have := HTO.out; have := HGF.out; omega))
    replace HG := Lib.hid (gr_trans HG.out hG6)
    replace HC : Hid (Cur wc g) := hC6
    clear hC6 hG6
    refine hK.out _ _ (HSF.out _ HG.out) (fun hHeld => ?_)
    clear hK K
    (try simp only [Act.put, L1, L2, L3, L4, L5, L6])
    refine wpAnyH_ready (rs := [6]) (by kernel_rfl) (by simp) ?_
    refine AllReadyH.cons rfl (fun K hK => ?_) AllReadyH.nil
    go_simp
    have hxL : Ext wc (wc.alloc (.cells #[.string f0] 9)) := (Ext.refl wc).alloc _
    obtain ⟨la, hla⟩ : ∃ la, wc.heap.size = la := ⟨_, rfl⟩
    have HAN : Hid (Blk (wc.alloc (.cells #[.string f0] 9)) la 9 #[.string f0]) := by rw [← hla]; exact Blk.new _ _ _
    have HLO : Hid (wf.heap.size ≤ la) := by rw [← hla]; exact HG.out.size
    try rw [hla]
    replace HT := Lib.hid (HT.out.ext hxL)
    replace HG := Lib.hid (gr_ext HG.out hxL)
    replace HC := Lib.hid (HC.out.ext hxL)
    have HA := HAN
    refine hK.out _ _ (HSF.out _ HG.out) (fun hHeld => ?_)
    clear hK K
    (try simp only [Act.put, L1, L2, L3, L4, L5, L6])
    clear HAN hxL hla
    generalize (wc.alloc (.cells #[.string f0] 9)) = wl at *
    (refine tkq 7 (v := ?_) ?_ ?_; rotate_left; · (intro w hSw; (try dsimp only at hSw); go_simp; all_goals with_reducible rfl))
    (try simp only [Act.put, L1, L2, L3, L4, L5, L6])
    refine wpAnyH_ready (rs := [9]) (by kernel_rfl) (by simp) ?_
    refine AllReadyH.cons rfl (fun K hK => ?_) AllReadyH.nil
    obtain ⟨⟨r0, r1, r2, r3, r4⟩, e0, e1, e2, e3, e4⟩ := blk5f HT.out
    go_simp
    have HT5 : Hid (Blk (st5 wl lt (.int .i64 1) (.string x) (.slice (some ⟨la, 0, none⟩) 1 1) (.int .i64 0) (.slice none 0 0)) lt 69 #[.int .i64 1, .string x, .slice (some ⟨la, 0, none⟩) 1 1, .int .i64 0, .slice none 0 0]) := blk_st5 HT.out (.int .i64 1) (.string x) (.slice (some ⟨la, 0, none⟩) 1 1) (.int .i64 0) (.slice none 0 0)
    have HA5 : Hid (Blk (st5 wl lt (.int .i64 1) (.string x) (.slice (some ⟨la, 0, none⟩) 1 1) (.int .i64 0) (.slice none 0 0)) la 9 #[.string f0]) := far_st5 HA.out (blk_ne HA.out HT.out (by decide)) (.int .i64 1) (.string x) (.slice (some ⟨la, 0, none⟩) 1 1) (.int .i64 0) (.slice none 0 0)
    have HG5 : Hid (wf.grownBy (st5 wl lt (.int .i64 1) (.string x) (.slice (some ⟨la, 0, none⟩) 1 1) (.int .i64 0) (.slice none 0 0)) (some g)) := gr_st5 HG.out HTO.out (.int .i64 1) (.string x) (.slice (some ⟨la, 0, none⟩) 1 1) (.int .i64 0) (.slice none 0 0)
    have HC5 : Hid (Cur (st5 wl lt (.int .i64 1) (.string x) (.slice (some ⟨la, 0, none⟩) 1 1) (.int .i64 0) (.slice none 0 0)) g) := cur_st5 HC.out (Nat.lt_of_lt_of_le HGF.out HTO.out) (.int .i64 1) (.string x) (.slice (some ⟨la, 0, none⟩) 1 1) (.int .i64 0) (.slice none 0 0)
    refine hK.out _ _ (HSF.out _ HG5.out) (fun hHeld => ?_)
    clear hK K
    (try simp only [Act.put, L1, L2, L3, L4, L5, L6])
    (refine wpAnyH_done (by kernel_rfl) ?_ _)
    exact HQ.out _ _ _ _ _ _ _ _ lt la x _ HX.out HC5.out HG5.out HTO.out HLO.out HA5.out HT5.out
   ·skip
    go_simp
    have hxL : Ext wp (wp.alloc (.cells #[.string f0] 9)) := (Ext.refl wp).alloc _
    obtain ⟨la, hla⟩ : ∃ la, wp.heap.size = la := ⟨_, rfl⟩
    have HAN : Hid (Blk (wp.alloc (.cells #[.string f0] 9)) la 9 #[.string f0]) := by rw [← hla]; exact Blk.new _ _ _
    have HLO : Hid (wf.heap.size ≤ la) := by rw [← hla]; exact HG.out.size
    try rw [hla]
    replace HP := Lib.hid (HP.out.ext hxL)
    replace HT := Lib.hid (HT.out.ext hxL)
    replace HG := Lib.hid (gr_ext HG.out hxL)
    replace HC := Lib.hid (HC.out.ext hxL)
    have HA := HAN
    refine hK.out _ _ (HSF.out _ HG.out) (fun hHeld => ?_)
    clear hK K
    (try simp only [Act.put, L1, L2, L3, L4, L5, L6])
    clear HAN hxL hla
    generalize (wp.alloc (.cells #[.string f0] 9)) = wl at *
    refine wpAnyH_ready (rs := [2]) (by kernel_rfl) (by simp) ?_
    refine AllReadyH.cons rfl (fun K hK => ?_) AllReadyH.nil
    go_simp
    refine (l1Pick_any g _ 5 5 _ _ HC.out HP.out (by intro b o e; injection e with e; injection e with e1; have := HPO.out; omega) (by omega)).mono ?_
    rintro e wc ⟨x, rfl, hxm, hC6, hG6⟩
    have HX : Hid (x.size ≤ 1000) := by
     unfold Hid
     simp at hxm
     rcases hxm with rfl | rfl | rfl | rfl | rfl <;> decide
    clear HP hxm
    replace HA := Lib.hid (HA.out.grown hG6 (fun q hq => by injection hq; have := HLO.out; have := HGF.out; omega))
    replace HT := Lib.hid (HT.out.grown hG6 (fun q hq => by injection hq; have := HTO.out; have := HGF.out; omega))
    replace HG := Lib.hid (gr_trans HG.out hG6)
    replace HC : Hid (Cur wc g) := hC6
    clear hC6 hG6
    refine hK.out _ _ (HSF.out _ HG.out) (fun hHeld => ?_)
    clear hK K
    (try simp only [Act.put, L1, L2, L3, L4, L5, L6])
    (refine tkq 7 (v := ?_) ?_ ?_; rotate_left; · (intro w hSw; (try dsimp only at hSw); go_simp; all_goals with_reducible rfl))
    (try simp only [Act.put, L1, L2, L3, L4, L5, L6])
    refine wpAnyH_ready (rs := [9]) (by kernel_rfl) (by simp) ?_
    refine AllReadyH.cons rfl (fun K hK => ?_) AllReadyH.nil
    obtain ⟨⟨r0, r1, r2, r3, r4⟩, e0, e1, e2, e3, e4⟩ := blk5f HT.out
    go_simp
    have HT5 : Hid (Blk (st5 wc lt (.int .i64 1) (.string x) (.slice (some ⟨la, 0, none⟩) 1 1) (.int .i64 0) (.slice none 0 0)) lt 69 #[.int .i64 1, .string x, .slice (some ⟨la, 0, none⟩) 1 1, .int .i64 0, .slice none 0 0]) := blk_st5 HT.out (.int .i64 1) (.string x) (.slice (some ⟨la, 0, none⟩) 1 1) (.int .i64 0) (.slice none 0 0)
    have HA5 : Hid (Blk (st5 wc lt (.int .i64 1) (.string x) (.slice (some ⟨la, 0, none⟩) 1 1) (.int .i64 0) (.slice none 0 0)) la 9 #[.string f0]) := far_st5 HA.out (blk_ne HA.out HT.out (by decide)) (.int .i64 1) (.string x) (.slice (some ⟨la, 0, none⟩) 1 1) (.int .i64 0) (.slice none 0 0)
    have HG5 : Hid (wf.grownBy (st5 wc lt (.int .i64 1) (.string x) (.slice (some ⟨la, 0, none⟩) 1 1) (.int .i64 0) (.slice none 0 0)) (some g)) := gr_st5 HG.out HTO.out (.int .i64 1) (.string x) (.slice (some ⟨la, 0, none⟩) 1 1) (.int .i64 0) (.slice none 0 0)
    have HC5 : Hid (Cur (st5 wc lt (.int .i64 1) (.string x) (.slice (some ⟨la, 0, none⟩) 1 1) (.int .i64 0) (.slice none 0 0)) g) := cur_st5 HC.out (Nat.lt_of_lt_of_le HGF.out HTO.out) (.int .i64 1) (.string x) (.slice (some ⟨la, 0, none⟩) 1 1) (.int .i64 0) (.slice none 0 0)
    refine hK.out _ _ (HSF.out _ HG5.out) (fun hHeld => ?_)
    clear hK K
    (try simp only [Act.put, L1, L2, L3, L4, L5, L6])
    (refine wpAnyH_done (by kernel_rfl) ?_ _)
    exact HQ.out _ _ _ _ _ _ _ _ lt la x _ HX.out HC5.out HG5.out HTO.out HLO.out HA5.out HT5.out
  ·skip
   go_simp
   have hxL : Ext wt (wt.alloc (.cells #[.string f0] 9)) := (Ext.refl wt).alloc _
   obtain ⟨la, hla⟩ : ∃ la, wt.heap.size = la := ⟨_, rfl⟩
   have HAN : Hid (Blk (wt.alloc (.cells #[.string f0] 9)) la 9 #[.string f0]) := by rw [← hla]; exact Blk.new _ _ _
   have HLO : Hid (wf.heap.size ≤ la) := by rw [← hla]; exact HG.out.size
   try rw [hla]
   replace HT := Lib.hid (HT.out.ext hxL)
   replace HG := Lib.hid (gr_ext HG.out hxL)
   replace HC := Lib.hid (HC.out.ext hxL)
   have HA := HAN
   refine hK.out _ _ (HSF.out _ HG.out) (fun hHeld => ?_)
   clear hK K
   (try simp only [Act.put, L1, L2, L3, L4, L5, L6])
   clear HAN hxL hla
   generalize (wt.alloc (.cells #[.string f0] 9)) = wl at *
   refine wpAnyH_ready (rs := [1]) (by kernel_rfl) (by simp) ?_
   refine AllReadyH.cons rfl (fun K hK => ?_) AllReadyH.nil
   go_simp
   have hxP : Ext wl (wl.alloc (.cells #[.string ⟨#[120]⟩, .string ⟨#[122]⟩, .string ⟨#[115]⟩, .string ⟨#[121]⟩, .string ⟨#[104]⟩] 9)) := (Ext.refl wl).alloc _
   obtain ⟨lp, hlp⟩ : ∃ lp, wl.heap.size = lp := ⟨_, rfl⟩
   have HPN : Hid (Rd (wl.alloc (.cells #[.string ⟨#[120]⟩, .string ⟨#[122]⟩, .string ⟨#[115]⟩, .string ⟨#[121]⟩, .string ⟨#[104]⟩] 9)) (wl.alloc (.cells #[.string ⟨#[120]⟩, .string ⟨#[122]⟩, .string ⟨#[115]⟩, .string ⟨#[121]⟩, .string ⟨#[104]⟩] 9)).heap.size 1 (some ⟨lp, 0, none⟩) 5 (tcells [⟨#[120]⟩, ⟨#[122]⟩, ⟨#[115]⟩, ⟨#[121]⟩, ⟨#[104]⟩])) := by rw [← hlp]; exact rd_newN wl _ _ _ 5 1 _ rfl (by simp [tcell]) (by simp [tcell])
   have HPO : Hid (g < lp) := by rw [← hlp]; exact Nat.lt_of_lt_of_le HGF.out HG.out.size
   try rw [hlp]
   replace HA := Lib.hid (HA.out.ext hxP)
   replace HT := Lib.hid (HT.out.ext hxP)
   replace HG := Lib.hid (gr_ext HG.out hxP)
   replace HC := Lib.hid (HC.out.ext hxP)
   have HP := HPN
   refine hK.out _ _ (HSF.out _ HG.out) (fun hHeld => ?_)
   clear hK K
   (try simp only [Act.put, L1, L2, L3, L4, L5, L6])
   clear HPN hxP hlp
   generalize (wl.alloc (.cells #[.string ⟨#[120]⟩, .string ⟨#[122]⟩, .string ⟨#[115]⟩, .string ⟨#[121]⟩, .string ⟨#[104]⟩] 9)) = wp at *
   refine wpAnyH_ready (rs := [2]) (by kernel_rfl) (by simp) ?_
   refine AllReadyH.cons rfl (fun K hK => ?_) AllReadyH.nil
   go_simp
   refine (l1Pick_any g _ 5 5 _ _ HC.out HP.out (by intro b o e; injection e with e; injection e with e1; have := HPO.out; omega) (by omega)).mono ?_
   rintro e wc ⟨x, rfl, hxm, hC6, hG6⟩
   have HX : Hid (x.size ≤ 1000) := by
    unfold Hid
    simp at hxm
    rcases hxm with rfl | rfl | rfl | rfl | rfl <;> decide
   clear HP hxm
   replace HA := Lib.hid (HA.out.grown hG6 (fun q hq => by injection hq; have := HLO.out; have := HGF.out; omega))
   replace HT := Lib.hid (HT.out.grown hG6 (fun q hq => by injection hq; have := HTO.out; have := HGF.out; omega))
   replace HG := Lib.hid (gr_trans HG.out hG6)
   replace HC : Hid (Cur wc g) := hC6
   clear hC6 hG6
   refine hK.out _ _ (HSF.out _ HG.out) (fun hHeld => ?_)
   clear hK K
   (try simp only [Act.put, L1, L2, L3, L4, L5, L6])
   (refine tkq 7 (v := ?_) ?_ ?_; rotate_left; · (intro w hSw; (try dsimp only at hSw); go_simp; all_goals with_reducible rfl))
   (try simp only [Act.put, L1, L2, L3, L4, L5, L6])
   refine wpAnyH_ready (rs := [9]) (by kernel_rfl) (by simp) ?_
   refine AllReadyH.cons rfl (fun K hK => ?_) AllReadyH.nil
   obtain ⟨⟨r0, r1, r2, r3, r4⟩, e0, e1, e2, e3, e4⟩ := blk5f HT.out
   go_simp
   have HT5 : Hid (Blk (st5 wc lt (.int .i64 1) (.string x) (.slice (some ⟨la, 0, none⟩) 1 1) (.int .i64 0) (.slice none 0 0)) lt 69 #[.int .i64 1, .string x, .slice (some ⟨la, 0, none⟩) 1 1, .int .i64 0, .slice none 0 0]) := blk_st5 HT.out (.int .i64 1) (.string x) (.slice (some ⟨la, 0, none⟩) 1 1) (.int .i64 0) (.slice none 0 0)
   have HA5 : Hid (Blk (st5 wc lt (.int .i64 1) (.string x) (.slice (some ⟨la, 0, none⟩) 1 1) (.int .i64 0) (.slice none 0 0)) la 9 #[.string f0]) := far_st5 HA.out (blk_ne HA.out HT.out (by decide)) (.int .i64 1) (.string x) (.slice (some ⟨la, 0, none⟩) 1 1) (.int .i64 0) (.slice none 0 0)
   have HG5 : Hid (wf.grownBy (st5 wc lt (.int .i64 1) (.string x) (.slice (some ⟨la, 0, none⟩) 1 1) (.int .i64 0) (.slice none 0 0)) (some g)) := gr_st5 HG.out HTO.out (.int .i64 1) (.string x) (.slice (some ⟨la, 0, none⟩) 1 1) (.int .i64 0) (.slice none 0 0)
   have HC5 : Hid (Cur (st5 wc lt (.int .i64 1) (.string x) (.slice (some ⟨la, 0, none⟩) 1 1) (.int .i64 0) (.slice none 0 0)) g) := cur_st5 HC.out (Nat.lt_of_lt_of_le HGF.out HTO.out) (.int .i64 1) (.string x) (.slice (some ⟨la, 0, none⟩) 1 1) (.int .i64 0) (.slice none 0 0)
   refine hK.out _ _ (HSF.out _ HG5.out) (fun hHeld => ?_)
   clear hK K
   (try simp only [Act.put, L1, L2, L3, L4, L5, L6])
   (refine wpAnyH_done (by kernel_rfl) ?_ _)
   exact HQ.out _ _ _ _ _ _ _ _ lt la x _ HX.out HC5.out HG5.out HTO.out HLO.out HA5.out HT5.out
end Go.Proofs.YtdjckjfclhjpcaaGreat
