/- Functions of the program as plain Lean functions, and that the calls come to what they say. -/
import Derived.Test.YtlpkicbmcpmemaaZQx0h2d4ba
import Derived.Test.YtlpkicbmcpmemaaZShorth9309d
namespace Go.Proofs.Ytlpkicbmcpmemaa.Q
open Go.RowKit Go.Proofs.YtlpkicbmcpmemaaW.PrintWords Go.Proofs.YtlpkicbmcpmemaaW.PrintLast Go.Proofs.YtlpkicbmcpmemaaW.PrintMore
attribute [local go_sem] max2_int min2_int max_two min_two max_three min_three max_four min_four   -- for this text's walks alone
set_option linter.unusedVariables false
set_option linter.unusedSimpArgs false

/-! ### impl_sortsAbove: function 46 -/
theorem impl_sortsAbove.a0 {P_ : Prop} (h_ : P_ := by repeat (first | (with_reducible first | exact HB.out | apply below_alloc | apply pw_below_drewN | apply below_drew1 | refine below_set ?_ GE164.out) | exact HB.out)) : P_ := h_
theorem impl_sortsAbove.a1 {P_ : Prop} (h_ : P_ := by (with_reducible repeat (first | refine blk_drewN ?_ _ | refine blk_drew ?_ | refine blk_alloc ?_ _)); exact BK164.out) : P_ := h_
theorem impl_sortsAbove.a2 {P_ : Prop} (h_ : P_ := by first | (with_reducible assumption) | assumption) : P_ := h_
theorem impl_sortsAbove.a3 {P_ : Prop} (h_ : P_ := by repeat (first | (with_reducible first | exact HB.out | apply below_alloc | apply pw_below_drewN | apply below_drew1) | exact HB.out)) : P_ := h_
theorem impl_sortsAbove.a4 {P_ : Prop} (h_ : P_ := by rintro w' ⟨s0, s1, s2, s3⟩; go_simp; with_reducible rfl) : P_ := h_
theorem impl_sortsAbove.a5 {P_ : Prop} (h_ : P_ := by first | rfl | (simp; done) | (simp [*]; done)) : P_ := h_
mutual
def impl_sortsAbove.l0 : Nat → List Int → Int → Int → List ByteArray → List (S52) → Option (List Int)
 | 0, _, _, _, _, _ => none
 | k + 1, x3, x12, x13, x165000, x165001 => if x13 < x12 then (if 0 ≤ x13 then (if x13 < (x3.length : Int) then (impl_sortsAbove.l0 k (x3.set (x13 : Int).toNat (shl .i64 1 x13)) x12 (wrap64 (x13 + 1)) x165000 x165001) else (none)) else (none)) else (impl_sortsAbove.l1 k x3 (x3.length : Int) 0 x165000 x165001)
def impl_sortsAbove.l1 : Nat → List Int → Int → Int → List ByteArray → List (S52) → Option (List Int)
 | 0, _, _, _, _, _ => none
 | k + 1, x3, x23, x24, x165000, x165001 => if x24 < x23 then (impl_sortsAbove.l2 k x3 x23 x24 x165001 (x165001.length : Int) 0 x165000 x165001) else (some x3)
def impl_sortsAbove.l2 : Nat → List Int → Int → Int → List (S52) → Int → Int → List ByteArray → List (S52) → Option (List Int)
 | 0, _, _, _, _, _, _, _, _ => none
 | k + 1, x3, x23, x24, x27, x28, x29, x165000, x165001 => if x29 < x28 then (if 0 ≤ x29 then (if x29 < (x27.length : Int) then (if 0 ≤ ((rd_T52 x27 x29).f0) then (if ((rd_T52 x27 x29).f0) < (x3.length : Int) then (if 0 ≤ ((rd_T52 x27 x29).f1) then (if ((rd_T52 x27 x29).f1) < (x3.length : Int) then (impl_sortsAbove.l2 k (x3.set (((rd_T52 x27 x29).f0) : Int).toNat (Go.bits .or .i64 (rd x3 ((rd_T52 x27 x29).f0)) (rd x3 ((rd_T52 x27 x29).f1)))) x23 x24 x27 x28 (wrap64 (x29 + 1)) x165000 x165001) else (none)) else (none)) else (none)) else (none)) else (none)) else (none)) else (impl_sortsAbove.l1 k x3 x23 (wrap64 (x24 + 1)) x165000 x165001)
end
def impl_sortsAbove.f (k : Nat) (l0_0 : List ByteArray) (l0_1 : List (S52)) : Option (List Int) := if 0 ≤ (l0_0.length : Int) then (if ((l0_0.length : Int) : Int).toNat ≤ 35184372088832 then ((some (List.replicate ((l0_0.length : Int) : Int).toNat 0 : List Int)).bind fun y165 => (impl_sortsAbove.l0 k y165 (y165.length : Int) 0 l0_0 l0_1)) else (none)) else (none)
def impl_sortsAbove.T12 : Bool × List (List Nat × List Nat) := (true, [([], []), ([], []), ([1], [1]), ([], []), ([], []), ([4], [4]), ([3, 5], [3, 5]), ([6], [6]), ([], []), ([], []), ([9], [9]), ([8, 10], [8, 10]), ([11], [11]), ([7, 12], [7, 12]), ([0, 2, 0, 1, 2, 3, 4, 5, 6, 7, 8, 9, 10, 11, 12, 13], [0, 2]), ([14, 13, 0, 1, 2, 3, 4, 5, 6, 7, 8, 9, 10, 11, 12, 13], [13, 14])])
def impl_sortsAbove.B12 : List Nat := [0, 0, 2, 0, 0, 16, 56, 120, 0, 0, 512, 1792, 3840, 8184, 16383, 32767]
theorem impl_sortsAbove.tab12 : rtab .any (opsOf Try.f46 12) = impl_sortsAbove.T12 := by kernel_rfl
theorem impl_sortsAbove.bits12 : waitsOk impl_sortsAbove.T12.2 impl_sortsAbove.B12 = true := by kernel_rfl
set_option maxHeartbeats 8000000 in
set_option maxRecDepth 100000 in
theorem impl_sortsAbove.calls (k : Nat) (A0_0 : Option Addr) (c0_0 : Nat) (l0_0 : List ByteArray) (A0_1 : Option Addr) (c0_1 : Nat) (l0_1 : List (S52)) (r : List Int) (w : World) (hr0_0 : Kd.C Kd.string w A0_0 l0_0.length l0_0) (hc0_0 : l0_0.length ≤ c0_0) (hr0_1 : Kd.C k52 w A0_1 l0_1.length l0_1) (hc0_1 : l0_1.length ≤ c0_1) (h : impl_sortsAbove.f k l0_0 l0_1 = some r) :
  Calls Try.prog 46 #[.agg #[.slice A0_0 l0_0.length c0_0, .slice A0_1 l0_1.length c0_1]] w fun e w' => ∃ v0_ : Value, e = .returned (v0_) ∧ Kd.R (Kd.int .i64) 3 w' w.heap.size (fun _ => True) v0_ r ∧ Below w.heap.size w w' := by
 have hu30 := Try.underlying30
 have hu52 := Try.underlying52
 have HR0_0 := Aside0.mk hr0_0
 have HC0_0 := Aside0.mk hc0_0
 clear hr0_0 hc0_0
 have HR0_1 := Aside0.mk hr0_1
 have HC0_1 := Aside0.mk hc0_1
 clear hr0_1 hc0_1
 have HB := Aside0.mk (Below.refl w.heap.size w)
 have H : (if 0 ≤ (l0_0.length : Int) then (if ((l0_0.length : Int) : Int).toNat ≤ 35184372088832 then ((some (List.replicate ((l0_0.length : Int) : Int).toNat 0 : List Int)).bind fun y165 => (impl_sortsAbove.l0 k y165 (y165.length : Int) 0 l0_0 l0_1)) else (none)) else (none)) = some r := h
 clear h
 by_cases c2 : 0 ≤ (l0_0.length : Int)
 ·rw [if_pos c2] at H
  have c2b0 := eq_true c2
  have c2b1 : decide (0 ≤ (l0_0.length : Int)) = true := decide_eq_true c2
  clear c2
  by_cases c3 : ((l0_0.length : Int) : Int).toNat ≤ 35184372088832
  ·rw [if_pos c3] at H
   have c3b0 := eq_true c3
   have c3b1 : decide (((l0_0.length : Int) : Int).toNat ≤ 35184372088832) = true := decide_eq_true c3
   clear c3
   obtain ⟨y165, hy165⟩ : ∃ y_ : List Int, y_ = (List.replicate ((l0_0.length : Int) : Int).toNat 0) := ⟨_, rfl⟩
   replace H : (impl_sortsAbove.l0 k y165 (y165.length : Int) 0 l0_0 l0_1) = some r := by first | (rw [hy165]; with_reducible exact H) | (have H2_ := (Option.bind_some _ _).symm.trans H; rw [hy165]; with_reducible exact H2_) | (have H2_ := (Option.bind_some _ _).symm.trans H; with_reducible exact H2_) | with_reducible exact H | (rw [hy165]; exact H) | exact H
   have Ny165 := Aside0.mk hy165
   clear hy165
   have H' := Aside0.mk H
   clear H
   go_enter Try.func46, Try.ntmps46
   go_wp2_with (first | ((with_reducible refine gate_dst (N := 1) rfl ?_); refine box_event ?hg (N := 1) ?hd (cs := #[.slice A0_0 l0_0.length c0_0, .slice A0_1 l0_1.length c0_1]) (t := 30) ?hr ?_; (case hd => rfl); (case hg => rfl); (case hr => first | (go_simp; done) | (go_simp; rfl)); intro gb164 hg w4 hbox hb; have n0_ := Aside0.mk (below_step impl_sortsAbove.a3 hb); have n1_ := Aside0.mk (hbox); have n2_ := Aside0.mk ((by rw [hg]; exact (below_size impl_sortsAbove.a3) : w.heap.size ≤ gb164)); have n3_ := Aside0.mk ((by rw [hg]; exact (below_size impl_sortsAbove.a3) : w.heap.size ≤ gb164)); clear HB; have HB := n0_; have BK164 := n1_; have GW164 := n2_; have GE164 := n3_; clear n0_ n1_ n2_ n3_; clear hb hbox hg; have hcz5_0 : w4.cell? ⟨gb164, 0, none⟩ = some (.slice A0_0 l0_0.length c0_0) := (blk_cell BK164.out 0).trans rfl; have hcz5_1 : w4.cell? ⟨gb164, 1, none⟩ = some (.slice A0_1 l0_1.length c0_1) := (blk_cell BK164.out 1).trans rfl; have hfz5_0 := blk_frozen BK164.out 0; have hfz5_1 := blk_frozen BK164.out 1) | ((with_reducible refine gate_dst (N := 10) rfl ?_); refine Kd.R_make (Kd.int .i64) _ 3 rfl (N := 10) rfl 44 _ _ rfl (l0_0.length : Int) rfl rfl Try.underlying44 (.int .i64 0) 8 info3 rfl (by decide) (by omega) 0 (ok := fun _ => True) (okp := fun _ => True) rfl (fun _ hk => hk) trivial (of_decide_eq_true impl_sortsAbove.a2) (Nat.le_trans (Nat.mul_le_mul_right _ (of_decide_eq_true impl_sortsAbove.a2 : (l0_0.length : Int).toNat ≤ 35184372088832)) (by omega)) (Below.refl _ _) (Nat.le_refl _) ?_; intro v166 w6 ho7 hb hg_ hnew_; clear hg_ hnew_; (first | rw [← Ny165.out] at ho7 | (simp only [Int.reduceToNat] at ho7; rw [← Ny165.out] at ho7)); have n0_ := Aside0.mk (Kd.R_lower ho7 (below_size impl_sortsAbove.a0)); have n1_ := Aside0.mk (blk_below (g := gb164) (o := .cells #[.slice A0_0 l0_0.length c0_0, .slice A0_1 l0_1.length c0_1] 30 (0, 0)) impl_sortsAbove.a1 hb); have n2_ := Aside0.mk (below_step impl_sortsAbove.a0 hb); clear BK164; clear HB; have HO167 := n0_; have BK164 := n1_; have HB := n2_; clear n0_ n1_ n2_; clear hb ho7; obtain ⟨Ao8, co8, eo8⟩ := Kd.R_slice HO167.out; subst eo8))
   go_loopg [13] k (fun kq v13 w' => ∃ (x3_1 : List Int) (x13_1 : Int), v13 = .int .i64 x13_1 ∧ Aside0 (impl_sortsAbove.l0 kq x3_1 (y165.length : Int) x13_1 l0_0 l0_1 = some r) ∧ Aside0 (kq ≤ k) ∧ Aside0 (Kd.R (Kd.int .i64) 3 w' w.heap.size (fun _ => True) (.slice Ao8 y165.length co8) x3_1) ∧ Aside0 (w'.heap[gb164]? = some (.cells #[(.slice A0_0 l0_0.length c0_0), (.slice A0_1 l0_1.length c0_1)] 30 (0, 0))) ∧ Aside0 (Below w.heap.size w w'))
   case atStart => exact ⟨(y165), (0), impl_sortsAbove.a5, H', ⟨Nat.le_refl _⟩, ⟨by (with_reducible repeat (first | apply Kd.R_alloc | apply Kd.R_drewN | apply Kd.R_drew)); exact HO167.out⟩, ⟨impl_sortsAbove.a1⟩, ⟨impl_sortsAbove.a0⟩⟩
   case round =>
    clear H'
    try clear c2
    try clear c2b0
    try clear c2b1
    try clear p2
    try clear c3
    try clear c3b0
    try clear c3b1
    try clear c4
    try clear hcz5_0
    try clear hcz5_1
    try clear hfz5_0
    try clear hfz5_1
    obtain ⟨x3_1, x13_1, rfl, HA, HK1, HO_3, BK164, HB⟩ := hrel
    have hl3_1 := (Kd.R_reads' HO_3.out).1
    rw [hl3_1] at HO_3
    (try simp only [hl3_1])
    (try simp only [hl3_1] at BK164)
    cases gk with
    | zero => exact absurd HA.out (by simp [impl_sortsAbove.l0])
    | succ k1 =>
     have H := HA.out
     clear HA
     simp only [impl_sortsAbove.l0] at H
     by_cases c9 : x13_1 < (y165.length : Int)
     ·rw [if_pos c9] at H
      have c9b0 : decide (x13_1 < (y165.length : Int)) = true := decide_eq_true c9
      (try (have c9b1 := c9b0; simp only [hl3_1] at c9b1))
      clear c9
      by_cases c10 : 0 ≤ x13_1
      ·rw [if_pos c10] at H
       have c10b0 := eq_true c10
       have c10b1 : decide (0 ≤ x13_1) = true := decide_eq_true c10
       clear c10
       obtain ⟨ji11, hji11⟩ : ∃ j_ : Int, (shl .i64 1 x13_1) = j_ := ⟨_, rfl⟩
       replace H : (if x13_1 < (x3_1.length : Int) then (impl_sortsAbove.l0 k1 (x3_1.set (x13_1 : Int).toNat (ji11)) (y165.length : Int) (wrap64 (x13_1 + 1)) l0_0 l0_1) else (none)) = some r := by first | (rw [hji11] at H; exact H) | (simp only [hji11] at H ⊢; exact H)
       have hji11_ : (IntKind.i64.wrap (1 * 2 ^ min x13_1.toNat 64)) = ji11 := hji11
       have hji11z : x13_1 ≤ 64 → (IntKind.i64.wrap (1 * 2 ^ x13_1.toNat)) = ji11 := shl_small hji11
       have hji11u : (IntKind.i64.wrap (2 ^ min x13_1.toNat 64)) = ji11 := by have h_ := hji11_; rw [Int.one_mul] at h_; exact h_
       have hji11v : x13_1 ≤ 64 → (IntKind.i64.wrap (2 ^ x13_1.toNat)) = ji11 := fun hle_ => by have h_ := hji11z hle_; rw [Int.one_mul] at h_; exact h_
       have hji11y : (wrap64 (1 * 2 ^ min x13_1.toNat 64)) = ji11 := (i64_w _).symm.trans hji11_
       have hji11x : x13_1 ≤ 64 → (wrap64 (1 * 2 ^ x13_1.toNat)) = ji11 := fun h_ => (i64_w _).symm.trans (hji11z h_)
       by_cases c12 : x13_1 < (x3_1.length : Int)
       ·rw [if_pos c12] at H
        have c12b0 : decide (x13_1 < (x3_1.length : Int)) = true := decide_eq_true c12
        (try (have c12b1 := c12b0; simp only [hl3_1] at c12b1))
        clear c12
        obtain ⟨y168, hy168⟩ : ∃ y_ : List Int, y_ = (x3_1.set (x13_1 : Int).toNat (ji11)) := ⟨_, rfl⟩
        replace H : (impl_sortsAbove.l0 k1 y168 (y165.length : Int) (wrap64 (x13_1 + 1)) l0_0 l0_1) = some r := by first | (rw [hy168]; with_reducible exact H) | (have H2_ := (Option.bind_some _ _).symm.trans H; rw [hy168]; with_reducible exact H2_) | (have H2_ := (Option.bind_some _ _).symm.trans H; with_reducible exact H2_) | with_reducible exact H | (rw [hy168]; exact H) | exact H
        have Ny168 := Aside0.mk hy168
        clear hy168
        have H' := Aside0.mk H
        clear H
        have p13 : 0 ≤ (x13_1 : Int) := of_decide_eq_true impl_sortsAbove.a2
        have q13 : (x13_1 : Int) < ((x3_1.length : Int) : Int) := of_decide_eq_true impl_sortsAbove.a2
        obtain ⟨go13, co13, eo13, gb13, gl13, cl13, HG13⟩ := Kd.R_form HO_3.out (by omega)
        (first | cases eo13 | (injection eo13 with ea_ en_ ec_; (first | subst ea_ | (injection ea_ with ea_; subst ea_)); subst ec_; clear en_))
        have GB13 := Aside0.mk gb13
        have GG13 := Aside0.mk HG13
        clear gb13 gl13 HG13
        obtain ⟨hx13_0, hf13_0⟩ := Kd.R_celln 0 HO_3.out (x13_1 : Int) p13 q13
        replace p13 := eq_true p13
        replace q13 := eq_true q13
        have HP14 := Kd.R_putg HO_3.out (x13_1 : Int) ji11
        go_wp2_with (first | ((with_reducible refine gate_store (t := 3) (p := 20) rfl ?_); refine store_event (t := 3) (p := 20) (v := ?vo_w15) (w1 := (wr.setCell ⟨go13, (x13_1 : Int).toNat, none⟩ (.int .i64 ji11))) ?hg ?ho ?hn ?hr ?_; (case ho => rfl); (case hg => rfl); (case hn => rfl); (case hr => first | (go_simp; done) | (go_simp; rfl)); intro w15 hw; have hg : wr.grownBy w15 (some go13) := (by rw [hw]; exact HP14.2); have hp_ : Kd.R (Kd.int .i64) 3 w15 w.heap.size (fun _ => True) (.slice (some ⟨go13, 0, none⟩) x3_1.length co8) y168 := (by rw [hw, Ny168.out]; exact HP14.1); clear HP14; have n0_ := Aside0.mk (hp_); have n1_ := Aside0.mk (blk_grown (g := gb164) (o := .cells #[.slice A0_0 l0_0.length c0_0, .slice A0_1 l0_1.length c0_1] 30 (0, 0)) impl_sortsAbove.a1 hg (Kd.R_ne HO_3.out BK164.out (by decide))); have n2_ := Aside0.mk ((by rw [hw]; exact below_set (HB.out) GB13.out : Below w.heap.size w w15)); clear HO_3; clear BK164; clear HB; have HO_3 := n0_; have BK164 := n1_; have HB := n2_; clear n0_ n1_ n2_; clear hg hw hp_))
        (try simp only [← hl3_1])
        go_roundg k1
        case measure => have := HK1.out; omega
        case rel => exact ⟨(y168), (wrap64 (x13_1 + 1)), impl_sortsAbove.a5, H', ⟨by have := HK1.out; omega⟩, ⟨by (try simp only [hl3_1]); (with_reducible repeat (first | apply Kd.R_alloc | apply Kd.R_drewN | apply Kd.R_drew)); exact HO_3.out⟩, ⟨by (try simp only [hl3_1]); (with_reducible repeat (first | refine blk_drewN ?_ _ | refine blk_drew ?_ | refine blk_alloc ?_ _)); exact BK164.out⟩, ⟨impl_sortsAbove.a0⟩⟩
       ·rw [if_neg c12] at H
        exact absurd H (by simp)
      ·rw [if_neg c10] at H
       exact absurd H (by simp)
     ·rw [if_neg c9] at H
      have c9b0 : decide (x13_1 < (y165.length : Int)) = false := decide_eq_false c9
      (try (have c9b1 := c9b0; simp only [hl3_1] at c9b1))
      clear c9
      have H' := Aside0.mk H
      clear H
      go_wp2
      go_loopg [24] k1 (fun kq v24 w' => ∃ (x3_2 : List Int) (x24_2 : Int), v24 = .int .i64 x24_2 ∧ Aside0 (impl_sortsAbove.l1 kq x3_2 (x3_1.length : Int) x24_2 l0_0 l0_1 = some r) ∧ Aside0 (kq ≤ k1) ∧ Aside0 (Kd.R (Kd.int .i64) 3 w' w.heap.size (fun _ => True) (.slice Ao8 x3_1.length co8) x3_2) ∧ Aside0 (w'.heap[gb164]? = some (.cells #[(.slice A0_0 l0_0.length c0_0), (.slice A0_1 l0_1.length c0_1)] 30 (0, 0))) ∧ Aside0 (Below w.heap.size w w'))
      case atStart => exact ⟨(x3_1), (0), impl_sortsAbove.a5, H', ⟨Nat.le_refl _⟩, ⟨by (try simp only [hl3_1]); (with_reducible repeat (first | apply Kd.R_alloc | apply Kd.R_drewN | apply Kd.R_drew)); exact HO_3.out⟩, ⟨by (try simp only [hl3_1]); (with_reducible repeat (first | refine blk_drewN ?_ _ | refine blk_drew ?_ | refine blk_alloc ?_ _)); exact BK164.out⟩, ⟨impl_sortsAbove.a0⟩⟩
      case round =>
       clear H'
       try clear c1
       try clear p1
       try clear q1
       try clear hx1
       try clear hf1
       try clear c2
       try clear c2b0
       try clear c2b1
       try clear p2
       try clear c3
       try clear c3b0
       try clear c3b1
       try clear c4
       try clear p6
       try clear c9
       try clear c9b0
       try clear c10
       try clear c10b0
       try clear c10b1
       try clear c12
       try clear c12b0
       try clear p13
       try clear q13
       try clear hx13
       try clear hf13
       try clear hcz5_0
       try clear hcz5_1
       try clear hfz5_0
       try clear hfz5_1
       try clear hx13_0
       try clear p13
       try clear p2
       try clear q13
       obtain ⟨x3_2, x24_2, rfl, HA, HK2, HO_3, BK164, HB⟩ := hrel
       have hl3_2 := (Kd.R_reads' HO_3.out).1
       rw [hl3_2] at HO_3
       (try simp only [hl3_2])
       (try simp only [hl3_2] at BK164)
       cases gk with
       | zero => exact absurd HA.out (by simp [impl_sortsAbove.l1])
       | succ k2 =>
        have H := HA.out
        clear HA
        simp only [impl_sortsAbove.l1] at H
        by_cases c16 : x24_2 < (x3_1.length : Int)
        ·rw [if_pos c16] at H
         have c16b0 : decide (x24_2 < (x3_1.length : Int)) = true := decide_eq_true c16
         (try (have c16b1 := c16b0; simp only [hl3_1, hl3_2] at c16b1))
         clear c16
         have H' := Aside0.mk H
         clear H
         have hcz17_0 : wr.cell? ⟨gb164, 0, none⟩ = some (.slice A0_0 l0_0.length c0_0) := (blk_cell BK164.out 0).trans rfl
         have hcz17_1 : wr.cell? ⟨gb164, 1, none⟩ = some (.slice A0_1 l0_1.length c0_1) := (blk_cell BK164.out 1).trans rfl
         have hfz17_0 := blk_frozen BK164.out 0
         have hfz17_1 := blk_frozen BK164.out 1
         go_wp2
         go_loopg [29] k2 (fun kq v29 w' => ∃ (x3_3 : List Int) (x29_3 : Int), v29 = .int .i64 x29_3 ∧ Aside0 (impl_sortsAbove.l2 kq x3_3 (x3_1.length : Int) x24_2 l0_1 (l0_1.length : Int) x29_3 l0_0 l0_1 = some r) ∧ Aside0 (kq ≤ k2) ∧ Aside0 (Kd.R (Kd.int .i64) 3 w' w.heap.size (fun _ => True) (.slice Ao8 x3_2.length co8) x3_3) ∧ Aside0 (w'.heap[gb164]? = some (.cells #[(.slice A0_0 l0_0.length c0_0), (.slice A0_1 l0_1.length c0_1)] 30 (0, 0))) ∧ Aside0 (Below w.heap.size w w'))
         case atStart => exact ⟨(x3_2), (0), impl_sortsAbove.a5, H', ⟨Nat.le_refl _⟩, ⟨by (try simp only [hl3_1]); (try simp only [hl3_2]); (with_reducible repeat (first | apply Kd.R_alloc | apply Kd.R_drewN | apply Kd.R_drew)); exact HO_3.out⟩, ⟨by (try simp only [hl3_1]); (try simp only [hl3_2]); (with_reducible repeat (first | refine blk_drewN ?_ _ | refine blk_drew ?_ | refine blk_alloc ?_ _)); exact BK164.out⟩, ⟨impl_sortsAbove.a0⟩⟩
         case round =>
          clear H'
          try clear c1
          try clear p1
          try clear q1
          try clear hx1
          try clear hf1
          try clear c2
          try clear c2b0
          try clear c2b1
          try clear p2
          try clear c3
          try clear c3b0
          try clear c3b1
          try clear c4
          try clear p6
          try clear c9
          try clear c9b0
          try clear c10
          try clear c10b0
          try clear c10b1
          try clear c12
          try clear c12b0
          try clear p13
          try clear q13
          try clear hx13
          try clear hf13
          try clear c16
          try clear c16b0
          try clear hcz17_0
          try clear hcz17_1
          try clear hcz5_0
          try clear hcz5_1
          try clear hfz17_0
          try clear hfz17_1
          try clear hfz5_0
          try clear hfz5_1
          try clear hx13_0
          try clear p1
          try clear p13
          try clear p2
          try clear p6
          try clear q1
          try clear q13
          obtain ⟨x3_3, x29_3, rfl, HA, HK3, HO_3, BK164, HB⟩ := hrel
          have hl3_3 := (Kd.R_reads' HO_3.out).1
          rw [hl3_3] at HO_3
          (try simp only [hl3_3])
          (try simp only [hl3_3] at BK164)
          cases gk with
          | zero => exact absurd HA.out (by simp [impl_sortsAbove.l2])
          | succ k3 =>
           have H := HA.out
           clear HA
           simp only [impl_sortsAbove.l2] at H
           by_cases c18 : x29_3 < (l0_1.length : Int)
           ·rw [if_pos c18] at H
            have c18b0 : decide (x29_3 < (l0_1.length : Int)) = true := decide_eq_true c18
            (try (have c18b1 := c18b0; simp only [hl3_1, hl3_2, hl3_3] at c18b1))
            clear c18
            by_cases c19 : 0 ≤ x29_3
            ·rw [if_pos c19] at H
             have c19b0 : decide (0 ≤ x29_3) = true := decide_eq_true c19
             clear c19
             by_cases c20 : x29_3 < (l0_1.length : Int)
             ·rw [if_pos c20] at H
              have c20b0 : decide (x29_3 < (l0_1.length : Int)) = true := decide_eq_true c20
              (try (have c20b1 := c20b0; simp only [hl3_1, hl3_2, hl3_3] at c20b1))
              clear c20
              by_cases c21 : 0 ≤ ((rd_T52 l0_1 x29_3).f0)
              ·rw [if_pos c21] at H
               have c21b0 : decide (0 ≤ ((rd_T52 l0_1 x29_3).f0)) = true := decide_eq_true c21
               clear c21
               by_cases c22 : ((rd_T52 l0_1 x29_3).f0) < (x3_3.length : Int)
               ·rw [if_pos c22] at H
                have c22b0 : decide (((rd_T52 l0_1 x29_3).f0) < (x3_3.length : Int)) = true := decide_eq_true c22
                (try (have c22b1 := c22b0; simp only [hl3_1, hl3_2, hl3_3] at c22b1))
                clear c22
                by_cases c23 : 0 ≤ ((rd_T52 l0_1 x29_3).f1)
                ·rw [if_pos c23] at H
                 have c23b0 : decide (0 ≤ ((rd_T52 l0_1 x29_3).f1)) = true := decide_eq_true c23
                 clear c23
                 by_cases c24 : ((rd_T52 l0_1 x29_3).f1) < (x3_3.length : Int)
                 ·rw [if_pos c24] at H
                  have c24b0 : decide (((rd_T52 l0_1 x29_3).f1) < (x3_3.length : Int)) = true := decide_eq_true c24
                  (try (have c24b1 := c24b0; simp only [hl3_1, hl3_2, hl3_3] at c24b1))
                  clear c24
                  obtain ⟨y173, hy173⟩ : ∃ y_ : List Int, y_ = (x3_3.set (((rd_T52 l0_1 x29_3).f0) : Int).toNat (Go.bits .or .i64 (rd x3_3 ((rd_T52 l0_1 x29_3).f0)) (rd x3_3 ((rd_T52 l0_1 x29_3).f1)))) := ⟨_, rfl⟩
                  replace H : (impl_sortsAbove.l2 k3 y173 (x3_1.length : Int) x24_2 l0_1 (l0_1.length : Int) (wrap64 (x29_3 + 1)) l0_0 l0_1) = some r := by first | (rw [hy173]; with_reducible exact H) | (have H2_ := (Option.bind_some _ _).symm.trans H; rw [hy173]; with_reducible exact H2_) | (have H2_ := (Option.bind_some _ _).symm.trans H; with_reducible exact H2_) | with_reducible exact H | (rw [hy173]; exact H) | exact H
                  have Ny173 := Aside0.mk hy173
                  clear hy173
                  have H' := Aside0.mk H
                  clear H
                  have p169 : 0 ≤ (x29_3 : Int) := of_decide_eq_true impl_sortsAbove.a2
                  have q169 : x29_3 < (l0_1.length : Int) := of_decide_eq_true impl_sortsAbove.a2
                  obtain ⟨ad169, e169, hx169_0, hx169_1⟩ := at_T52 HR0_1.out x29_3 p169 q169
                  cases e169
                  replace hx169_0 := (HB.out.cell (World.block_lt_of_cell? w _ hx169_0)).trans hx169_0
                  replace hx169_1 := (HB.out.cell (World.block_lt_of_cell? w _ hx169_1)).trans hx169_1
                  replace p169 := eq_true p169
                  replace q169 := eq_true q169
                  try go_wp2_with (first | ((with_reducible refine gate_dst (N := 6) rfl ?_); refine box_event ?hg (N := 6) ?hd (cs := #[.int .i64 0, .int .i64 0]) (t := 52) ?hr ?_; (case hd => rfl); (case hg => rfl); (case hr => first | (go_simp; done) | (go_simp; rfl)); intro gb170 hg w26 hbox hb; have n0_ := Aside0.mk (Kd.R_below (by (with_reducible repeat (first | apply Kd.R_alloc | apply Kd.R_drewN | apply Kd.R_drew)); exact HO_3.out) hb); have n1_ := Aside0.mk (blk_below (g := gb164) (o := .cells #[.slice A0_0 l0_0.length c0_0, .slice (some ad169) l0_1.length c0_1] 30 (0, 0)) impl_sortsAbove.a1 hb); have n2_ := Aside0.mk (below_step impl_sortsAbove.a0 hb); have n3_ := Aside0.mk (hbox); have n4_ := Aside0.mk ((by rw [hg]; exact (below_size impl_sortsAbove.a0) : w.heap.size ≤ gb170)); have n5_ := Aside0.mk ((by rw [hg]; exact (below_size impl_sortsAbove.a0) : w.heap.size ≤ gb170)); have n6_ := Aside0.mk ((by rw [hg]; exact Nat.ne_of_lt (blk_lt (g := gb164) (o := .cells #[.slice A0_0 l0_0.length c0_0, .slice (some ad169) l0_1.length c0_1] 30 (0, 0)) impl_sortsAbove.a1) : gb164 ≠ gb170)); have n7_ := Aside0.mk ((by rw [hg]; exact Nat.ne_of_gt (blk_lt (g := gb164) (o := .cells #[.slice A0_0 l0_0.length c0_0, .slice (some ad169) l0_1.length c0_1] 30 (0, 0)) impl_sortsAbove.a1) : gb170 ≠ gb164)); clear HO_3; clear BK164; clear HB; have HO_3 := n0_; have BK164 := n1_; have HB := n2_; have BK170 := n3_; have GW170 := n4_; have GE170 := n5_; have NB164_170 := n6_; have NB170_164 := n7_; clear n0_ n1_ n2_ n3_ n4_ n5_ n6_ n7_; clear hb hbox hg; have hnb27 := NB170_164.out; have hnc27 := NB164_170.out; have hcz28_0 : w26.cell? ⟨gb170, 0, none⟩ = some (.int .i64 0) := (blk_cell BK170.out 0).trans rfl; have hcz28_1 : w26.cell? ⟨gb170, 1, none⟩ = some (.int .i64 0) := (blk_cell BK170.out 1).trans rfl; have hfz28_0 := blk_frozen BK170.out 0; have hfz28_1 := blk_frozen BK170.out 1))
                  have n0_ : Aside0 (Kd.R (Kd.int .i64) 3 ((w26.setCell ⟨gb170, 0, none⟩ (.int .i64 ((rd_T52 l0_1 x29_3).f0))).setCell ⟨gb170, 1, none⟩ (.int .i64 ((rd_T52 l0_1 x29_3).f1))) w.heap.size (fun _ => True) (.slice Ao8 x3_3.length co8) x3_3) := ⟨by (with_reducible repeat (first | apply Kd.R_alloc | apply Kd.R_drewN | apply Kd.R_drew)); exact Kd.R_mono (Kd.R_far (p := ⟨gb170, 1, none⟩) (Kd.R_far (p := ⟨gb170, 0, none⟩) (Kd.R_types HO_3.out BK170.out (by decide)) (fun _ hk => hk.2) (.int .i64 ((rd_T52 l0_1 x29_3).f0))) (fun _ hk => hk.2) (.int .i64 ((rd_T52 l0_1 x29_3).f1))) (fun _ hk => trivial)⟩
                  have n1_ : Aside0 (((w26.setCell ⟨gb170, 0, none⟩ (.int .i64 ((rd_T52 l0_1 x29_3).f0))).setCell ⟨gb170, 1, none⟩ (.int .i64 ((rd_T52 l0_1 x29_3).f1))).heap[gb164]? = some (.cells #[.slice A0_0 l0_0.length c0_0, .slice (some ad169) l0_1.length c0_1] 30 (0, 0))) := ⟨by (with_reducible repeat (first | refine blk_drewN ?_ _ | refine blk_drew ?_ | refine blk_alloc ?_ _)); refine blk_far ?_ NB164_170.out _; (with_reducible repeat (first | refine blk_drewN ?_ _ | refine blk_drew ?_ | refine blk_alloc ?_ _)); refine blk_far ?_ NB164_170.out _; (with_reducible repeat (first | refine blk_drewN ?_ _ | refine blk_drew ?_ | refine blk_alloc ?_ _)); exact BK164.out⟩
                  have n2_ : Aside0 (((w26.setCell ⟨gb170, 0, none⟩ (.int .i64 ((rd_T52 l0_1 x29_3).f0))).setCell ⟨gb170, 1, none⟩ (.int .i64 ((rd_T52 l0_1 x29_3).f1))).heap[gb170]? = some (.cells #[.int .i64 ((rd_T52 l0_1 x29_3).f0), .int .i64 ((rd_T52 l0_1 x29_3).f1)] 52 (0, 0))) := ⟨by (with_reducible repeat (first | refine blk_drewN ?_ _ | refine blk_drew ?_ | refine blk_alloc ?_ _)); refine blk_put (cs := #[.int .i64 ((rd_T52 l0_1 x29_3).f0), .int .i64 0]) ?_ 1 _ rfl; (with_reducible repeat (first | refine blk_drewN ?_ _ | refine blk_drew ?_ | refine blk_alloc ?_ _)); refine blk_put (cs := #[.int .i64 0, .int .i64 0]) ?_ 0 _ rfl; (with_reducible repeat (first | refine blk_drewN ?_ _ | refine blk_drew ?_ | refine blk_alloc ?_ _)); exact BK170.out⟩
                  have n3_ : Aside0 (Below w.heap.size w ((w26.setCell ⟨gb170, 0, none⟩ (.int .i64 ((rd_T52 l0_1 x29_3).f0))).setCell ⟨gb170, 1, none⟩ (.int .i64 ((rd_T52 l0_1 x29_3).f1)))) := ⟨by repeat (first | (with_reducible first | exact HB.out | apply below_alloc | apply pw_below_drewN | apply below_drew1 | refine below_set ?_ GE164.out | refine below_set ?_ GE170.out) | exact HB.out)⟩
                  (try clear HO_3)
                  (try clear BK164)
                  (try clear BK170)
                  (try clear HB)
                  generalize ((w26.setCell ⟨gb170, 0, none⟩ (.int .i64 ((rd_T52 l0_1 x29_3).f0))).setCell ⟨gb170, 1, none⟩ (.int .i64 ((rd_T52 l0_1 x29_3).f1))) = w29 at n0_ n1_ n2_ n3_ ⊢
                  have HO_3 := n0_
                  have BK164 := n1_
                  have BK170 := n2_
                  have HB := n3_
                  clear n0_ n1_ n2_ n3_
                  have n0_ := Aside0.mk (Kd.R_drew HO_3.out)
                  have n1_ := Aside0.mk (blk_drew BK164.out)
                  have n2_ := Aside0.mk (blk_drew BK170.out)
                  have n3_ := Aside0.mk (below_drew1 HB.out)
                  clear HO_3
                  clear BK164
                  clear BK170
                  clear HB
                  have HO_3 := n0_
                  have BK164 := n1_
                  have BK170 := n2_
                  have HB := n3_
                  clear n0_ n1_ n2_ n3_
                  have p171 : 0 ≤ (((rd_T52 l0_1 x29_3).f0) : Int) := of_decide_eq_true impl_sortsAbove.a2
                  have q171 : ((rd_T52 l0_1 x29_3).f0) < (x3_3.length : Int) := of_decide_eq_true impl_sortsAbove.a2
                  obtain ⟨ad171, e171, hx171_0⟩ := Kd.at_int (Kd.R_reads' HO_3.out).2.2 ((rd_T52 l0_1 x29_3).f0) p171 q171
                  cases e171
                  replace p171 := eq_true p171
                  replace q171 := eq_true q171
                  have p172 : 0 ≤ (((rd_T52 l0_1 x29_3).f1) : Int) := of_decide_eq_true impl_sortsAbove.a2
                  have q172 : ((rd_T52 l0_1 x29_3).f1) < (x3_3.length : Int) := of_decide_eq_true impl_sortsAbove.a2
                  obtain ⟨ad172, e172, hx172_0⟩ := Kd.at_int (Kd.R_reads' HO_3.out).2.2 ((rd_T52 l0_1 x29_3).f1) p172 q172
                  obtain rfl : ad171 = ad172 := (by injection e172)
                  replace p172 := eq_true p172
                  replace q172 := eq_true q172
                  have p25 : 0 ≤ (((rd_T52 l0_1 x29_3).f0) : Int) := of_decide_eq_true impl_sortsAbove.a2
                  have q25 : (((rd_T52 l0_1 x29_3).f0) : Int) < ((x3_3.length : Int) : Int) := of_decide_eq_true impl_sortsAbove.a2
                  obtain ⟨go25, co25, eo25, gb25, gl25, cl25, HG25⟩ := Kd.R_form HO_3.out (by omega)
                  (first | cases eo25 | (injection eo25 with ea_ en_ ec_; (first | subst ea_ | (injection ea_ with ea_; subst ea_)); subst ec_; clear en_))
                  have GB25 := Aside0.mk gb25
                  have GG25 := Aside0.mk HG25
                  clear gb25 gl25 HG25
                  (first | simp only [add_plain] at hx171_0 | skip)
                  (first | simp only [add_plain] at hx172_0 | skip)
                  obtain ⟨hx25_0, hf25_0⟩ := Kd.R_celln 0 HO_3.out (((rd_T52 l0_1 x29_3).f0) : Int) p25 q25
                  replace p25 := eq_true p25
                  replace q25 := eq_true q25
                  have HP31 := Kd.R_putn HO_3.out (((rd_T52 l0_1 x29_3).f0) : Int) (Go.bits .or .i64 (rd x3_3 ((rd_T52 l0_1 x29_3).f0)) (rd x3_3 ((rd_T52 l0_1 x29_3).f1)))
                  rw [← Ny173.out] at HP31
                  have HQ31 := Aside0.mk HP31
                  clear HP31
                  refine start_ (n := 16) (S := fun w' => w'.cell? ⟨gb170, 0, none⟩ = some (.int .i64 ((rd_T52 l0_1 x29_3).f0)) ∧ w'.cell? ⟨gb170, 1, none⟩ = some (.int .i64 ((rd_T52 l0_1 x29_3).f1)) ∧ w'.cell? ⟨go25, (((rd_T52 l0_1 x29_3).f0)).toNat, none⟩ = some (.int .i64 (rd x3_3 ((rd_T52 l0_1 x29_3).f0))) ∧ w'.cell? ⟨go25, (((rd_T52 l0_1 x29_3).f1)).toNat, none⟩ = some (.int .i64 (rd x3_3 ((rd_T52 l0_1 x29_3).f1)))) (ds := [15]) #[false, false, false, false, false, false, false, false, false, false, false, false, false, false, false, false] (by kernel_rfl) rfl rfl ⟨(blk_cell BK170.out 0).trans rfl, (blk_cell BK170.out 1).trans rfl, hx171_0, hx172_0⟩ (fun hHeld => ?_); refine with_tabW impl_sortsAbove.tab12 impl_sortsAbove.bits12 (fun HT_ HW_ => ?_)
                  generalize w29.drew = w30 at HO_3 BK164 BK170 HB GG25 HQ31 hf25_0 hx171_0 hx172_0 hx25_0 hHeld ⊢
                  refine pureS 0 33 HT_ rfl rfl ?_
                  refine pureS 1 34 HT_ rfl rfl ?_
                  refine pureS 3 36 HT_ rfl rfl ?_
                  refine pureS 4 37 HT_ rfl rfl ?_
                  refine pureS 8 41 HT_ rfl rfl ?_
                  refine pureS 9 42 HT_ rfl rfl ?_
                  refine takeS 2 35 HT_ HW_ rfl rfl hHeld ?_ impl_sortsAbove.a4
                  refine takeS 5 38 HT_ HW_ rfl rfl hHeld ?_ impl_sortsAbove.a4
                  refine pureS 6 39 HT_ rfl rfl ?_
                  refine takeS 7 40 HT_ HW_ rfl rfl hHeld ?_ impl_sortsAbove.a4
                  refine takeS 10 43 HT_ HW_ rfl rfl hHeld ?_ impl_sortsAbove.a4
                  refine pureS 11 44 HT_ rfl rfl ?_
                  refine takeS 12 45 HT_ HW_ rfl rfl hHeld ?_ impl_sortsAbove.a4
                  refine pureS 13 46 HT_ rfl rfl ?_
                  refine pureS 14 47 HT_ rfl rfl ?_
                  refine last_ (i := 15) (N := none) #[true, true, true, true, true, true, true, true, true, true, true, true, true, true, true, true] rfl rfl (one_of HT_.out (by kernel_rfl)) (by decide) (fun K hK => ?_)
                  refine skip_ (w1 := ?_) (by rfl) rfl ?_ ?_
                  rotate_left
                  ·go_simp
                   rfl
                  refine hK.out _ _ ?_
                  clear hK K
                  refine done_ (done_of HT_.out (by kernel_rfl)) ?_
                  try go_wp2
                  (try simp only [← hl3_3])
                  go_roundg k3
                  case measure => have := HK1.out; have := HK2.out; have := HK3.out; omega
                  case rel => exact ⟨(y173), (wrap64 (x29_3 + 1)), impl_sortsAbove.a5, H', ⟨by have := HK1.out; have := HK2.out; have := HK3.out; omega⟩, ⟨by (try simp only [hl3_1]); (try simp only [hl3_2]); (try simp only [hl3_3]); (with_reducible repeat (first | apply Kd.R_alloc | apply Kd.R_drewN | apply Kd.R_drew)); exact HQ31.out⟩, ⟨by (try simp only [hl3_1]); (try simp only [hl3_2]); (try simp only [hl3_3]); (with_reducible repeat (first | refine blk_drewN ?_ _ | refine blk_drew ?_ | refine blk_alloc ?_ _)); refine blk_far ?_ (by have h_ := Kd.R_ne HO_3.out BK164.out (by decide); intro e_; exact h_ (by rw [e_]; rfl)) _; (with_reducible repeat (first | refine blk_drewN ?_ _ | refine blk_drew ?_ | refine blk_alloc ?_ _)); exact BK164.out⟩, ⟨by repeat (first | (with_reducible first | exact HB.out | apply below_alloc | apply pw_below_drewN | apply below_drew1 | refine below_set ?_ GB25.out | refine below_set ?_ GE164.out | refine below_set ?_ GE170.out) | exact HB.out)⟩⟩
                 ·rw [if_neg c24] at H
                  exact absurd H (by simp)
                ·rw [if_neg c23] at H
                 exact absurd H (by simp)
               ·rw [if_neg c22] at H
                exact absurd H (by simp)
              ·rw [if_neg c21] at H
               exact absurd H (by simp)
             ·rw [if_neg c20] at H
              exact absurd H (by simp)
            ·rw [if_neg c19] at H
             exact absurd H (by simp)
           ·rw [if_neg c18] at H
            have c18b0 : decide (x29_3 < (l0_1.length : Int)) = false := decide_eq_false c18
            (try (have c18b1 := c18b0; simp only [hl3_1, hl3_2, hl3_3] at c18b1))
            clear c18
            have H' := Aside0.mk H
            clear H
            go_wp2
            (try simp only [← hl3_2, ← hl3_3])
            go_roundg k3
            case measure => have := HK1.out; have := HK2.out; have := HK3.out; omega
            case rel => exact ⟨(x3_3), (wrap64 (x24_2 + 1)), impl_sortsAbove.a5, H', ⟨by have := HK1.out; have := HK2.out; have := HK3.out; omega⟩, ⟨by (try simp only [hl3_1]); (try simp only [hl3_2]); (try simp only [hl3_3]); (with_reducible repeat (first | apply Kd.R_alloc | apply Kd.R_drewN | apply Kd.R_drew)); exact HO_3.out⟩, ⟨by (try simp only [hl3_1]); (try simp only [hl3_2]); (try simp only [hl3_3]); (with_reducible repeat (first | refine blk_drewN ?_ _ | refine blk_drew ?_ | refine blk_alloc ?_ _)); exact BK164.out⟩, ⟨impl_sortsAbove.a0⟩⟩
        ·rw [if_neg c16] at H
         have c16b0 : decide (x24_2 < (x3_1.length : Int)) = false := decide_eq_false c16
         (try (have c16b1 := c16b0; simp only [hl3_1, hl3_2] at c16b1))
         clear c16
         obtain rfl := Option.some.inj H
         go_wp2
         go_ret
         exact ⟨_, by first | rfl | (simp [errW_none, errW_some] <;> rfl) | (simp [*, errW_none, errW_some] <;> rfl), by (with_reducible repeat (first | apply Kd.R_alloc | apply Kd.R_drewN | apply Kd.R_drew)); exact HO_3.out, impl_sortsAbove.a0⟩
  ·rw [if_neg c3] at H
   exact absurd H (by simp)
 ·rw [if_neg c2] at H
  exact absurd H (by simp)

end Go.Proofs.Ytlpkicbmcpmemaa.Q

