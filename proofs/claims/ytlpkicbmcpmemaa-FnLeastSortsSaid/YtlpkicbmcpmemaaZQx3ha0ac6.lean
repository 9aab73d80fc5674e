/- Functions of the program as plain Lean functions, and that the calls come to what they say. -/
import Derived.Test.YtlpkicbmcpmemaaZQx0h2d4ba
import Derived.Test.YtlpkicbmcpmemaaZShorth9309d
namespace Go.Proofs.Ytlpkicbmcpmemaa.Q
open Go.RowKit Go.Proofs.YtlpkicbmcpmemaaW.PrintWords Go.Proofs.YtlpkicbmcpmemaaW.PrintLast Go.Proofs.YtlpkicbmcpmemaaW.PrintMore
attribute [local go_sem] max2_int min2_int max_two min_two max_three min_three max_four min_four   -- for this text's walks alone
set_option linter.unusedVariables false
set_option linter.unusedSimpArgs false

/-! ### spec_l1Has: function 39 -/
theorem spec_l1Has.a0 {P_ : Prop} (h_ : P_ := by repeat (first | exact Drawn0.refl _ | apply Drawn0.step)) : P_ := h_
def spec_l1Has.l0 : Nat → List ByteArray → ByteArray → Int → Option (Bool)
 | 0, _, _, _ => none
 | k + 1, x0, x1, x5 => if x5 < (x0.length : Int) then (if 0 ≤ x5 then (if (rdOf ByteArray.empty x0 x5).toList = x1.toList then (some true) else (spec_l1Has.l0 k x0 x1 (wrap64 (x5 + 1)))) else (none)) else (some false)
def spec_l1Has.f (k : Nat) (l0 : List ByteArray) (a1 : ByteArray) : Option (Bool) := spec_l1Has.l0 k l0 a1 0
set_option maxHeartbeats 8000000 in
set_option maxRecDepth 100000 in
theorem spec_l1Has.calls (k : Nat) (A0 : Option Addr) (c0 : Nat) (l0 : List ByteArray) (a1 : ByteArray) (r : Bool) (w : World) (hr0 : Kd.C Kd.string w A0 l0.length l0) (hc0 : l0.length ≤ c0) (h : spec_l1Has.f k l0 a1 = some r) :
  Calls Try.prog 39 #[.slice A0 l0.length c0, .string a1] w fun e w' => e = .returned (.bool r) ∧ Drawn0 w w' := by
 have HR0 := Aside0.mk hr0
 have HC0 := Aside0.mk hc0
 clear hr0 hc0
 have H : (spec_l1Has.l0 k l0 a1 0) = some r := h
 clear h
 have H' := Aside0.mk H
 clear H
 go_enter Try.func39, Try.ntmps39
 go_wp2
 go_loopg [5] k (fun kq v5 w' => ∃ (x5_1 : Int), v5 = .int .i64 x5_1 ∧ Aside0 (spec_l1Has.l0 kq l0 a1 x5_1 = some r) ∧ Aside0 (kq ≤ k) ∧ Drawn0 w w')
 case atStart => exact ⟨(0), (by first | rfl | (simp; done) | (simp [*]; done)), H', ⟨Nat.le_refl _⟩, spec_l1Has.a0⟩
 case round =>
  clear H'
  try clear p2
  obtain ⟨x5_1, rfl, HA, HK1, ⟨m1, rfl⟩⟩ := hrel
  cases gk with
  | zero => exact absurd HA.out (by simp [spec_l1Has.l0])
  | succ k1 =>
   have H := HA.out
   clear HA
   simp only [spec_l1Has.l0] at H
   by_cases c3 : x5_1 < (l0.length : Int)
   ·rw [if_pos c3] at H
    have c3b0 : decide (x5_1 < (l0.length : Int)) = true := decide_eq_true c3
    clear c3
    by_cases c4 : 0 ≤ x5_1
    ·rw [if_pos c4] at H
     have c4b0 : decide (0 ≤ x5_1) = true := decide_eq_true c4
     clear c4
     by_cases c5 : (rdOf ByteArray.empty l0 x5_1).toList = a1.toList
     ·rw [if_pos c5] at H
      have c5b0 : ((rdOf ByteArray.empty l0 x5_1).toList == a1.toList) = true := beq_iff_eq.mpr c5
      have c5b1 : ((rdOf ByteArray.empty l0 x5_1).toList != a1.toList) = false := bne_eq_false_iff_eq.mpr c5
      clear c5
      obtain rfl := Option.some.inj H
      have p105 : 0 ≤ (x5_1 : Int) := of_decide_eq_true (by first | (with_reducible assumption) | assumption)
      have q105 : x5_1 < (l0.length : Int) := of_decide_eq_true (by first | (with_reducible assumption) | assumption)
      obtain ⟨ad105, e105, hx105_0⟩ := Kd.at_string HR0.out x5_1 p105 q105
      cases e105
      replace p105 := eq_true p105
      replace q105 := eq_true q105
      go_wp2
      go_ret
      exact ⟨by first | rfl | (simp; done) | (simp [*]; done), spec_l1Has.a0⟩
     ·rw [if_neg c5] at H
      have c5b0 : ((rdOf ByteArray.empty l0 x5_1).toList == a1.toList) = false := beq_eq_false_iff_ne.mpr c5
      have c5b1 : ((rdOf ByteArray.empty l0 x5_1).toList != a1.toList) = true := bne_iff_ne.mpr c5
      have H' := Aside0.mk H
      clear H
      have p105 : 0 ≤ (x5_1 : Int) := of_decide_eq_true (by first | (with_reducible assumption) | assumption)
      have q105 : x5_1 < (l0.length : Int) := of_decide_eq_true (by first | (with_reducible assumption) | assumption)
      obtain ⟨ad105, e105, hx105_0⟩ := Kd.at_string HR0.out x5_1 p105 q105
      cases e105
      replace p105 := eq_true p105
      replace q105 := eq_true q105
      go_wp2
      go_roundg k1
      case measure => have := HK1.out; omega
      case rel => exact ⟨(wrap64 (x5_1 + 1)), (by first | rfl | (simp; done) | (simp [*]; done)), H', ⟨by have := HK1.out; omega⟩, spec_l1Has.a0⟩
    ·rw [if_neg c4] at H
     exact absurd H (by simp)
   ·rw [if_neg c3] at H
    have c3b0 : decide (x5_1 < (l0.length : Int)) = false := decide_eq_false c3
    clear c3
    obtain rfl := Option.some.inj H
    go_wp2
    go_ret
    exact ⟨by first | rfl | (simp; done) | (simp [*]; done), spec_l1Has.a0⟩

/-! ### spec_l1In: function 40 -/
def spec_l1In.f (a0 : Int) (a1 : Int) (a2 : Int) : Option (Bool) := if a0 ≥ a1 then (some (decide (a0 ≤ a2))) else (some false)
set_option maxHeartbeats 8000000 in
set_option maxRecDepth 100000 in
theorem spec_l1In.calls (a0 : Int) (a1 : Int) (a2 : Int) (r : Bool) (w : World) (h : spec_l1In.f a0 a1 a2 = some r) :
    Calls Try.prog 40 #[.int .i64 a0, .int .i64 a1, .int .i64 a2] w fun e w' => e = .returned (.bool r) ∧ Drawn0 w w' := by
  have H : (if a0 ≥ a1 then (some (decide (a0 ≤ a2))) else (some false)) = some r := h
  clear h
  by_cases c4 : a0 ≥ a1
  · rw [if_pos c4] at H
    have c4b0 : decide (a1 ≤ a0) = true := decide_eq_true c4
    clear c4
    obtain rfl := Option.some.inj H
    go_enter Try.func40, Try.ntmps40
    go_wp2
    go_ret
    exact ⟨by first | rfl | (simp; done) | (simp [*]; done), by repeat (first | exact Drawn0.refl _ | apply Drawn0.step)⟩
  · rw [if_neg c4] at H
    have c4b0 : decide (a1 ≤ a0) = false := decide_eq_false c4
    clear c4
    obtain rfl := Option.some.inj H
    go_enter Try.func40, Try.ntmps40
    go_wp2
    go_ret
    exact ⟨by first | rfl | (simp; done) | (simp [*]; done), by repeat (first | exact Drawn0.refl _ | apply Drawn0.step)⟩

/-! ### spec_l2Bit: function 55 -/
def spec_l2Bit.f (a0 : Int) : Option (Int) := if 0 ≤ (IntKind.u64.wrap (a0)) then (some (shl .i64 1 (IntKind.u64.wrap (a0)))) else (none)
set_option maxHeartbeats 8000000 in
set_option maxRecDepth 100000 in
theorem spec_l2Bit.calls (a0 : Int) (r : Int) (w : World) (h : spec_l2Bit.f a0 = some r) :
    Calls Try.prog 55 #[.int .i64 a0] w fun e w' => e = .returned (.int .i64 r) ∧ Drawn0 w w' := by
  have H : (if 0 ≤ (IntKind.u64.wrap (a0)) then (some (shl .i64 1 (IntKind.u64.wrap (a0)))) else (none)) = some r := h
  clear h
  obtain ⟨ji2, hji2⟩ : ∃ j_ : Int, (IntKind.u64.wrap (a0)) = j_ := ⟨_, rfl⟩
  replace H : (if 0 ≤ (ji2) then (some (shl .i64 1 (ji2))) else (none)) = some r := by first | (rw [hji2] at H; exact H) | (simp only [hji2] at H ⊢; exact H)
  by_cases c3 : 0 ≤ (ji2)
  · rw [if_pos c3] at H
    have c3b0 := eq_true c3
    have c3b1 : decide (0 ≤ (ji2)) = true := decide_eq_true c3
    clear c3
    obtain ⟨ji4, hji4⟩ : ∃ j_ : Int, (shl .i64 1 (ji2)) = j_ := ⟨_, rfl⟩
    replace H : (some ji4) = some r := by first | (rw [hji4] at H; exact H) | (simp only [hji4] at H ⊢; exact H)
    have hji4_ : (IntKind.i64.wrap (1 * 2 ^ min (ji2).toNat 64)) = ji4 := hji4
    have hji4z : (ji2) ≤ 64 → (IntKind.i64.wrap (1 * 2 ^ (ji2).toNat)) = ji4 := shl_small hji4
    have hji4u : (IntKind.i64.wrap (2 ^ min (ji2).toNat 64)) = ji4 := by have h_ := hji4_; rw [Int.one_mul] at h_; exact h_
    have hji4v : (ji2) ≤ 64 → (IntKind.i64.wrap (2 ^ (ji2).toNat)) = ji4 := fun hle_ => by have h_ := hji4z hle_; rw [Int.one_mul] at h_; exact h_
    have hji4y : (wrap64 (1 * 2 ^ min (ji2).toNat 64)) = ji4 := (i64_w _).symm.trans hji4_
    have hji4x : (ji2) ≤ 64 → (wrap64 (1 * 2 ^ (ji2).toNat)) = ji4 := fun h_ => (i64_w _).symm.trans (hji4z h_)
    obtain rfl := Option.some.inj H
    go_enter Try.func55, Try.ntmps55
    go_wp2
    go_ret
    exact ⟨by first | rfl | (simp; done) | (simp only [← hji2, ← hji4] <;> (first | rfl | simp)) | (simp [*]; done), by repeat (first | exact Drawn0.refl _ | apply Drawn0.step)⟩
  · rw [if_neg c3] at H
    exact absurd H (by simp)

/-! ### spec_l3Up: function 41 -/
theorem spec_l3Up.a0 {P_ : Prop} (h_ : P_ := by repeat (first | (with_reducible first | exact HB.out | apply below_alloc | apply pw_below_drewN | apply below_drew1 | refine below_set ?_ GE106.out) | exact HB.out)) : P_ := h_
theorem spec_l3Up.a1 {P_ : Prop} (h_ : P_ := by (with_reducible repeat (first | refine blk_drewN ?_ _ | refine blk_drew ?_ | refine blk_alloc ?_ _)); exact BK106.out) : P_ := h_
theorem spec_l3Up.a2 {P_ : Prop} (h_ : P_ := by rintro w' ⟨s0, s1, s2, s3, s4, s5, s6, s7, s8, s9⟩; go_simp; with_reducible rfl) : P_ := h_
theorem spec_l3Up.a3 {P_ : Prop} (h_ : P_ := by first | (with_reducible assumption) | assumption) : P_ := h_
theorem spec_l3Up.a4 {P_ : Prop} (h_ : P_ := by (with_reducible repeat (first | apply Kd.R_alloc | apply Kd.R_drewN | apply Kd.R_drew)); exact HO_3.out) : P_ := h_
theorem spec_l3Up.a5 {P_ : Prop} (h_ : P_ := by repeat (first | (with_reducible first | exact HB.out | apply below_alloc | apply pw_below_drewN | apply below_drew1) | exact HB.out)) : P_ := h_
theorem spec_l3Up.a6 {P_ : Prop} (h_ : P_ := by first | rfl | (simp; done) | (simp [*]; done)) : P_ := h_
mutual
def spec_l3Up.l0 : Nat → List Int → Int → List ByteArray → List (S52) → Option (List Int)
 | 0, _, _, _, _ => none
 | k + 1, x3, x4, x107000, x107001 => if x4 < (x107000.length : Int) then ((spec_l2Bit.f x4).bind fun t110 => (if x3.length < 17592186044416 then (spec_l3Up.l0 k (x3 ++ [t110]) (wrap64 (x4 + 1)) x107000 x107001) else (none))) else (spec_l3Up.l1 k x3 0 x107000 x107001)
def spec_l3Up.l1 : Nat → List Int → Int → List ByteArray → List (S52) → Option (List Int)
 | 0, _, _, _, _ => none
 | k + 1, x3, x5, x107000, x107001 => if x5 < (x107000.length : Int) then (spec_l3Up.l2 k x3 x5 0 x107000 x107001) else (some x3)
def spec_l3Up.l2 : Nat → List Int → Int → Int → List ByteArray → List (S52) → Option (List Int)
 | 0, _, _, _, _, _ => none
 | k + 1, x3, x5, x6, x107000, x107001 => if x6 < (x107001.length : Int) then (if 0 ≤ x6 then (if 0 ≤ ((rd_T52 x107001 x6).f0) then (if ((rd_T52 x107001 x6).f0) < (x3.length : Int) then (if 0 ≤ ((rd_T52 x107001 x6).f1) then (if ((rd_T52 x107001 x6).f1) < (x3.length : Int) then (spec_l3Up.l2 k (x3.set (((rd_T52 x107001 x6).f0) : Int).toNat (Go.bits .or .i64 (rd x3 ((rd_T52 x107001 x6).f0)) (rd x3 ((rd_T52 x107001 x6).f1)))) x5 (wrap64 (x6 + 1)) x107000 x107001) else (none)) else (none)) else (none)) else (none)) else (none)) else (spec_l3Up.l1 k x3 (wrap64 (x5 + 1)) x107000 x107001)
end
def spec_l3Up.f (k : Nat) (l0_0 : List ByteArray) (l0_1 : List (S52)) : Option (List Int) := spec_l3Up.l0 k (([] : List Int)) 0 l0_0 l0_1
def spec_l3Up.T12 : Bool × List (List Nat × List Nat) := (true, [([], []), ([], []), ([1], [1]), ([], []), ([2, 3], [2, 3]), ([4], [4]), ([5], [5]), ([], []), ([], []), ([8], [8]), ([], []), ([9, 10], [9, 10]), ([11], [11]), ([12], [12]), ([7, 13], [7, 13]), ([14], [14]), ([], []), ([], []), ([17], [17]), ([], []), ([18, 19], [18, 19]), ([20], [20]), ([21], [21]), ([16, 22], [16, 22]), ([23], [23]), ([15, 24], [15, 24]), ([0, 6, 0, 1, 2, 3, 4, 5, 6, 7, 8, 9, 10, 11, 12, 13, 14, 15, 16, 17, 18, 19, 20, 21, 22, 23, 24, 25], [0, 6]), ([26, 25, 0, 1, 2, 3, 4, 5, 6, 7, 8, 9, 10, 11, 12, 13, 14, 15, 16, 17, 18, 19, 20, 21, 22, 23, 24, 25], [25, 26])])
def spec_l3Up.B12 : List Nat := [0, 0, 2, 0, 14, 30, 62, 0, 0, 256, 0, 1792, 3840, 7936, 16256, 32640, 0, 0, 131072, 0, 917504, 1966080, 4063232, 8323072, 16711680, 33554304, 67108863, 134217727]
theorem spec_l3Up.tab12 : rtab .any (opsOf Try.f41 12) = spec_l3Up.T12 := by kernel_rfl
theorem spec_l3Up.bits12 : waitsOk spec_l3Up.T12.2 spec_l3Up.B12 = true := by kernel_rfl
set_option maxHeartbeats 8000000 in
set_option maxRecDepth 100000 in
theorem spec_l3Up.calls (k : Nat) (A0_0 : Option Addr) (c0_0 : Nat) (l0_0 : List ByteArray) (A0_1 : Option Addr) (c0_1 : Nat) (l0_1 : List (S52)) (r : List Int) (w : World) (hr0_0 : Kd.C Kd.string w A0_0 l0_0.length l0_0) (hc0_0 : l0_0.length ≤ c0_0) (hr0_1 : Kd.C k52 w A0_1 l0_1.length l0_1) (hc0_1 : l0_1.length ≤ c0_1) (h : spec_l3Up.f k l0_0 l0_1 = some r) :
  Calls Try.prog 41 #[.agg #[.slice A0_0 l0_0.length c0_0, .slice A0_1 l0_1.length c0_1]] w fun e w' => ∃ v0_ : Value, e = .returned (v0_) ∧ Kd.R (Kd.int .i64) 3 w' w.heap.size (fun _ => True) v0_ r ∧ Below w.heap.size w w' := by
 have hu30 := Try.underlying30
 have HR0_0 := Aside0.mk hr0_0
 have HC0_0 := Aside0.mk hc0_0
 clear hr0_0 hc0_0
 have HR0_1 := Aside0.mk hr0_1
 have HC0_1 := Aside0.mk hc0_1
 clear hr0_1 hc0_1
 have HB := Aside0.mk (Below.refl w.heap.size w)
 have H : (spec_l3Up.l0 k (([] : List Int)) 0 l0_0 l0_1) = some r := h
 clear h
 obtain ⟨y107, hy107⟩ : ∃ y_ : List Int, y_ = (([] : List Int)) := ⟨_, rfl⟩
 replace H : (spec_l3Up.l0 k y107 0 l0_0 l0_1) = some r := by first | (rw [hy107]; with_reducible exact H) | (have H2_ := (Option.bind_some _ _).symm.trans H; rw [hy107]; with_reducible exact H2_) | (have H2_ := (Option.bind_some _ _).symm.trans H; with_reducible exact H2_) | with_reducible exact H | (rw [hy107]; exact H) | exact H
 have Ny107 := Aside0.mk hy107
 clear hy107
 have H' := Aside0.mk H
 clear H
 go_enter Try.func41, Try.ntmps41
 go_wp2_with (first | ((with_reducible refine gate_dst (N := 1) rfl ?_); refine box_event ?hg (N := 1) ?hd (cs := #[.slice A0_0 l0_0.length c0_0, .slice A0_1 l0_1.length c0_1]) (t := 30) ?hr ?_; (case hd => rfl); (case hg => rfl); (case hr => first | (go_simp; done) | (go_simp; rfl)); intro gb106 hg w2 hbox hb; have n0_ := Aside0.mk (below_step spec_l3Up.a5 hb); have n1_ := Aside0.mk (hbox); have n2_ := Aside0.mk ((by rw [hg]; exact (below_size spec_l3Up.a5) : w.heap.size ≤ gb106)); have n3_ := Aside0.mk ((by rw [hg]; exact (below_size spec_l3Up.a5) : w.heap.size ≤ gb106)); clear HB; have HB := n0_; have BK106 := n1_; have GW106 := n2_; have GE106 := n3_; clear n0_ n1_ n2_ n3_; clear hb hbox hg) | ((with_reducible refine gate_dst (N := 7) rfl ?_); refine Kd.R_lit (Kd.int .i64) _ 3 ?hg (N := 7) ?hd (xs := ([] : List Int)) (inner := []) (ok := fun _ => True) (okp := fun _ => True) ?hr ?hp (fun _ hk => hk) trivial (Below.refl _ _) (Nat.le_refl _) (by simp) ?_; (case hd => rfl); (case hg => rfl); (case hr => first | (go_simp; done) | (go_simp; rfl)); (case hp => exact (Reps.none _ _)); intro v108 w3 ho4 hb hg_ hnew_; clear hg_ hnew_; (first | rw [← Ny107.out] at ho4 | (simp only [Int.reduceToNat] at ho4; rw [← Ny107.out] at ho4)); have n0_ := Aside0.mk (Kd.R_lower ho4 (below_size spec_l3Up.a0)); have n1_ := Aside0.mk (blk_below (g := gb106) (o := .cells #[.slice A0_0 l0_0.length c0_0, .slice A0_1 l0_1.length c0_1] 30 (0, 0)) spec_l3Up.a1 hb); have n2_ := Aside0.mk (below_step spec_l3Up.a0 hb); clear BK106; clear HB; have HO109 := n0_; have BK106 := n1_; have HB := n2_; clear n0_ n1_ n2_; clear hb ho4))
 go_loopg [3, 4] k (fun kq v3 v4 w' => ∃ (x3_1 : List Int) (x4_1 : Int), v4 = .int .i64 x4_1 ∧ Aside0 (spec_l3Up.l0 kq x3_1 x4_1 l0_0 l0_1 = some r) ∧ Aside0 (kq ≤ k) ∧ Aside0 (Kd.R (Kd.int .i64) 3 w' w.heap.size (fun _ => True) v3 x3_1) ∧ Aside0 (w'.heap[gb106]? = some (.cells #[(.slice A0_0 l0_0.length c0_0), (.slice A0_1 l0_1.length c0_1)] 30 (0, 0))) ∧ Aside0 (Below w.heap.size w w'))
 case atStart => exact ⟨(y107), (0), spec_l3Up.a6, H', ⟨Nat.le_refl _⟩, ⟨by (with_reducible repeat (first | apply Kd.R_alloc | apply Kd.R_drewN | apply Kd.R_drew)); exact HO109.out⟩, ⟨spec_l3Up.a1⟩, ⟨spec_l3Up.a0⟩⟩
 case round =>
  clear H'
  try clear p2
  try clear c4
  obtain ⟨x3_1, x4_1, rfl, HA, HK1, HO_3, BK106, HB⟩ := hrel
  cases gk with
  | zero => exact absurd HA.out (by simp [spec_l3Up.l0])
  | succ k1 =>
   have H := HA.out
   clear HA
   simp only [spec_l3Up.l0] at H
   by_cases c5 : x4_1 < (l0_0.length : Int)
   ·rw [if_pos c5] at H
    have c5b0 : decide (x4_1 < (l0_0.length : Int)) = true := decide_eq_true c5
    clear c5
    replace H := Option.bind_eq_some_iff.mp H
    obtain ⟨t110, A60, H⟩ := H
    replace H : (if x3_1.length < 17592186044416 then (spec_l3Up.l0 k1 (x3_1 ++ [t110]) (wrap64 (x4_1 + 1)) l0_0 l0_1) else (none)) = some r := H
    have A6 := Aside0.mk A60
    clear A60
    by_cases c7 : x3_1.length < 17592186044416
    ·rw [if_pos c7] at H
     have LMc7 := Aside0.mk c7
     clear c7
     obtain ⟨y111, hy111⟩ : ∃ y_ : List Int, y_ = (x3_1 ++ [t110]) := ⟨_, rfl⟩
     replace H : (spec_l3Up.l0 k1 y111 (wrap64 (x4_1 + 1)) l0_0 l0_1) = some r := by first | (rw [hy111]; with_reducible exact H) | (have H2_ := (Option.bind_some _ _).symm.trans H; rw [hy111]; with_reducible exact H2_) | (have H2_ := (Option.bind_some _ _).symm.trans H; with_reducible exact H2_) | with_reducible exact H | (rw [hy111]; exact H) | exact H
     have Ny111 := Aside0.mk hy111
     clear hy111
     have H' := Aside0.mk H
     clear H
     have hcz8_0 : wr.cell? ⟨gb106, 0, none⟩ = some (.slice A0_0 l0_0.length c0_0) := (blk_cell BK106.out 0).trans rfl
     have hcz8_1 : wr.cell? ⟨gb106, 1, none⟩ = some (.slice A0_1 l0_1.length c0_1) := (blk_cell BK106.out 1).trans rfl
     have hfz8_0 := blk_frozen BK106.out 0
     have hfz8_1 := blk_frozen BK106.out 1
     go_wp2_with (first | ((with_reducible refine gate_callee (f := 55) rfl ?_); refine goesL_ (some 17) rfl rfl Try.func55 (by kernel_rfl) rfl #[.int .i64 x4_1] rfl (by (try simp only [List.map_toArray, List.map_cons, List.map_nil]); first | done | rfl | (simp only [List.length_drop, List.length_take]; rfl)) ?_; (with_reducible refine (spec_l2Bit.calls x4_1 t110 _ A6.out).mono ?_); rintro e w' ⟨rfl, ⟨nd, rfl⟩⟩; refine ⟨_, rfl, ?_⟩) | ((with_reducible refine gate_builtin (b := .append) (xs := #[.tmp 15, .tmp 18]) rfl ?_); at_builtin; refine Kd.R_append (Kd.int .i64) (w0 := w) w.heap.size rfl (.tmp 15) (.tmp 18) 44 3 (.int .i64 0) 8 rfl Try.underlying44 info3 rfl (by decide) (by omega) u3 x3_1 t110 [.int .i64 t110] (fun _ => True) (fun _ => False) rfl rfl ?aP (fun _ hk => hk.elim) ?aF ?aO ?aB ?aS ?aL ?_; (case aP => exact rfl); (case aB => exact spec_l3Up.a0); (case aF => exact (fun _ _ => trivial)); (case aO => exact spec_l3Up.a4); (case aS => exact (below_size spec_l3Up.a0)); (case aL => have := LMc7.out; omega); intro v112 w9 ho hb hg hat; rw [← Ny111.out] at ho; have n0_ := Aside0.mk (blk_grown (g := gb106) (o := .cells #[.slice A0_0 l0_0.length c0_0, .slice A0_1 l0_1.length c0_1] 30 (0, 0)) spec_l3Up.a1 hg (Kd.R_ne HO_3.out BK106.out (by decide))); have n1_ := Aside0.mk (hb); have n2_ := Aside0.mk (ho); clear BK106; clear HB; clear HO_3; have BK106 := n0_; have HB := n1_; have HO113 := n2_; clear n0_ n1_ n2_; clear ho hb hg hat))
     go_roundg k1
     case measure => have := HK1.out; omega
     case rel => exact ⟨(y111), (wrap64 (x4_1 + 1)), spec_l3Up.a6, H', ⟨by have := HK1.out; omega⟩, ⟨by (with_reducible repeat (first | apply Kd.R_alloc | apply Kd.R_drewN | apply Kd.R_drew)); exact HO113.out⟩, ⟨spec_l3Up.a1⟩, ⟨spec_l3Up.a0⟩⟩
    ·rw [if_neg c7] at H
     exact absurd H (by simp)
   ·rw [if_neg c5] at H
    have c5b0 : decide (x4_1 < (l0_0.length : Int)) = false := decide_eq_false c5
    clear c5
    have H' := Aside0.mk H
    clear H
    have hcz10_0 : wr.cell? ⟨gb106, 0, none⟩ = some (.slice A0_0 l0_0.length c0_0) := (blk_cell BK106.out 0).trans rfl
    have hcz10_1 : wr.cell? ⟨gb106, 1, none⟩ = some (.slice A0_1 l0_1.length c0_1) := (blk_cell BK106.out 1).trans rfl
    have hfz10_0 := blk_frozen BK106.out 0
    have hfz10_1 := blk_frozen BK106.out 1
    go_wp2
    go_loopg [5] k1 (fun kq v5 w' => ∃ (x3_2 : List Int) (x5_2 : Int), v5 = .int .i64 x5_2 ∧ Aside0 (spec_l3Up.l1 kq x3_2 x5_2 l0_0 l0_1 = some r) ∧ Aside0 (kq ≤ k1) ∧ Aside0 (Kd.R (Kd.int .i64) 3 w' w.heap.size (fun _ => True) u3 x3_2) ∧ Aside0 (w'.heap[gb106]? = some (.cells #[(.slice A0_0 l0_0.length c0_0), (.slice A0_1 l0_1.length c0_1)] 30 (0, 0))) ∧ Aside0 (Below w.heap.size w w'))
    case atStart => exact ⟨(x3_1), (0), spec_l3Up.a6, H', ⟨Nat.le_refl _⟩, ⟨spec_l3Up.a4⟩, ⟨spec_l3Up.a1⟩, ⟨spec_l3Up.a0⟩⟩
    case round =>
     clear H'
     try clear p2
     try clear c4
     try clear c5
     try clear c5b0
     try clear p6
     try clear c7
     try clear hcz10_0
     try clear hcz10_1
     try clear hcz8_0
     try clear hcz8_1
     try clear hfz10_0
     try clear hfz10_1
     try clear hfz8_0
     try clear hfz8_1
     try clear p2
     obtain ⟨x3_2, x5_2, rfl, HA, HK2, HO_3, BK106, HB⟩ := hrel
     cases gk with
     | zero => exact absurd HA.out (by simp [spec_l3Up.l1])
     | succ k2 =>
      have H := HA.out
      clear HA
      simp only [spec_l3Up.l1] at H
      by_cases c11 : x5_2 < (l0_0.length : Int)
      ·rw [if_pos c11] at H
       have c11b0 : decide (x5_2 < (l0_0.length : Int)) = true := decide_eq_true c11
       clear c11
       have H' := Aside0.mk H
       clear H
       have hcz12_0 : wr.cell? ⟨gb106, 0, none⟩ = some (.slice A0_0 l0_0.length c0_0) := (blk_cell BK106.out 0).trans rfl
       have hcz12_1 : wr.cell? ⟨gb106, 1, none⟩ = some (.slice A0_1 l0_1.length c0_1) := (blk_cell BK106.out 1).trans rfl
       have hfz12_0 := blk_frozen BK106.out 0
       have hfz12_1 := blk_frozen BK106.out 1
       go_wp2
       go_loopg [6] k2 (fun kq v6 w' => ∃ (x3_3 : List Int) (x6_3 : Int), v6 = .int .i64 x6_3 ∧ Aside0 (spec_l3Up.l2 kq x3_3 x5_2 x6_3 l0_0 l0_1 = some r) ∧ Aside0 (kq ≤ k2) ∧ Aside0 (Kd.R (Kd.int .i64) 3 w' w.heap.size (fun _ => True) u3 x3_3) ∧ Aside0 (w'.heap[gb106]? = some (.cells #[(.slice A0_0 l0_0.length c0_0), (.slice A0_1 l0_1.length c0_1)] 30 (0, 0))) ∧ Aside0 (Below w.heap.size w w'))
       case atStart => exact ⟨(x3_2), (0), spec_l3Up.a6, H', ⟨Nat.le_refl _⟩, ⟨spec_l3Up.a4⟩, ⟨spec_l3Up.a1⟩, ⟨spec_l3Up.a0⟩⟩
       case round =>
        clear H'
        try clear c1
        try clear p2
        try clear c4
        try clear c5
        try clear c5b0
        try clear p6
        try clear c7
        try clear c11
        try clear c11b0
        try clear hcz10_0
        try clear hcz10_1
        try clear hcz12_0
        try clear hcz12_1
        try clear hcz8_0
        try clear hcz8_1
        try clear hfz10_0
        try clear hfz10_1
        try clear hfz12_0
        try clear hfz12_1
        try clear hfz8_0
        try clear hfz8_1
        try clear p2
        try clear p6
        obtain ⟨x3_3, x6_3, rfl, HA, HK3, HO_3, BK106, HB⟩ := hrel
        cases gk with
        | zero => exact absurd HA.out (by simp [spec_l3Up.l2])
        | succ k3 =>
         have H := HA.out
         clear HA
         simp only [spec_l3Up.l2] at H
         by_cases c13 : x6_3 < (l0_1.length : Int)
         ·rw [if_pos c13] at H
          have c13b0 : decide (x6_3 < (l0_1.length : Int)) = true := decide_eq_true c13
          clear c13
          by_cases c14 : 0 ≤ x6_3
          ·rw [if_pos c14] at H
           have c14b0 : decide (0 ≤ x6_3) = true := decide_eq_true c14
           clear c14
           by_cases c15 : 0 ≤ ((rd_T52 l0_1 x6_3).f0)
           ·rw [if_pos c15] at H
            have c15b0 : decide (0 ≤ ((rd_T52 l0_1 x6_3).f0)) = true := decide_eq_true c15
            clear c15
            by_cases c16 : ((rd_T52 l0_1 x6_3).f0) < (x3_3.length : Int)
            ·rw [if_pos c16] at H
             have c16b0 : decide (((rd_T52 l0_1 x6_3).f0) < (x3_3.length : Int)) = true := decide_eq_true c16
             clear c16
             by_cases c17 : 0 ≤ ((rd_T52 l0_1 x6_3).f1)
             ·rw [if_pos c17] at H
              have c17b0 : decide (0 ≤ ((rd_T52 l0_1 x6_3).f1)) = true := decide_eq_true c17
              clear c17
              by_cases c18 : ((rd_T52 l0_1 x6_3).f1) < (x3_3.length : Int)
              ·rw [if_pos c18] at H
               have c18b0 : decide (((rd_T52 l0_1 x6_3).f1) < (x3_3.length : Int)) = true := decide_eq_true c18
               clear c18
               obtain ⟨y119, hy119⟩ : ∃ y_ : List Int, y_ = (x3_3.set (((rd_T52 l0_1 x6_3).f0) : Int).toNat (Go.bits .or .i64 (rd x3_3 ((rd_T52 l0_1 x6_3).f0)) (rd x3_3 ((rd_T52 l0_1 x6_3).f1)))) := ⟨_, rfl⟩
               replace H : (spec_l3Up.l2 k3 y119 x5_2 (wrap64 (x6_3 + 1)) l0_0 l0_1) = some r := by first | (rw [hy119]; with_reducible exact H) | (have H2_ := (Option.bind_some _ _).symm.trans H; rw [hy119]; with_reducible exact H2_) | (have H2_ := (Option.bind_some _ _).symm.trans H; with_reducible exact H2_) | with_reducible exact H | (rw [hy119]; exact H) | exact H
               have Ny119 := Aside0.mk hy119
               clear hy119
               have H' := Aside0.mk H
               clear H
               have hcz20_0 : wr.cell? ⟨gb106, 0, none⟩ = some (.slice A0_0 l0_0.length c0_0) := (blk_cell BK106.out 0).trans rfl
               have hcz20_1 : wr.cell? ⟨gb106, 1, none⟩ = some (.slice A0_1 l0_1.length c0_1) := (blk_cell BK106.out 1).trans rfl
               have hfz20_0 := blk_frozen BK106.out 0
               have hfz20_1 := blk_frozen BK106.out 1
               try go_wp2
               have n0_ := Aside0.mk (Kd.R_drew HO_3.out)
               have n1_ := Aside0.mk (blk_drew BK106.out)
               have n2_ := Aside0.mk (below_drew1 HB.out)
               clear HO_3
               clear BK106
               clear HB
               have HO_3 := n0_
               have BK106 := n1_
               have HB := n2_
               clear n0_ n1_ n2_
               have p114 : 0 ≤ (x6_3 : Int) := of_decide_eq_true spec_l3Up.a3
               have q114 : x6_3 < (l0_1.length : Int) := of_decide_eq_true spec_l3Up.a3
               obtain ⟨ad114, e114, hx114_0, hx114_1⟩ := at_T52 HR0_1.out x6_3 p114 q114
               have hw114_1 := hx114_1
               have hw114_0 := hx114_0
               cases e114
               replace hx114_0 := (HB.out.cell (World.block_lt_of_cell? w _ hx114_0)).trans hx114_0
               replace hx114_1 := (HB.out.cell (World.block_lt_of_cell? w _ hx114_1)).trans hx114_1
               replace p114 := eq_true p114
               replace q114 := eq_true q114
               have p115 : 0 ≤ (x6_3 : Int) := of_decide_eq_true spec_l3Up.a3
               have q115 : x6_3 < (l0_1.length : Int) := of_decide_eq_true spec_l3Up.a3
               obtain ⟨ad115, e115, hx115_0, hx115_1⟩ := at_T52 HR0_1.out x6_3 p115 q115
               have hw115_1 := hx115_1
               have hw115_0 := hx115_0
               obtain rfl : ad114 = ad115 := (by injection e115)
               replace hx115_0 := (HB.out.cell (World.block_lt_of_cell? w _ hx115_0)).trans hx115_0
               replace hx115_1 := (HB.out.cell (World.block_lt_of_cell? w _ hx115_1)).trans hx115_1
               replace p115 := eq_true p115
               replace q115 := eq_true q115
               obtain ⟨Ao22, co22, eo22⟩ := Kd.R_slice HO_3.out
               (first | subst eo22 | (injection eo22 with f1_ f2_ f3_; have f4_ := f1_.symm; have f5_ := f3_.symm; clear f1_ f2_ f3_; subst f4_; subst f5_))
               have p116 : 0 ≤ (((rd_T52 l0_1 x6_3).f0) : Int) := of_decide_eq_true spec_l3Up.a3
               have q116 : ((rd_T52 l0_1 x6_3).f0) < (x3_3.length : Int) := of_decide_eq_true spec_l3Up.a3
               obtain ⟨ad116, e116, hx116_0⟩ := Kd.at_int (Kd.R_reads' HO_3.out).2.2 ((rd_T52 l0_1 x6_3).f0) p116 q116
               cases e116
               replace p116 := eq_true p116
               replace q116 := eq_true q116
               have p117 : 0 ≤ (x6_3 : Int) := of_decide_eq_true spec_l3Up.a3
               have q117 : x6_3 < (l0_1.length : Int) := of_decide_eq_true spec_l3Up.a3
               obtain ⟨ad117, e117, hx117_0, hx117_1⟩ := at_T52 HR0_1.out x6_3 p117 q117
               have hw117_1 := hx117_1
               have hw117_0 := hx117_0
               obtain rfl : ad114 = ad117 := (by injection e117)
               replace hx117_0 := (HB.out.cell (World.block_lt_of_cell? w _ hx117_0)).trans hx117_0
               replace hx117_1 := (HB.out.cell (World.block_lt_of_cell? w _ hx117_1)).trans hx117_1
               replace p117 := eq_true p117
               replace q117 := eq_true q117
               have p118 : 0 ≤ (((rd_T52 l0_1 x6_3).f1) : Int) := of_decide_eq_true spec_l3Up.a3
               have q118 : ((rd_T52 l0_1 x6_3).f1) < (x3_3.length : Int) := of_decide_eq_true spec_l3Up.a3
               obtain ⟨ad118, e118, hx118_0⟩ := Kd.at_int (Kd.R_reads' HO_3.out).2.2 ((rd_T52 l0_1 x6_3).f1) p118 q118
               obtain rfl : ad116 = ad118 := (by injection e118)
               replace p118 := eq_true p118
               replace q118 := eq_true q118
               have p19 : 0 ≤ (((rd_T52 l0_1 x6_3).f0) : Int) := of_decide_eq_true spec_l3Up.a3
               have q19 : (((rd_T52 l0_1 x6_3).f0) : Int) < ((x3_3.length : Int) : Int) := of_decide_eq_true spec_l3Up.a3
               obtain ⟨go19, co19, eo19, gb19, gl19, cl19, HG19⟩ := Kd.R_form HO_3.out (by omega)
               (first | cases eo19 | (injection eo19 with ea_ en_ ec_; (first | subst ea_ | (injection ea_ with ea_; subst ea_)); subst ec_; clear en_))
               have GB19 := Aside0.mk gb19
               have GG19 := Aside0.mk HG19
               clear gb19 gl19 HG19
               (first | simp only [add_plain] at hx116_0 | skip)
               (first | simp only [add_plain] at hx118_0 | skip)
               obtain ⟨hx19_0, hf19_0⟩ := Kd.R_celln 0 HO_3.out (((rd_T52 l0_1 x6_3).f0) : Int) p19 q19
               replace p19 := eq_true p19
               replace q19 := eq_true q19
               have HP23 := Kd.R_putn HO_3.out (((rd_T52 l0_1 x6_3).f0) : Int) (Go.bits .or .i64 (rd x3_3 ((rd_T52 l0_1 x6_3).f0)) (rd x3_3 ((rd_T52 l0_1 x6_3).f1)))
               rw [← Ny119.out] at HP23
               have HQ23 := Aside0.mk HP23
               clear HP23
               refine start_ (n := 28) (S := fun w' => w'.cell? ⟨gb106, 0, none⟩ = some (.slice A0_0 l0_0.length c0_0) ∧ w'.cell? ⟨gb106, 1, none⟩ = some (.slice (some ad114) l0_1.length c0_1) ∧ w'.cell? (ad114.add ((x6_3).toNat * 2)) = some (.int .i64 ((rd_T52 l0_1 x6_3).f0)) ∧ w'.cell? ⟨(ad114.add ((x6_3).toNat * 2)).block, (ad114.add ((x6_3).toNat * 2)).off + 1, none⟩ = some (.int .i64 ((rd_T52 l0_1 x6_3).f1)) ∧ w'.cell? (ad114.add ((x6_3).toNat * 2)) = some (.int .i64 ((rd_T52 l0_1 x6_3).f0)) ∧ w'.cell? ⟨(ad114.add ((x6_3).toNat * 2)).block, (ad114.add ((x6_3).toNat * 2)).off + 1, none⟩ = some (.int .i64 ((rd_T52 l0_1 x6_3).f1)) ∧ w'.cell? ⟨go19, (((rd_T52 l0_1 x6_3).f0)).toNat, none⟩ = some (.int .i64 (rd x3_3 ((rd_T52 l0_1 x6_3).f0))) ∧ w'.cell? (ad114.add ((x6_3).toNat * 2)) = some (.int .i64 ((rd_T52 l0_1 x6_3).f0)) ∧ w'.cell? ⟨(ad114.add ((x6_3).toNat * 2)).block, (ad114.add ((x6_3).toNat * 2)).off + 1, none⟩ = some (.int .i64 ((rd_T52 l0_1 x6_3).f1)) ∧ w'.cell? ⟨go19, (((rd_T52 l0_1 x6_3).f1)).toNat, none⟩ = some (.int .i64 (rd x3_3 ((rd_T52 l0_1 x6_3).f1)))) (ds := [27]) #[false, false, false, false, false, false, false, false, false, false, false, false, false, false, false, false, false, false, false, false, false, false, false, false, false, false, false, false] (by kernel_rfl) rfl rfl ⟨(blk_cell BK106.out 0).trans rfl, (blk_cell BK106.out 1).trans rfl, ((HB.out.cell (World.block_lt_of_cell? w _ hw114_0)).trans hw114_0), ((HB.out.cell (World.block_lt_of_cell? w _ hw114_1)).trans hw114_1), ((HB.out.cell (World.block_lt_of_cell? w _ hw115_0)).trans hw115_0), ((HB.out.cell (World.block_lt_of_cell? w _ hw115_1)).trans hw115_1), hx116_0, ((HB.out.cell (World.block_lt_of_cell? w _ hw117_0)).trans hw117_0), ((HB.out.cell (World.block_lt_of_cell? w _ hw117_1)).trans hw117_1), hx118_0⟩ (fun hHeld => ?_); refine with_tabW spec_l3Up.tab12 spec_l3Up.bits12 (fun HT_ HW_ => ?_)
               generalize wr.drew = w21 at HO_3 BK106 HB GG19 HQ23 hf19_0 hx114_0 hx114_1 hx115_0 hx115_1 hx116_0 hx117_0 hx117_1 hx118_0 hx19_0 hHeld ⊢
               refine pureS 0 34 HT_ rfl rfl ?_
               refine pureS 1 35 HT_ rfl rfl ?_
               refine pureS 3 37 HT_ rfl rfl ?_
               refine pureS 7 41 HT_ rfl rfl ?_
               refine pureS 8 42 HT_ rfl rfl ?_
               refine pureS 10 44 HT_ rfl rfl ?_
               refine pureS 16 50 HT_ rfl rfl ?_
               refine pureS 17 51 HT_ rfl rfl ?_
               refine pureS 19 53 HT_ rfl rfl ?_
               refine takeS 2 36 HT_ HW_ rfl rfl hHeld ?_ spec_l3Up.a2
               refine pureS 4 38 HT_ rfl rfl ?_
               refine pureS 5 39 HT_ rfl rfl ?_
               refine takeS 6 40 HT_ HW_ rfl rfl hHeld ?_ spec_l3Up.a2
               refine takeS 9 43 HT_ HW_ rfl rfl hHeld ?_ spec_l3Up.a2
               refine pureS 11 45 HT_ rfl rfl ?_
               refine pureS 12 46 HT_ rfl rfl ?_
               refine takeS 13 47 HT_ HW_ rfl rfl hHeld ?_ spec_l3Up.a2
               refine pureS 14 48 HT_ rfl rfl ?_
               refine takeS 15 49 HT_ HW_ rfl rfl hHeld ?_ spec_l3Up.a2
               refine takeS 18 52 HT_ HW_ rfl rfl hHeld ?_ spec_l3Up.a2
               refine pureS 20 54 HT_ rfl rfl ?_
               refine pureS 21 55 HT_ rfl rfl ?_
               refine takeS 22 56 HT_ HW_ rfl rfl hHeld ?_ spec_l3Up.a2
               refine pureS 23 57 HT_ rfl rfl ?_
               refine takeS 24 58 HT_ HW_ rfl rfl hHeld ?_ spec_l3Up.a2
               refine pureS 25 59 HT_ rfl rfl ?_
               refine pureS 26 60 HT_ rfl rfl ?_
               refine last_ (i := 27) (N := none) #[true, true, true, true, true, true, true, true, true, true, true, true, true, true, true, true, true, true, true, true, true, true, true, true, true, true, true, true] rfl rfl (one_of HT_.out (by kernel_rfl)) (by decide) (fun K hK => ?_)
               refine skip_ (w1 := ?_) (by rfl) rfl ?_ ?_
               rotate_left
               ·go_simp
                rfl
               refine hK.out _ _ ?_
               clear hK K
               refine done_ (done_of HT_.out (by kernel_rfl)) ?_
               try go_wp2
               go_roundg k3
               case measure => have := HK1.out; have := HK2.out; have := HK3.out; omega
               case rel => exact ⟨(y119), (wrap64 (x6_3 + 1)), spec_l3Up.a6, H', ⟨by have := HK1.out; have := HK2.out; have := HK3.out; omega⟩, ⟨by (with_reducible repeat (first | apply Kd.R_alloc | apply Kd.R_drewN | apply Kd.R_drew)); exact HQ23.out⟩, ⟨by (with_reducible repeat (first | refine blk_drewN ?_ _ | refine blk_drew ?_ | refine blk_alloc ?_ _)); refine blk_far ?_ (by have h_ := Kd.R_ne HO_3.out BK106.out (by decide); intro e_; exact h_ (by rw [e_]; rfl)) _; (with_reducible repeat (first | refine blk_drewN ?_ _ | refine blk_drew ?_ | refine blk_alloc ?_ _)); exact BK106.out⟩, ⟨by repeat (first | (with_reducible first | exact HB.out | apply below_alloc | apply pw_below_drewN | apply below_drew1 | refine below_set ?_ GB19.out | refine below_set ?_ GE106.out) | exact HB.out)⟩⟩
              ·rw [if_neg c18] at H
               exact absurd H (by simp)
             ·rw [if_neg c17] at H
              exact absurd H (by simp)
            ·rw [if_neg c16] at H
             exact absurd H (by simp)
           ·rw [if_neg c15] at H
            exact absurd H (by simp)
          ·rw [if_neg c14] at H
           exact absurd H (by simp)
         ·rw [if_neg c13] at H
          have c13b0 : decide (x6_3 < (l0_1.length : Int)) = false := decide_eq_false c13
          clear c13
          have H' := Aside0.mk H
          clear H
          have hcz24_0 : wr.cell? ⟨gb106, 0, none⟩ = some (.slice A0_0 l0_0.length c0_0) := (blk_cell BK106.out 0).trans rfl
          have hcz24_1 : wr.cell? ⟨gb106, 1, none⟩ = some (.slice A0_1 l0_1.length c0_1) := (blk_cell BK106.out 1).trans rfl
          have hfz24_0 := blk_frozen BK106.out 0
          have hfz24_1 := blk_frozen BK106.out 1
          go_wp2
          go_roundg k3
          case measure => have := HK1.out; have := HK2.out; have := HK3.out; omega
          case rel => exact ⟨(x3_3), (wrap64 (x5_2 + 1)), spec_l3Up.a6, H', ⟨by have := HK1.out; have := HK2.out; have := HK3.out; omega⟩, ⟨spec_l3Up.a4⟩, ⟨spec_l3Up.a1⟩, ⟨spec_l3Up.a0⟩⟩
      ·rw [if_neg c11] at H
       have c11b0 : decide (x5_2 < (l0_0.length : Int)) = false := decide_eq_false c11
       clear c11
       obtain rfl := Option.some.inj H
       have hcz25_0 : wr.cell? ⟨gb106, 0, none⟩ = some (.slice A0_0 l0_0.length c0_0) := (blk_cell BK106.out 0).trans rfl
       have hcz25_1 : wr.cell? ⟨gb106, 1, none⟩ = some (.slice A0_1 l0_1.length c0_1) := (blk_cell BK106.out 1).trans rfl
       have hfz25_0 := blk_frozen BK106.out 0
       have hfz25_1 := blk_frozen BK106.out 1
       go_wp2
       go_ret
       exact ⟨_, by first | rfl | (simp [errW_none, errW_some] <;> rfl) | (simp [*, errW_none, errW_some] <;> rfl), spec_l3Up.a4, spec_l3Up.a0⟩

/-! ### spec_l2Has: function 42 -/
def spec_l2Has.f (a0 : Int) (a1 : Int) : Option (Bool) := if a1 ≥ 0 then (if a1 < 16 then (if 0 ≤ (IntKind.u64.wrap (a1)) then (some ((Go.bits .and .i64 (shr .i64 a0 (IntKind.u64.wrap (a1))) 1) == 1)) else (none)) else (some false)) else (some false)
set_option maxHeartbeats 8000000 in
set_option maxRecDepth 100000 in
theorem spec_l2Has.calls (a0 : Int) (a1 : Int) (r : Bool) (w : World) (h : spec_l2Has.f a0 a1 = some r) :
    Calls Try.prog 42 #[.int .i64 a0, .int .i64 a1] w fun e w' => e = .returned (.bool r) ∧ Drawn0 w w' := by
  have H : (if a1 ≥ 0 then (if a1 < 16 then (if 0 ≤ (IntKind.u64.wrap (a1)) then (some ((Go.bits .and .i64 (shr .i64 a0 (IntKind.u64.wrap (a1))) 1) == 1)) else (none)) else (some false)) else (some false)) = some r := h
  clear h
  by_cases c3 : a1 ≥ 0
  · rw [if_pos c3] at H
    have c3b0 : decide (0 ≤ a1) = true := decide_eq_true c3
    clear c3
    by_cases c4 : a1 < 16
    · rw [if_pos c4] at H
      have c4b0 : decide (a1 < 16) = true := decide_eq_true c4
      clear c4
      obtain ⟨ji5, hji5⟩ : ∃ j_ : Int, (IntKind.u64.wrap (a1)) = j_ := ⟨_, rfl⟩
      replace H : (if 0 ≤ (ji5) then (some ((Go.bits .and .i64 (shr .i64 a0 (ji5)) 1) == 1)) else (none)) = some r := by first | (rw [hji5] at H; exact H) | (simp only [hji5] at H ⊢; exact H)
      by_cases c6 : 0 ≤ (ji5)
      · rw [if_pos c6] at H
        have c6b0 := eq_true c6
        have c6b1 : decide (0 ≤ (ji5)) = true := decide_eq_true c6
        clear c6
        obtain ⟨ji7, hji7⟩ : ∃ j_ : Int, (shr .i64 a0 (ji5)) = j_ := ⟨_, rfl⟩
        replace H : (some ((Go.bits .and .i64 (ji7) 1) == 1)) = some r := by first | (rw [hji7] at H; exact H) | (simp only [hji7] at H ⊢; exact H)
        have hji7_ : (a0 / 2 ^ min (ji5).toNat 64) = ji7 := hji7
        have hji7z : (ji5) ≤ 64 → (a0 / 2 ^ (ji5).toNat) = ji7 := shr_small hji7
        obtain rfl := Option.some.inj H
        go_enter Try.func42, Try.ntmps42
        go_wp2
        go_ret
        exact ⟨by first | rfl | (simp; done) | (simp only [← hji5, ← hji7] <;> (first | rfl | simp)) | (simp [*]; done), by repeat (first | exact Drawn0.refl _ | apply Drawn0.step)⟩
      · rw [if_neg c6] at H
        exact absurd H (by simp)
    · rw [if_neg c4] at H
      have c4b0 : decide (a1 < 16) = false := decide_eq_false c4
      clear c4
      obtain rfl := Option.some.inj H
      go_enter Try.func42, Try.ntmps42
      go_wp2
      go_ret
      exact ⟨by first | rfl | (simp; done) | (simp [*]; done), by repeat (first | exact Drawn0.refl _ | apply Drawn0.step)⟩
  · rw [if_neg c3] at H
    have c3b0 : decide (0 ≤ a1) = false := decide_eq_false c3
    clear c3
    obtain rfl := Option.some.inj H
    go_enter Try.func42, Try.ntmps42
    go_wp2
    go_ret
    exact ⟨by first | rfl | (simp; done) | (simp [*]; done), by repeat (first | exact Drawn0.refl _ | apply Drawn0.step)⟩

end Go.Proofs.Ytlpkicbmcpmemaa.Q

