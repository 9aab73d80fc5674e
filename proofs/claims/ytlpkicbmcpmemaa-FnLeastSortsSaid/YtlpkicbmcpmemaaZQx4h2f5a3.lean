/- Functions of the program as plain Lean functions, and that the calls come to what they say. -/
import Derived.Test.YtlpkicbmcpmemaaZQx0h2d4ba
import Derived.Test.YtlpkicbmcpmemaaZQx2hde9d8
import Derived.Test.YtlpkicbmcpmemaaZQx3ha0ac6
import Derived.Test.YtlpkicbmcpmemaaZShorth9309d
namespace Go.Proofs.Ytlpkicbmcpmemaa.Q
open Go.RowKit Go.Proofs.YtlpkicbmcpmemaaW.PrintWords Go.Proofs.YtlpkicbmcpmemaaW.PrintLast Go.Proofs.YtlpkicbmcpmemaaW.PrintMore
attribute [local go_sem] max2_int min2_int max_two min_two max_three min_three max_four min_four   -- for this text's walks alone
set_option linter.unusedVariables false
set_option linter.unusedSimpArgs false

/-! ### spec_IsSorts: function 13 -/
theorem spec_IsSorts.a0 {P_ : Prop} (h_ : P_ := by repeat (first | (with_reducible first | exact HB.out | apply below_alloc | apply pw_below_drewN | apply below_drew1 | refine below_set ?_ GE120.out) | exact HB.out)) : P_ := h_
theorem spec_IsSorts.a1 {P_ : Prop} (h_ : P_ := by first | (with_reducible assumption) | assumption) : P_ := h_
theorem spec_IsSorts.a2 {P_ : Prop} (h_ : P_ := by (try simp only [List.map_toArray, List.map_cons, List.map_nil]); first | done | rfl | (simp only [List.length_drop, List.length_take]; rfl)) : P_ := h_
theorem spec_IsSorts.a3 {P_ : Prop} (h_ : P_ := by rintro w' ⟨s0, s1, s2, s3, s4, s5, s6, s7, s8, s9⟩; go_simp; with_reducible rfl) : P_ := h_
theorem spec_IsSorts.a4 {P_ : Prop} (h_ : P_ := by (with_reducible repeat (first | refine blk_drewN ?_ _ | refine blk_drew ?_ | refine blk_alloc ?_ _)); exact BK120.out) : P_ := h_
theorem spec_IsSorts.a5 {P_ : Prop} (h_ : P_ := by rintro w' ⟨s0, s1, s2, s3⟩; go_simp; with_reducible rfl) : P_ := h_
theorem spec_IsSorts.a6 {P_ : Prop} (h_ : P_ := by first | rfl | (simp [errW_none, errW_some] <;> rfl) | (simp [*, errW_none, errW_some] <;> rfl)) : P_ := h_
theorem spec_IsSorts.a7 {P_ : Prop} (h_ : P_ := by first | rfl | (simp; done) | (simp [*]; done)) : P_ := h_
theorem spec_IsSorts.a8 {P_ : Prop} (h_ : P_ := by (try simp only [List.map_toArray, List.map_cons, List.map_nil]); first | done | (rw [show (l0_0.take (x3_2 : Int).toNat).length = x3_2.toNat from (by rw [List.length_take]; have h_ : (x3_2 : Int) ≤ (l0_0.length : Int) := of_decide_eq_true spec_IsSorts.a1; omega)] <;> rfl) | rfl | (simp only [List.length_drop, List.length_take]; rfl)) : P_ := h_
theorem spec_IsSorts.a9 {P_ : Prop} (h_ : P_ := by rintro w' ⟨s0, s1, s2, s3, s4, s5⟩; go_simp; with_reducible rfl) : P_ := h_
theorem spec_IsSorts.a10 {P_ : Prop} (h_ : P_ := by (with_reducible repeat (first | apply Kd.R_alloc | apply Kd.R_drewN | apply Kd.R_drew)); exact HO_5.out) : P_ := h_
theorem spec_IsSorts.a11 {P_ : Prop} (h_ : P_ := by kernel_rfl) : P_ := h_
theorem spec_IsSorts.a12 {P_ : Prop} (h_ : P_ := by repeat (first | (with_reducible first | exact HB.out | apply below_alloc | apply pw_below_drewN | apply below_drew1) | exact HB.out)) : P_ := h_
theorem spec_IsSorts.a13 {P_ : Prop} (h_ : P_ := by have := HJ1.out; have := HK2.out; have := HK3.out; have := HK4.out; have := HK5.out; omega) : P_ := h_
mutual
def spec_IsSorts.j0 : Nat → Bool → List ByteArray → List (S52) → Option (Bool)
 | 0, _, _, _ => none
 | k + 1, x23, x121000, x121001 => if x23 = true then (some false) else (spec_IsSorts.l0 k 0 x121000 x121001)
def spec_IsSorts.l0 : Nat → Int → List ByteArray → List (S52) → Option (Bool)
 | 0, _, _, _ => none
 | k + 1, x3, x121000, x121001 => if x3 < (x121000.length : Int) then (if 0 ≤ x3 then ((spec_IsName.f k (rdOf ByteArray.empty x121000 x3)).bind fun t122 => (if t122 = true then (if x3 ≤ (x121000.length : Int) then ((spec_l1Has.f k (x121000.take (x3 : Int).toNat) (rdOf ByteArray.empty x121000 x3)).bind fun t125 => (if t125 = true then (some false) else (spec_IsSorts.l0 k (wrap64 (x3 + 1)) x121000 x121001))) else (none)) else (some false))) else (none)) else (spec_IsSorts.l1 k 0 x121000 x121001)
def spec_IsSorts.l1 : Nat → Int → List ByteArray → List (S52) → Option (Bool)
 | 0, _, _, _ => none
 | k + 1, x4, x121000, x121001 => if x4 < (x121001.length : Int) then (if 0 ≤ x4 then ((spec_l1In.f ((rd_T52 x121001 x4).f0) 0 (wrap64 ((x121000.length : Int) - 1))).bind fun t127 => (if t127 = true then ((spec_l1In.f ((rd_T52 x121001 x4).f1) 0 (wrap64 ((x121000.length : Int) - 1))).bind fun t129 => (if t129 = true then (if ((rd_T52 x121001 x4).f0) = ((rd_T52 x121001 x4).f1) then (some false) else (spec_IsSorts.l1 k (wrap64 (x4 + 1)) x121000 x121001)) else (some false))) else (some false))) else (none)) else ((spec_l3Up.f k x121000 x121001).bind fun t132 => (spec_IsSorts.l2 k t132 0))
def spec_IsSorts.l2 : Nat → List Int → Int → Option (Bool)
 | 0, _, _ => none
 | k + 1, x5, x6 => if x6 < (x5.length : Int) then (spec_IsSorts.l3 k x5 x6 0) else (some true)
def spec_IsSorts.l3 : Nat → List Int → Int → Int → Option (Bool)
 | 0, _, _, _ => none
 | k + 1, x5, x6, x7 => if x7 < x6 then (if 0 ≤ x6 then (if x6 < (x5.length : Int) then ((spec_l2Has.f (rd x5 x6) x7).bind fun t136 => (if t136 = true then (if 0 ≤ x7 then (if x7 < (x5.length : Int) then ((spec_l2Has.f (rd x5 x7) x6).bind fun t138 => (if t138 = true then (some false) else (spec_IsSorts.l3 k x5 x6 (wrap64 (x7 + 1))))) else (none)) else (none)) else (spec_IsSorts.l3 k x5 x6 (wrap64 (x7 + 1))))) else (none)) else (none)) else (spec_IsSorts.l2 k x5 (wrap64 (x6 + 1)))
end
def spec_IsSorts.f (k : Nat) (l0_0 : List ByteArray) (l0_1 : List (S52)) : Option (Bool) := if (l0_0.length : Int) < 1 then (spec_IsSorts.j0 k true l0_0 l0_1) else (if (l0_0.length : Int) > 8 then (spec_IsSorts.j0 k true l0_0 l0_1) else (spec_IsSorts.j0 k (decide ((l0_1.length : Int) > 16)) l0_0 l0_1))
def spec_IsSorts.T6 : Bool × List (List Nat × List Nat) := (true, [([], []), ([0], [0]), ([], []), ([1, 2], [1, 2]), ([3], [3]), ([4], [4]), ([5], [5]), ([6, 5], [6]), ([7], [7]), ([8, 7], [7, 8]), ([7], [7]), ([9, 10, 7], [7, 9, 10]), ([7], [7]), ([12, 7], [7, 12]), ([7], [7]), ([13, 14, 7], [7, 13, 14]), ([15, 7], [7, 15]), ([11, 16, 7, 7], [7, 11, 16]), ([7, 17], [7, 17])])
def spec_IsSorts.B6 : List Nat := [0, 1, 0, 7, 15, 31, 63, 127, 255, 511, 255, 2047, 255, 4351, 255, 28927, 61695, 131071, 262143]
theorem spec_IsSorts.tab6 : rtab .any (opsOf Try.f13 6) = spec_IsSorts.T6 := by kernel_rfl
theorem spec_IsSorts.bits6 : waitsOk spec_IsSorts.T6.2 spec_IsSorts.B6 = true := by kernel_rfl
def spec_IsSorts.T11 : Bool × List (List Nat × List Nat) := (true, [([], []), ([0], [0]), ([], []), ([1, 2], [1, 2]), ([3], [3]), ([4], [4]), ([], []), ([6], [6]), ([7], [7]), ([8], [8]), ([5, 9], [5, 9]), ([10], [10]), ([11, 10], [11]), ([12], [12]), ([13, 12], [12, 13]), ([12], [12]), ([14, 15, 12], [12, 14, 15]), ([16, 12], [12, 16]), ([17, 12], [12, 17]), ([12], [12]), ([19, 12], [12, 19]), ([20, 12], [12, 20]), ([21, 12], [12, 21]), ([18, 22, 12, 12], [12, 18, 22]), ([23, 12], [12, 23]), ([12, 24], [12, 24]), ([25, 23], [25]), ([26], [26]), ([27, 26], [26, 27]), ([26], [26]), ([28, 29, 26], [26, 28, 29]), ([30, 26], [26, 30]), ([31, 26], [26, 31]), ([26], [26]), ([33, 26], [26, 33]), ([26], [26]), ([34, 35, 26], [26, 34, 35]), ([36, 26], [26, 36]), ([37, 26], [26, 37]), ([32, 38, 26], [26, 32, 38]), ([26, 39], [26, 39])])
def spec_IsSorts.B11 : List Nat := [0, 1, 0, 7, 15, 31, 0, 64, 192, 448, 1023, 2047, 4095, 8191, 16383, 8191, 65535, 131071, 262143, 8191, 532479, 1581055, 3678207, 8388607, 16777215, 33554431, 67108863, 134217727, 268435455, 134217727, 1073741823, 2147483647, 4294967295, 134217727, 8724152319, 134217727, 60263759871, 128983236607, 266422190079, 549755813887, 1099511627775]
theorem spec_IsSorts.tab11 : rtab .any (opsOf Try.f13 11) = spec_IsSorts.T11 := by kernel_rfl
theorem spec_IsSorts.bits11 : waitsOk spec_IsSorts.T11.2 spec_IsSorts.B11 = true := by kernel_rfl
set_option maxHeartbeats 8000000 in
set_option maxRecDepth 100000 in
theorem spec_IsSorts.calls (k : Nat) (A0_0 : Option Addr) (c0_0 : Nat) (l0_0 : List ByteArray) (A0_1 : Option Addr) (c0_1 : Nat) (l0_1 : List (S52)) (r : Bool) (w : World) (hr0_0 : Kd.C Kd.string w A0_0 l0_0.length l0_0) (hc0_0 : l0_0.length ≤ c0_0) (hr0_1 : Kd.C k52 w A0_1 l0_1.length l0_1) (hc0_1 : l0_1.length ≤ c0_1) (h : spec_IsSorts.f k l0_0 l0_1 = some r) :
  Calls Try.prog 13 #[.agg #[.slice A0_0 l0_0.length c0_0, .slice A0_1 l0_1.length c0_1]] w fun e w' => e = .returned (.bool r) ∧ Below w.heap.size w w' := by
 have hu30 := Try.underlying30
 have HR0_0 := Aside0.mk hr0_0
 have HC0_0 := Aside0.mk hc0_0
 clear hr0_0 hc0_0
 have HR0_1 := Aside0.mk hr0_1
 have HC0_1 := Aside0.mk hc0_1
 clear hr0_1 hc0_1
 have HB := Aside0.mk (Below.refl w.heap.size w)
 have H : (if (l0_0.length : Int) < 1 then (spec_IsSorts.j0 k true l0_0 l0_1) else (if (l0_0.length : Int) > 8 then (spec_IsSorts.j0 k true l0_0 l0_1) else (spec_IsSorts.j0 k (decide ((l0_1.length : Int) > 16)) l0_0 l0_1))) = some r := h
 clear h
 have HC2 := Aside0.mk H
 clear H
 go_enter Try.func13, Try.ntmps13
 go_upto_region 1 with (first | ((with_reducible refine gate_dst (N := 1) rfl ?_); (try (refine gate_guard (by rfl) ?_; dsimp only)); refine box_event ?hg (N := 1) ?hd (cs := #[.slice A0_0 l0_0.length c0_0, .slice A0_1 l0_1.length c0_1]) (t := 30) ?hr ?_; (case hd => rfl); (case hg => rfl); (case hr => first | (go_simp; done) | (go_simp; rfl)); intro gb120 hg w3 hbox hb; have n0_ := Aside0.mk (below_step spec_IsSorts.a12 hb); have n1_ := Aside0.mk (hbox); have n2_ := Aside0.mk ((by rw [hg]; exact (below_size spec_IsSorts.a12) : w.heap.size ≤ gb120)); have n3_ := Aside0.mk ((by rw [hg]; exact (below_size spec_IsSorts.a12) : w.heap.size ≤ gb120)); clear HB; have HB := n0_; have BK120 := n1_; have GW120 := n2_; have GE120 := n3_; clear n0_ n1_ n2_ n3_; clear hb hbox hg))
 (try simp only [Act.put, List.setIfInBounds_toArray, List.set_cons_zero, List.set_cons_succ])
 go_cut [23] (fun v23 wc => ∃ (kq : Nat) (x23_1 : Bool), v23 = .bool x23_1 ∧ Aside0 (spec_IsSorts.j0 kq x23_1 l0_0 l0_1 = some r) ∧ Aside0 (kq ≤ k) ∧ Aside0 (wc.heap[gb120]? = some (.cells #[(.slice A0_0 l0_0.length c0_0), (.slice A0_1 l0_1.length c0_1)] 30 (0, 0))) ∧ Aside0 (Below w.heap.size w wc))
 case first =>
  have H := HC2.out
  clear HC2
  by_cases c4 : (l0_0.length : Int) < 1
  ·rw [if_pos c4] at H
   have c4b0 : decide ((l0_0.length : Int) < 1) = true := decide_eq_true c4
   have c4b1 : decide (l0_0.length < 1) = true := decide_eq_true (by omega)
   clear c4
   (first | rw [c4b0] | (simp only [i64_w, i32_w]; rw [c4b0]) | skip)
   have H' := Aside0.mk H
   clear H
   have hcz5_0 : w3.cell? ⟨gb120, 0, none⟩ = some (.slice A0_0 l0_0.length c0_0) := (blk_cell BK120.out 0).trans rfl
   have hcz5_1 : w3.cell? ⟨gb120, 1, none⟩ = some (.slice A0_1 l0_1.length c0_1) := (blk_cell BK120.out 1).trans rfl
   have hfz5_0 := blk_frozen BK120.out 0
   have hfz5_1 := blk_frozen BK120.out 1
   go_wp2
   go_meet
   case rel => exact ⟨_, (true), spec_IsSorts.a7, H', ⟨by first | omega | exact Nat.le_refl _⟩, ⟨spec_IsSorts.a4⟩, ⟨spec_IsSorts.a0⟩⟩
  ·rw [if_neg c4] at H
   have c4b0 : decide ((l0_0.length : Int) < 1) = false := decide_eq_false c4
   have c4b1 : decide (l0_0.length < 1) = false := decide_eq_false (by omega)
   clear c4
   (first | rw [c4b0] | (simp only [i64_w, i32_w]; rw [c4b0]) | skip)
   by_cases c6 : (l0_0.length : Int) > 8
   ·rw [if_pos c6] at H
    have c6b0 : decide (8 < (l0_0.length : Int)) = true := decide_eq_true c6
    have c6b1 : decide (8 < l0_0.length) = true := decide_eq_true (by omega)
    clear c6
    have H' := Aside0.mk H
    clear H
    have hcz7_0 : w3.cell? ⟨gb120, 0, none⟩ = some (.slice A0_0 l0_0.length c0_0) := (blk_cell BK120.out 0).trans rfl
    have hcz7_1 : w3.cell? ⟨gb120, 1, none⟩ = some (.slice A0_1 l0_1.length c0_1) := (blk_cell BK120.out 1).trans rfl
    have hfz7_0 := blk_frozen BK120.out 0
    have hfz7_1 := blk_frozen BK120.out 1
    go_wp2
    go_meet
    case rel => exact ⟨_, (true), spec_IsSorts.a7, H', ⟨by first | omega | exact Nat.le_refl _⟩, ⟨spec_IsSorts.a4⟩, ⟨spec_IsSorts.a0⟩⟩
   ·rw [if_neg c6] at H
    have c6b0 : decide (8 < (l0_0.length : Int)) = false := decide_eq_false c6
    have c6b1 : decide (8 < l0_0.length) = false := decide_eq_false (by omega)
    clear c6
    have H' := Aside0.mk H
    clear H
    have hcz8_0 : w3.cell? ⟨gb120, 0, none⟩ = some (.slice A0_0 l0_0.length c0_0) := (blk_cell BK120.out 0).trans rfl
    have hcz8_1 : w3.cell? ⟨gb120, 1, none⟩ = some (.slice A0_1 l0_1.length c0_1) := (blk_cell BK120.out 1).trans rfl
    have hfz8_0 := blk_frozen BK120.out 0
    have hfz8_1 := blk_frozen BK120.out 1
    go_wp2
    go_meet
    case rel => exact ⟨_, (decide ((l0_1.length : Int) > 16)), spec_IsSorts.a7, H', ⟨by first | omega | exact Nat.le_refl _⟩, ⟨spec_IsSorts.a4⟩, ⟨spec_IsSorts.a0⟩⟩
 case rest =>
  clear HC2
  try clear c1
  try clear p2
  try clear c4
  try clear c4b0
  try clear c4b1
  try clear c6
  try clear c6b0
  try clear c6b1
  try clear hcz5_0
  try clear hcz5_1
  try clear hcz7_0
  try clear hcz7_1
  try clear hcz8_0
  try clear hcz8_1
  try clear hfz5_0
  try clear hfz5_1
  try clear hfz7_0
  try clear hfz7_1
  try clear hfz8_0
  try clear hfz8_1
  obtain ⟨kq, x23_1, rfl, HA, HJ1, BK120, HB⟩ := hcut
  cases kq with
  | zero => exact absurd HA.out (by simp [spec_IsSorts.j0])
  | succ kj1 =>
   have H := HA.out
   clear HA
   simp only [spec_IsSorts.j0] at H
   by_cases c9 : x23_1 = true
   ·subst c9
    have H1 : (some false) = some r := by rw [if_pos rfl] at H; exact H
    clear H
    have H := H1
    clear H1
    obtain rfl := Option.some.inj H
    go_wp2
    go_ret
    exact ⟨spec_IsSorts.a6, spec_IsSorts.a0⟩
   ·replace c9 := Bool.eq_false_iff.mpr c9
    subst c9
    have H1 : (spec_IsSorts.l0 kj1 0 l0_0 l0_1) = some r := by rw [if_neg (show ¬ (false = true) by decide)] at H; exact H
    clear H
    have H := H1
    clear H1
    have H' := Aside0.mk H
    clear H
    go_wp2
    go_loopg [3] kj1 (fun kq v3 w' => ∃ (x3_2 : Int), v3 = .int .i64 x3_2 ∧ Aside0 (spec_IsSorts.l0 kq x3_2 l0_0 l0_1 = some r) ∧ Aside0 (kq ≤ kj1) ∧ Aside0 (w'.heap[gb120]? = some (.cells #[(.slice A0_0 l0_0.length c0_0), (.slice A0_1 l0_1.length c0_1)] 30 (0, 0))) ∧ Aside0 (Below w.heap.size w w'))
    case atStart => exact ⟨(0), spec_IsSorts.a7, H', ⟨Nat.le_refl _⟩, ⟨spec_IsSorts.a4⟩, ⟨spec_IsSorts.a0⟩⟩
    case round =>
     clear H'
     try clear c1
     try clear p2
     try clear c4
     try clear c4b0
     try clear c4b1
     try clear c6
     try clear c6b0
     try clear c6b1
     try clear c9
     try clear hcz5_0
     try clear hcz5_1
     try clear hcz7_0
     try clear hcz7_1
     try clear hcz8_0
     try clear hcz8_1
     try clear hfz5_0
     try clear hfz5_1
     try clear hfz7_0
     try clear hfz7_1
     try clear hfz8_0
     try clear hfz8_1
     try clear p2
     obtain ⟨x3_2, rfl, HA, HK2, BK120, HB⟩ := hrel
     cases gk with
     | zero => exact absurd HA.out (by simp [spec_IsSorts.l0])
     | succ k2 =>
      have H := HA.out
      clear HA
      simp only [spec_IsSorts.l0] at H
      by_cases c10 : x3_2 < (l0_0.length : Int)
      ·rw [if_pos c10] at H
       have c10b0 : decide (x3_2 < (l0_0.length : Int)) = true := decide_eq_true c10
       clear c10
       by_cases c11 : 0 ≤ x3_2
       ·rw [if_pos c11] at H
        have c11b0 : decide (0 ≤ x3_2) = true := decide_eq_true c11
        clear c11
        replace H := Option.bind_eq_some_iff.mp H
        obtain ⟨t122, A120, H⟩ := H
        replace H : (if t122 = true then (if x3_2 ≤ (l0_0.length : Int) then ((spec_l1Has.f k2 (l0_0.take (x3_2 : Int).toNat) (rdOf ByteArray.empty l0_0 x3_2)).bind fun t125 => (if t125 = true then (some false) else (spec_IsSorts.l0 k2 (wrap64 (x3_2 + 1)) l0_0 l0_1))) else (none)) else (some false)) = some r := H
        have A12 := Aside0.mk A120
        clear A120
        by_cases c13 : t122 = true
        ·subst c13
         have H1 : (if x3_2 ≤ (l0_0.length : Int) then ((spec_l1Has.f k2 (l0_0.take (x3_2 : Int).toNat) (rdOf ByteArray.empty l0_0 x3_2)).bind fun t125 => (if t125 = true then (some false) else (spec_IsSorts.l0 k2 (wrap64 (x3_2 + 1)) l0_0 l0_1))) else (none)) = some r := by rw [if_pos rfl] at H; exact H
         clear H
         have H := H1
         clear H1
         have c14b0 := eq_true (of_decide_eq_true spec_IsSorts.a1 : 0 ≤ x3_2)
         by_cases c15 : x3_2 ≤ (l0_0.length : Int)
         ·rw [if_pos c15] at H
          have c15b0 := eq_true c15
          have c15b1 : decide (x3_2 ≤ (l0_0.length : Int)) = true := decide_eq_true c15
          clear c15
          replace H := Option.bind_eq_some_iff.mp H
          obtain ⟨t125, A160, H⟩ := H
          replace H : (if t125 = true then (some false) else (spec_IsSorts.l0 k2 (wrap64 (x3_2 + 1)) l0_0 l0_1)) = some r := H
          have A16 := Aside0.mk A160
          clear A160
          by_cases c17 : t125 = true
          ·subst c17
           have H1 : (some false) = some r := by rw [if_pos rfl] at H; exact H
           clear H
           have H := H1
           clear H1
           obtain rfl := Option.some.inj H
           have hcz18_0 : wr.cell? ⟨gb120, 0, none⟩ = some (.slice A0_0 l0_0.length c0_0) := (blk_cell BK120.out 0).trans rfl
           have hcz18_1 : wr.cell? ⟨gb120, 1, none⟩ = some (.slice A0_1 l0_1.length c0_1) := (blk_cell BK120.out 1).trans rfl
           have hfz18_0 := blk_frozen BK120.out 0
           have hfz18_1 := blk_frozen BK120.out 1
           try go_wp2
           have n0_ := Aside0.mk (blk_drew BK120.out)
           have n1_ := Aside0.mk (below_drew1 HB.out)
           clear BK120
           clear HB
           have BK120 := n0_
           have HB := n1_
           clear n0_ n1_
           have p121 : 0 ≤ (x3_2 : Int) := of_decide_eq_true spec_IsSorts.a1
           have q121 : x3_2 < (l0_0.length : Int) := of_decide_eq_true spec_IsSorts.a1
           obtain ⟨ad121, e121, hx121_0⟩ := Kd.at_string HR0_0.out x3_2 p121 q121
           have hw121_0 := hx121_0
           cases e121
           replace hx121_0 := (HB.out.cell (World.block_lt_of_cell? w _ hx121_0)).trans hx121_0
           replace p121 := eq_true p121
           replace q121 := eq_true q121
           have p124 : 0 ≤ (x3_2 : Int) := of_decide_eq_true spec_IsSorts.a1
           have q124 : x3_2 < (l0_0.length : Int) := of_decide_eq_true spec_IsSorts.a1
           obtain ⟨ad124, e124, hx124_0⟩ := Kd.at_string HR0_0.out x3_2 p124 q124
           have hw124_0 := hx124_0
           obtain rfl : ad121 = ad124 := (by injection e124)
           replace hx124_0 := (HB.out.cell (World.block_lt_of_cell? w _ hx124_0)).trans hx124_0
           replace p124 := eq_true p124
           replace q124 := eq_true q124
           refine start_ (n := 19) (S := fun w' => w'.cell? ⟨gb120, 0, none⟩ = some (.slice (some ad121) l0_0.length c0_0) ∧ w'.cell? ⟨gb120, 1, none⟩ = some (.slice A0_1 l0_1.length c0_1) ∧ w'.cell? (ad121.add (x3_2).toNat) = some (.string (rdOf ByteArray.empty l0_0 x3_2)) ∧ w'.cell? (ad121.add (x3_2).toNat) = some (.string (rdOf ByteArray.empty l0_0 x3_2))) (ds := []) #[false, false, false, false, false, false, false, false, false, false, false, false, false, false, false, false, false, false, false] spec_IsSorts.a11 rfl rfl ⟨(blk_cell BK120.out 0).trans rfl, (blk_cell BK120.out 1).trans rfl, ((HB.out.cell (World.block_lt_of_cell? w _ hw121_0)).trans hw121_0), ((HB.out.cell (World.block_lt_of_cell? w _ hw124_0)).trans hw124_0)⟩ (fun hHeld => ?_); refine with_tabW spec_IsSorts.tab6 spec_IsSorts.bits6 (fun HT_ HW_ => ?_)
           generalize wr.drew = w19 at BK120 HB hx121_0 hx124_0 hHeld ⊢
           refine pureS 0 31 HT_ rfl rfl ?_
           refine pureS 2 33 HT_ rfl rfl ?_
           refine takeS 1 32 HT_ HW_ rfl rfl hHeld ?_ spec_IsSorts.a5
           refine pureS 3 34 HT_ rfl rfl ?_
           refine takeS 4 35 HT_ HW_ rfl rfl hHeld ?_ spec_IsSorts.a5
           refine one_ (i := 5) (N := some 36) #[true, true, true, true, true, true, false, false, false, false, false, false, false, false, false, false, false, false, false] rfl rfl (one_of HT_.out spec_IsSorts.a11) (by decide) (fun K hK => ?_)
           refine goes_ Try.func38 spec_IsSorts.a11 rfl #[.string (rdOf ByteArray.empty l0_0 x3_2)] (by rfl) rfl rfl spec_IsSorts.a2 ?_
           with_reducible refine (spec_IsName.calls k2 (rdOf ByteArray.empty l0_0 x3_2) true _ A12.out).mono ?_
           rintro e w' ⟨rfl, ⟨nd, rfl⟩⟩
           refine ⟨_, rfl, ?_⟩
           obtain ⟨i020, hi020, _, hsz20, _⟩ := info_parts info9
           obtain ⟨hcut20, hA20, hC20⟩ := print_take_of (P := Try.prog) Value.string (⟨#[]⟩ : ByteArray) 22 9 .i64 Try.underlying22 hi020 hsz20 (some ad121) c0_0 l0_0 x3_2 (of_decide_eq_true spec_IsSorts.a1) (of_decide_eq_true spec_IsSorts.a1) HC0_0.out
           have HR123 := Aside0.mk (Kd.C_of_reads (h1 := fun _ => rfl) (hA20 _ (Kd.reads_of_C HR0_0.out)))
           have HC123 := Aside0.mk hC20
           clear hA20 hC20 hi020 hsz20
           refine hK.out _ _ ⟨(blk_cell BK120.out 0).trans rfl, (blk_cell BK120.out 1).trans rfl, ((HB.out.cell (World.block_lt_of_cell? w _ hw121_0)).trans hw121_0), ((HB.out.cell (World.block_lt_of_cell? w _ hw124_0)).trans hw124_0)⟩ (fun hHeld => ?_)
           clear hK K
           refine norm_ (a' := ?_) ?_ ?_
           rotate_left
           ·show Act.put _ (some 36) _ = _
            simp only [Act.put, List.setIfInBounds_toArray, List.set_cons_zero, List.set_cons_succ, i64_w, i32_w]
            rfl
           refine pureS 6 37 HT_ rfl rfl ?_
           refine pureS 7 38 HT_ rfl rfl ?_
           refine pureS 8 39 HT_ rfl rfl ?_
           refine pureS 10 41 HT_ rfl rfl ?_
           refine pureS 12 43 HT_ rfl rfl ?_
           refine pureS 14 45 HT_ rfl rfl ?_
           refine takeS 9 40 HT_ HW_ rfl rfl hHeld ?_ spec_IsSorts.a5
           refine pureS 11 42 HT_ rfl rfl ?_
           refine takeS 13 44 HT_ HW_ rfl rfl hHeld ?_ spec_IsSorts.a5
           refine pureS 15 46 HT_ rfl rfl ?_
           refine takeS 16 47 HT_ HW_ rfl rfl hHeld ?_ spec_IsSorts.a5
           refine one_ (i := 17) (N := some 48) #[true, true, true, true, true, true, true, true, true, true, true, true, true, true, true, true, true, true, false] rfl rfl (one_of HT_.out spec_IsSorts.a11) (by decide) (fun K hK => ?_)
           refine goes_ Try.func39 spec_IsSorts.a11 rfl #[.slice (some ad121) (l0_0.take (x3_2 : Int).toNat).length c0_0, .string (rdOf ByteArray.empty l0_0 x3_2)] (by rfl) rfl rfl spec_IsSorts.a8 ?_
           with_reducible refine (spec_l1Has.calls k2 _ _ (l0_0.take (x3_2 : Int).toNat) (rdOf ByteArray.empty l0_0 x3_2) true _ ?side1 ?side2 A16.out).mono ?_
           (case side1 => repeat (first | exact (Kd.C_below HR123.out spec_IsSorts.a0) | (with_reducible refine Kd.C_alloc ?_ _) | (with_reducible refine Kd.C_drewN ?_ _) | (with_reducible refine Kd.C_drew ?_)))
           (case side2 => exact HC123.out)
           rintro e w' ⟨rfl, ⟨nd, rfl⟩⟩
           refine ⟨_, rfl, ?_⟩
           refine hK.out _ _ ⟨(blk_cell BK120.out 0).trans rfl, (blk_cell BK120.out 1).trans rfl, ((HB.out.cell (World.block_lt_of_cell? w _ hw121_0)).trans hw121_0), ((HB.out.cell (World.block_lt_of_cell? w _ hw124_0)).trans hw124_0)⟩ (fun hHeld => ?_)
           clear hK K
           refine norm_ (a' := ?_) ?_ ?_
           rotate_left
           ·show Act.put _ (some 48) _ = _
            simp only [Act.put, List.setIfInBounds_toArray, List.set_cons_zero, List.set_cons_succ, i64_w, i32_w]
            rfl
           refine pureS 18 49 HT_ rfl rfl ?_
           refine done_ (done_of HT_.out spec_IsSorts.a11) ?_
           try go_wp2
           go_ret
           exact ⟨spec_IsSorts.a6, spec_IsSorts.a0⟩
          ·replace c17 := Bool.eq_false_iff.mpr c17
           subst c17
           have H1 : (spec_IsSorts.l0 k2 (wrap64 (x3_2 + 1)) l0_0 l0_1) = some r := by rw [if_neg (show ¬ (false = true) by decide)] at H; exact H
           clear H
           have H := H1
           clear H1
           have H' := Aside0.mk H
           clear H
           have hcz21_0 : wr.cell? ⟨gb120, 0, none⟩ = some (.slice A0_0 l0_0.length c0_0) := (blk_cell BK120.out 0).trans rfl
           have hcz21_1 : wr.cell? ⟨gb120, 1, none⟩ = some (.slice A0_1 l0_1.length c0_1) := (blk_cell BK120.out 1).trans rfl
           have hfz21_0 := blk_frozen BK120.out 0
           have hfz21_1 := blk_frozen BK120.out 1
           try go_wp2
           have n0_ := Aside0.mk (blk_drew BK120.out)
           have n1_ := Aside0.mk (below_drew1 HB.out)
           clear BK120
           clear HB
           have BK120 := n0_
           have HB := n1_
           clear n0_ n1_
           have p121 : 0 ≤ (x3_2 : Int) := of_decide_eq_true spec_IsSorts.a1
           have q121 : x3_2 < (l0_0.length : Int) := of_decide_eq_true spec_IsSorts.a1
           obtain ⟨ad121, e121, hx121_0⟩ := Kd.at_string HR0_0.out x3_2 p121 q121
           have hw121_0 := hx121_0
           cases e121
           replace hx121_0 := (HB.out.cell (World.block_lt_of_cell? w _ hx121_0)).trans hx121_0
           replace p121 := eq_true p121
           replace q121 := eq_true q121
           have p124 : 0 ≤ (x3_2 : Int) := of_decide_eq_true spec_IsSorts.a1
           have q124 : x3_2 < (l0_0.length : Int) := of_decide_eq_true spec_IsSorts.a1
           obtain ⟨ad124, e124, hx124_0⟩ := Kd.at_string HR0_0.out x3_2 p124 q124
           have hw124_0 := hx124_0
           obtain rfl : ad121 = ad124 := (by injection e124)
           replace hx124_0 := (HB.out.cell (World.block_lt_of_cell? w _ hx124_0)).trans hx124_0
           replace p124 := eq_true p124
           replace q124 := eq_true q124
           refine start_ (n := 19) (S := fun w' => w'.cell? ⟨gb120, 0, none⟩ = some (.slice (some ad121) l0_0.length c0_0) ∧ w'.cell? ⟨gb120, 1, none⟩ = some (.slice A0_1 l0_1.length c0_1) ∧ w'.cell? (ad121.add (x3_2).toNat) = some (.string (rdOf ByteArray.empty l0_0 x3_2)) ∧ w'.cell? (ad121.add (x3_2).toNat) = some (.string (rdOf ByteArray.empty l0_0 x3_2))) (ds := []) #[false, false, false, false, false, false, false, false, false, false, false, false, false, false, false, false, false, false, false] spec_IsSorts.a11 rfl rfl ⟨(blk_cell BK120.out 0).trans rfl, (blk_cell BK120.out 1).trans rfl, ((HB.out.cell (World.block_lt_of_cell? w _ hw121_0)).trans hw121_0), ((HB.out.cell (World.block_lt_of_cell? w _ hw124_0)).trans hw124_0)⟩ (fun hHeld => ?_); refine with_tabW spec_IsSorts.tab6 spec_IsSorts.bits6 (fun HT_ HW_ => ?_)
           generalize wr.drew = w22 at BK120 HB hx121_0 hx124_0 hHeld ⊢
           refine pureS 0 31 HT_ rfl rfl ?_
           refine pureS 2 33 HT_ rfl rfl ?_
           refine takeS 1 32 HT_ HW_ rfl rfl hHeld ?_ spec_IsSorts.a5
           refine pureS 3 34 HT_ rfl rfl ?_
           refine takeS 4 35 HT_ HW_ rfl rfl hHeld ?_ spec_IsSorts.a5
           refine one_ (i := 5) (N := some 36) #[true, true, true, true, true, true, false, false, false, false, false, false, false, false, false, false, false, false, false] rfl rfl (one_of HT_.out spec_IsSorts.a11) (by decide) (fun K hK => ?_)
           refine goes_ Try.func38 spec_IsSorts.a11 rfl #[.string (rdOf ByteArray.empty l0_0 x3_2)] (by rfl) rfl rfl spec_IsSorts.a2 ?_
           with_reducible refine (spec_IsName.calls k2 (rdOf ByteArray.empty l0_0 x3_2) true _ A12.out).mono ?_
           rintro e w' ⟨rfl, ⟨nd, rfl⟩⟩
           refine ⟨_, rfl, ?_⟩
           obtain ⟨i023, hi023, _, hsz23, _⟩ := info_parts info9
           obtain ⟨hcut23, hA23, hC23⟩ := print_take_of (P := Try.prog) Value.string (⟨#[]⟩ : ByteArray) 22 9 .i64 Try.underlying22 hi023 hsz23 (some ad121) c0_0 l0_0 x3_2 (of_decide_eq_true spec_IsSorts.a1) (of_decide_eq_true spec_IsSorts.a1) HC0_0.out
           have HR123 := Aside0.mk (Kd.C_of_reads (h1 := fun _ => rfl) (hA23 _ (Kd.reads_of_C HR0_0.out)))
           have HC123 := Aside0.mk hC23
           clear hA23 hC23 hi023 hsz23
           refine hK.out _ _ ⟨(blk_cell BK120.out 0).trans rfl, (blk_cell BK120.out 1).trans rfl, ((HB.out.cell (World.block_lt_of_cell? w _ hw121_0)).trans hw121_0), ((HB.out.cell (World.block_lt_of_cell? w _ hw124_0)).trans hw124_0)⟩ (fun hHeld => ?_)
           clear hK K
           refine norm_ (a' := ?_) ?_ ?_
           rotate_left
           ·show Act.put _ (some 36) _ = _
            simp only [Act.put, List.setIfInBounds_toArray, List.set_cons_zero, List.set_cons_succ, i64_w, i32_w]
            rfl
           refine pureS 6 37 HT_ rfl rfl ?_
           refine pureS 7 38 HT_ rfl rfl ?_
           refine pureS 8 39 HT_ rfl rfl ?_
           refine pureS 10 41 HT_ rfl rfl ?_
           refine pureS 12 43 HT_ rfl rfl ?_
           refine pureS 14 45 HT_ rfl rfl ?_
           refine takeS 9 40 HT_ HW_ rfl rfl hHeld ?_ spec_IsSorts.a5
           refine pureS 11 42 HT_ rfl rfl ?_
           refine takeS 13 44 HT_ HW_ rfl rfl hHeld ?_ spec_IsSorts.a5
           refine pureS 15 46 HT_ rfl rfl ?_
           refine takeS 16 47 HT_ HW_ rfl rfl hHeld ?_ spec_IsSorts.a5
           refine one_ (i := 17) (N := some 48) #[true, true, true, true, true, true, true, true, true, true, true, true, true, true, true, true, true, true, false] rfl rfl (one_of HT_.out spec_IsSorts.a11) (by decide) (fun K hK => ?_)
           refine goes_ Try.func39 spec_IsSorts.a11 rfl #[.slice (some ad121) (l0_0.take (x3_2 : Int).toNat).length c0_0, .string (rdOf ByteArray.empty l0_0 x3_2)] (by rfl) rfl rfl spec_IsSorts.a8 ?_
           with_reducible refine (spec_l1Has.calls k2 _ _ (l0_0.take (x3_2 : Int).toNat) (rdOf ByteArray.empty l0_0 x3_2) false _ ?side1 ?side2 A16.out).mono ?_
           (case side1 => repeat (first | exact (Kd.C_below HR123.out spec_IsSorts.a0) | (with_reducible refine Kd.C_alloc ?_ _) | (with_reducible refine Kd.C_drewN ?_ _) | (with_reducible refine Kd.C_drew ?_)))
           (case side2 => exact HC123.out)
           rintro e w' ⟨rfl, ⟨nd, rfl⟩⟩
           refine ⟨_, rfl, ?_⟩
           refine hK.out _ _ ⟨(blk_cell BK120.out 0).trans rfl, (blk_cell BK120.out 1).trans rfl, ((HB.out.cell (World.block_lt_of_cell? w _ hw121_0)).trans hw121_0), ((HB.out.cell (World.block_lt_of_cell? w _ hw124_0)).trans hw124_0)⟩ (fun hHeld => ?_)
           clear hK K
           refine norm_ (a' := ?_) ?_ ?_
           rotate_left
           ·show Act.put _ (some 48) _ = _
            simp only [Act.put, List.setIfInBounds_toArray, List.set_cons_zero, List.set_cons_succ, i64_w, i32_w]
            rfl
           refine pureS 18 49 HT_ rfl rfl ?_
           refine done_ (done_of HT_.out spec_IsSorts.a11) ?_
           try go_wp2
           go_roundg k2
           case measure => have := HJ1.out; have := HK2.out; omega
           case rel => exact ⟨(wrap64 (x3_2 + 1)), spec_IsSorts.a7, H', ⟨by have := HJ1.out; have := HK2.out; omega⟩, ⟨spec_IsSorts.a4⟩, ⟨spec_IsSorts.a0⟩⟩
         ·rw [if_neg c15] at H
          exact absurd H (by simp)
        ·replace c13 := Bool.eq_false_iff.mpr c13
         subst c13
         have H1 : (some false) = some r := by rw [if_neg (show ¬ (false = true) by decide)] at H; exact H
         clear H
         have H := H1
         clear H1
         obtain rfl := Option.some.inj H
         have hcz24_0 : wr.cell? ⟨gb120, 0, none⟩ = some (.slice A0_0 l0_0.length c0_0) := (blk_cell BK120.out 0).trans rfl
         have hcz24_1 : wr.cell? ⟨gb120, 1, none⟩ = some (.slice A0_1 l0_1.length c0_1) := (blk_cell BK120.out 1).trans rfl
         have hfz24_0 := blk_frozen BK120.out 0
         have hfz24_1 := blk_frozen BK120.out 1
         try go_wp2
         have n0_ := Aside0.mk (blk_drew BK120.out)
         have n1_ := Aside0.mk (below_drew1 HB.out)
         clear BK120
         clear HB
         have BK120 := n0_
         have HB := n1_
         clear n0_ n1_
         have p121 : 0 ≤ (x3_2 : Int) := of_decide_eq_true spec_IsSorts.a1
         have q121 : x3_2 < (l0_0.length : Int) := of_decide_eq_true spec_IsSorts.a1
         obtain ⟨ad121, e121, hx121_0⟩ := Kd.at_string HR0_0.out x3_2 p121 q121
         have hw121_0 := hx121_0
         cases e121
         replace hx121_0 := (HB.out.cell (World.block_lt_of_cell? w _ hx121_0)).trans hx121_0
         replace p121 := eq_true p121
         replace q121 := eq_true q121
         refine start_ (n := 19) (S := fun w' => w'.cell? ⟨gb120, 0, none⟩ = some (.slice (some ad121) l0_0.length c0_0) ∧ w'.cell? ⟨gb120, 1, none⟩ = some (.slice A0_1 l0_1.length c0_1) ∧ w'.cell? (ad121.add (x3_2).toNat) = some (.string (rdOf ByteArray.empty l0_0 x3_2))) (ds := []) #[false, false, false, false, false, false, false, false, false, false, false, false, false, false, false, false, false, false, false] spec_IsSorts.a11 rfl rfl ⟨(blk_cell BK120.out 0).trans rfl, (blk_cell BK120.out 1).trans rfl, ((HB.out.cell (World.block_lt_of_cell? w _ hw121_0)).trans hw121_0)⟩ (fun hHeld => ?_); refine with_tabW spec_IsSorts.tab6 spec_IsSorts.bits6 (fun HT_ HW_ => ?_)
         generalize wr.drew = w25 at BK120 HB hx121_0 hHeld ⊢
         refine pureS 0 31 HT_ rfl rfl ?_
         refine pureS 2 33 HT_ rfl rfl ?_
         refine takeS 1 32 HT_ HW_ rfl rfl hHeld ?_ (by rintro w' ⟨s0, s1, s2⟩; go_simp; with_reducible rfl)
         refine pureS 3 34 HT_ rfl rfl ?_
         refine takeS 4 35 HT_ HW_ rfl rfl hHeld ?_ (by rintro w' ⟨s0, s1, s2⟩; go_simp; with_reducible rfl)
         refine one_ (i := 5) (N := some 36) #[true, true, true, true, true, true, false, false, false, false, false, false, false, false, false, false, false, false, false] rfl rfl (one_of HT_.out spec_IsSorts.a11) (by decide) (fun K hK => ?_)
         refine goes_ Try.func38 spec_IsSorts.a11 rfl #[.string (rdOf ByteArray.empty l0_0 x3_2)] (by rfl) rfl rfl spec_IsSorts.a2 ?_
         with_reducible refine (spec_IsName.calls k2 (rdOf ByteArray.empty l0_0 x3_2) false _ A12.out).mono ?_
         rintro e w' ⟨rfl, ⟨nd, rfl⟩⟩
         refine ⟨_, rfl, ?_⟩
         refine hK.out _ _ ⟨(blk_cell BK120.out 0).trans rfl, (blk_cell BK120.out 1).trans rfl, ((HB.out.cell (World.block_lt_of_cell? w _ hw121_0)).trans hw121_0)⟩ (fun hHeld => ?_)
         clear hK K
         refine norm_ (a' := ?_) ?_ ?_
         rotate_left
         ·show Act.put _ (some 36) _ = _
          simp only [Act.put, List.setIfInBounds_toArray, List.set_cons_zero, List.set_cons_succ, i64_w, i32_w]
          rfl
         refine pureS 6 37 HT_ rfl rfl ?_
         refine pureS 7 38 HT_ rfl rfl ?_
         refine undS 8 39 HT_ rfl rfl ?_
         refine undS 9 40 HT_ rfl rfl ?_
         refine undS 10 41 HT_ rfl rfl ?_
         refine undS 11 42 HT_ rfl rfl ?_
         refine undS 12 43 HT_ rfl rfl ?_
         refine undS 13 44 HT_ rfl rfl ?_
         refine undS 14 45 HT_ rfl rfl ?_
         refine undS 15 46 HT_ rfl rfl ?_
         refine undS 16 47 HT_ rfl rfl ?_
         refine undS 17 48 HT_ rfl rfl ?_
         refine pureS 18 49 HT_ rfl rfl ?_
         refine done_ (done_of HT_.out spec_IsSorts.a11) ?_
         try go_wp2
         go_ret
         exact ⟨spec_IsSorts.a6, spec_IsSorts.a0⟩
       ·rw [if_neg c11] at H
        exact absurd H (by simp)
      ·rw [if_neg c10] at H
       have c10b0 : decide (x3_2 < (l0_0.length : Int)) = false := decide_eq_false c10
       clear c10
       have H' := Aside0.mk H
       clear H
       have hcz26_0 : wr.cell? ⟨gb120, 0, none⟩ = some (.slice A0_0 l0_0.length c0_0) := (blk_cell BK120.out 0).trans rfl
       have hcz26_1 : wr.cell? ⟨gb120, 1, none⟩ = some (.slice A0_1 l0_1.length c0_1) := (blk_cell BK120.out 1).trans rfl
       have hfz26_0 := blk_frozen BK120.out 0
       have hfz26_1 := blk_frozen BK120.out 1
       go_wp2
       go_loopg [4] k2 (fun kq v4 w' => ∃ (x4_3 : Int), v4 = .int .i64 x4_3 ∧ Aside0 (spec_IsSorts.l1 kq x4_3 l0_0 l0_1 = some r) ∧ Aside0 (kq ≤ k2) ∧ Aside0 (w'.heap[gb120]? = some (.cells #[(.slice A0_0 l0_0.length c0_0), (.slice A0_1 l0_1.length c0_1)] 30 (0, 0))) ∧ Aside0 (Below w.heap.size w w'))
       case atStart => exact ⟨(0), spec_IsSorts.a7, H', ⟨Nat.le_refl _⟩, ⟨spec_IsSorts.a4⟩, ⟨spec_IsSorts.a0⟩⟩
       case round =>
        clear H'
        try clear c1
        try clear p1
        try clear q1
        try clear hx1
        try clear p2
        try clear c3
        try clear p6
        try clear c10
        try clear c10b0
        try clear c11
        try clear p12
        try clear q12
        try clear hx12
        try clear c13
        try clear c14
        try clear c14b0
        try clear c15
        try clear c15b0
        try clear c15b1
        try clear c17
        try clear hcz18_0
        try clear hcz18_1
        try clear hcz21_0
        try clear hcz21_1
        try clear hcz24_0
        try clear hcz24_1
        try clear hcz26_0
        try clear hcz26_1
        try clear hfz18_0
        try clear hfz18_1
        try clear hfz21_0
        try clear hfz21_1
        try clear hfz24_0
        try clear hfz24_1
        try clear hfz26_0
        try clear hfz26_1
        try clear hx121_0
        try clear hx124_0
        try clear p121
        try clear p124
        try clear q121
        try clear q124
        obtain ⟨x4_3, rfl, HA, HK3, BK120, HB⟩ := hrel
        cases gk with
        | zero => exact absurd HA.out (by simp [spec_IsSorts.l1])
        | succ k3 =>
         have H := HA.out
         clear HA
         simp only [spec_IsSorts.l1] at H
         by_cases c27 : x4_3 < (l0_1.length : Int)
         ·rw [if_pos c27] at H
          have c27b0 : decide (x4_3 < (l0_1.length : Int)) = true := decide_eq_true c27
          clear c27
          by_cases c28 : 0 ≤ x4_3
          ·rw [if_pos c28] at H
           have c28b0 : decide (0 ≤ x4_3) = true := decide_eq_true c28
           clear c28
           replace H := Option.bind_eq_some_iff.mp H
           obtain ⟨t127, A290, H⟩ := H
           replace H : (if t127 = true then ((spec_l1In.f ((rd_T52 l0_1 x4_3).f1) 0 (wrap64 ((l0_0.length : Int) - 1))).bind fun t129 => (if t129 = true then (if ((rd_T52 l0_1 x4_3).f0) = ((rd_T52 l0_1 x4_3).f1) then (some false) else (spec_IsSorts.l1 k3 (wrap64 (x4_3 + 1)) l0_0 l0_1)) else (some false))) else (some false)) = some r := H
           have A29 := Aside0.mk A290
           clear A290
           by_cases c30 : t127 = true
           ·subst c30
            have H1 : ((spec_l1In.f ((rd_T52 l0_1 x4_3).f1) 0 (wrap64 ((l0_0.length : Int) - 1))).bind fun t129 => (if t129 = true then (if ((rd_T52 l0_1 x4_3).f0) = ((rd_T52 l0_1 x4_3).f1) then (some false) else (spec_IsSorts.l1 k3 (wrap64 (x4_3 + 1)) l0_0 l0_1)) else (some false))) = some r := by rw [if_pos rfl] at H; exact H
            clear H
            have H := H1
            clear H1
            replace H := Option.bind_eq_some_iff.mp H
            obtain ⟨t129, A310, H⟩ := H
            replace H : (if t129 = true then (if ((rd_T52 l0_1 x4_3).f0) = ((rd_T52 l0_1 x4_3).f1) then (some false) else (spec_IsSorts.l1 k3 (wrap64 (x4_3 + 1)) l0_0 l0_1)) else (some false)) = some r := H
            have A31 := Aside0.mk A310
            clear A310
            by_cases c32 : t129 = true
            ·subst c32
             have H1 : (if ((rd_T52 l0_1 x4_3).f0) = ((rd_T52 l0_1 x4_3).f1) then (some false) else (spec_IsSorts.l1 k3 (wrap64 (x4_3 + 1)) l0_0 l0_1)) = some r := by rw [if_pos rfl] at H; exact H
             clear H
             have H := H1
             clear H1
             by_cases c33 : ((rd_T52 l0_1 x4_3).f0) = ((rd_T52 l0_1 x4_3).f1)
             ·rw [if_pos c33] at H
              have c33b0 : (((rd_T52 l0_1 x4_3).f0) == ((rd_T52 l0_1 x4_3).f1)) = true := beq_iff_eq.mpr c33
              have c33b1 : (((rd_T52 l0_1 x4_3).f0) != ((rd_T52 l0_1 x4_3).f1)) = false := bne_eq_false_iff_eq.mpr c33
              clear c33
              obtain rfl := Option.some.inj H
              have hcz34_0 : wr.cell? ⟨gb120, 0, none⟩ = some (.slice A0_0 l0_0.length c0_0) := (blk_cell BK120.out 0).trans rfl
              have hcz34_1 : wr.cell? ⟨gb120, 1, none⟩ = some (.slice A0_1 l0_1.length c0_1) := (blk_cell BK120.out 1).trans rfl
              have hfz34_0 := blk_frozen BK120.out 0
              have hfz34_1 := blk_frozen BK120.out 1
              try go_wp2
              have n0_ := Aside0.mk (blk_drew BK120.out)
              have n1_ := Aside0.mk (below_drew1 HB.out)
              clear BK120
              clear HB
              have BK120 := n0_
              have HB := n1_
              clear n0_ n1_
              have p126 : 0 ≤ (x4_3 : Int) := of_decide_eq_true spec_IsSorts.a1
              have q126 : x4_3 < (l0_1.length : Int) := of_decide_eq_true spec_IsSorts.a1
              obtain ⟨ad126, e126, hx126_0, hx126_1⟩ := at_T52 HR0_1.out x4_3 p126 q126
              have hw126_1 := hx126_1
              have hw126_0 := hx126_0
              cases e126
              replace hx126_0 := (HB.out.cell (World.block_lt_of_cell? w _ hx126_0)).trans hx126_0
              replace hx126_1 := (HB.out.cell (World.block_lt_of_cell? w _ hx126_1)).trans hx126_1
              replace p126 := eq_true p126
              replace q126 := eq_true q126
              have p128 : 0 ≤ (x4_3 : Int) := of_decide_eq_true spec_IsSorts.a1
              have q128 : x4_3 < (l0_1.length : Int) := of_decide_eq_true spec_IsSorts.a1
              obtain ⟨ad128, e128, hx128_0, hx128_1⟩ := at_T52 HR0_1.out x4_3 p128 q128
              have hw128_1 := hx128_1
              have hw128_0 := hx128_0
              obtain rfl : ad126 = ad128 := (by injection e128)
              replace hx128_0 := (HB.out.cell (World.block_lt_of_cell? w _ hx128_0)).trans hx128_0
              replace hx128_1 := (HB.out.cell (World.block_lt_of_cell? w _ hx128_1)).trans hx128_1
              replace p128 := eq_true p128
              replace q128 := eq_true q128
              have p130 : 0 ≤ (x4_3 : Int) := of_decide_eq_true spec_IsSorts.a1
              have q130 : x4_3 < (l0_1.length : Int) := of_decide_eq_true spec_IsSorts.a1
              obtain ⟨ad130, e130, hx130_0, hx130_1⟩ := at_T52 HR0_1.out x4_3 p130 q130
              have hw130_1 := hx130_1
              have hw130_0 := hx130_0
              obtain rfl : ad126 = ad130 := (by injection e130)
              replace hx130_0 := (HB.out.cell (World.block_lt_of_cell? w _ hx130_0)).trans hx130_0
              replace hx130_1 := (HB.out.cell (World.block_lt_of_cell? w _ hx130_1)).trans hx130_1
              replace p130 := eq_true p130
              replace q130 := eq_true q130
              have p131 : 0 ≤ (x4_3 : Int) := of_decide_eq_true spec_IsSorts.a1
              have q131 : x4_3 < (l0_1.length : Int) := of_decide_eq_true spec_IsSorts.a1
              obtain ⟨ad131, e131, hx131_0, hx131_1⟩ := at_T52 HR0_1.out x4_3 p131 q131
              have hw131_1 := hx131_1
              have hw131_0 := hx131_0
              obtain rfl : ad126 = ad131 := (by injection e131)
              replace hx131_0 := (HB.out.cell (World.block_lt_of_cell? w _ hx131_0)).trans hx131_0
              replace hx131_1 := (HB.out.cell (World.block_lt_of_cell? w _ hx131_1)).trans hx131_1
              replace p131 := eq_true p131
              replace q131 := eq_true q131
              refine start_ (n := 41) (S := fun w' => w'.cell? ⟨gb120, 0, none⟩ = some (.slice A0_0 l0_0.length c0_0) ∧ w'.cell? ⟨gb120, 1, none⟩ = some (.slice (some ad126) l0_1.length c0_1) ∧ w'.cell? (ad126.add ((x4_3).toNat * 2)) = some (.int .i64 ((rd_T52 l0_1 x4_3).f0)) ∧ w'.cell? ⟨(ad126.add ((x4_3).toNat * 2)).block, (ad126.add ((x4_3).toNat * 2)).off + 1, none⟩ = some (.int .i64 ((rd_T52 l0_1 x4_3).f1)) ∧ w'.cell? (ad126.add ((x4_3).toNat * 2)) = some (.int .i64 ((rd_T52 l0_1 x4_3).f0)) ∧ w'.cell? ⟨(ad126.add ((x4_3).toNat * 2)).block, (ad126.add ((x4_3).toNat * 2)).off + 1, none⟩ = some (.int .i64 ((rd_T52 l0_1 x4_3).f1)) ∧ w'.cell? (ad126.add ((x4_3).toNat * 2)) = some (.int .i64 ((rd_T52 l0_1 x4_3).f0)) ∧ w'.cell? ⟨(ad126.add ((x4_3).toNat * 2)).block, (ad126.add ((x4_3).toNat * 2)).off + 1, none⟩ = some (.int .i64 ((rd_T52 l0_1 x4_3).f1)) ∧ w'.cell? (ad126.add ((x4_3).toNat * 2)) = some (.int .i64 ((rd_T52 l0_1 x4_3).f0)) ∧ w'.cell? ⟨(ad126.add ((x4_3).toNat * 2)).block, (ad126.add ((x4_3).toNat * 2)).off + 1, none⟩ = some (.int .i64 ((rd_T52 l0_1 x4_3).f1))) (ds := []) #[false, false, false, false, false, false, false, false, false, false, false, false, false, false, false, false, false, false, false, false, false, false, false, false, false, false, false, false, false, false, false, false, false, false, false, false, false, false, false, false, false] spec_IsSorts.a11 rfl rfl ⟨(blk_cell BK120.out 0).trans rfl, (blk_cell BK120.out 1).trans rfl, ((HB.out.cell (World.block_lt_of_cell? w _ hw126_0)).trans hw126_0), ((HB.out.cell (World.block_lt_of_cell? w _ hw126_1)).trans hw126_1), ((HB.out.cell (World.block_lt_of_cell? w _ hw128_0)).trans hw128_0), ((HB.out.cell (World.block_lt_of_cell? w _ hw128_1)).trans hw128_1), ((HB.out.cell (World.block_lt_of_cell? w _ hw130_0)).trans hw130_0), ((HB.out.cell (World.block_lt_of_cell? w _ hw130_1)).trans hw130_1), ((HB.out.cell (World.block_lt_of_cell? w _ hw131_0)).trans hw131_0), ((HB.out.cell (World.block_lt_of_cell? w _ hw131_1)).trans hw131_1)⟩ (fun hHeld => ?_); refine with_tabW spec_IsSorts.tab11 spec_IsSorts.bits11 (fun HT_ HW_ => ?_)
              generalize wr.drew = w35 at BK120 HB hx126_0 hx126_1 hx128_0 hx128_1 hx130_0 hx130_1 hx131_0 hx131_1 hHeld ⊢
              refine pureS 0 57 HT_ rfl rfl ?_
              refine pureS 2 59 HT_ rfl rfl ?_
              refine pureS 6 63 HT_ rfl rfl ?_
              refine takeS 1 58 HT_ HW_ rfl rfl hHeld ?_ spec_IsSorts.a3
              refine pureS 3 60 HT_ rfl rfl ?_
              refine pureS 4 61 HT_ rfl rfl ?_
              refine takeS 5 62 HT_ HW_ rfl rfl hHeld ?_ spec_IsSorts.a3
              refine takeS 7 64 HT_ HW_ rfl rfl hHeld ?_ spec_IsSorts.a3
              refine pureS 8 65 HT_ rfl rfl ?_
              refine pureS 9 66 HT_ rfl rfl ?_
              refine one_ (i := 10) (N := some 67) #[true, true, true, true, true, true, true, true, true, true, true, false, false, false, false, false, false, false, false, false, false, false, false, false, false, false, false, false, false, false, false, false, false, false, false, false, false, false, false, false, false] rfl rfl (one_of HT_.out spec_IsSorts.a11) (by decide) (fun K hK => ?_)
              refine goes_ Try.func40 spec_IsSorts.a11 rfl #[.int .i64 ((rd_T52 l0_1 x4_3).f0), .int .i64 0, .int .i64 (wrap64 ((l0_0.length : Int) - 1))] (by rfl) rfl rfl spec_IsSorts.a2 ?_
              with_reducible refine (spec_l1In.calls ((rd_T52 l0_1 x4_3).f0) 0 (wrap64 ((l0_0.length : Int) - 1)) true _ A29.out).mono ?_
              rintro e w' ⟨rfl, ⟨nd, rfl⟩⟩
              refine ⟨_, rfl, ?_⟩
              refine hK.out _ _ ⟨(blk_cell BK120.out 0).trans rfl, (blk_cell BK120.out 1).trans rfl, ((HB.out.cell (World.block_lt_of_cell? w _ hw126_0)).trans hw126_0), ((HB.out.cell (World.block_lt_of_cell? w _ hw126_1)).trans hw126_1), ((HB.out.cell (World.block_lt_of_cell? w _ hw128_0)).trans hw128_0), ((HB.out.cell (World.block_lt_of_cell? w _ hw128_1)).trans hw128_1), ((HB.out.cell (World.block_lt_of_cell? w _ hw130_0)).trans hw130_0), ((HB.out.cell (World.block_lt_of_cell? w _ hw130_1)).trans hw130_1), ((HB.out.cell (World.block_lt_of_cell? w _ hw131_0)).trans hw131_0), ((HB.out.cell (World.block_lt_of_cell? w _ hw131_1)).trans hw131_1)⟩ (fun hHeld => ?_)
              clear hK K
              refine norm_ (a' := ?_) ?_ ?_
              rotate_left
              ·show Act.put _ (some 67) _ = _
               simp only [Act.put, List.setIfInBounds_toArray, List.set_cons_zero, List.set_cons_succ, i64_w, i32_w]
               rfl
              refine pureS 11 68 HT_ rfl rfl ?_
              refine pureS 12 69 HT_ rfl rfl ?_
              refine pureS 13 70 HT_ rfl rfl ?_
              refine pureS 15 72 HT_ rfl rfl ?_
              refine pureS 19 76 HT_ rfl rfl ?_
              refine takeS 14 71 HT_ HW_ rfl rfl hHeld ?_ spec_IsSorts.a3
              refine pureS 16 73 HT_ rfl rfl ?_
              refine pureS 17 74 HT_ rfl rfl ?_
              refine takeS 18 75 HT_ HW_ rfl rfl hHeld ?_ spec_IsSorts.a3
              refine takeS 20 77 HT_ HW_ rfl rfl hHeld ?_ spec_IsSorts.a3
              refine pureS 21 78 HT_ rfl rfl ?_
              refine pureS 22 79 HT_ rfl rfl ?_
              refine one_ (i := 23) (N := some 80) #[true, true, true, true, true, true, true, true, true, true, true, true, true, true, true, true, true, true, true, true, true, true, true, true, false, false, false, false, false, false, false, false, false, false, false, false, false, false, false, false, false] rfl rfl (one_of HT_.out spec_IsSorts.a11) (by decide) (fun K hK => ?_)
              refine goes_ Try.func40 spec_IsSorts.a11 rfl #[.int .i64 ((rd_T52 l0_1 x4_3).f1), .int .i64 0, .int .i64 (wrap64 ((l0_0.length : Int) - 1))] (by rfl) rfl rfl spec_IsSorts.a2 ?_
              with_reducible refine (spec_l1In.calls ((rd_T52 l0_1 x4_3).f1) 0 (wrap64 ((l0_0.length : Int) - 1)) true _ A31.out).mono ?_
              rintro e w' ⟨rfl, ⟨nd, rfl⟩⟩
              refine ⟨_, rfl, ?_⟩
              refine hK.out _ _ ⟨(blk_cell BK120.out 0).trans rfl, (blk_cell BK120.out 1).trans rfl, ((HB.out.cell (World.block_lt_of_cell? w _ hw126_0)).trans hw126_0), ((HB.out.cell (World.block_lt_of_cell? w _ hw126_1)).trans hw126_1), ((HB.out.cell (World.block_lt_of_cell? w _ hw128_0)).trans hw128_0), ((HB.out.cell (World.block_lt_of_cell? w _ hw128_1)).trans hw128_1), ((HB.out.cell (World.block_lt_of_cell? w _ hw130_0)).trans hw130_0), ((HB.out.cell (World.block_lt_of_cell? w _ hw130_1)).trans hw130_1), ((HB.out.cell (World.block_lt_of_cell? w _ hw131_0)).trans hw131_0), ((HB.out.cell (World.block_lt_of_cell? w _ hw131_1)).trans hw131_1)⟩ (fun hHeld => ?_)
              clear hK K
              refine norm_ (a' := ?_) ?_ ?_
              rotate_left
              ·show Act.put _ (some 80) _ = _
               simp only [Act.put, List.setIfInBounds_toArray, List.set_cons_zero, List.set_cons_succ, i64_w, i32_w]
               rfl
              refine pureS 24 81 HT_ rfl rfl ?_
              refine pureS 25 82 HT_ rfl rfl ?_
              refine pureS 26 83 HT_ rfl rfl ?_
              refine pureS 27 84 HT_ rfl rfl ?_
              refine pureS 29 86 HT_ rfl rfl ?_
              refine pureS 33 90 HT_ rfl rfl ?_
              refine pureS 35 92 HT_ rfl rfl ?_
              refine takeS 28 85 HT_ HW_ rfl rfl hHeld ?_ spec_IsSorts.a3
              refine pureS 30 87 HT_ rfl rfl ?_
              refine pureS 31 88 HT_ rfl rfl ?_
              refine takeS 32 89 HT_ HW_ rfl rfl hHeld ?_ spec_IsSorts.a3
              refine takeS 34 91 HT_ HW_ rfl rfl hHeld ?_ spec_IsSorts.a3
              refine pureS 36 93 HT_ rfl rfl ?_
              refine pureS 37 94 HT_ rfl rfl ?_
              refine takeS 38 95 HT_ HW_ rfl rfl hHeld ?_ spec_IsSorts.a3
              refine pureS 39 96 HT_ rfl rfl ?_
              refine pureS 40 97 HT_ rfl rfl ?_
              refine done_ (done_of HT_.out spec_IsSorts.a11) ?_
              try go_wp2
              go_ret
              exact ⟨spec_IsSorts.a6, spec_IsSorts.a0⟩
             ·rw [if_neg c33] at H
              have c33b0 : (((rd_T52 l0_1 x4_3).f0) == ((rd_T52 l0_1 x4_3).f1)) = false := beq_eq_false_iff_ne.mpr c33
              have c33b1 : (((rd_T52 l0_1 x4_3).f0) != ((rd_T52 l0_1 x4_3).f1)) = true := bne_iff_ne.mpr c33
              have H' := Aside0.mk H
              clear H
              have hcz36_0 : wr.cell? ⟨gb120, 0, none⟩ = some (.slice A0_0 l0_0.length c0_0) := (blk_cell BK120.out 0).trans rfl
              have hcz36_1 : wr.cell? ⟨gb120, 1, none⟩ = some (.slice A0_1 l0_1.length c0_1) := (blk_cell BK120.out 1).trans rfl
              have hfz36_0 := blk_frozen BK120.out 0
              have hfz36_1 := blk_frozen BK120.out 1
              try go_wp2
              have n0_ := Aside0.mk (blk_drew BK120.out)
              have n1_ := Aside0.mk (below_drew1 HB.out)
              clear BK120
              clear HB
              have BK120 := n0_
              have HB := n1_
              clear n0_ n1_
              have p126 : 0 ≤ (x4_3 : Int) := of_decide_eq_true spec_IsSorts.a1
              have q126 : x4_3 < (l0_1.length : Int) := of_decide_eq_true spec_IsSorts.a1
              obtain ⟨ad126, e126, hx126_0, hx126_1⟩ := at_T52 HR0_1.out x4_3 p126 q126
              have hw126_1 := hx126_1
              have hw126_0 := hx126_0
              cases e126
              replace hx126_0 := (HB.out.cell (World.block_lt_of_cell? w _ hx126_0)).trans hx126_0
              replace hx126_1 := (HB.out.cell (World.block_lt_of_cell? w _ hx126_1)).trans hx126_1
              replace p126 := eq_true p126
              replace q126 := eq_true q126
              have p128 : 0 ≤ (x4_3 : Int) := of_decide_eq_true spec_IsSorts.a1
              have q128 : x4_3 < (l0_1.length : Int) := of_decide_eq_true spec_IsSorts.a1
              obtain ⟨ad128, e128, hx128_0, hx128_1⟩ := at_T52 HR0_1.out x4_3 p128 q128
              have hw128_1 := hx128_1
              have hw128_0 := hx128_0
              obtain rfl : ad126 = ad128 := (by injection e128)
              replace hx128_0 := (HB.out.cell (World.block_lt_of_cell? w _ hx128_0)).trans hx128_0
              replace hx128_1 := (HB.out.cell (World.block_lt_of_cell? w _ hx128_1)).trans hx128_1
              replace p128 := eq_true p128
              replace q128 := eq_true q128
              have p130 : 0 ≤ (x4_3 : Int) := of_decide_eq_true spec_IsSorts.a1
              have q130 : x4_3 < (l0_1.length : Int) := of_decide_eq_true spec_IsSorts.a1
              obtain ⟨ad130, e130, hx130_0, hx130_1⟩ := at_T52 HR0_1.out x4_3 p130 q130
              have hw130_1 := hx130_1
              have hw130_0 := hx130_0
              obtain rfl : ad126 = ad130 := (by injection e130)
              replace hx130_0 := (HB.out.cell (World.block_lt_of_cell? w _ hx130_0)).trans hx130_0
              replace hx130_1 := (HB.out.cell (World.block_lt_of_cell? w _ hx130_1)).trans hx130_1
              replace p130 := eq_true p130
              replace q130 := eq_true q130
              have p131 : 0 ≤ (x4_3 : Int) := of_decide_eq_true spec_IsSorts.a1
              have q131 : x4_3 < (l0_1.length : Int) := of_decide_eq_true spec_IsSorts.a1
              obtain ⟨ad131, e131, hx131_0, hx131_1⟩ := at_T52 HR0_1.out x4_3 p131 q131
              have hw131_1 := hx131_1
              have hw131_0 := hx131_0
              obtain rfl : ad126 = ad131 := (by injection e131)
              replace hx131_0 := (HB.out.cell (World.block_lt_of_cell? w _ hx131_0)).trans hx131_0
              replace hx131_1 := (HB.out.cell (World.block_lt_of_cell? w _ hx131_1)).trans hx131_1
              replace p131 := eq_true p131
              replace q131 := eq_true q131
              refine start_ (n := 41) (S := fun w' => w'.cell? ⟨gb120, 0, none⟩ = some (.slice A0_0 l0_0.length c0_0) ∧ w'.cell? ⟨gb120, 1, none⟩ = some (.slice (some ad126) l0_1.length c0_1) ∧ w'.cell? (ad126.add ((x4_3).toNat * 2)) = some (.int .i64 ((rd_T52 l0_1 x4_3).f0)) ∧ w'.cell? ⟨(ad126.add ((x4_3).toNat * 2)).block, (ad126.add ((x4_3).toNat * 2)).off + 1, none⟩ = some (.int .i64 ((rd_T52 l0_1 x4_3).f1)) ∧ w'.cell? (ad126.add ((x4_3).toNat * 2)) = some (.int .i64 ((rd_T52 l0_1 x4_3).f0)) ∧ w'.cell? ⟨(ad126.add ((x4_3).toNat * 2)).block, (ad126.add ((x4_3).toNat * 2)).off + 1, none⟩ = some (.int .i64 ((rd_T52 l0_1 x4_3).f1)) ∧ w'.cell? (ad126.add ((x4_3).toNat * 2)) = some (.int .i64 ((rd_T52 l0_1 x4_3).f0)) ∧ w'.cell? ⟨(ad126.add ((x4_3).toNat * 2)).block, (ad126.add ((x4_3).toNat * 2)).off + 1, none⟩ = some (.int .i64 ((rd_T52 l0_1 x4_3).f1)) ∧ w'.cell? (ad126.add ((x4_3).toNat * 2)) = some (.int .i64 ((rd_T52 l0_1 x4_3).f0)) ∧ w'.cell? ⟨(ad126.add ((x4_3).toNat * 2)).block, (ad126.add ((x4_3).toNat * 2)).off + 1, none⟩ = some (.int .i64 ((rd_T52 l0_1 x4_3).f1))) (ds := []) #[false, false, false, false, false, false, false, false, false, false, false, false, false, false, false, false, false, false, false, false, false, false, false, false, false, false, false, false, false, false, false, false, false, false, false, false, false, false, false, false, false] spec_IsSorts.a11 rfl rfl ⟨(blk_cell BK120.out 0).trans rfl, (blk_cell BK120.out 1).trans rfl, ((HB.out.cell (World.block_lt_of_cell? w _ hw126_0)).trans hw126_0), ((HB.out.cell (World.block_lt_of_cell? w _ hw126_1)).trans hw126_1), ((HB.out.cell (World.block_lt_of_cell? w _ hw128_0)).trans hw128_0), ((HB.out.cell (World.block_lt_of_cell? w _ hw128_1)).trans hw128_1), ((HB.out.cell (World.block_lt_of_cell? w _ hw130_0)).trans hw130_0), ((HB.out.cell (World.block_lt_of_cell? w _ hw130_1)).trans hw130_1), ((HB.out.cell (World.block_lt_of_cell? w _ hw131_0)).trans hw131_0), ((HB.out.cell (World.block_lt_of_cell? w _ hw131_1)).trans hw131_1)⟩ (fun hHeld => ?_); refine with_tabW spec_IsSorts.tab11 spec_IsSorts.bits11 (fun HT_ HW_ => ?_)
              generalize wr.drew = w37 at BK120 HB hx126_0 hx126_1 hx128_0 hx128_1 hx130_0 hx130_1 hx131_0 hx131_1 hHeld ⊢
              refine pureS 0 57 HT_ rfl rfl ?_
              refine pureS 2 59 HT_ rfl rfl ?_
              refine pureS 6 63 HT_ rfl rfl ?_
              refine takeS 1 58 HT_ HW_ rfl rfl hHeld ?_ spec_IsSorts.a3
              refine pureS 3 60 HT_ rfl rfl ?_
              refine pureS 4 61 HT_ rfl rfl ?_
              refine takeS 5 62 HT_ HW_ rfl rfl hHeld ?_ spec_IsSorts.a3
              refine takeS 7 64 HT_ HW_ rfl rfl hHeld ?_ spec_IsSorts.a3
              refine pureS 8 65 HT_ rfl rfl ?_
              refine pureS 9 66 HT_ rfl rfl ?_
              refine one_ (i := 10) (N := some 67) #[true, true, true, true, true, true, true, true, true, true, true, false, false, false, false, false, false, false, false, false, false, false, false, false, false, false, false, false, false, false, false, false, false, false, false, false, false, false, false, false, false] rfl rfl (one_of HT_.out spec_IsSorts.a11) (by decide) (fun K hK => ?_)
              refine goes_ Try.func40 spec_IsSorts.a11 rfl #[.int .i64 ((rd_T52 l0_1 x4_3).f0), .int .i64 0, .int .i64 (wrap64 ((l0_0.length : Int) - 1))] (by rfl) rfl rfl spec_IsSorts.a2 ?_
              with_reducible refine (spec_l1In.calls ((rd_T52 l0_1 x4_3).f0) 0 (wrap64 ((l0_0.length : Int) - 1)) true _ A29.out).mono ?_
              rintro e w' ⟨rfl, ⟨nd, rfl⟩⟩
              refine ⟨_, rfl, ?_⟩
              refine hK.out _ _ ⟨(blk_cell BK120.out 0).trans rfl, (blk_cell BK120.out 1).trans rfl, ((HB.out.cell (World.block_lt_of_cell? w _ hw126_0)).trans hw126_0), ((HB.out.cell (World.block_lt_of_cell? w _ hw126_1)).trans hw126_1), ((HB.out.cell (World.block_lt_of_cell? w _ hw128_0)).trans hw128_0), ((HB.out.cell (World.block_lt_of_cell? w _ hw128_1)).trans hw128_1), ((HB.out.cell (World.block_lt_of_cell? w _ hw130_0)).trans hw130_0), ((HB.out.cell (World.block_lt_of_cell? w _ hw130_1)).trans hw130_1), ((HB.out.cell (World.block_lt_of_cell? w _ hw131_0)).trans hw131_0), ((HB.out.cell (World.block_lt_of_cell? w _ hw131_1)).trans hw131_1)⟩ (fun hHeld => ?_)
              clear hK K
              refine norm_ (a' := ?_) ?_ ?_
              rotate_left
              ·show Act.put _ (some 67) _ = _
               simp only [Act.put, List.setIfInBounds_toArray, List.set_cons_zero, List.set_cons_succ, i64_w, i32_w]
               rfl
              refine pureS 11 68 HT_ rfl rfl ?_
              refine pureS 12 69 HT_ rfl rfl ?_
              refine pureS 13 70 HT_ rfl rfl ?_
              refine pureS 15 72 HT_ rfl rfl ?_
              refine pureS 19 76 HT_ rfl rfl ?_
              refine takeS 14 71 HT_ HW_ rfl rfl hHeld ?_ spec_IsSorts.a3
              refine pureS 16 73 HT_ rfl rfl ?_
              refine pureS 17 74 HT_ rfl rfl ?_
              refine takeS 18 75 HT_ HW_ rfl rfl hHeld ?_ spec_IsSorts.a3
              refine takeS 20 77 HT_ HW_ rfl rfl hHeld ?_ spec_IsSorts.a3
              refine pureS 21 78 HT_ rfl rfl ?_
              refine pureS 22 79 HT_ rfl rfl ?_
              refine one_ (i := 23) (N := some 80) #[true, true, true, true, true, true, true, true, true, true, true, true, true, true, true, true, true, true, true, true, true, true, true, true, false, false, false, false, false, false, false, false, false, false, false, false, false, false, false, false, false] rfl rfl (one_of HT_.out spec_IsSorts.a11) (by decide) (fun K hK => ?_)
              refine goes_ Try.func40 spec_IsSorts.a11 rfl #[.int .i64 ((rd_T52 l0_1 x4_3).f1), .int .i64 0, .int .i64 (wrap64 ((l0_0.length : Int) - 1))] (by rfl) rfl rfl spec_IsSorts.a2 ?_
              with_reducible refine (spec_l1In.calls ((rd_T52 l0_1 x4_3).f1) 0 (wrap64 ((l0_0.length : Int) - 1)) true _ A31.out).mono ?_
              rintro e w' ⟨rfl, ⟨nd, rfl⟩⟩
              refine ⟨_, rfl, ?_⟩
              refine hK.out _ _ ⟨(blk_cell BK120.out 0).trans rfl, (blk_cell BK120.out 1).trans rfl, ((HB.out.cell (World.block_lt_of_cell? w _ hw126_0)).trans hw126_0), ((HB.out.cell (World.block_lt_of_cell? w _ hw126_1)).trans hw126_1), ((HB.out.cell (World.block_lt_of_cell? w _ hw128_0)).trans hw128_0), ((HB.out.cell (World.block_lt_of_cell? w _ hw128_1)).trans hw128_1), ((HB.out.cell (World.block_lt_of_cell? w _ hw130_0)).trans hw130_0), ((HB.out.cell (World.block_lt_of_cell? w _ hw130_1)).trans hw130_1), ((HB.out.cell (World.block_lt_of_cell? w _ hw131_0)).trans hw131_0), ((HB.out.cell (World.block_lt_of_cell? w _ hw131_1)).trans hw131_1)⟩ (fun hHeld => ?_)
              clear hK K
              refine norm_ (a' := ?_) ?_ ?_
              rotate_left
              ·show Act.put _ (some 80) _ = _
               simp only [Act.put, List.setIfInBounds_toArray, List.set_cons_zero, List.set_cons_succ, i64_w, i32_w]
               rfl
              refine pureS 24 81 HT_ rfl rfl ?_
              refine pureS 25 82 HT_ rfl rfl ?_
              refine pureS 26 83 HT_ rfl rfl ?_
              refine pureS 27 84 HT_ rfl rfl ?_
              refine pureS 29 86 HT_ rfl rfl ?_
              refine pureS 33 90 HT_ rfl rfl ?_
              refine pureS 35 92 HT_ rfl rfl ?_
              refine takeS 28 85 HT_ HW_ rfl rfl hHeld ?_ spec_IsSorts.a3
              refine pureS 30 87 HT_ rfl rfl ?_
              refine pureS 31 88 HT_ rfl rfl ?_
              refine takeS 32 89 HT_ HW_ rfl rfl hHeld ?_ spec_IsSorts.a3
              refine takeS 34 91 HT_ HW_ rfl rfl hHeld ?_ spec_IsSorts.a3
              refine pureS 36 93 HT_ rfl rfl ?_
              refine pureS 37 94 HT_ rfl rfl ?_
              refine takeS 38 95 HT_ HW_ rfl rfl hHeld ?_ spec_IsSorts.a3
              refine pureS 39 96 HT_ rfl rfl ?_
              refine pureS 40 97 HT_ rfl rfl ?_
              refine done_ (done_of HT_.out spec_IsSorts.a11) ?_
              try go_wp2
              go_roundg k3
              case measure => have := HJ1.out; have := HK2.out; have := HK3.out; omega
              case rel => exact ⟨(wrap64 (x4_3 + 1)), spec_IsSorts.a7, H', ⟨by have := HJ1.out; have := HK2.out; have := HK3.out; omega⟩, ⟨spec_IsSorts.a4⟩, ⟨spec_IsSorts.a0⟩⟩
            ·replace c32 := Bool.eq_false_iff.mpr c32
             subst c32
             have H1 : (some false) = some r := by rw [if_neg (show ¬ (false = true) by decide)] at H; exact H
             clear H
             have H := H1
             clear H1
             obtain rfl := Option.some.inj H
             have hcz38_0 : wr.cell? ⟨gb120, 0, none⟩ = some (.slice A0_0 l0_0.length c0_0) := (blk_cell BK120.out 0).trans rfl
             have hcz38_1 : wr.cell? ⟨gb120, 1, none⟩ = some (.slice A0_1 l0_1.length c0_1) := (blk_cell BK120.out 1).trans rfl
             have hfz38_0 := blk_frozen BK120.out 0
             have hfz38_1 := blk_frozen BK120.out 1
             try go_wp2
             have n0_ := Aside0.mk (blk_drew BK120.out)
             have n1_ := Aside0.mk (below_drew1 HB.out)
             clear BK120
             clear HB
             have BK120 := n0_
             have HB := n1_
             clear n0_ n1_
             have p126 : 0 ≤ (x4_3 : Int) := of_decide_eq_true spec_IsSorts.a1
             have q126 : x4_3 < (l0_1.length : Int) := of_decide_eq_true spec_IsSorts.a1
             obtain ⟨ad126, e126, hx126_0, hx126_1⟩ := at_T52 HR0_1.out x4_3 p126 q126
             have hw126_1 := hx126_1
             have hw126_0 := hx126_0
             cases e126
             replace hx126_0 := (HB.out.cell (World.block_lt_of_cell? w _ hx126_0)).trans hx126_0
             replace hx126_1 := (HB.out.cell (World.block_lt_of_cell? w _ hx126_1)).trans hx126_1
             replace p126 := eq_true p126
             replace q126 := eq_true q126
             have p128 : 0 ≤ (x4_3 : Int) := of_decide_eq_true spec_IsSorts.a1
             have q128 : x4_3 < (l0_1.length : Int) := of_decide_eq_true spec_IsSorts.a1
             obtain ⟨ad128, e128, hx128_0, hx128_1⟩ := at_T52 HR0_1.out x4_3 p128 q128
             have hw128_1 := hx128_1
             have hw128_0 := hx128_0
             obtain rfl : ad126 = ad128 := (by injection e128)
             replace hx128_0 := (HB.out.cell (World.block_lt_of_cell? w _ hx128_0)).trans hx128_0
             replace hx128_1 := (HB.out.cell (World.block_lt_of_cell? w _ hx128_1)).trans hx128_1
             replace p128 := eq_true p128
             replace q128 := eq_true q128
             refine start_ (n := 41) (S := fun w' => w'.cell? ⟨gb120, 0, none⟩ = some (.slice A0_0 l0_0.length c0_0) ∧ w'.cell? ⟨gb120, 1, none⟩ = some (.slice (some ad126) l0_1.length c0_1) ∧ w'.cell? (ad126.add ((x4_3).toNat * 2)) = some (.int .i64 ((rd_T52 l0_1 x4_3).f0)) ∧ w'.cell? ⟨(ad126.add ((x4_3).toNat * 2)).block, (ad126.add ((x4_3).toNat * 2)).off + 1, none⟩ = some (.int .i64 ((rd_T52 l0_1 x4_3).f1)) ∧ w'.cell? (ad126.add ((x4_3).toNat * 2)) = some (.int .i64 ((rd_T52 l0_1 x4_3).f0)) ∧ w'.cell? ⟨(ad126.add ((x4_3).toNat * 2)).block, (ad126.add ((x4_3).toNat * 2)).off + 1, none⟩ = some (.int .i64 ((rd_T52 l0_1 x4_3).f1))) (ds := []) #[false, false, false, false, false, false, false, false, false, false, false, false, false, false, false, false, false, false, false, false, false, false, false, false, false, false, false, false, false, false, false, false, false, false, false, false, false, false, false, false, false] spec_IsSorts.a11 rfl rfl ⟨(blk_cell BK120.out 0).trans rfl, (blk_cell BK120.out 1).trans rfl, ((HB.out.cell (World.block_lt_of_cell? w _ hw126_0)).trans hw126_0), ((HB.out.cell (World.block_lt_of_cell? w _ hw126_1)).trans hw126_1), ((HB.out.cell (World.block_lt_of_cell? w _ hw128_0)).trans hw128_0), ((HB.out.cell (World.block_lt_of_cell? w _ hw128_1)).trans hw128_1)⟩ (fun hHeld => ?_); refine with_tabW spec_IsSorts.tab11 spec_IsSorts.bits11 (fun HT_ HW_ => ?_)
             generalize wr.drew = w39 at BK120 HB hx126_0 hx126_1 hx128_0 hx128_1 hHeld ⊢
             refine pureS 0 57 HT_ rfl rfl ?_
             refine pureS 2 59 HT_ rfl rfl ?_
             refine pureS 6 63 HT_ rfl rfl ?_
             refine takeS 1 58 HT_ HW_ rfl rfl hHeld ?_ spec_IsSorts.a9
             refine pureS 3 60 HT_ rfl rfl ?_
             refine pureS 4 61 HT_ rfl rfl ?_
             refine takeS 5 62 HT_ HW_ rfl rfl hHeld ?_ spec_IsSorts.a9
             refine takeS 7 64 HT_ HW_ rfl rfl hHeld ?_ spec_IsSorts.a9
             refine pureS 8 65 HT_ rfl rfl ?_
             refine pureS 9 66 HT_ rfl rfl ?_
             refine one_ (i := 10) (N := some 67) #[true, true, true, true, true, true, true, true, true, true, true, false, false, false, false, false, false, false, false, false, false, false, false, false, false, false, false, false, false, false, false, false, false, false, false, false, false, false, false, false, false] rfl rfl (one_of HT_.out spec_IsSorts.a11) (by decide) (fun K hK => ?_)
             refine goes_ Try.func40 spec_IsSorts.a11 rfl #[.int .i64 ((rd_T52 l0_1 x4_3).f0), .int .i64 0, .int .i64 (wrap64 ((l0_0.length : Int) - 1))] (by rfl) rfl rfl spec_IsSorts.a2 ?_
             with_reducible refine (spec_l1In.calls ((rd_T52 l0_1 x4_3).f0) 0 (wrap64 ((l0_0.length : Int) - 1)) true _ A29.out).mono ?_
             rintro e w' ⟨rfl, ⟨nd, rfl⟩⟩
             refine ⟨_, rfl, ?_⟩
             refine hK.out _ _ ⟨(blk_cell BK120.out 0).trans rfl, (blk_cell BK120.out 1).trans rfl, ((HB.out.cell (World.block_lt_of_cell? w _ hw126_0)).trans hw126_0), ((HB.out.cell (World.block_lt_of_cell? w _ hw126_1)).trans hw126_1), ((HB.out.cell (World.block_lt_of_cell? w _ hw128_0)).trans hw128_0), ((HB.out.cell (World.block_lt_of_cell? w _ hw128_1)).trans hw128_1)⟩ (fun hHeld => ?_)
             clear hK K
             refine norm_ (a' := ?_) ?_ ?_
             rotate_left
             ·show Act.put _ (some 67) _ = _
              simp only [Act.put, List.setIfInBounds_toArray, List.set_cons_zero, List.set_cons_succ, i64_w, i32_w]
              rfl
             refine pureS 11 68 HT_ rfl rfl ?_
             refine pureS 12 69 HT_ rfl rfl ?_
             refine pureS 13 70 HT_ rfl rfl ?_
             refine pureS 15 72 HT_ rfl rfl ?_
             refine pureS 19 76 HT_ rfl rfl ?_
             refine takeS 14 71 HT_ HW_ rfl rfl hHeld ?_ spec_IsSorts.a9
             refine pureS 16 73 HT_ rfl rfl ?_
             refine pureS 17 74 HT_ rfl rfl ?_
             refine takeS 18 75 HT_ HW_ rfl rfl hHeld ?_ spec_IsSorts.a9
             refine takeS 20 77 HT_ HW_ rfl rfl hHeld ?_ spec_IsSorts.a9
             refine pureS 21 78 HT_ rfl rfl ?_
             refine pureS 22 79 HT_ rfl rfl ?_
             refine one_ (i := 23) (N := some 80) #[true, true, true, true, true, true, true, true, true, true, true, true, true, true, true, true, true, true, true, true, true, true, true, true, false, false, false, false, false, false, false, false, false, false, false, false, false, false, false, false, false] rfl rfl (one_of HT_.out spec_IsSorts.a11) (by decide) (fun K hK => ?_)
             refine goes_ Try.func40 spec_IsSorts.a11 rfl #[.int .i64 ((rd_T52 l0_1 x4_3).f1), .int .i64 0, .int .i64 (wrap64 ((l0_0.length : Int) - 1))] (by rfl) rfl rfl spec_IsSorts.a2 ?_
             with_reducible refine (spec_l1In.calls ((rd_T52 l0_1 x4_3).f1) 0 (wrap64 ((l0_0.length : Int) - 1)) false _ A31.out).mono ?_
             rintro e w' ⟨rfl, ⟨nd, rfl⟩⟩
             refine ⟨_, rfl, ?_⟩
             refine hK.out _ _ ⟨(blk_cell BK120.out 0).trans rfl, (blk_cell BK120.out 1).trans rfl, ((HB.out.cell (World.block_lt_of_cell? w _ hw126_0)).trans hw126_0), ((HB.out.cell (World.block_lt_of_cell? w _ hw126_1)).trans hw126_1), ((HB.out.cell (World.block_lt_of_cell? w _ hw128_0)).trans hw128_0), ((HB.out.cell (World.block_lt_of_cell? w _ hw128_1)).trans hw128_1)⟩ (fun hHeld => ?_)
             clear hK K
             refine norm_ (a' := ?_) ?_ ?_
             rotate_left
             ·show Act.put _ (some 80) _ = _
              simp only [Act.put, List.setIfInBounds_toArray, List.set_cons_zero, List.set_cons_succ, i64_w, i32_w]
              rfl
             refine pureS 24 81 HT_ rfl rfl ?_
             refine pureS 25 82 HT_ rfl rfl ?_
             refine pureS 26 83 HT_ rfl rfl ?_
             refine undS 27 84 HT_ rfl rfl ?_
             refine undS 28 85 HT_ rfl rfl ?_
             refine undS 29 86 HT_ rfl rfl ?_
             refine undS 30 87 HT_ rfl rfl ?_
             refine undS 31 88 HT_ rfl rfl ?_
             refine undS 32 89 HT_ rfl rfl ?_
             refine undS 33 90 HT_ rfl rfl ?_
             refine undS 34 91 HT_ rfl rfl ?_
             refine undS 35 92 HT_ rfl rfl ?_
             refine undS 36 93 HT_ rfl rfl ?_
             refine undS 37 94 HT_ rfl rfl ?_
             refine undS 38 95 HT_ rfl rfl ?_
             refine undS 39 96 HT_ rfl rfl ?_
             refine pureS 40 97 HT_ rfl rfl ?_
             refine done_ (done_of HT_.out spec_IsSorts.a11) ?_
             try go_wp2
             go_ret
             exact ⟨spec_IsSorts.a6, spec_IsSorts.a0⟩
           ·replace c30 := Bool.eq_false_iff.mpr c30
            subst c30
            have H1 : (some false) = some r := by rw [if_neg (show ¬ (false = true) by decide)] at H; exact H
            clear H
            have H := H1
            clear H1
            obtain rfl := Option.some.inj H
            have hcz40_0 : wr.cell? ⟨gb120, 0, none⟩ = some (.slice A0_0 l0_0.length c0_0) := (blk_cell BK120.out 0).trans rfl
            have hcz40_1 : wr.cell? ⟨gb120, 1, none⟩ = some (.slice A0_1 l0_1.length c0_1) := (blk_cell BK120.out 1).trans rfl
            have hfz40_0 := blk_frozen BK120.out 0
            have hfz40_1 := blk_frozen BK120.out 1
            try go_wp2
            have n0_ := Aside0.mk (blk_drew BK120.out)
            have n1_ := Aside0.mk (below_drew1 HB.out)
            clear BK120
            clear HB
            have BK120 := n0_
            have HB := n1_
            clear n0_ n1_
            have p126 : 0 ≤ (x4_3 : Int) := of_decide_eq_true spec_IsSorts.a1
            have q126 : x4_3 < (l0_1.length : Int) := of_decide_eq_true spec_IsSorts.a1
            obtain ⟨ad126, e126, hx126_0, hx126_1⟩ := at_T52 HR0_1.out x4_3 p126 q126
            have hw126_1 := hx126_1
            have hw126_0 := hx126_0
            cases e126
            replace hx126_0 := (HB.out.cell (World.block_lt_of_cell? w _ hx126_0)).trans hx126_0
            replace hx126_1 := (HB.out.cell (World.block_lt_of_cell? w _ hx126_1)).trans hx126_1
            replace p126 := eq_true p126
            replace q126 := eq_true q126
            refine start_ (n := 41) (S := fun w' => w'.cell? ⟨gb120, 0, none⟩ = some (.slice A0_0 l0_0.length c0_0) ∧ w'.cell? ⟨gb120, 1, none⟩ = some (.slice (some ad126) l0_1.length c0_1) ∧ w'.cell? (ad126.add ((x4_3).toNat * 2)) = some (.int .i64 ((rd_T52 l0_1 x4_3).f0)) ∧ w'.cell? ⟨(ad126.add ((x4_3).toNat * 2)).block, (ad126.add ((x4_3).toNat * 2)).off + 1, none⟩ = some (.int .i64 ((rd_T52 l0_1 x4_3).f1))) (ds := []) #[false, false, false, false, false, false, false, false, false, false, false, false, false, false, false, false, false, false, false, false, false, false, false, false, false, false, false, false, false, false, false, false, false, false, false, false, false, false, false, false, false] spec_IsSorts.a11 rfl rfl ⟨(blk_cell BK120.out 0).trans rfl, (blk_cell BK120.out 1).trans rfl, ((HB.out.cell (World.block_lt_of_cell? w _ hw126_0)).trans hw126_0), ((HB.out.cell (World.block_lt_of_cell? w _ hw126_1)).trans hw126_1)⟩ (fun hHeld => ?_); refine with_tabW spec_IsSorts.tab11 spec_IsSorts.bits11 (fun HT_ HW_ => ?_)
            generalize wr.drew = w41 at BK120 HB hx126_0 hx126_1 hHeld ⊢
            refine pureS 0 57 HT_ rfl rfl ?_
            refine pureS 2 59 HT_ rfl rfl ?_
            refine pureS 6 63 HT_ rfl rfl ?_
            refine takeS 1 58 HT_ HW_ rfl rfl hHeld ?_ spec_IsSorts.a5
            refine pureS 3 60 HT_ rfl rfl ?_
            refine pureS 4 61 HT_ rfl rfl ?_
            refine takeS 5 62 HT_ HW_ rfl rfl hHeld ?_ spec_IsSorts.a5
            refine takeS 7 64 HT_ HW_ rfl rfl hHeld ?_ spec_IsSorts.a5
            refine pureS 8 65 HT_ rfl rfl ?_
            refine pureS 9 66 HT_ rfl rfl ?_
            refine one_ (i := 10) (N := some 67) #[true, true, true, true, true, true, true, true, true, true, true, false, false, false, false, false, false, false, false, false, false, false, false, false, false, false, false, false, false, false, false, false, false, false, false, false, false, false, false, false, false] rfl rfl (one_of HT_.out spec_IsSorts.a11) (by decide) (fun K hK => ?_)
            refine goes_ Try.func40 spec_IsSorts.a11 rfl #[.int .i64 ((rd_T52 l0_1 x4_3).f0), .int .i64 0, .int .i64 (wrap64 ((l0_0.length : Int) - 1))] (by rfl) rfl rfl spec_IsSorts.a2 ?_
            with_reducible refine (spec_l1In.calls ((rd_T52 l0_1 x4_3).f0) 0 (wrap64 ((l0_0.length : Int) - 1)) false _ A29.out).mono ?_
            rintro e w' ⟨rfl, ⟨nd, rfl⟩⟩
            refine ⟨_, rfl, ?_⟩
            refine hK.out _ _ ⟨(blk_cell BK120.out 0).trans rfl, (blk_cell BK120.out 1).trans rfl, ((HB.out.cell (World.block_lt_of_cell? w _ hw126_0)).trans hw126_0), ((HB.out.cell (World.block_lt_of_cell? w _ hw126_1)).trans hw126_1)⟩ (fun hHeld => ?_)
            clear hK K
            refine norm_ (a' := ?_) ?_ ?_
            rotate_left
            ·show Act.put _ (some 67) _ = _
             simp only [Act.put, List.setIfInBounds_toArray, List.set_cons_zero, List.set_cons_succ, i64_w, i32_w]
             rfl
            refine pureS 11 68 HT_ rfl rfl ?_
            refine pureS 12 69 HT_ rfl rfl ?_
            refine undS 13 70 HT_ rfl rfl ?_
            refine undS 14 71 HT_ rfl rfl ?_
            refine undS 15 72 HT_ rfl rfl ?_
            refine undS 16 73 HT_ rfl rfl ?_
            refine undS 17 74 HT_ rfl rfl ?_
            refine undS 18 75 HT_ rfl rfl ?_
            refine undS 19 76 HT_ rfl rfl ?_
            refine undS 20 77 HT_ rfl rfl ?_
            refine undS 21 78 HT_ rfl rfl ?_
            refine undS 22 79 HT_ rfl rfl ?_
            refine undS 23 80 HT_ rfl rfl ?_
            refine undS 24 81 HT_ rfl rfl ?_
            refine pureS 25 82 HT_ rfl rfl ?_
            refine pureS 26 83 HT_ rfl rfl ?_
            refine undS 27 84 HT_ rfl rfl ?_
            refine undS 28 85 HT_ rfl rfl ?_
            refine undS 29 86 HT_ rfl rfl ?_
            refine undS 30 87 HT_ rfl rfl ?_
            refine undS 31 88 HT_ rfl rfl ?_
            refine undS 32 89 HT_ rfl rfl ?_
            refine undS 33 90 HT_ rfl rfl ?_
            refine undS 34 91 HT_ rfl rfl ?_
            refine undS 35 92 HT_ rfl rfl ?_
            refine undS 36 93 HT_ rfl rfl ?_
            refine undS 37 94 HT_ rfl rfl ?_
            refine undS 38 95 HT_ rfl rfl ?_
            refine undS 39 96 HT_ rfl rfl ?_
            refine pureS 40 97 HT_ rfl rfl ?_
            refine done_ (done_of HT_.out spec_IsSorts.a11) ?_
            try go_wp2
            go_ret
            exact ⟨spec_IsSorts.a6, spec_IsSorts.a0⟩
          ·rw [if_neg c28] at H
           exact absurd H (by simp)
         ·rw [if_neg c27] at H
          have c27b0 : decide (x4_3 < (l0_1.length : Int)) = false := decide_eq_false c27
          clear c27
          replace H := Option.bind_eq_some_iff.mp H
          obtain ⟨t132, A420, H⟩ := H
          replace H : (spec_IsSorts.l2 k3 t132 0) = some r := H
          have A42 := Aside0.mk A420
          clear A420
          have H' := Aside0.mk H
          clear H
          have hcz43_0 : wr.cell? ⟨gb120, 0, none⟩ = some (.slice A0_0 l0_0.length c0_0) := (blk_cell BK120.out 0).trans rfl
          have hcz43_1 : wr.cell? ⟨gb120, 1, none⟩ = some (.slice A0_1 l0_1.length c0_1) := (blk_cell BK120.out 1).trans rfl
          have hfz43_0 := blk_frozen BK120.out 0
          have hfz43_1 := blk_frozen BK120.out 1
          go_wp2_with (first | ((with_reducible refine gate_callee (f := 41) rfl ?_); refine goesL_ (some 99) rfl rfl Try.func41 spec_IsSorts.a11 rfl #[.agg #[.slice A0_0 l0_0.length c0_0, .slice A0_1 l0_1.length c0_1]] rfl spec_IsSorts.a2 ?_; (with_reducible refine (spec_l3Up.calls k3 _ _ l0_0 _ _ l0_1 t132 _ ?side1 ?side2 ?side3 ?side4 A42.out).mono ?_); (case side1 => repeat (first | exact (Kd.C_below HR0_0.out HB.out) | (with_reducible refine Kd.C_alloc ?_ _) | (with_reducible refine Kd.C_drewN ?_ _) | (with_reducible refine Kd.C_drew ?_))); (case side2 => exact HC0_0.out); (case side3 => repeat (first | exact (Kd.C_below HR0_1.out HB.out) | (with_reducible refine Kd.C_alloc ?_ _) | (with_reducible refine Kd.C_drewN ?_ _) | (with_reducible refine Kd.C_drew ?_))); (case side4 => exact HC0_1.out); rintro e w44 ⟨v133, rfl, ho0, hb⟩; refine ⟨_, rfl, ?_⟩; have n0_ := Aside0.mk (Kd.R_lower ho0 (below_size spec_IsSorts.a0)); have n1_ := Aside0.mk (blk_below (g := gb120) (o := .cells #[.slice A0_0 l0_0.length c0_0, .slice A0_1 l0_1.length c0_1] 30 (0, 0)) spec_IsSorts.a4 hb); have n2_ := Aside0.mk (below_step spec_IsSorts.a0 hb); clear BK120; clear HB; have HO134 := n0_; have BK120 := n1_; have HB := n2_; clear n0_ n1_ n2_; (try clear hb); (try clear hb2); (try clear hk); (try clear hi); (try clear ho0)))
          go_loopg [6] k3 (fun kq v6 w' => ∃ (x6_4 : Int), v6 = .int .i64 x6_4 ∧ Aside0 (spec_IsSorts.l2 kq t132 x6_4 = some r) ∧ Aside0 (kq ≤ k3) ∧ Aside0 (Kd.R (Kd.int .i64) 3 w' w.heap.size (fun _ => True) v133 t132) ∧ Aside0 (w'.heap[gb120]? = some (.cells #[(.slice A0_0 l0_0.length c0_0), (.slice A0_1 l0_1.length c0_1)] 30 (0, 0))) ∧ Aside0 (Below w.heap.size w w'))
          case atStart => exact ⟨(0), spec_IsSorts.a7, H', ⟨Nat.le_refl _⟩, ⟨by (with_reducible repeat (first | apply Kd.R_alloc | apply Kd.R_drewN | apply Kd.R_drew)); exact HO134.out⟩, ⟨spec_IsSorts.a4⟩, ⟨spec_IsSorts.a0⟩⟩
          case round =>
           clear H'
           try clear p1
           try clear q1
           try clear hx1
           try clear c2
           try clear p2
           try clear c3
           try clear c4
           try clear p6
           try clear p12
           try clear q12
           try clear hx12
           try clear c27
           try clear c27b0
           try clear c28
           try clear c30
           try clear c40
           try clear c41
           try clear hcz40_0
           try clear hcz40_1
           try clear hcz43_0
           try clear hcz43_1
           try clear hfz40_0
           try clear hfz40_1
           try clear hfz43_0
           try clear hfz43_1
           try clear hx126_0
           try clear hx126_1
           try clear hx128_0
           try clear hx128_1
           try clear p126
           try clear p128
           try clear q126
           try clear q128
           obtain ⟨x6_4, rfl, HA, HK4, HO_5, BK120, HB⟩ := hrel
           cases gk with
           | zero => exact absurd HA.out (by simp [spec_IsSorts.l2])
           | succ k4 =>
            have H := HA.out
            clear HA
            simp only [spec_IsSorts.l2] at H
            by_cases c45 : x6_4 < (t132.length : Int)
            ·rw [if_pos c45] at H
             have c45b0 : decide (x6_4 < (t132.length : Int)) = true := decide_eq_true c45
             clear c45
             have H' := Aside0.mk H
             clear H
             obtain ⟨Ao46, co46, eo46⟩ := Kd.R_slice HO_5.out
             subst eo46
             go_wp2
             go_loopg [7] k4 (fun kq v7 w' => ∃ (x7_5 : Int), v7 = .int .i64 x7_5 ∧ Aside0 (spec_IsSorts.l3 kq t132 x6_4 x7_5 = some r) ∧ Aside0 (kq ≤ k4) ∧ Aside0 (Kd.R (Kd.int .i64) 3 w' w.heap.size (fun _ => True) (.slice Ao46 t132.length co46) t132) ∧ Aside0 (w'.heap[gb120]? = some (.cells #[(.slice A0_0 l0_0.length c0_0), (.slice A0_1 l0_1.length c0_1)] 30 (0, 0))) ∧ Aside0 (Below w.heap.size w w'))
             case atStart => exact ⟨(0), spec_IsSorts.a7, H', ⟨Nat.le_refl _⟩, ⟨spec_IsSorts.a10⟩, ⟨spec_IsSorts.a4⟩, ⟨spec_IsSorts.a0⟩⟩
             case round =>
              clear H'
              try clear p1
              try clear q1
              try clear hx1
              try clear c2
              try clear p2
              try clear c3
              try clear c4
              try clear p6
              try clear p12
              try clear q12
              try clear hx12
              try clear c27
              try clear c27b0
              try clear c28
              try clear c30
              try clear c40
              try clear c41
              try clear c45
              try clear c45b0
              try clear hcz40_0
              try clear hcz40_1
              try clear hcz43_0
              try clear hcz43_1
              try clear hfz40_0
              try clear hfz40_1
              try clear hfz43_0
              try clear hfz43_1
              try clear hx126_0
              try clear hx126_1
              try clear hx128_0
              try clear hx128_1
              try clear p1
              try clear p12
              try clear p126
              try clear p128
              try clear p2
              try clear p6
              try clear q1
              try clear q12
              try clear q126
              try clear q128
              obtain ⟨x7_5, rfl, HA, HK5, HO_5, BK120, HB⟩ := hrel
              cases gk with
              | zero => exact absurd HA.out (by simp [spec_IsSorts.l3])
              | succ k5 =>
               have H := HA.out
               clear HA
               simp only [spec_IsSorts.l3] at H
               by_cases c47 : x7_5 < x6_4
               ·rw [if_pos c47] at H
                have c47b0 : decide (x7_5 < x6_4) = true := decide_eq_true c47
                clear c47
                by_cases c48 : 0 ≤ x6_4
                ·rw [if_pos c48] at H
                 have c48b0 : decide (0 ≤ x6_4) = true := decide_eq_true c48
                 clear c48
                 by_cases c49 : x6_4 < (t132.length : Int)
                 ·rw [if_pos c49] at H
                  have c49b0 : decide (x6_4 < (t132.length : Int)) = true := decide_eq_true c49
                  clear c49
                  replace H := Option.bind_eq_some_iff.mp H
                  obtain ⟨t136, A500, H⟩ := H
                  replace H : (if t136 = true then (if 0 ≤ x7_5 then (if x7_5 < (t132.length : Int) then ((spec_l2Has.f (rd t132 x7_5) x6_4).bind fun t138 => (if t138 = true then (some false) else (spec_IsSorts.l3 k5 t132 x6_4 (wrap64 (x7_5 + 1))))) else (none)) else (none)) else (spec_IsSorts.l3 k5 t132 x6_4 (wrap64 (x7_5 + 1)))) = some r := H
                  have A50 := Aside0.mk A500
                  clear A500
                  by_cases c51 : t136 = true
                  ·subst c51
                   have H1 : (if 0 ≤ x7_5 then (if x7_5 < (t132.length : Int) then ((spec_l2Has.f (rd t132 x7_5) x6_4).bind fun t138 => (if t138 = true then (some false) else (spec_IsSorts.l3 k5 t132 x6_4 (wrap64 (x7_5 + 1))))) else (none)) else (none)) = some r := by rw [if_pos rfl] at H; exact H
                   clear H
                   have H := H1
                   clear H1
                   by_cases c52 : 0 ≤ x7_5
                   ·rw [if_pos c52] at H
                    have c52b0 : decide (0 ≤ x7_5) = true := decide_eq_true c52
                    clear c52
                    by_cases c53 : x7_5 < (t132.length : Int)
                    ·rw [if_pos c53] at H
                     have c53b0 : decide (x7_5 < (t132.length : Int)) = true := decide_eq_true c53
                     clear c53
                     replace H := Option.bind_eq_some_iff.mp H
                     obtain ⟨t138, A540, H⟩ := H
                     replace H : (if t138 = true then (some false) else (spec_IsSorts.l3 k5 t132 x6_4 (wrap64 (x7_5 + 1)))) = some r := H
                     have A54 := Aside0.mk A540
                     clear A540
                     by_cases c55 : t138 = true
                     ·subst c55
                      have H1 : (some false) = some r := by rw [if_pos rfl] at H; exact H
                      clear H
                      have H := H1
                      clear H1
                      obtain rfl := Option.some.inj H
                      have p135 : 0 ≤ (x6_4 : Int) := of_decide_eq_true spec_IsSorts.a1
                      have q135 : x6_4 < (t132.length : Int) := of_decide_eq_true spec_IsSorts.a1
                      obtain ⟨ad135, e135, hx135_0⟩ := Kd.at_int (Kd.R_reads' HO_5.out).2.2 x6_4 p135 q135
                      cases e135
                      replace p135 := eq_true p135
                      replace q135 := eq_true q135
                      go_wp2_with (first | ((with_reducible refine gate_callee (f := 42) rfl ?_); refine goesL_ (some 116) rfl rfl Try.func42 spec_IsSorts.a11 rfl #[.int .i64 (rd t132 x6_4), .int .i64 x7_5] rfl spec_IsSorts.a2 ?_; (with_reducible refine (spec_l2Has.calls (rd t132 x6_4) x7_5 true _ A50.out).mono ?_); rintro e w' ⟨rfl, ⟨nd, rfl⟩⟩; refine ⟨_, rfl, ?_⟩; have p137 : 0 ≤ (x7_5 : Int) := of_decide_eq_true spec_IsSorts.a1; have q137 : x7_5 < (t132.length : Int) := of_decide_eq_true spec_IsSorts.a1; obtain ⟨ad137, e137, hx137_0⟩ := Kd.at_int (Kd.R_reads' HO_5.out).2.2 x7_5 p137 q137; obtain rfl : ad135 = ad137 := (by injection e137); replace p137 := eq_true p137; replace q137 := eq_true q137) | (go_at_call 42; (with_reducible refine (spec_l2Has.calls (rd t132 x7_5) x6_4 true _ A54.out).mono ?_); rintro e w' ⟨rfl, ⟨nd, rfl⟩⟩))
                      go_ret
                      exact ⟨spec_IsSorts.a6, spec_IsSorts.a0⟩
                     ·replace c55 := Bool.eq_false_iff.mpr c55
                      subst c55
                      have H1 : (spec_IsSorts.l3 k5 t132 x6_4 (wrap64 (x7_5 + 1))) = some r := by rw [if_neg (show ¬ (false = true) by decide)] at H; exact H
                      clear H
                      have H := H1
                      clear H1
                      have H' := Aside0.mk H
                      clear H
                      have p135 : 0 ≤ (x6_4 : Int) := of_decide_eq_true spec_IsSorts.a1
                      have q135 : x6_4 < (t132.length : Int) := of_decide_eq_true spec_IsSorts.a1
                      obtain ⟨ad135, e135, hx135_0⟩ := Kd.at_int (Kd.R_reads' HO_5.out).2.2 x6_4 p135 q135
                      cases e135
                      replace p135 := eq_true p135
                      replace q135 := eq_true q135
                      go_wp2_with (first | ((with_reducible refine gate_callee (f := 42) rfl ?_); refine goesL_ (some 116) rfl rfl Try.func42 spec_IsSorts.a11 rfl #[.int .i64 (rd t132 x6_4), .int .i64 x7_5] rfl spec_IsSorts.a2 ?_; (with_reducible refine (spec_l2Has.calls (rd t132 x6_4) x7_5 true _ A50.out).mono ?_); rintro e w' ⟨rfl, ⟨nd, rfl⟩⟩; refine ⟨_, rfl, ?_⟩; have p137 : 0 ≤ (x7_5 : Int) := of_decide_eq_true spec_IsSorts.a1; have q137 : x7_5 < (t132.length : Int) := of_decide_eq_true spec_IsSorts.a1; obtain ⟨ad137, e137, hx137_0⟩ := Kd.at_int (Kd.R_reads' HO_5.out).2.2 x7_5 p137 q137; obtain rfl : ad135 = ad137 := (by injection e137); replace p137 := eq_true p137; replace q137 := eq_true q137) | (go_at_call 42; (with_reducible refine (spec_l2Has.calls (rd t132 x7_5) x6_4 false _ A54.out).mono ?_); rintro e w' ⟨rfl, ⟨nd, rfl⟩⟩))
                      go_roundg k5
                      case measure => have := HJ1.out; have := HK2.out; have := HK3.out; have := HK4.out; have := HK5.out; omega
                      case rel => exact ⟨(wrap64 (x7_5 + 1)), spec_IsSorts.a7, H', ⟨spec_IsSorts.a13⟩, ⟨spec_IsSorts.a10⟩, ⟨spec_IsSorts.a4⟩, ⟨spec_IsSorts.a0⟩⟩
                    ·rw [if_neg c53] at H
                     exact absurd H (by simp)
                   ·rw [if_neg c52] at H
                    exact absurd H (by simp)
                  ·replace c51 := Bool.eq_false_iff.mpr c51
                   subst c51
                   have H1 : (spec_IsSorts.l3 k5 t132 x6_4 (wrap64 (x7_5 + 1))) = some r := by rw [if_neg (show ¬ (false = true) by decide)] at H; exact H
                   clear H
                   have H := H1
                   clear H1
                   have H' := Aside0.mk H
                   clear H
                   have p135 : 0 ≤ (x6_4 : Int) := of_decide_eq_true spec_IsSorts.a1
                   have q135 : x6_4 < (t132.length : Int) := of_decide_eq_true spec_IsSorts.a1
                   obtain ⟨ad135, e135, hx135_0⟩ := Kd.at_int (Kd.R_reads' HO_5.out).2.2 x6_4 p135 q135
                   cases e135
                   replace p135 := eq_true p135
                   replace q135 := eq_true q135
                   go_wp2_with (first | ((with_reducible refine gate_callee (f := 42) rfl ?_); refine goesL_ (some 116) rfl rfl Try.func42 spec_IsSorts.a11 rfl #[.int .i64 (rd t132 x6_4), .int .i64 x7_5] rfl spec_IsSorts.a2 ?_; (with_reducible refine (spec_l2Has.calls (rd t132 x6_4) x7_5 false _ A50.out).mono ?_); rintro e w' ⟨rfl, ⟨nd, rfl⟩⟩; refine ⟨_, rfl, ?_⟩))
                   go_roundg k5
                   case measure => have := HJ1.out; have := HK2.out; have := HK3.out; have := HK4.out; have := HK5.out; omega
                   case rel => exact ⟨(wrap64 (x7_5 + 1)), spec_IsSorts.a7, H', ⟨spec_IsSorts.a13⟩, ⟨spec_IsSorts.a10⟩, ⟨spec_IsSorts.a4⟩, ⟨spec_IsSorts.a0⟩⟩
                 ·rw [if_neg c49] at H
                  exact absurd H (by simp)
                ·rw [if_neg c48] at H
                 exact absurd H (by simp)
               ·rw [if_neg c47] at H
                have c47b0 : decide (x7_5 < x6_4) = false := decide_eq_false c47
                clear c47
                have H' := Aside0.mk H
                clear H
                go_wp2
                go_roundg k5
                case measure => have := HJ1.out; have := HK2.out; have := HK3.out; have := HK4.out; have := HK5.out; omega
                case rel => exact ⟨(wrap64 (x6_4 + 1)), spec_IsSorts.a7, H', ⟨spec_IsSorts.a13⟩, ⟨spec_IsSorts.a10⟩, ⟨spec_IsSorts.a4⟩, ⟨spec_IsSorts.a0⟩⟩
            ·rw [if_neg c45] at H
             have c45b0 : decide (x6_4 < (t132.length : Int)) = false := decide_eq_false c45
             clear c45
             obtain rfl := Option.some.inj H
             obtain ⟨Ao56, co56, eo56⟩ := Kd.R_slice HO_5.out
             subst eo56
             go_wp2
             go_ret
             exact ⟨spec_IsSorts.a6, spec_IsSorts.a0⟩

end Go.Proofs.Ytlpkicbmcpmemaa.Q

