/- Functions of the program as plain Lean functions, and that the calls come to what they say. -/
import Derived.Test.YtlpkicbmcpmemaaZQx0h2d4ba
import Derived.Test.YtlpkicbmcpmemaaZQx5ha550c
import Derived.Test.YtlpkicbmcpmemaaZQx6heeb49
import Derived.Test.YtlpkicbmcpmemaaZSeenhc6661
namespace Go.Proofs.Ytlpkicbmcpmemaa.Q
open Go.RowKit Go.Proofs.YtlpkicbmcpmemaaW.PrintWords Go.Proofs.YtlpkicbmcpmemaaW.PrintLast Go.Proofs.YtlpkicbmcpmemaaW.PrintMore
attribute [local go_sem] max2_int min2_int max_two min_two max_three min_three max_four min_four   -- for this text's walks alone
set_option linter.unusedVariables false
set_option linter.unusedSimpArgs false

/-! ### impl_IsSorts: function 15 -/
theorem impl_IsSorts.a0 {P_ : Prop} (h_ : P_ := by repeat (first | (with_reducible first | exact HB.out | apply below_alloc | apply pw_below_drewN | apply below_drew1 | refine below_set ?_ GE174.out) | exact HB.out)) : P_ := h_
theorem impl_IsSorts.a1 {P_ : Prop} (h_ : P_ := by (with_reducible repeat (first | refine blk_drewN ?_ _ | refine blk_drew ?_ | refine blk_alloc ?_ _)); exact BK174.out) : P_ := h_
theorem impl_IsSorts.a2 {P_ : Prop} (h_ : P_ := by first | (with_reducible assumption) | assumption) : P_ := h_
theorem impl_IsSorts.a3 {P_ : Prop} (h_ : P_ := by repeat (first | (with_reducible first | exact HB.out | apply below_alloc | apply pw_below_drewN | apply below_drew1) | exact HB.out)) : P_ := h_
theorem impl_IsSorts.a4 {P_ : Prop} (h_ : P_ := by repeat (first | (with_reducible first | exact HB.out | apply below_alloc | apply pw_below_drewN | apply below_drew1 | refine below_set ?_ GE174.out | refine below_set ?_ GE179.out) | exact HB.out)) : P_ := h_
theorem impl_IsSorts.a5 {P_ : Prop} (h_ : P_ := by first | rfl | (simp [errW_none, errW_some] <;> rfl) | (simp [*, errW_none, errW_some] <;> rfl)) : P_ := h_
theorem impl_IsSorts.a6 {P_ : Prop} (h_ : P_ := by first | rfl | (simp; done) | (simp [*]; done)) : P_ := h_
theorem impl_IsSorts.a7 {P_ : Prop} (h_ : P_ := by (with_reducible repeat (first | apply Kd.R_alloc | apply Kd.R_drewN | apply Kd.R_drew)); exact HO_9.out) : P_ := h_
theorem impl_IsSorts.a8 {P_ : Prop} (h_ : P_ := by have := HJ1.out; have := HK2.out; have := HK3.out; have := HK4.out; have := HK5.out; omega) : P_ := h_
theorem impl_IsSorts.a9 {P_ : Prop} (h_ : P_ := by rw [List.length_take]; have h_ := HR0_0.out.2.1; have hp_ := of_eq_true p175; have hq_ := of_eq_true q175; unfold maxLen; omega) : P_ := h_
mutual
def impl_IsSorts.j0 : Nat → Int → Bool → List ByteArray → List (S52) → Option (Bool)
 | 0, _, _, _, _ => none
 | k + 1, x3, x26, x175000, x175001 => if x26 = true then (some false) else (impl_IsSorts.l0 k x3 x175000 (x175000.length : Int) 0 x175000 x175001)
def impl_IsSorts.l0 : Nat → Int → List ByteArray → Int → Int → List ByteArray → List (S52) → Option (Bool)
 | 0, _, _, _, _, _, _ => none
 | k + 1, x3, x29, x30, x31, x175000, x175001 => if x31 < x30 then (if 0 ≤ x31 then (if x31 < (x29.length : Int) then ((seenIn.f (x29.take (x31).toNat) (rdOf ByteArray.empty x29 x31)).bind fun t176 => (if t176 = true then (some false) else ((impl_IsName.f k (rdOf ByteArray.empty x29 x31)).bind fun t177 => (if t177 = true then (impl_IsSorts.l0 k x3 x29 x30 (wrap64 (x31 + 1)) x175000 x175001) else (some false))))) else (none)) else (none)) else (impl_IsSorts.l1 k x3 x175001 (x175001.length : Int) 0 x175000 x175001)
def impl_IsSorts.l1 : Nat → Int → List (S52) → Int → Int → List ByteArray → List (S52) → Option (Bool)
 | 0, _, _, _, _, _, _ => none
 | k + 1, x3, x47, x48, x49, x175000, x175001 => if x49 < x48 then (if 0 ≤ x49 then (if x49 < (x47.length : Int) then (if ((rd_T52 x47 x49).f0) < 0 then (some false) else (if ((rd_T52 x47 x49).f0) ≥ x3 then (some false) else (if ((rd_T52 x47 x49).f1) < 0 then (some false) else (if ((rd_T52 x47 x49).f1) ≥ x3 then (some false) else (if ((rd_T52 x47 x49).f0) = ((rd_T52 x47 x49).f1) then (some false) else (impl_IsSorts.l1 k x3 x47 x48 (wrap64 (x49 + 1)) x175000 x175001)))))) else (none)) else (none)) else ((impl_sortsAbove.f k x175000 x175001).bind fun t180 => (impl_IsSorts.l2 k t180 (t180.length : Int) 0))
def impl_IsSorts.l2 : Nat → List Int → Int → Int → Option (Bool)
 | 0, _, _, _ => none
 | k + 1, x9, x84, x85 => if x85 < x84 then (impl_IsSorts.l3 k x9 x85 x84 x85 (x9.length : Int) 0) else (some true)
def impl_IsSorts.l3 : Nat → List Int → Int → Int → Int → Int → Int → Option (Bool)
 | 0, _, _, _, _, _, _ => none
 | k + 1, x9, x10, x84, x85, x89, x90 => if x90 < x89 then (if x10 = x90 then (impl_IsSorts.l3 k x9 x10 x84 x85 x89 (wrap64 (x90 + 1))) else (if 0 ≤ x10 then (if x10 < (x9.length : Int) then (if 0 ≤ x90 then (if (Go.bits .and .i64 (rd x9 x10) (shl .i64 1 x90)) = 0 then (impl_IsSorts.l3 k x9 x10 x84 x85 x89 (wrap64 (x90 + 1))) else (if x90 < (x9.length : Int) then (if (Go.bits .and .i64 (rd x9 x90) (shl .i64 1 x10)) = 0 then (impl_IsSorts.l3 k x9 x10 x84 x85 x89 (wrap64 (x90 + 1))) else (some false)) else (none))) else (none)) else (none)) else (none))) else (impl_IsSorts.l2 k x9 x84 (wrap64 (x85 + 1)))
end
def impl_IsSorts.f (k : Nat) (l0_0 : List ByteArray) (l0_1 : List (S52)) : Option (Bool) := if (l0_0.length : Int) < 1 then (impl_IsSorts.j0 k (l0_0.length : Int) true l0_0 l0_1) else (if (l0_0.length : Int) > 8 then (impl_IsSorts.j0 k (l0_0.length : Int) true l0_0 l0_1) else (impl_IsSorts.j0 k (l0_0.length : Int) (decide ((l0_1.length : Int) > 16)) l0_0 l0_1))
set_option maxHeartbeats 8000000 in
set_option maxRecDepth 100000 in
theorem impl_IsSorts.calls (k : Nat) (A0_0 : Option Addr) (c0_0 : Nat) (l0_0 : List ByteArray) (A0_1 : Option Addr) (c0_1 : Nat) (l0_1 : List (S52)) (r : Bool) (w : World) (hr0_0 : Kd.C Kd.string w A0_0 l0_0.length l0_0) (hc0_0 : l0_0.length ≤ c0_0) (hr0_1 : Kd.C k52 w A0_1 l0_1.length l0_1) (hc0_1 : l0_1.length ≤ c0_1) (h : impl_IsSorts.f k l0_0 l0_1 = some r) :
  Calls Try.prog 15 #[.agg #[.slice A0_0 l0_0.length c0_0, .slice A0_1 l0_1.length c0_1]] w fun e w' => e = .returned (.bool r) ∧ Below w.heap.size w w' := by
 have hu30 := Try.underlying30
 have hu52 := Try.underlying52
 have HR0_0 := Aside0.mk hr0_0
 have HC0_0 := Aside0.mk hc0_0
 clear hr0_0 hc0_0
 have HR0_1 := Aside0.mk hr0_1
 have HC0_1 := Aside0.mk hc0_1
 clear hr0_1 hc0_1
 have HB := Aside0.mk (Below.refl w.heap.size w)
 have H : (if (l0_0.length : Int) < 1 then (impl_IsSorts.j0 k (l0_0.length : Int) true l0_0 l0_1) else (if (l0_0.length : Int) > 8 then (impl_IsSorts.j0 k (l0_0.length : Int) true l0_0 l0_1) else (impl_IsSorts.j0 k (l0_0.length : Int) (decide ((l0_1.length : Int) > 16)) l0_0 l0_1))) = some r := h
 clear h
 have HC2 := Aside0.mk H
 clear H
 go_enter Try.func15, Try.ntmps15
 go_upto_region 2 with (first | ((with_reducible refine gate_dst (N := 1) rfl ?_); (try (refine gate_guard (by rfl) ?_; dsimp only)); refine box_event ?hg (N := 1) ?hd (cs := #[.slice A0_0 l0_0.length c0_0, .slice A0_1 l0_1.length c0_1]) (t := 30) ?hr ?_; (case hd => rfl); (case hg => rfl); (case hr => first | (go_simp; done) | (go_simp; rfl)); intro gb174 hg w3 hbox hb; have n0_ := Aside0.mk (below_step impl_IsSorts.a3 hb); have n1_ := Aside0.mk (hbox); have n2_ := Aside0.mk ((by rw [hg]; exact (below_size impl_IsSorts.a3) : w.heap.size ≤ gb174)); have n3_ := Aside0.mk ((by rw [hg]; exact (below_size impl_IsSorts.a3) : w.heap.size ≤ gb174)); clear HB; have HB := n0_; have BK174 := n1_; have GW174 := n2_; have GE174 := n3_; clear n0_ n1_ n2_ n3_; clear hb hbox hg; have hcz4_0 : w3.cell? ⟨gb174, 0, none⟩ = some (.slice A0_0 l0_0.length c0_0) := (blk_cell BK174.out 0).trans rfl; have hcz4_1 : w3.cell? ⟨gb174, 1, none⟩ = some (.slice A0_1 l0_1.length c0_1) := (blk_cell BK174.out 1).trans rfl; have hfz4_0 := blk_frozen BK174.out 0; have hfz4_1 := blk_frozen BK174.out 1))
 repeat (go_quiet (first | ((with_reducible refine gate_dst (N := 1) rfl ?_); (try (refine gate_guard (by rfl) ?_; dsimp only)); refine box_event ?hg (N := 1) ?hd (cs := #[.slice A0_0 l0_0.length c0_0, .slice A0_1 l0_1.length c0_1]) (t := 30) ?hr ?_; (case hd => rfl); (case hg => rfl); (case hr => first | (go_simp; done) | (go_simp; rfl)); intro gb174 hg w3 hbox hb; have n0_ := Aside0.mk (below_step impl_IsSorts.a3 hb); have n1_ := Aside0.mk (hbox); have n2_ := Aside0.mk ((by rw [hg]; exact (below_size impl_IsSorts.a3) : w.heap.size ≤ gb174)); have n3_ := Aside0.mk ((by rw [hg]; exact (below_size impl_IsSorts.a3) : w.heap.size ≤ gb174)); clear HB; have HB := n0_; have BK174 := n1_; have GW174 := n2_; have GE174 := n3_; clear n0_ n1_ n2_ n3_; clear hb hbox hg; have hcz4_0 : w3.cell? ⟨gb174, 0, none⟩ = some (.slice A0_0 l0_0.length c0_0) := (blk_cell BK174.out 0).trans rfl; have hcz4_1 : w3.cell? ⟨gb174, 1, none⟩ = some (.slice A0_1 l0_1.length c0_1) := (blk_cell BK174.out 1).trans rfl; have hfz4_0 := blk_frozen BK174.out 0; have hfz4_1 := blk_frozen BK174.out 1)); go_upto_region 2 with (first | ((with_reducible refine gate_dst (N := 1) rfl ?_); (try (refine gate_guard (by rfl) ?_; dsimp only)); refine box_event ?hg (N := 1) ?hd (cs := #[.slice A0_0 l0_0.length c0_0, .slice A0_1 l0_1.length c0_1]) (t := 30) ?hr ?_; (case hd => rfl); (case hg => rfl); (case hr => first | (go_simp; done) | (go_simp; rfl)); intro gb174 hg w3 hbox hb; have n0_ := Aside0.mk (below_step impl_IsSorts.a3 hb); have n1_ := Aside0.mk (hbox); have n2_ := Aside0.mk ((by rw [hg]; exact (below_size impl_IsSorts.a3) : w.heap.size ≤ gb174)); have n3_ := Aside0.mk ((by rw [hg]; exact (below_size impl_IsSorts.a3) : w.heap.size ≤ gb174)); clear HB; have HB := n0_; have BK174 := n1_; have GW174 := n2_; have GE174 := n3_; clear n0_ n1_ n2_ n3_; clear hb hbox hg; have hcz4_0 : w3.cell? ⟨gb174, 0, none⟩ = some (.slice A0_0 l0_0.length c0_0) := (blk_cell BK174.out 0).trans rfl; have hcz4_1 : w3.cell? ⟨gb174, 1, none⟩ = some (.slice A0_1 l0_1.length c0_1) := (blk_cell BK174.out 1).trans rfl; have hfz4_0 := blk_frozen BK174.out 0; have hfz4_1 := blk_frozen BK174.out 1)))
 (try simp only [Act.put, List.setIfInBounds_toArray, List.set_cons_zero, List.set_cons_succ])
 go_cut [26] (fun v26 wc => ∃ (kq : Nat) (x26_1 : Bool), v26 = .bool x26_1 ∧ Aside0 (impl_IsSorts.j0 kq (l0_0.length : Int) x26_1 l0_0 l0_1 = some r) ∧ Aside0 (kq ≤ k) ∧ Aside0 (wc.heap[gb174]? = some (.cells #[(.slice A0_0 l0_0.length c0_0), (.slice A0_1 l0_1.length c0_1)] 30 (0, 0))) ∧ Aside0 (Below w.heap.size w wc))
 case first =>
  have H := HC2.out
  clear HC2
  by_cases c5 : (l0_0.length : Int) < 1
  ·rw [if_pos c5] at H
   have c5b0 : decide ((l0_0.length : Int) < 1) = true := decide_eq_true c5
   have c5b1 : decide (l0_0.length < 1) = true := decide_eq_true (by omega)
   clear c5
   (first | rw [c5b0] | (simp only [i64_w, i32_w]; rw [c5b0]) | skip)
   have H' := Aside0.mk H
   clear H
   go_wp2
   repeat (go_quiet (fail); try go_wp2)
   go_meet
   case rel => exact ⟨_, (true), impl_IsSorts.a6, H', ⟨by first | omega | exact Nat.le_refl _⟩, ⟨impl_IsSorts.a1⟩, ⟨impl_IsSorts.a0⟩⟩
  ·rw [if_neg c5] at H
   have c5b0 : decide ((l0_0.length : Int) < 1) = false := decide_eq_false c5
   have c5b1 : decide (l0_0.length < 1) = false := decide_eq_false (by omega)
   clear c5
   (first | rw [c5b0] | (simp only [i64_w, i32_w]; rw [c5b0]) | skip)
   by_cases c6 : (l0_0.length : Int) > 8
   ·rw [if_pos c6] at H
    have c6b0 : decide (8 < (l0_0.length : Int)) = true := decide_eq_true c6
    have c6b1 : decide (8 < l0_0.length) = true := decide_eq_true (by omega)
    clear c6
    have H' := Aside0.mk H
    clear H
    go_wp2
    repeat (go_quiet (fail); try go_wp2)
    go_meet
    case rel => exact ⟨_, (true), impl_IsSorts.a6, H', ⟨by first | omega | exact Nat.le_refl _⟩, ⟨impl_IsSorts.a1⟩, ⟨impl_IsSorts.a0⟩⟩
   ·rw [if_neg c6] at H
    have c6b0 : decide (8 < (l0_0.length : Int)) = false := decide_eq_false c6
    have c6b1 : decide (8 < l0_0.length) = false := decide_eq_false (by omega)
    clear c6
    have H' := Aside0.mk H
    clear H
    have hcz7_0 : w3.cell? ⟨gb174, 0, none⟩ = some (.slice A0_0 l0_0.length c0_0) := (blk_cell BK174.out 0).trans rfl
    have hcz7_1 : w3.cell? ⟨gb174, 1, none⟩ = some (.slice A0_1 l0_1.length c0_1) := (blk_cell BK174.out 1).trans rfl
    have hfz7_0 := blk_frozen BK174.out 0
    have hfz7_1 := blk_frozen BK174.out 1
    go_wp2
    repeat (go_quiet (fail); try go_wp2)
    go_meet
    case rel => exact ⟨_, (decide ((l0_1.length : Int) > 16)), impl_IsSorts.a6, H', ⟨by first | omega | exact Nat.le_refl _⟩, ⟨impl_IsSorts.a1⟩, ⟨impl_IsSorts.a0⟩⟩
 case rest =>
  clear HC2
  try clear c1
  try clear p2
  try clear c5
  try clear c5b0
  try clear c5b1
  try clear c6
  try clear c6b0
  try clear c6b1
  try clear hcz4_0
  try clear hcz4_1
  try clear hcz7_0
  try clear hcz7_1
  try clear hfz4_0
  try clear hfz4_1
  try clear hfz7_0
  try clear hfz7_1
  obtain ⟨kq, x26_1, rfl, HA, HJ1, BK174, HB⟩ := hcut
  cases kq with
  | zero => exact absurd HA.out (by simp [impl_IsSorts.j0])
  | succ kj1 =>
   have H := HA.out
   clear HA
   simp only [impl_IsSorts.j0] at H
   by_cases c8 : x26_1 = true
   ·subst c8
    have H1 : (some false) = some r := by rw [if_pos rfl] at H; exact H
    clear H
    have H := H1
    clear H1
    obtain rfl := Option.some.inj H
    go_wp2
    repeat (go_quiet (fail); try go_wp2)
    go_ret
    exact ⟨impl_IsSorts.a5, impl_IsSorts.a0⟩
   ·replace c8 := Bool.eq_false_iff.mpr c8
    subst c8
    have H1 : (impl_IsSorts.l0 kj1 (l0_0.length : Int) l0_0 (l0_0.length : Int) 0 l0_0 l0_1) = some r := by rw [if_neg (show ¬ (false = true) by decide)] at H; exact H
    clear H
    have H := H1
    clear H1
    have H' := Aside0.mk H
    clear H
    have hcz9_0 : wc.cell? ⟨gb174, 0, none⟩ = some (.slice A0_0 l0_0.length c0_0) := (blk_cell BK174.out 0).trans rfl
    have hcz9_1 : wc.cell? ⟨gb174, 1, none⟩ = some (.slice A0_1 l0_1.length c0_1) := (blk_cell BK174.out 1).trans rfl
    have hfz9_0 := blk_frozen BK174.out 0
    have hfz9_1 := blk_frozen BK174.out 1
    have hcm9_0 : (wc.alloc (.map #[] 0)).cell? ⟨gb174, 0, none⟩ = some (.slice A0_0 l0_0.length c0_0) := ((below_alloc (Below.refl wc.heap.size wc) (.map #[] 0)).cell (World.block_lt_of_cell? wc _ hcz9_0)).trans hcz9_0
    have hcm9_1 : (wc.alloc (.map #[] 0)).cell? ⟨gb174, 1, none⟩ = some (.slice A0_1 l0_1.length c0_1) := ((below_alloc (Below.refl wc.heap.size wc) (.map #[] 0)).cell (World.block_lt_of_cell? wc _ hcz9_1)).trans hcz9_1
    have hmk_ := @run_makeMap Try.prog
    have GM_ := Aside0.mk (show w.heap.size ≤ wc.heap.size from HB.out.size)
    go_wp2
    repeat (go_quiet (fail); try go_wp2)
    clear hmk_
    try clear hcm9_1
    try clear hcm9_0
    go_loopg [31] kj1 (fun kq v31 w' => ∃ (x31_2 : Int), v31 = .int .i64 x31_2 ∧ Aside0 (impl_IsSorts.l0 kq (l0_0.length : Int) l0_0 (l0_0.length : Int) x31_2 l0_0 l0_1 = some r) ∧ Aside0 (kq ≤ kj1) ∧ Aside0 (w'.heap[gb174]? = some (.cells #[(.slice A0_0 l0_0.length c0_0), (.slice A0_1 l0_1.length c0_1)] 30 (0, 0))) ∧ Aside0 (Below w.heap.size w w') ∧ Aside0 (Seen Try.prog 9 4 w' wc.heap.size (l0_0.take (x31_2).toNat)))
    case atStart => exact ⟨(0), impl_IsSorts.a6, H', ⟨Nat.le_refl _⟩, ⟨impl_IsSorts.a1⟩, ⟨impl_IsSorts.a0⟩, ⟨by first | exact Seen.made _ | exact (Seen.made _).drewN _⟩⟩
    case round =>
     clear H'
     try clear c1
     try clear p2
     try clear c5
     try clear c5b0
     try clear c5b1
     try clear c6
     try clear c6b0
     try clear c6b1
     try clear c8
     try clear hcz4_0
     try clear hcz4_1
     try clear hcz7_0
     try clear hcz7_1
     try clear hcz9_0
     try clear hcz9_1
     try clear hfz4_0
     try clear hfz4_1
     try clear hfz7_0
     try clear hfz7_1
     try clear hfz9_0
     try clear hfz9_1
     try clear p2
     obtain ⟨x31_2, rfl, HA, HK2, BK174, HB, HM⟩ := hrel
     have hzE_ : ∀ W_, (zeroValue 4).run Try.prog W_ = .ok (.bool false) W_ := fun _ => by rfl
     cases gk with
     | zero => exact absurd HA.out (by simp [impl_IsSorts.l0])
     | succ k2 =>
      have H := HA.out
      clear HA
      simp only [impl_IsSorts.l0] at H
      by_cases c10 : x31_2 < (l0_0.length : Int)
      ·rw [if_pos c10] at H
       have c10b0 : decide (x31_2 < (l0_0.length : Int)) = true := decide_eq_true c10
       clear c10
       by_cases c11 : 0 ≤ x31_2
       ·rw [if_pos c11] at H
        have c11b0 : decide (0 ≤ x31_2) = true := decide_eq_true c11
        clear c11
        by_cases c12 : x31_2 < (l0_0.length : Int)
        ·rw [if_pos c12] at H
         have c12b0 : decide (x31_2 < (l0_0.length : Int)) = true := decide_eq_true c12
         clear c12
         replace H := Option.bind_eq_some_iff.mp H
         obtain ⟨t176, A130, H⟩ := H
         replace H : (if t176 = true then (some false) else ((impl_IsName.f k2 (rdOf ByteArray.empty l0_0 x31_2)).bind fun t177 => (if t177 = true then (impl_IsSorts.l0 k2 (l0_0.length : Int) l0_0 (l0_0.length : Int) (wrap64 (x31_2 + 1)) l0_0 l0_1) else (some false)))) = some r := H
         have A13 := Aside0.mk A130
         clear A130
         by_cases c14 : t176 = true
         ·subst c14
          have H1 : (some false) = some r := by rw [if_pos rfl] at H; exact H
          clear H
          have H := H1
          clear H1
          obtain rfl := Option.some.inj H
          have p175 : 0 ≤ (x31_2 : Int) := of_decide_eq_true impl_IsSorts.a2
          have q175 : x31_2 < (l0_0.length : Int) := of_decide_eq_true impl_IsSorts.a2
          obtain ⟨ad175, e175, hx175_0⟩ := Kd.at_string HR0_0.out x31_2 p175 q175
          cases e175
          replace hx175_0 := (HB.out.cell (World.block_lt_of_cell? w _ hx175_0)).trans hx175_0
          replace p175 := eq_true p175
          replace q175 := eq_true q175
          go_wp2_with (first | (at_lookup; refine wpList_seen HM.out rfl _ _ 56 rfl Try.underlying9 Try.underlying56 Try.underlying4 (hzE_ _) rfl rfl A13.out ?_) | (at_mapUpdate; refine wpList_seen_put (by first | exact HM.out | exact HM.out.drewN _) rfl _ _ _ 56 rfl Try.underlying9 Try.underlying56 Try.underlying4 rfl rfl rfl A13.out impl_IsSorts.a9 ?_; intro w2_ hs_ hg_; have hg2_ : wr.grownBy w2_ (some _) := (by first | exact hg_ | exact seen_grown hg_); have n0_ := Aside0.mk (blk_grown BK174.out hg2_ (HM.out.ne BK174.out)); have n1_ := Aside0.mk (pw_below_grown HB.out (some _) HB.out.size hg2_ (fun k_ e_ => by injection e_ with e_; subst e_; exact GM_.out)); have nm_ := Aside0.mk (show Seen Try.prog 9 4 w2_ _ (l0_0.take (wrap64 (x31_2 + 1)).toNat) from by rw [take_wrap ByteArray.empty l0_0 x31_2 (of_eq_true p175) (of_eq_true q175) HR0_0.out.2.1]; exact hs_); clear BK174 HB HM hs_ hg_ hg2_; have BK174 := n0_; have HB := n1_; have HM := nm_; clear nm_ n0_ n1_))
          go_ret
          exact ⟨impl_IsSorts.a5, impl_IsSorts.a0⟩
         ·replace c14 := Bool.eq_false_iff.mpr c14
          subst c14
          have H1 : ((impl_IsName.f k2 (rdOf ByteArray.empty l0_0 x31_2)).bind fun t177 => (if t177 = true then (impl_IsSorts.l0 k2 (l0_0.length : Int) l0_0 (l0_0.length : Int) (wrap64 (x31_2 + 1)) l0_0 l0_1) else (some false))) = some r := by rw [if_neg (show ¬ (false = true) by decide)] at H; exact H
          clear H
          have H := H1
          clear H1
          replace H := Option.bind_eq_some_iff.mp H
          obtain ⟨t177, A150, H⟩ := H
          replace H : (if t177 = true then (impl_IsSorts.l0 k2 (l0_0.length : Int) l0_0 (l0_0.length : Int) (wrap64 (x31_2 + 1)) l0_0 l0_1) else (some false)) = some r := H
          have A15 := Aside0.mk A150
          clear A150
          by_cases c16 : t177 = true
          ·subst c16
           have H1 : (impl_IsSorts.l0 k2 (l0_0.length : Int) l0_0 (l0_0.length : Int) (wrap64 (x31_2 + 1)) l0_0 l0_1) = some r := by rw [if_pos rfl] at H; exact H
           clear H
           have H := H1
           clear H1
           have H' := Aside0.mk H
           clear H
           have p175 : 0 ≤ (x31_2 : Int) := of_decide_eq_true impl_IsSorts.a2
           have q175 : x31_2 < (l0_0.length : Int) := of_decide_eq_true impl_IsSorts.a2
           obtain ⟨ad175, e175, hx175_0⟩ := Kd.at_string HR0_0.out x31_2 p175 q175
           cases e175
           replace hx175_0 := (HB.out.cell (World.block_lt_of_cell? w _ hx175_0)).trans hx175_0
           replace p175 := eq_true p175
           replace q175 := eq_true q175
           go_wp2_with (first | (at_lookup; refine wpList_seen HM.out rfl _ _ 56 rfl Try.underlying9 Try.underlying56 Try.underlying4 (hzE_ _) rfl rfl A13.out ?_) | (go_at_call 45; (with_reducible refine (impl_IsName.calls k2 (rdOf ByteArray.empty l0_0 x31_2) true _ A15.out).mono ?_); rintro e w' ⟨rfl, ⟨nd, rfl⟩⟩; (try first | exact ⟨rfl, _, World.drewN_drewN _ _ _⟩ | exact ⟨rfl, _, Eq.trans (World.drewN_drewN _ _ _) (congrArg (World.drewN _) (Nat.add_assoc _ _ _))⟩)) | (at_mapUpdate; refine wpList_seen_put (by first | exact HM.out | exact HM.out.drewN _) rfl _ _ _ 56 rfl Try.underlying9 Try.underlying56 Try.underlying4 rfl rfl rfl A13.out impl_IsSorts.a9 ?_; intro w2_ hs_ hg_; have hg2_ : wr.grownBy w2_ (some _) := (by first | exact hg_ | exact seen_grown hg_); have n0_ := Aside0.mk (blk_grown BK174.out hg2_ (HM.out.ne BK174.out)); have n1_ := Aside0.mk (pw_below_grown HB.out (some _) HB.out.size hg2_ (fun k_ e_ => by injection e_ with e_; subst e_; exact GM_.out)); have nm_ := Aside0.mk (show Seen Try.prog 9 4 w2_ _ (l0_0.take (wrap64 (x31_2 + 1)).toNat) from by rw [take_wrap ByteArray.empty l0_0 x31_2 (of_eq_true p175) (of_eq_true q175) HR0_0.out.2.1]; exact hs_); clear BK174 HB HM hs_ hg_ hg2_; have BK174 := n0_; have HB := n1_; have HM := nm_; clear nm_ n0_ n1_))
           go_roundg k2
           case measure => have := HJ1.out; have := HK2.out; omega
           case rel => exact ⟨(wrap64 (x31_2 + 1)), impl_IsSorts.a6, H', ⟨by have := HJ1.out; have := HK2.out; omega⟩, ⟨impl_IsSorts.a1⟩, ⟨impl_IsSorts.a0⟩, ⟨HM.out⟩⟩
          ·replace c16 := Bool.eq_false_iff.mpr c16
           subst c16
           have H1 : (some false) = some r := by rw [if_neg (show ¬ (false = true) by decide)] at H; exact H
           clear H
           have H := H1
           clear H1
           obtain rfl := Option.some.inj H
           have p175 : 0 ≤ (x31_2 : Int) := of_decide_eq_true impl_IsSorts.a2
           have q175 : x31_2 < (l0_0.length : Int) := of_decide_eq_true impl_IsSorts.a2
           obtain ⟨ad175, e175, hx175_0⟩ := Kd.at_string HR0_0.out x31_2 p175 q175
           cases e175
           replace hx175_0 := (HB.out.cell (World.block_lt_of_cell? w _ hx175_0)).trans hx175_0
           replace p175 := eq_true p175
           replace q175 := eq_true q175
           go_wp2_with (first | (at_lookup; refine wpList_seen HM.out rfl _ _ 56 rfl Try.underlying9 Try.underlying56 Try.underlying4 (hzE_ _) rfl rfl A13.out ?_) | (go_at_call 45; (with_reducible refine (impl_IsName.calls k2 (rdOf ByteArray.empty l0_0 x31_2) false _ A15.out).mono ?_); rintro e w' ⟨rfl, ⟨nd, rfl⟩⟩; (try first | exact ⟨rfl, _, World.drewN_drewN _ _ _⟩ | exact ⟨rfl, _, Eq.trans (World.drewN_drewN _ _ _) (congrArg (World.drewN _) (Nat.add_assoc _ _ _))⟩)) | (at_mapUpdate; refine wpList_seen_put (by first | exact HM.out | exact HM.out.drewN _) rfl _ _ _ 56 rfl Try.underlying9 Try.underlying56 Try.underlying4 rfl rfl rfl A13.out impl_IsSorts.a9 ?_; intro w2_ hs_ hg_; have hg2_ : wr.grownBy w2_ (some _) := (by first | exact hg_ | exact seen_grown hg_); have n0_ := Aside0.mk (blk_grown BK174.out hg2_ (HM.out.ne BK174.out)); have n1_ := Aside0.mk (pw_below_grown HB.out (some _) HB.out.size hg2_ (fun k_ e_ => by injection e_ with e_; subst e_; exact GM_.out)); have nm_ := Aside0.mk (show Seen Try.prog 9 4 w2_ _ (l0_0.take (wrap64 (x31_2 + 1)).toNat) from by rw [take_wrap ByteArray.empty l0_0 x31_2 (of_eq_true p175) (of_eq_true q175) HR0_0.out.2.1]; exact hs_); clear BK174 HB HM hs_ hg_ hg2_; have BK174 := n0_; have HB := n1_; have HM := nm_; clear nm_ n0_ n1_))
           go_ret
           exact ⟨impl_IsSorts.a5, impl_IsSorts.a0⟩
        ·rw [if_neg c12] at H
         exact absurd H (by simp)
       ·rw [if_neg c11] at H
        exact absurd H (by simp)
      ·rw [if_neg c10] at H
       have c10b0 : decide (x31_2 < (l0_0.length : Int)) = false := decide_eq_false c10
       clear c10
       have H' := Aside0.mk H
       clear H
       have hcz17_0 : wr.cell? ⟨gb174, 0, none⟩ = some (.slice A0_0 l0_0.length c0_0) := (blk_cell BK174.out 0).trans rfl
       have hcz17_1 : wr.cell? ⟨gb174, 1, none⟩ = some (.slice A0_1 l0_1.length c0_1) := (blk_cell BK174.out 1).trans rfl
       have hfz17_0 := blk_frozen BK174.out 0
       have hfz17_1 := blk_frozen BK174.out 1
       go_wp2
       repeat (go_quiet (fail); try go_wp2)
       go_loopg [49] k2 (fun kq v49 w' => ∃ (x49_3 : Int), v49 = .int .i64 x49_3 ∧ Aside0 (impl_IsSorts.l1 kq (l0_0.length : Int) l0_1 (l0_1.length : Int) x49_3 l0_0 l0_1 = some r) ∧ Aside0 (kq ≤ k2) ∧ Aside0 (w'.heap[gb174]? = some (.cells #[(.slice A0_0 l0_0.length c0_0), (.slice A0_1 l0_1.length c0_1)] 30 (0, 0))) ∧ Aside0 (Below w.heap.size w w'))
       case atStart => exact ⟨(0), impl_IsSorts.a6, H', ⟨Nat.le_refl _⟩, ⟨impl_IsSorts.a1⟩, ⟨impl_IsSorts.a0⟩⟩
       case round =>
        clear H'
        try clear c1
        try clear p1
        try clear q1
        try clear hx1
        try clear p2
        try clear c5
        try clear c5b0
        try clear c5b1
        try clear c6
        try clear c6b0
        try clear c6b1
        try clear p6
        try clear c8
        try clear c10
        try clear c10b0
        try clear c11
        try clear c11b0
        try clear c12
        try clear c12b0
        try clear c14
        try clear c15
        try clear c16
        try clear p17
        try clear q17
        try clear hx17
        try clear hcz17_0
        try clear hcz17_1
        try clear hcz4_0
        try clear hcz4_1
        try clear hcz7_0
        try clear hcz7_1
        try clear hcz9_0
        try clear hcz9_1
        try clear hfz17_0
        try clear hfz17_1
        try clear hfz4_0
        try clear hfz4_1
        try clear hfz7_0
        try clear hfz7_1
        try clear hfz9_0
        try clear hfz9_1
        try clear hx175_0
        try clear p175
        try clear p2
        try clear q175
        obtain ⟨x49_3, rfl, HA, HK3, BK174, HB⟩ := hrel
        cases gk with
        | zero => exact absurd HA.out (by simp [impl_IsSorts.l1])
        | succ k3 =>
         have H := HA.out
         clear HA
         simp only [impl_IsSorts.l1] at H
         by_cases c18 : x49_3 < (l0_1.length : Int)
         ·rw [if_pos c18] at H
          have c18b0 : decide (x49_3 < (l0_1.length : Int)) = true := decide_eq_true c18
          clear c18
          by_cases c19 : 0 ≤ x49_3
          ·rw [if_pos c19] at H
           have c19b0 : decide (0 ≤ x49_3) = true := decide_eq_true c19
           clear c19
           by_cases c20 : x49_3 < (l0_1.length : Int)
           ·rw [if_pos c20] at H
            have c20b0 : decide (x49_3 < (l0_1.length : Int)) = true := decide_eq_true c20
            clear c20
            by_cases c21 : ((rd_T52 l0_1 x49_3).f0) < 0
            ·rw [if_pos c21] at H
             have c21b0 : decide (((rd_T52 l0_1 x49_3).f0) < 0) = true := decide_eq_true c21
             clear c21
             obtain rfl := Option.some.inj H
             have p178 : 0 ≤ (x49_3 : Int) := of_decide_eq_true impl_IsSorts.a2
             have q178 : x49_3 < (l0_1.length : Int) := of_decide_eq_true impl_IsSorts.a2
             obtain ⟨ad178, e178, hx178_0, hx178_1⟩ := at_T52 HR0_1.out x49_3 p178 q178
             cases e178
             replace hx178_0 := (HB.out.cell (World.block_lt_of_cell? w _ hx178_0)).trans hx178_0
             replace hx178_1 := (HB.out.cell (World.block_lt_of_cell? w _ hx178_1)).trans hx178_1
             replace p178 := eq_true p178
             replace q178 := eq_true q178
             go_wp2_with (first | ((with_reducible refine gate_dst (N := 8) rfl ?_); (try (refine gate_guard (by rfl) ?_; dsimp only)); refine box_event ?hg (N := 8) ?hd (cs := #[.int .i64 0, .int .i64 0]) (t := 52) ?hr ?_; (case hd => rfl); (case hg => rfl); (case hr => first | (go_simp; done) | (go_simp; rfl)); intro gb179 hg w22 hbox hb; have n0_ := Aside0.mk (blk_below (g := gb174) (o := .cells #[.slice A0_0 l0_0.length c0_0, .slice (some ad178) l0_1.length c0_1] 30 (0, 0)) impl_IsSorts.a1 hb); have n1_ := Aside0.mk (below_step impl_IsSorts.a0 hb); have n2_ := Aside0.mk (hbox); have n3_ := Aside0.mk ((by rw [hg]; exact (below_size impl_IsSorts.a0) : w.heap.size ≤ gb179)); have n4_ := Aside0.mk ((by rw [hg]; exact (below_size impl_IsSorts.a0) : w.heap.size ≤ gb179)); have n5_ := Aside0.mk ((by rw [hg]; exact Nat.ne_of_lt (blk_lt (g := gb174) (o := .cells #[.slice A0_0 l0_0.length c0_0, .slice (some ad178) l0_1.length c0_1] 30 (0, 0)) impl_IsSorts.a1) : gb174 ≠ gb179)); have n6_ := Aside0.mk ((by rw [hg]; exact Nat.ne_of_gt (blk_lt (g := gb174) (o := .cells #[.slice A0_0 l0_0.length c0_0, .slice (some ad178) l0_1.length c0_1] 30 (0, 0)) impl_IsSorts.a1) : gb179 ≠ gb174)); clear BK174; clear HB; have BK174 := n0_; have HB := n1_; have BK179 := n2_; have GW179 := n3_; have GE179 := n4_; have NB174_179 := n5_; have NB179_174 := n6_; clear n0_ n1_ n2_ n3_ n4_ n5_ n6_; clear hb hbox hg; have hnb23 := NB179_174.out; have hnc23 := NB174_179.out; have hcz24_0 : w22.cell? ⟨gb179, 0, none⟩ = some (.int .i64 0) := (blk_cell BK179.out 0).trans rfl; have hcz24_1 : w22.cell? ⟨gb179, 1, none⟩ = some (.int .i64 0) := (blk_cell BK179.out 1).trans rfl; have hfz24_0 := blk_frozen BK179.out 0; have hfz24_1 := blk_frozen BK179.out 1))
             repeat (go_quiet (first | ((with_reducible refine gate_dst (N := 8) rfl ?_); (try (refine gate_guard (by rfl) ?_; dsimp only)); refine box_event ?hg (N := 8) ?hd (cs := #[.int .i64 0, .int .i64 0]) (t := 52) ?hr ?_; (case hd => rfl); (case hg => rfl); (case hr => first | (go_simp; done) | (go_simp; rfl)); intro gb179 hg w22 hbox hb; have n0_ := Aside0.mk (blk_below (g := gb174) (o := .cells #[.slice A0_0 l0_0.length c0_0, .slice (some ad178) l0_1.length c0_1] 30 (0, 0)) impl_IsSorts.a1 hb); have n1_ := Aside0.mk (below_step impl_IsSorts.a0 hb); have n2_ := Aside0.mk (hbox); have n3_ := Aside0.mk ((by rw [hg]; exact (below_size impl_IsSorts.a0) : w.heap.size ≤ gb179)); have n4_ := Aside0.mk ((by rw [hg]; exact (below_size impl_IsSorts.a0) : w.heap.size ≤ gb179)); have n5_ := Aside0.mk ((by rw [hg]; exact Nat.ne_of_lt (blk_lt (g := gb174) (o := .cells #[.slice A0_0 l0_0.length c0_0, .slice (some ad178) l0_1.length c0_1] 30 (0, 0)) impl_IsSorts.a1) : gb174 ≠ gb179)); have n6_ := Aside0.mk ((by rw [hg]; exact Nat.ne_of_gt (blk_lt (g := gb174) (o := .cells #[.slice A0_0 l0_0.length c0_0, .slice (some ad178) l0_1.length c0_1] 30 (0, 0)) impl_IsSorts.a1) : gb179 ≠ gb174)); clear BK174; clear HB; have BK174 := n0_; have HB := n1_; have BK179 := n2_; have GW179 := n3_; have GE179 := n4_; have NB174_179 := n5_; have NB179_174 := n6_; clear n0_ n1_ n2_ n3_ n4_ n5_ n6_; clear hb hbox hg; have hnb23 := NB179_174.out; have hnc23 := NB174_179.out; have hcz24_0 : w22.cell? ⟨gb179, 0, none⟩ = some (.int .i64 0) := (blk_cell BK179.out 0).trans rfl; have hcz24_1 : w22.cell? ⟨gb179, 1, none⟩ = some (.int .i64 0) := (blk_cell BK179.out 1).trans rfl; have hfz24_0 := blk_frozen BK179.out 0; have hfz24_1 := blk_frozen BK179.out 1)); try go_wp2_with (first | ((with_reducible refine gate_dst (N := 8) rfl ?_); (try (refine gate_guard (by rfl) ?_; dsimp only)); refine box_event ?hg (N := 8) ?hd (cs := #[.int .i64 0, .int .i64 0]) (t := 52) ?hr ?_; (case hd => rfl); (case hg => rfl); (case hr => first | (go_simp; done) | (go_simp; rfl)); intro gb179 hg w22 hbox hb; have n0_ := Aside0.mk (blk_below (g := gb174) (o := .cells #[.slice A0_0 l0_0.length c0_0, .slice (some ad178) l0_1.length c0_1] 30 (0, 0)) impl_IsSorts.a1 hb); have n1_ := Aside0.mk (below_step impl_IsSorts.a0 hb); have n2_ := Aside0.mk (hbox); have n3_ := Aside0.mk ((by rw [hg]; exact (below_size impl_IsSorts.a0) : w.heap.size ≤ gb179)); have n4_ := Aside0.mk ((by rw [hg]; exact (below_size impl_IsSorts.a0) : w.heap.size ≤ gb179)); have n5_ := Aside0.mk ((by rw [hg]; exact Nat.ne_of_lt (blk_lt (g := gb174) (o := .cells #[.slice A0_0 l0_0.length c0_0, .slice (some ad178) l0_1.length c0_1] 30 (0, 0)) impl_IsSorts.a1) : gb174 ≠ gb179)); have n6_ := Aside0.mk ((by rw [hg]; exact Nat.ne_of_gt (blk_lt (g := gb174) (o := .cells #[.slice A0_0 l0_0.length c0_0, .slice (some ad178) l0_1.length c0_1] 30 (0, 0)) impl_IsSorts.a1) : gb179 ≠ gb174)); clear BK174; clear HB; have BK174 := n0_; have HB := n1_; have BK179 := n2_; have GW179 := n3_; have GE179 := n4_; have NB174_179 := n5_; have NB179_174 := n6_; clear n0_ n1_ n2_ n3_ n4_ n5_ n6_; clear hb hbox hg; have hnb23 := NB179_174.out; have hnc23 := NB174_179.out; have hcz24_0 : w22.cell? ⟨gb179, 0, none⟩ = some (.int .i64 0) := (blk_cell BK179.out 0).trans rfl; have hcz24_1 : w22.cell? ⟨gb179, 1, none⟩ = some (.int .i64 0) := (blk_cell BK179.out 1).trans rfl; have hfz24_0 := blk_frozen BK179.out 0; have hfz24_1 := blk_frozen BK179.out 1)))
             go_ret
             exact ⟨impl_IsSorts.a5, impl_IsSorts.a4⟩
            ·rw [if_neg c21] at H
             have c21b0 : decide (((rd_T52 l0_1 x49_3).f0) < 0) = false := decide_eq_false c21
             clear c21
             by_cases c25 : ((rd_T52 l0_1 x49_3).f0) ≥ (l0_0.length : Int)
             ·rw [if_pos c25] at H
              have c25b0 : decide ((l0_0.length : Int) ≤ ((rd_T52 l0_1 x49_3).f0)) = true := decide_eq_true c25
              clear c25
              obtain rfl := Option.some.inj H
              have p178 : 0 ≤ (x49_3 : Int) := of_decide_eq_true impl_IsSorts.a2
              have q178 : x49_3 < (l0_1.length : Int) := of_decide_eq_true impl_IsSorts.a2
              obtain ⟨ad178, e178, hx178_0, hx178_1⟩ := at_T52 HR0_1.out x49_3 p178 q178
              cases e178
              replace hx178_0 := (HB.out.cell (World.block_lt_of_cell? w _ hx178_0)).trans hx178_0
              replace hx178_1 := (HB.out.cell (World.block_lt_of_cell? w _ hx178_1)).trans hx178_1
              replace p178 := eq_true p178
              replace q178 := eq_true q178
              go_wp2_with (first | ((with_reducible refine gate_dst (N := 8) rfl ?_); (try (refine gate_guard (by rfl) ?_; dsimp only)); refine box_event ?hg (N := 8) ?hd (cs := #[.int .i64 0, .int .i64 0]) (t := 52) ?hr ?_; (case hd => rfl); (case hg => rfl); (case hr => first | (go_simp; done) | (go_simp; rfl)); intro gb179 hg w26 hbox hb; have n0_ := Aside0.mk (blk_below (g := gb174) (o := .cells #[.slice A0_0 l0_0.length c0_0, .slice (some ad178) l0_1.length c0_1] 30 (0, 0)) impl_IsSorts.a1 hb); have n1_ := Aside0.mk (below_step impl_IsSorts.a0 hb); have n2_ := Aside0.mk (hbox); have n3_ := Aside0.mk ((by rw [hg]; exact (below_size impl_IsSorts.a0) : w.heap.size ≤ gb179)); have n4_ := Aside0.mk ((by rw [hg]; exact (below_size impl_IsSorts.a0) : w.heap.size ≤ gb179)); have n5_ := Aside0.mk ((by rw [hg]; exact Nat.ne_of_lt (blk_lt (g := gb174) (o := .cells #[.slice A0_0 l0_0.length c0_0, .slice (some ad178) l0_1.length c0_1] 30 (0, 0)) impl_IsSorts.a1) : gb174 ≠ gb179)); have n6_ := Aside0.mk ((by rw [hg]; exact Nat.ne_of_gt (blk_lt (g := gb174) (o := .cells #[.slice A0_0 l0_0.length c0_0, .slice (some ad178) l0_1.length c0_1] 30 (0, 0)) impl_IsSorts.a1) : gb179 ≠ gb174)); clear BK174; clear HB; have BK174 := n0_; have HB := n1_; have BK179 := n2_; have GW179 := n3_; have GE179 := n4_; have NB174_179 := n5_; have NB179_174 := n6_; clear n0_ n1_ n2_ n3_ n4_ n5_ n6_; clear hb hbox hg; have hnb27 := NB179_174.out; have hnc27 := NB174_179.out; have hcz28_0 : w26.cell? ⟨gb179, 0, none⟩ = some (.int .i64 0) := (blk_cell BK179.out 0).trans rfl; have hcz28_1 : w26.cell? ⟨gb179, 1, none⟩ = some (.int .i64 0) := (blk_cell BK179.out 1).trans rfl; have hfz28_0 := blk_frozen BK179.out 0; have hfz28_1 := blk_frozen BK179.out 1))
              repeat (go_quiet (first | ((with_reducible refine gate_dst (N := 8) rfl ?_); (try (refine gate_guard (by rfl) ?_; dsimp only)); refine box_event ?hg (N := 8) ?hd (cs := #[.int .i64 0, .int .i64 0]) (t := 52) ?hr ?_; (case hd => rfl); (case hg => rfl); (case hr => first | (go_simp; done) | (go_simp; rfl)); intro gb179 hg w26 hbox hb; have n0_ := Aside0.mk (blk_below (g := gb174) (o := .cells #[.slice A0_0 l0_0.length c0_0, .slice (some ad178) l0_1.length c0_1] 30 (0, 0)) impl_IsSorts.a1 hb); have n1_ := Aside0.mk (below_step impl_IsSorts.a0 hb); have n2_ := Aside0.mk (hbox); have n3_ := Aside0.mk ((by rw [hg]; exact (below_size impl_IsSorts.a0) : w.heap.size ≤ gb179)); have n4_ := Aside0.mk ((by rw [hg]; exact (below_size impl_IsSorts.a0) : w.heap.size ≤ gb179)); have n5_ := Aside0.mk ((by rw [hg]; exact Nat.ne_of_lt (blk_lt (g := gb174) (o := .cells #[.slice A0_0 l0_0.length c0_0, .slice (some ad178) l0_1.length c0_1] 30 (0, 0)) impl_IsSorts.a1) : gb174 ≠ gb179)); have n6_ := Aside0.mk ((by rw [hg]; exact Nat.ne_of_gt (blk_lt (g := gb174) (o := .cells #[.slice A0_0 l0_0.length c0_0, .slice (some ad178) l0_1.length c0_1] 30 (0, 0)) impl_IsSorts.a1) : gb179 ≠ gb174)); clear BK174; clear HB; have BK174 := n0_; have HB := n1_; have BK179 := n2_; have GW179 := n3_; have GE179 := n4_; have NB174_179 := n5_; have NB179_174 := n6_; clear n0_ n1_ n2_ n3_ n4_ n5_ n6_; clear hb hbox hg; have hnb27 := NB179_174.out; have hnc27 := NB174_179.out; have hcz28_0 : w26.cell? ⟨gb179, 0, none⟩ = some (.int .i64 0) := (blk_cell BK179.out 0).trans rfl; have hcz28_1 : w26.cell? ⟨gb179, 1, none⟩ = some (.int .i64 0) := (blk_cell BK179.out 1).trans rfl; have hfz28_0 := blk_frozen BK179.out 0; have hfz28_1 := blk_frozen BK179.out 1)); try go_wp2_with (first | ((with_reducible refine gate_dst (N := 8) rfl ?_); (try (refine gate_guard (by rfl) ?_; dsimp only)); refine box_event ?hg (N := 8) ?hd (cs := #[.int .i64 0, .int .i64 0]) (t := 52) ?hr ?_; (case hd => rfl); (case hg => rfl); (case hr => first | (go_simp; done) | (go_simp; rfl)); intro gb179 hg w26 hbox hb; have n0_ := Aside0.mk (blk_below (g := gb174) (o := .cells #[.slice A0_0 l0_0.length c0_0, .slice (some ad178) l0_1.length c0_1] 30 (0, 0)) impl_IsSorts.a1 hb); have n1_ := Aside0.mk (below_step impl_IsSorts.a0 hb); have n2_ := Aside0.mk (hbox); have n3_ := Aside0.mk ((by rw [hg]; exact (below_size impl_IsSorts.a0) : w.heap.size ≤ gb179)); have n4_ := Aside0.mk ((by rw [hg]; exact (below_size impl_IsSorts.a0) : w.heap.size ≤ gb179)); have n5_ := Aside0.mk ((by rw [hg]; exact Nat.ne_of_lt (blk_lt (g := gb174) (o := .cells #[.slice A0_0 l0_0.length c0_0, .slice (some ad178) l0_1.length c0_1] 30 (0, 0)) impl_IsSorts.a1) : gb174 ≠ gb179)); have n6_ := Aside0.mk ((by rw [hg]; exact Nat.ne_of_gt (blk_lt (g := gb174) (o := .cells #[.slice A0_0 l0_0.length c0_0, .slice (some ad178) l0_1.length c0_1] 30 (0, 0)) impl_IsSorts.a1) : gb179 ≠ gb174)); clear BK174; clear HB; have BK174 := n0_; have HB := n1_; have BK179 := n2_; have GW179 := n3_; have GE179 := n4_; have NB174_179 := n5_; have NB179_174 := n6_; clear n0_ n1_ n2_ n3_ n4_ n5_ n6_; clear hb hbox hg; have hnb27 := NB179_174.out; have hnc27 := NB174_179.out; have hcz28_0 : w26.cell? ⟨gb179, 0, none⟩ = some (.int .i64 0) := (blk_cell BK179.out 0).trans rfl; have hcz28_1 : w26.cell? ⟨gb179, 1, none⟩ = some (.int .i64 0) := (blk_cell BK179.out 1).trans rfl; have hfz28_0 := blk_frozen BK179.out 0; have hfz28_1 := blk_frozen BK179.out 1)))
              go_ret
              exact ⟨impl_IsSorts.a5, impl_IsSorts.a4⟩
             ·rw [if_neg c25] at H
              have c25b0 : decide ((l0_0.length : Int) ≤ ((rd_T52 l0_1 x49_3).f0)) = false := decide_eq_false c25
              clear c25
              by_cases c29 : ((rd_T52 l0_1 x49_3).f1) < 0
              ·rw [if_pos c29] at H
               have c29b0 : decide (((rd_T52 l0_1 x49_3).f1) < 0) = true := decide_eq_true c29
               clear c29
               obtain rfl := Option.some.inj H
               have p178 : 0 ≤ (x49_3 : Int) := of_decide_eq_true impl_IsSorts.a2
               have q178 : x49_3 < (l0_1.length : Int) := of_decide_eq_true impl_IsSorts.a2
               obtain ⟨ad178, e178, hx178_0, hx178_1⟩ := at_T52 HR0_1.out x49_3 p178 q178
               cases e178
               replace hx178_0 := (HB.out.cell (World.block_lt_of_cell? w _ hx178_0)).trans hx178_0
               replace hx178_1 := (HB.out.cell (World.block_lt_of_cell? w _ hx178_1)).trans hx178_1
               replace p178 := eq_true p178
               replace q178 := eq_true q178
               go_wp2_with (first | ((with_reducible refine gate_dst (N := 8) rfl ?_); (try (refine gate_guard (by rfl) ?_; dsimp only)); refine box_event ?hg (N := 8) ?hd (cs := #[.int .i64 0, .int .i64 0]) (t := 52) ?hr ?_; (case hd => rfl); (case hg => rfl); (case hr => first | (go_simp; done) | (go_simp; rfl)); intro gb179 hg w30 hbox hb; have n0_ := Aside0.mk (blk_below (g := gb174) (o := .cells #[.slice A0_0 l0_0.length c0_0, .slice (some ad178) l0_1.length c0_1] 30 (0, 0)) impl_IsSorts.a1 hb); have n1_ := Aside0.mk (below_step impl_IsSorts.a0 hb); have n2_ := Aside0.mk (hbox); have n3_ := Aside0.mk ((by rw [hg]; exact (below_size impl_IsSorts.a0) : w.heap.size ≤ gb179)); have n4_ := Aside0.mk ((by rw [hg]; exact (below_size impl_IsSorts.a0) : w.heap.size ≤ gb179)); have n5_ := Aside0.mk ((by rw [hg]; exact Nat.ne_of_lt (blk_lt (g := gb174) (o := .cells #[.slice A0_0 l0_0.length c0_0, .slice (some ad178) l0_1.length c0_1] 30 (0, 0)) impl_IsSorts.a1) : gb174 ≠ gb179)); have n6_ := Aside0.mk ((by rw [hg]; exact Nat.ne_of_gt (blk_lt (g := gb174) (o := .cells #[.slice A0_0 l0_0.length c0_0, .slice (some ad178) l0_1.length c0_1] 30 (0, 0)) impl_IsSorts.a1) : gb179 ≠ gb174)); clear BK174; clear HB; have BK174 := n0_; have HB := n1_; have BK179 := n2_; have GW179 := n3_; have GE179 := n4_; have NB174_179 := n5_; have NB179_174 := n6_; clear n0_ n1_ n2_ n3_ n4_ n5_ n6_; clear hb hbox hg; have hnb31 := NB179_174.out; have hnc31 := NB174_179.out; have hcz32_0 : w30.cell? ⟨gb179, 0, none⟩ = some (.int .i64 0) := (blk_cell BK179.out 0).trans rfl; have hcz32_1 : w30.cell? ⟨gb179, 1, none⟩ = some (.int .i64 0) := (blk_cell BK179.out 1).trans rfl; have hfz32_0 := blk_frozen BK179.out 0; have hfz32_1 := blk_frozen BK179.out 1))
               repeat (go_quiet (first | ((with_reducible refine gate_dst (N := 8) rfl ?_); (try (refine gate_guard (by rfl) ?_; dsimp only)); refine box_event ?hg (N := 8) ?hd (cs := #[.int .i64 0, .int .i64 0]) (t := 52) ?hr ?_; (case hd => rfl); (case hg => rfl); (case hr => first | (go_simp; done) | (go_simp; rfl)); intro gb179 hg w30 hbox hb; have n0_ := Aside0.mk (blk_below (g := gb174) (o := .cells #[.slice A0_0 l0_0.length c0_0, .slice (some ad178) l0_1.length c0_1] 30 (0, 0)) impl_IsSorts.a1 hb); have n1_ := Aside0.mk (below_step impl_IsSorts.a0 hb); have n2_ := Aside0.mk (hbox); have n3_ := Aside0.mk ((by rw [hg]; exact (below_size impl_IsSorts.a0) : w.heap.size ≤ gb179)); have n4_ := Aside0.mk ((by rw [hg]; exact (below_size impl_IsSorts.a0) : w.heap.size ≤ gb179)); have n5_ := Aside0.mk ((by rw [hg]; exact Nat.ne_of_lt (blk_lt (g := gb174) (o := .cells #[.slice A0_0 l0_0.length c0_0, .slice (some ad178) l0_1.length c0_1] 30 (0, 0)) impl_IsSorts.a1) : gb174 ≠ gb179)); have n6_ := Aside0.mk ((by rw [hg]; exact Nat.ne_of_gt (blk_lt (g := gb174) (o := .cells #[.slice A0_0 l0_0.length c0_0, .slice (some ad178) l0_1.length c0_1] 30 (0, 0)) impl_IsSorts.a1) : gb179 ≠ gb174)); clear BK174; clear HB; have BK174 := n0_; have HB := n1_; have BK179 := n2_; have GW179 := n3_; have GE179 := n4_; have NB174_179 := n5_; have NB179_174 := n6_; clear n0_ n1_ n2_ n3_ n4_ n5_ n6_; clear hb hbox hg; have hnb31 := NB179_174.out; have hnc31 := NB174_179.out; have hcz32_0 : w30.cell? ⟨gb179, 0, none⟩ = some (.int .i64 0) := (blk_cell BK179.out 0).trans rfl; have hcz32_1 : w30.cell? ⟨gb179, 1, none⟩ = some (.int .i64 0) := (blk_cell BK179.out 1).trans rfl; have hfz32_0 := blk_frozen BK179.out 0; have hfz32_1 := blk_frozen BK179.out 1)); try go_wp2_with (first | ((with_reducible refine gate_dst (N := 8) rfl ?_); (try (refine gate_guard (by rfl) ?_; dsimp only)); refine box_event ?hg (N := 8) ?hd (cs := #[.int .i64 0, .int .i64 0]) (t := 52) ?hr ?_; (case hd => rfl); (case hg => rfl); (case hr => first | (go_simp; done) | (go_simp; rfl)); intro gb179 hg w30 hbox hb; have n0_ := Aside0.mk (blk_below (g := gb174) (o := .cells #[.slice A0_0 l0_0.length c0_0, .slice (some ad178) l0_1.length c0_1] 30 (0, 0)) impl_IsSorts.a1 hb); have n1_ := Aside0.mk (below_step impl_IsSorts.a0 hb); have n2_ := Aside0.mk (hbox); have n3_ := Aside0.mk ((by rw [hg]; exact (below_size impl_IsSorts.a0) : w.heap.size ≤ gb179)); have n4_ := Aside0.mk ((by rw [hg]; exact (below_size impl_IsSorts.a0) : w.heap.size ≤ gb179)); have n5_ := Aside0.mk ((by rw [hg]; exact Nat.ne_of_lt (blk_lt (g := gb174) (o := .cells #[.slice A0_0 l0_0.length c0_0, .slice (some ad178) l0_1.length c0_1] 30 (0, 0)) impl_IsSorts.a1) : gb174 ≠ gb179)); have n6_ := Aside0.mk ((by rw [hg]; exact Nat.ne_of_gt (blk_lt (g := gb174) (o := .cells #[.slice A0_0 l0_0.length c0_0, .slice (some ad178) l0_1.length c0_1] 30 (0, 0)) impl_IsSorts.a1) : gb179 ≠ gb174)); clear BK174; clear HB; have BK174 := n0_; have HB := n1_; have BK179 := n2_; have GW179 := n3_; have GE179 := n4_; have NB174_179 := n5_; have NB179_174 := n6_; clear n0_ n1_ n2_ n3_ n4_ n5_ n6_; clear hb hbox hg; have hnb31 := NB179_174.out; have hnc31 := NB174_179.out; have hcz32_0 : w30.cell? ⟨gb179, 0, none⟩ = some (.int .i64 0) := (blk_cell BK179.out 0).trans rfl; have hcz32_1 : w30.cell? ⟨gb179, 1, none⟩ = some (.int .i64 0) := (blk_cell BK179.out 1).trans rfl; have hfz32_0 := blk_frozen BK179.out 0; have hfz32_1 := blk_frozen BK179.out 1)))
               go_ret
               exact ⟨impl_IsSorts.a5, impl_IsSorts.a4⟩
              ·rw [if_neg c29] at H
               have c29b0 : decide (((rd_T52 l0_1 x49_3).f1) < 0) = false := decide_eq_false c29
               clear c29
               by_cases c33 : ((rd_T52 l0_1 x49_3).f1) ≥ (l0_0.length : Int)
               ·rw [if_pos c33] at H
                have c33b0 : decide ((l0_0.length : Int) ≤ ((rd_T52 l0_1 x49_3).f1)) = true := decide_eq_true c33
                clear c33
                obtain rfl := Option.some.inj H
                have p178 : 0 ≤ (x49_3 : Int) := of_decide_eq_true impl_IsSorts.a2
                have q178 : x49_3 < (l0_1.length : Int) := of_decide_eq_true impl_IsSorts.a2
                obtain ⟨ad178, e178, hx178_0, hx178_1⟩ := at_T52 HR0_1.out x49_3 p178 q178
                cases e178
                replace hx178_0 := (HB.out.cell (World.block_lt_of_cell? w _ hx178_0)).trans hx178_0
                replace hx178_1 := (HB.out.cell (World.block_lt_of_cell? w _ hx178_1)).trans hx178_1
                replace p178 := eq_true p178
                replace q178 := eq_true q178
                go_wp2_with (first | ((with_reducible refine gate_dst (N := 8) rfl ?_); (try (refine gate_guard (by rfl) ?_; dsimp only)); refine box_event ?hg (N := 8) ?hd (cs := #[.int .i64 0, .int .i64 0]) (t := 52) ?hr ?_; (case hd => rfl); (case hg => rfl); (case hr => first | (go_simp; done) | (go_simp; rfl)); intro gb179 hg w34 hbox hb; have n0_ := Aside0.mk (blk_below (g := gb174) (o := .cells #[.slice A0_0 l0_0.length c0_0, .slice (some ad178) l0_1.length c0_1] 30 (0, 0)) impl_IsSorts.a1 hb); have n1_ := Aside0.mk (below_step impl_IsSorts.a0 hb); have n2_ := Aside0.mk (hbox); have n3_ := Aside0.mk ((by rw [hg]; exact (below_size impl_IsSorts.a0) : w.heap.size ≤ gb179)); have n4_ := Aside0.mk ((by rw [hg]; exact (below_size impl_IsSorts.a0) : w.heap.size ≤ gb179)); have n5_ := Aside0.mk ((by rw [hg]; exact Nat.ne_of_lt (blk_lt (g := gb174) (o := .cells #[.slice A0_0 l0_0.length c0_0, .slice (some ad178) l0_1.length c0_1] 30 (0, 0)) impl_IsSorts.a1) : gb174 ≠ gb179)); have n6_ := Aside0.mk ((by rw [hg]; exact Nat.ne_of_gt (blk_lt (g := gb174) (o := .cells #[.slice A0_0 l0_0.length c0_0, .slice (some ad178) l0_1.length c0_1] 30 (0, 0)) impl_IsSorts.a1) : gb179 ≠ gb174)); clear BK174; clear HB; have BK174 := n0_; have HB := n1_; have BK179 := n2_; have GW179 := n3_; have GE179 := n4_; have NB174_179 := n5_; have NB179_174 := n6_; clear n0_ n1_ n2_ n3_ n4_ n5_ n6_; clear hb hbox hg; have hnb35 := NB179_174.out; have hnc35 := NB174_179.out; have hcz36_0 : w34.cell? ⟨gb179, 0, none⟩ = some (.int .i64 0) := (blk_cell BK179.out 0).trans rfl; have hcz36_1 : w34.cell? ⟨gb179, 1, none⟩ = some (.int .i64 0) := (blk_cell BK179.out 1).trans rfl; have hfz36_0 := blk_frozen BK179.out 0; have hfz36_1 := blk_frozen BK179.out 1))
                repeat (go_quiet (first | ((with_reducible refine gate_dst (N := 8) rfl ?_); (try (refine gate_guard (by rfl) ?_; dsimp only)); refine box_event ?hg (N := 8) ?hd (cs := #[.int .i64 0, .int .i64 0]) (t := 52) ?hr ?_; (case hd => rfl); (case hg => rfl); (case hr => first | (go_simp; done) | (go_simp; rfl)); intro gb179 hg w34 hbox hb; have n0_ := Aside0.mk (blk_below (g := gb174) (o := .cells #[.slice A0_0 l0_0.length c0_0, .slice (some ad178) l0_1.length c0_1] 30 (0, 0)) impl_IsSorts.a1 hb); have n1_ := Aside0.mk (below_step impl_IsSorts.a0 hb); have n2_ := Aside0.mk (hbox); have n3_ := Aside0.mk ((by rw [hg]; exact (below_size impl_IsSorts.a0) : w.heap.size ≤ gb179)); have n4_ := Aside0.mk ((by rw [hg]; exact (below_size impl_IsSorts.a0) : w.heap.size ≤ gb179)); have n5_ := Aside0.mk ((by rw [hg]; exact Nat.ne_of_lt (blk_lt (g := gb174) (o := .cells #[.slice A0_0 l0_0.length c0_0, .slice (some ad178) l0_1.length c0_1] 30 (0, 0)) impl_IsSorts.a1) : gb174 ≠ gb179)); have n6_ := Aside0.mk ((by rw [hg]; exact Nat.ne_of_gt (blk_lt (g := gb174) (o := .cells #[.slice A0_0 l0_0.length c0_0, .slice (some ad178) l0_1.length c0_1] 30 (0, 0)) impl_IsSorts.a1) : gb179 ≠ gb174)); clear BK174; clear HB; have BK174 := n0_; have HB := n1_; have BK179 := n2_; have GW179 := n3_; have GE179 := n4_; have NB174_179 := n5_; have NB179_174 := n6_; clear n0_ n1_ n2_ n3_ n4_ n5_ n6_; clear hb hbox hg; have hnb35 := NB179_174.out; have hnc35 := NB174_179.out; have hcz36_0 : w34.cell? ⟨gb179, 0, none⟩ = some (.int .i64 0) := (blk_cell BK179.out 0).trans rfl; have hcz36_1 : w34.cell? ⟨gb179, 1, none⟩ = some (.int .i64 0) := (blk_cell BK179.out 1).trans rfl; have hfz36_0 := blk_frozen BK179.out 0; have hfz36_1 := blk_frozen BK179.out 1)); try go_wp2_with (first | ((with_reducible refine gate_dst (N := 8) rfl ?_); (try (refine gate_guard (by rfl) ?_; dsimp only)); refine box_event ?hg (N := 8) ?hd (cs := #[.int .i64 0, .int .i64 0]) (t := 52) ?hr ?_; (case hd => rfl); (case hg => rfl); (case hr => first | (go_simp; done) | (go_simp; rfl)); intro gb179 hg w34 hbox hb; have n0_ := Aside0.mk (blk_below (g := gb174) (o := .cells #[.slice A0_0 l0_0.length c0_0, .slice (some ad178) l0_1.length c0_1] 30 (0, 0)) impl_IsSorts.a1 hb); have n1_ := Aside0.mk (below_step impl_IsSorts.a0 hb); have n2_ := Aside0.mk (hbox); have n3_ := Aside0.mk ((by rw [hg]; exact (below_size impl_IsSorts.a0) : w.heap.size ≤ gb179)); have n4_ := Aside0.mk ((by rw [hg]; exact (below_size impl_IsSorts.a0) : w.heap.size ≤ gb179)); have n5_ := Aside0.mk ((by rw [hg]; exact Nat.ne_of_lt (blk_lt (g := gb174) (o := .cells #[.slice A0_0 l0_0.length c0_0, .slice (some ad178) l0_1.length c0_1] 30 (0, 0)) impl_IsSorts.a1) : gb174 ≠ gb179)); have n6_ := Aside0.mk ((by rw [hg]; exact Nat.ne_of_gt (blk_lt (g := gb174) (o := .cells #[.slice A0_0 l0_0.length c0_0, .slice (some ad178) l0_1.length c0_1] 30 (0, 0)) impl_IsSorts.a1) : gb179 ≠ gb174)); clear BK174; clear HB; have BK174 := n0_; have HB := n1_; have BK179 := n2_; have GW179 := n3_; have GE179 := n4_; have NB174_179 := n5_; have NB179_174 := n6_; clear n0_ n1_ n2_ n3_ n4_ n5_ n6_; clear hb hbox hg; have hnb35 := NB179_174.out; have hnc35 := NB174_179.out; have hcz36_0 : w34.cell? ⟨gb179, 0, none⟩ = some (.int .i64 0) := (blk_cell BK179.out 0).trans rfl; have hcz36_1 : w34.cell? ⟨gb179, 1, none⟩ = some (.int .i64 0) := (blk_cell BK179.out 1).trans rfl; have hfz36_0 := blk_frozen BK179.out 0; have hfz36_1 := blk_frozen BK179.out 1)))
                go_ret
                exact ⟨impl_IsSorts.a5, impl_IsSorts.a4⟩
               ·rw [if_neg c33] at H
                have c33b0 : decide ((l0_0.length : Int) ≤ ((rd_T52 l0_1 x49_3).f1)) = false := decide_eq_false c33
                clear c33
                by_cases c37 : ((rd_T52 l0_1 x49_3).f0) = ((rd_T52 l0_1 x49_3).f1)
                ·rw [if_pos c37] at H
                 have c37b0 : (((rd_T52 l0_1 x49_3).f0) == ((rd_T52 l0_1 x49_3).f1)) = true := beq_iff_eq.mpr c37
                 have c37b1 : (((rd_T52 l0_1 x49_3).f0) != ((rd_T52 l0_1 x49_3).f1)) = false := bne_eq_false_iff_eq.mpr c37
                 clear c37
                 obtain rfl := Option.some.inj H
                 have p178 : 0 ≤ (x49_3 : Int) := of_decide_eq_true impl_IsSorts.a2
                 have q178 : x49_3 < (l0_1.length : Int) := of_decide_eq_true impl_IsSorts.a2
                 obtain ⟨ad178, e178, hx178_0, hx178_1⟩ := at_T52 HR0_1.out x49_3 p178 q178
                 cases e178
                 replace hx178_0 := (HB.out.cell (World.block_lt_of_cell? w _ hx178_0)).trans hx178_0
                 replace hx178_1 := (HB.out.cell (World.block_lt_of_cell? w _ hx178_1)).trans hx178_1
                 replace p178 := eq_true p178
                 replace q178 := eq_true q178
                 go_wp2_with (first | ((with_reducible refine gate_dst (N := 8) rfl ?_); (try (refine gate_guard (by rfl) ?_; dsimp only)); refine box_event ?hg (N := 8) ?hd (cs := #[.int .i64 0, .int .i64 0]) (t := 52) ?hr ?_; (case hd => rfl); (case hg => rfl); (case hr => first | (go_simp; done) | (go_simp; rfl)); intro gb179 hg w38 hbox hb; have n0_ := Aside0.mk (blk_below (g := gb174) (o := .cells #[.slice A0_0 l0_0.length c0_0, .slice (some ad178) l0_1.length c0_1] 30 (0, 0)) impl_IsSorts.a1 hb); have n1_ := Aside0.mk (below_step impl_IsSorts.a0 hb); have n2_ := Aside0.mk (hbox); have n3_ := Aside0.mk ((by rw [hg]; exact (below_size impl_IsSorts.a0) : w.heap.size ≤ gb179)); have n4_ := Aside0.mk ((by rw [hg]; exact (below_size impl_IsSorts.a0) : w.heap.size ≤ gb179)); have n5_ := Aside0.mk ((by rw [hg]; exact Nat.ne_of_lt (blk_lt (g := gb174) (o := .cells #[.slice A0_0 l0_0.length c0_0, .slice (some ad178) l0_1.length c0_1] 30 (0, 0)) impl_IsSorts.a1) : gb174 ≠ gb179)); have n6_ := Aside0.mk ((by rw [hg]; exact Nat.ne_of_gt (blk_lt (g := gb174) (o := .cells #[.slice A0_0 l0_0.length c0_0, .slice (some ad178) l0_1.length c0_1] 30 (0, 0)) impl_IsSorts.a1) : gb179 ≠ gb174)); clear BK174; clear HB; have BK174 := n0_; have HB := n1_; have BK179 := n2_; have GW179 := n3_; have GE179 := n4_; have NB174_179 := n5_; have NB179_174 := n6_; clear n0_ n1_ n2_ n3_ n4_ n5_ n6_; clear hb hbox hg; have hnb39 := NB179_174.out; have hnc39 := NB174_179.out; have hcz40_0 : w38.cell? ⟨gb179, 0, none⟩ = some (.int .i64 0) := (blk_cell BK179.out 0).trans rfl; have hcz40_1 : w38.cell? ⟨gb179, 1, none⟩ = some (.int .i64 0) := (blk_cell BK179.out 1).trans rfl; have hfz40_0 := blk_frozen BK179.out 0; have hfz40_1 := blk_frozen BK179.out 1))
                 repeat (go_quiet (first | ((with_reducible refine gate_dst (N := 8) rfl ?_); (try (refine gate_guard (by rfl) ?_; dsimp only)); refine box_event ?hg (N := 8) ?hd (cs := #[.int .i64 0, .int .i64 0]) (t := 52) ?hr ?_; (case hd => rfl); (case hg => rfl); (case hr => first | (go_simp; done) | (go_simp; rfl)); intro gb179 hg w38 hbox hb; have n0_ := Aside0.mk (blk_below (g := gb174) (o := .cells #[.slice A0_0 l0_0.length c0_0, .slice (some ad178) l0_1.length c0_1] 30 (0, 0)) impl_IsSorts.a1 hb); have n1_ := Aside0.mk (below_step impl_IsSorts.a0 hb); have n2_ := Aside0.mk (hbox); have n3_ := Aside0.mk ((by rw [hg]; exact (below_size impl_IsSorts.a0) : w.heap.size ≤ gb179)); have n4_ := Aside0.mk ((by rw [hg]; exact (below_size impl_IsSorts.a0) : w.heap.size ≤ gb179)); have n5_ := Aside0.mk ((by rw [hg]; exact Nat.ne_of_lt (blk_lt (g := gb174) (o := .cells #[.slice A0_0 l0_0.length c0_0, .slice (some ad178) l0_1.length c0_1] 30 (0, 0)) impl_IsSorts.a1) : gb174 ≠ gb179)); have n6_ := Aside0.mk ((by rw [hg]; exact Nat.ne_of_gt (blk_lt (g := gb174) (o := .cells #[.slice A0_0 l0_0.length c0_0, .slice (some ad178) l0_1.length c0_1] 30 (0, 0)) impl_IsSorts.a1) : gb179 ≠ gb174)); clear BK174; clear HB; have BK174 := n0_; have HB := n1_; have BK179 := n2_; have GW179 := n3_; have GE179 := n4_; have NB174_179 := n5_; have NB179_174 := n6_; clear n0_ n1_ n2_ n3_ n4_ n5_ n6_; clear hb hbox hg; have hnb39 := NB179_174.out; have hnc39 := NB174_179.out; have hcz40_0 : w38.cell? ⟨gb179, 0, none⟩ = some (.int .i64 0) := (blk_cell BK179.out 0).trans rfl; have hcz40_1 : w38.cell? ⟨gb179, 1, none⟩ = some (.int .i64 0) := (blk_cell BK179.out 1).trans rfl; have hfz40_0 := blk_frozen BK179.out 0; have hfz40_1 := blk_frozen BK179.out 1)); try go_wp2_with (first | ((with_reducible refine gate_dst (N := 8) rfl ?_); (try (refine gate_guard (by rfl) ?_; dsimp only)); refine box_event ?hg (N := 8) ?hd (cs := #[.int .i64 0, .int .i64 0]) (t := 52) ?hr ?_; (case hd => rfl); (case hg => rfl); (case hr => first | (go_simp; done) | (go_simp; rfl)); intro gb179 hg w38 hbox hb; have n0_ := Aside0.mk (blk_below (g := gb174) (o := .cells #[.slice A0_0 l0_0.length c0_0, .slice (some ad178) l0_1.length c0_1] 30 (0, 0)) impl_IsSorts.a1 hb); have n1_ := Aside0.mk (below_step impl_IsSorts.a0 hb); have n2_ := Aside0.mk (hbox); have n3_ := Aside0.mk ((by rw [hg]; exact (below_size impl_IsSorts.a0) : w.heap.size ≤ gb179)); have n4_ := Aside0.mk ((by rw [hg]; exact (below_size impl_IsSorts.a0) : w.heap.size ≤ gb179)); have n5_ := Aside0.mk ((by rw [hg]; exact Nat.ne_of_lt (blk_lt (g := gb174) (o := .cells #[.slice A0_0 l0_0.length c0_0, .slice (some ad178) l0_1.length c0_1] 30 (0, 0)) impl_IsSorts.a1) : gb174 ≠ gb179)); have n6_ := Aside0.mk ((by rw [hg]; exact Nat.ne_of_gt (blk_lt (g := gb174) (o := .cells #[.slice A0_0 l0_0.length c0_0, .slice (some ad178) l0_1.length c0_1] 30 (0, 0)) impl_IsSorts.a1) : gb179 ≠ gb174)); clear BK174; clear HB; have BK174 := n0_; have HB := n1_; have BK179 := n2_; have GW179 := n3_; have GE179 := n4_; have NB174_179 := n5_; have NB179_174 := n6_; clear n0_ n1_ n2_ n3_ n4_ n5_ n6_; clear hb hbox hg; have hnb39 := NB179_174.out; have hnc39 := NB174_179.out; have hcz40_0 : w38.cell? ⟨gb179, 0, none⟩ = some (.int .i64 0) := (blk_cell BK179.out 0).trans rfl; have hcz40_1 : w38.cell? ⟨gb179, 1, none⟩ = some (.int .i64 0) := (blk_cell BK179.out 1).trans rfl; have hfz40_0 := blk_frozen BK179.out 0; have hfz40_1 := blk_frozen BK179.out 1)))
                 go_ret
                 exact ⟨impl_IsSorts.a5, impl_IsSorts.a4⟩
                ·rw [if_neg c37] at H
                 have c37b0 : (((rd_T52 l0_1 x49_3).f0) == ((rd_T52 l0_1 x49_3).f1)) = false := beq_eq_false_iff_ne.mpr c37
                 have c37b1 : (((rd_T52 l0_1 x49_3).f0) != ((rd_T52 l0_1 x49_3).f1)) = true := bne_iff_ne.mpr c37
                 have H' := Aside0.mk H
                 clear H
                 have p178 : 0 ≤ (x49_3 : Int) := of_decide_eq_true impl_IsSorts.a2
                 have q178 : x49_3 < (l0_1.length : Int) := of_decide_eq_true impl_IsSorts.a2
                 obtain ⟨ad178, e178, hx178_0, hx178_1⟩ := at_T52 HR0_1.out x49_3 p178 q178
                 cases e178
                 replace hx178_0 := (HB.out.cell (World.block_lt_of_cell? w _ hx178_0)).trans hx178_0
                 replace hx178_1 := (HB.out.cell (World.block_lt_of_cell? w _ hx178_1)).trans hx178_1
                 replace p178 := eq_true p178
                 replace q178 := eq_true q178
                 go_wp2_with (first | ((with_reducible refine gate_dst (N := 8) rfl ?_); (try (refine gate_guard (by rfl) ?_; dsimp only)); refine box_event ?hg (N := 8) ?hd (cs := #[.int .i64 0, .int .i64 0]) (t := 52) ?hr ?_; (case hd => rfl); (case hg => rfl); (case hr => first | (go_simp; done) | (go_simp; rfl)); intro gb179 hg w41 hbox hb; have n0_ := Aside0.mk (blk_below (g := gb174) (o := .cells #[.slice A0_0 l0_0.length c0_0, .slice (some ad178) l0_1.length c0_1] 30 (0, 0)) impl_IsSorts.a1 hb); have n1_ := Aside0.mk (below_step impl_IsSorts.a0 hb); have n2_ := Aside0.mk (hbox); have n3_ := Aside0.mk ((by rw [hg]; exact (below_size impl_IsSorts.a0) : w.heap.size ≤ gb179)); have n4_ := Aside0.mk ((by rw [hg]; exact (below_size impl_IsSorts.a0) : w.heap.size ≤ gb179)); have n5_ := Aside0.mk ((by rw [hg]; exact Nat.ne_of_lt (blk_lt (g := gb174) (o := .cells #[.slice A0_0 l0_0.length c0_0, .slice (some ad178) l0_1.length c0_1] 30 (0, 0)) impl_IsSorts.a1) : gb174 ≠ gb179)); have n6_ := Aside0.mk ((by rw [hg]; exact Nat.ne_of_gt (blk_lt (g := gb174) (o := .cells #[.slice A0_0 l0_0.length c0_0, .slice (some ad178) l0_1.length c0_1] 30 (0, 0)) impl_IsSorts.a1) : gb179 ≠ gb174)); clear BK174; clear HB; have BK174 := n0_; have HB := n1_; have BK179 := n2_; have GW179 := n3_; have GE179 := n4_; have NB174_179 := n5_; have NB179_174 := n6_; clear n0_ n1_ n2_ n3_ n4_ n5_ n6_; clear hb hbox hg; have hnb42 := NB179_174.out; have hnc42 := NB174_179.out; have hcz43_0 : w41.cell? ⟨gb179, 0, none⟩ = some (.int .i64 0) := (blk_cell BK179.out 0).trans rfl; have hcz43_1 : w41.cell? ⟨gb179, 1, none⟩ = some (.int .i64 0) := (blk_cell BK179.out 1).trans rfl; have hfz43_0 := blk_frozen BK179.out 0; have hfz43_1 := blk_frozen BK179.out 1))
                 repeat (go_quiet (first | ((with_reducible refine gate_dst (N := 8) rfl ?_); (try (refine gate_guard (by rfl) ?_; dsimp only)); refine box_event ?hg (N := 8) ?hd (cs := #[.int .i64 0, .int .i64 0]) (t := 52) ?hr ?_; (case hd => rfl); (case hg => rfl); (case hr => first | (go_simp; done) | (go_simp; rfl)); intro gb179 hg w41 hbox hb; have n0_ := Aside0.mk (blk_below (g := gb174) (o := .cells #[.slice A0_0 l0_0.length c0_0, .slice (some ad178) l0_1.length c0_1] 30 (0, 0)) impl_IsSorts.a1 hb); have n1_ := Aside0.mk (below_step impl_IsSorts.a0 hb); have n2_ := Aside0.mk (hbox); have n3_ := Aside0.mk ((by rw [hg]; exact (below_size impl_IsSorts.a0) : w.heap.size ≤ gb179)); have n4_ := Aside0.mk ((by rw [hg]; exact (below_size impl_IsSorts.a0) : w.heap.size ≤ gb179)); have n5_ := Aside0.mk ((by rw [hg]; exact Nat.ne_of_lt (blk_lt (g := gb174) (o := .cells #[.slice A0_0 l0_0.length c0_0, .slice (some ad178) l0_1.length c0_1] 30 (0, 0)) impl_IsSorts.a1) : gb174 ≠ gb179)); have n6_ := Aside0.mk ((by rw [hg]; exact Nat.ne_of_gt (blk_lt (g := gb174) (o := .cells #[.slice A0_0 l0_0.length c0_0, .slice (some ad178) l0_1.length c0_1] 30 (0, 0)) impl_IsSorts.a1) : gb179 ≠ gb174)); clear BK174; clear HB; have BK174 := n0_; have HB := n1_; have BK179 := n2_; have GW179 := n3_; have GE179 := n4_; have NB174_179 := n5_; have NB179_174 := n6_; clear n0_ n1_ n2_ n3_ n4_ n5_ n6_; clear hb hbox hg; have hnb42 := NB179_174.out; have hnc42 := NB174_179.out; have hcz43_0 : w41.cell? ⟨gb179, 0, none⟩ = some (.int .i64 0) := (blk_cell BK179.out 0).trans rfl; have hcz43_1 : w41.cell? ⟨gb179, 1, none⟩ = some (.int .i64 0) := (blk_cell BK179.out 1).trans rfl; have hfz43_0 := blk_frozen BK179.out 0; have hfz43_1 := blk_frozen BK179.out 1)); try go_wp2_with (first | ((with_reducible refine gate_dst (N := 8) rfl ?_); (try (refine gate_guard (by rfl) ?_; dsimp only)); refine box_event ?hg (N := 8) ?hd (cs := #[.int .i64 0, .int .i64 0]) (t := 52) ?hr ?_; (case hd => rfl); (case hg => rfl); (case hr => first | (go_simp; done) | (go_simp; rfl)); intro gb179 hg w41 hbox hb; have n0_ := Aside0.mk (blk_below (g := gb174) (o := .cells #[.slice A0_0 l0_0.length c0_0, .slice (some ad178) l0_1.length c0_1] 30 (0, 0)) impl_IsSorts.a1 hb); have n1_ := Aside0.mk (below_step impl_IsSorts.a0 hb); have n2_ := Aside0.mk (hbox); have n3_ := Aside0.mk ((by rw [hg]; exact (below_size impl_IsSorts.a0) : w.heap.size ≤ gb179)); have n4_ := Aside0.mk ((by rw [hg]; exact (below_size impl_IsSorts.a0) : w.heap.size ≤ gb179)); have n5_ := Aside0.mk ((by rw [hg]; exact Nat.ne_of_lt (blk_lt (g := gb174) (o := .cells #[.slice A0_0 l0_0.length c0_0, .slice (some ad178) l0_1.length c0_1] 30 (0, 0)) impl_IsSorts.a1) : gb174 ≠ gb179)); have n6_ := Aside0.mk ((by rw [hg]; exact Nat.ne_of_gt (blk_lt (g := gb174) (o := .cells #[.slice A0_0 l0_0.length c0_0, .slice (some ad178) l0_1.length c0_1] 30 (0, 0)) impl_IsSorts.a1) : gb179 ≠ gb174)); clear BK174; clear HB; have BK174 := n0_; have HB := n1_; have BK179 := n2_; have GW179 := n3_; have GE179 := n4_; have NB174_179 := n5_; have NB179_174 := n6_; clear n0_ n1_ n2_ n3_ n4_ n5_ n6_; clear hb hbox hg; have hnb42 := NB179_174.out; have hnc42 := NB174_179.out; have hcz43_0 : w41.cell? ⟨gb179, 0, none⟩ = some (.int .i64 0) := (blk_cell BK179.out 0).trans rfl; have hcz43_1 : w41.cell? ⟨gb179, 1, none⟩ = some (.int .i64 0) := (blk_cell BK179.out 1).trans rfl; have hfz43_0 := blk_frozen BK179.out 0; have hfz43_1 := blk_frozen BK179.out 1)))
                 go_roundg k3
                 case measure => have := HJ1.out; have := HK2.out; have := HK3.out; omega
                 case rel => exact ⟨(wrap64 (x49_3 + 1)), impl_IsSorts.a6, H', ⟨by have := HJ1.out; have := HK2.out; have := HK3.out; omega⟩, ⟨by (with_reducible repeat (first | refine blk_drewN ?_ _ | refine blk_drew ?_ | refine blk_alloc ?_ _)); refine blk_far ?_ NB174_179.out _; (with_reducible repeat (first | refine blk_drewN ?_ _ | refine blk_drew ?_ | refine blk_alloc ?_ _)); refine blk_far ?_ NB174_179.out _; (with_reducible repeat (first | refine blk_drewN ?_ _ | refine blk_drew ?_ | refine blk_alloc ?_ _)); exact BK174.out⟩, ⟨impl_IsSorts.a4⟩⟩
           ·rw [if_neg c20] at H
            exact absurd H (by simp)
          ·rw [if_neg c19] at H
           exact absurd H (by simp)
         ·rw [if_neg c18] at H
          have c18b0 : decide (x49_3 < (l0_1.length : Int)) = false := decide_eq_false c18
          clear c18
          replace H := Option.bind_eq_some_iff.mp H
          obtain ⟨t180, A440, H⟩ := H
          replace H : (impl_IsSorts.l2 k3 t180 (t180.length : Int) 0) = some r := H
          have A44 := Aside0.mk A440
          clear A440
          have H' := Aside0.mk H
          clear H
          have hcz45_0 : wr.cell? ⟨gb174, 0, none⟩ = some (.slice A0_0 l0_0.length c0_0) := (blk_cell BK174.out 0).trans rfl
          have hcz45_1 : wr.cell? ⟨gb174, 1, none⟩ = some (.slice A0_1 l0_1.length c0_1) := (blk_cell BK174.out 1).trans rfl
          have hfz45_0 := blk_frozen BK174.out 0
          have hfz45_1 := blk_frozen BK174.out 1
          go_wp2_with (first | (go_at_call 46; (with_reducible refine (impl_sortsAbove.calls k3 _ _ l0_0 _ _ l0_1 t180 _ ?side1 ?side2 ?side3 ?side4 A44.out).mono ?_); (case side1 => repeat (first | exact (Kd.C_below HR0_0.out HB.out) | (with_reducible refine Kd.C_alloc ?_ _) | (with_reducible refine Kd.C_drewN ?_ _) | (with_reducible refine Kd.C_drew ?_))); (case side2 => exact HC0_0.out); (case side3 => repeat (first | exact (Kd.C_below HR0_1.out HB.out) | (with_reducible refine Kd.C_alloc ?_ _) | (with_reducible refine Kd.C_drewN ?_ _) | (with_reducible refine Kd.C_drew ?_))); (case side4 => exact HC0_1.out); rintro e w46 ⟨v181, rfl, ho0, hb⟩; have n0_ := Aside0.mk (Kd.R_lower ho0 (below_size impl_IsSorts.a0)); have n1_ := Aside0.mk (blk_below (g := gb174) (o := .cells #[.slice A0_0 l0_0.length c0_0, .slice A0_1 l0_1.length c0_1] 30 (0, 0)) impl_IsSorts.a1 hb); have n2_ := Aside0.mk (below_step impl_IsSorts.a0 hb); clear BK174; clear HB; have HO182 := n0_; have BK174 := n1_; have HB := n2_; clear n0_ n1_ n2_; (try clear hb); (try clear hb2); (try clear hk); (try clear hi); (try clear ho0); obtain ⟨Ao47, co47, eo47⟩ := Kd.R_slice HO182.out; subst eo47))
          repeat (go_quiet (first | (go_at_call 46; (with_reducible refine (impl_sortsAbove.calls k3 _ _ l0_0 _ _ l0_1 t180 _ ?side1 ?side2 ?side3 ?side4 A44.out).mono ?_); (case side1 => repeat (first | exact (Kd.C_below HR0_0.out HB.out) | (with_reducible refine Kd.C_alloc ?_ _) | (with_reducible refine Kd.C_drewN ?_ _) | (with_reducible refine Kd.C_drew ?_))); (case side2 => exact HC0_0.out); (case side3 => repeat (first | exact (Kd.C_below HR0_1.out HB.out) | (with_reducible refine Kd.C_alloc ?_ _) | (with_reducible refine Kd.C_drewN ?_ _) | (with_reducible refine Kd.C_drew ?_))); (case side4 => exact HC0_1.out); rintro e w46 ⟨v181, rfl, ho0, hb⟩; have n0_ := Aside0.mk (Kd.R_lower ho0 (below_size impl_IsSorts.a0)); have n1_ := Aside0.mk (blk_below (g := gb174) (o := .cells #[.slice A0_0 l0_0.length c0_0, .slice A0_1 l0_1.length c0_1] 30 (0, 0)) impl_IsSorts.a1 hb); have n2_ := Aside0.mk (below_step impl_IsSorts.a0 hb); clear BK174; clear HB; have HO182 := n0_; have BK174 := n1_; have HB := n2_; clear n0_ n1_ n2_; (try clear hb); (try clear hb2); (try clear hk); (try clear hi); (try clear ho0); obtain ⟨Ao47, co47, eo47⟩ := Kd.R_slice HO182.out; subst eo47)); try go_wp2_with (first | (go_at_call 46; (with_reducible refine (impl_sortsAbove.calls k3 _ _ l0_0 _ _ l0_1 t180 _ ?side1 ?side2 ?side3 ?side4 A44.out).mono ?_); (case side1 => repeat (first | exact (Kd.C_below HR0_0.out HB.out) | (with_reducible refine Kd.C_alloc ?_ _) | (with_reducible refine Kd.C_drewN ?_ _) | (with_reducible refine Kd.C_drew ?_))); (case side2 => exact HC0_0.out); (case side3 => repeat (first | exact (Kd.C_below HR0_1.out HB.out) | (with_reducible refine Kd.C_alloc ?_ _) | (with_reducible refine Kd.C_drewN ?_ _) | (with_reducible refine Kd.C_drew ?_))); (case side4 => exact HC0_1.out); rintro e w46 ⟨v181, rfl, ho0, hb⟩; have n0_ := Aside0.mk (Kd.R_lower ho0 (below_size impl_IsSorts.a0)); have n1_ := Aside0.mk (blk_below (g := gb174) (o := .cells #[.slice A0_0 l0_0.length c0_0, .slice A0_1 l0_1.length c0_1] 30 (0, 0)) impl_IsSorts.a1 hb); have n2_ := Aside0.mk (below_step impl_IsSorts.a0 hb); clear BK174; clear HB; have HO182 := n0_; have BK174 := n1_; have HB := n2_; clear n0_ n1_ n2_; (try clear hb); (try clear hb2); (try clear hk); (try clear hi); (try clear ho0); obtain ⟨Ao47, co47, eo47⟩ := Kd.R_slice HO182.out; subst eo47)))
          go_loopg [85] k3 (fun kq v85 w' => ∃ (x85_4 : Int), v85 = .int .i64 x85_4 ∧ Aside0 (impl_IsSorts.l2 kq t180 (t180.length : Int) x85_4 = some r) ∧ Aside0 (kq ≤ k3) ∧ Aside0 (Kd.R (Kd.int .i64) 3 w' w.heap.size (fun _ => True) (.slice Ao47 t180.length co47) t180) ∧ Aside0 (w'.heap[gb174]? = some (.cells #[(.slice A0_0 l0_0.length c0_0), (.slice A0_1 l0_1.length c0_1)] 30 (0, 0))) ∧ Aside0 (Below w.heap.size w w'))
          case atStart => exact ⟨(0), impl_IsSorts.a6, H', ⟨Nat.le_refl _⟩, ⟨by (with_reducible repeat (first | apply Kd.R_alloc | apply Kd.R_drewN | apply Kd.R_drew)); exact HO182.out⟩, ⟨impl_IsSorts.a1⟩, ⟨impl_IsSorts.a0⟩⟩
          case round =>
           clear H'
           try clear c1
           try clear p1
           try clear q1
           try clear hx1
           try clear c2
           try clear p2
           try clear c3
           try clear c4
           try clear c5
           try clear c5b0
           try clear c5b1
           try clear c6
           try clear c6b0
           try clear c6b1
           try clear p6
           try clear c8
           try clear c10
           try clear c10b0
           try clear c11
           try clear c11b0
           try clear c12
           try clear c12b0
           try clear c14
           try clear c15
           try clear c16
           try clear p17
           try clear q17
           try clear hx17
           try clear c18
           try clear c18b0
           try clear c19
           try clear c19b0
           try clear c20
           try clear c20b0
           try clear c21
           try clear c21b0
           try clear c23
           try clear c25
           try clear c25b0
           try clear c27
           try clear c29
           try clear c29b0
           try clear c31
           try clear c33
           try clear c33b0
           try clear c35
           try clear c37
           try clear c37b0
           try clear c37b1
           try clear c39
           try clear c42
           try clear hcz17_0
           try clear hcz17_1
           try clear hcz24_0
           try clear hcz24_1
           try clear hcz28_0
           try clear hcz28_1
           try clear hcz32_0
           try clear hcz32_1
           try clear hcz36_0
           try clear hcz36_1
           try clear hcz40_0
           try clear hcz40_1
           try clear hcz43_0
           try clear hcz43_1
           try clear hcz45_0
           try clear hcz45_1
           try clear hcz4_0
           try clear hcz4_1
           try clear hcz7_0
           try clear hcz7_1
           try clear hcz9_0
           try clear hcz9_1
           try clear hfz17_0
           try clear hfz17_1
           try clear hfz24_0
           try clear hfz24_1
           try clear hfz28_0
           try clear hfz28_1
           try clear hfz32_0
           try clear hfz32_1
           try clear hfz36_0
           try clear hfz36_1
           try clear hfz40_0
           try clear hfz40_1
           try clear hfz43_0
           try clear hfz43_1
           try clear hfz45_0
           try clear hfz45_1
           try clear hfz4_0
           try clear hfz4_1
           try clear hfz7_0
           try clear hfz7_1
           try clear hfz9_0
           try clear hfz9_1
           try clear hx175_0
           try clear hx178_0
           try clear hx178_1
           try clear p1
           try clear p17
           try clear p175
           try clear p178
           try clear p2
           try clear p6
           try clear q1
           try clear q17
           try clear q175
           try clear q178
           obtain ⟨x85_4, rfl, HA, HK4, HO_9, BK174, HB⟩ := hrel
           cases gk with
           | zero => exact absurd HA.out (by simp [impl_IsSorts.l2])
           | succ k4 =>
            have H := HA.out
            clear HA
            simp only [impl_IsSorts.l2] at H
            by_cases c48 : x85_4 < (t180.length : Int)
            ·rw [if_pos c48] at H
             have c48b0 : decide (x85_4 < (t180.length : Int)) = true := decide_eq_true c48
             clear c48
             have H' := Aside0.mk H
             clear H
             go_wp2
             repeat (go_quiet (fail); try go_wp2)
             go_loopg [90] k4 (fun kq v90 w' => ∃ (x90_5 : Int), v90 = .int .i64 x90_5 ∧ Aside0 (impl_IsSorts.l3 kq t180 x85_4 (t180.length : Int) x85_4 (t180.length : Int) x90_5 = some r) ∧ Aside0 (kq ≤ k4) ∧ Aside0 (Kd.R (Kd.int .i64) 3 w' w.heap.size (fun _ => True) (.slice Ao47 t180.length co47) t180) ∧ Aside0 (w'.heap[gb174]? = some (.cells #[(.slice A0_0 l0_0.length c0_0), (.slice A0_1 l0_1.length c0_1)] 30 (0, 0))) ∧ Aside0 (Below w.heap.size w w'))
             case atStart => exact ⟨(0), impl_IsSorts.a6, H', ⟨Nat.le_refl _⟩, ⟨impl_IsSorts.a7⟩, ⟨impl_IsSorts.a1⟩, ⟨impl_IsSorts.a0⟩⟩
             case round =>
              clear H'
              try clear c1
              try clear p1
              try clear q1
              try clear hx1
              try clear c2
              try clear p2
              try clear c3
              try clear c4
              try clear c5
              try clear c5b0
              try clear c5b1
              try clear c6
              try clear c6b0
              try clear c6b1
              try clear p6
              try clear c8
              try clear c10
              try clear c10b0
              try clear c11
              try clear c11b0
              try clear c12
              try clear c12b0
              try clear c14
              try clear c15
              try clear c16
              try clear p17
              try clear q17
              try clear hx17
              try clear c18
              try clear c18b0
              try clear c19
              try clear c19b0
              try clear c20
              try clear c20b0
              try clear c21
              try clear c21b0
              try clear c23
              try clear c25
              try clear c25b0
              try clear c27
              try clear c29
              try clear c29b0
              try clear c31
              try clear c33
              try clear c33b0
              try clear c35
              try clear c37
              try clear c37b0
              try clear c37b1
              try clear c39
              try clear c42
              try clear c48
              try clear c48b0
              try clear hcz17_0
              try clear hcz17_1
              try clear hcz24_0
              try clear hcz24_1
              try clear hcz28_0
              try clear hcz28_1
              try clear hcz32_0
              try clear hcz32_1
              try clear hcz36_0
              try clear hcz36_1
              try clear hcz40_0
              try clear hcz40_1
              try clear hcz43_0
              try clear hcz43_1
              try clear hcz45_0
              try clear hcz45_1
              try clear hcz4_0
              try clear hcz4_1
              try clear hcz7_0
              try clear hcz7_1
              try clear hcz9_0
              try clear hcz9_1
              try clear hfz17_0
              try clear hfz17_1
              try clear hfz24_0
              try clear hfz24_1
              try clear hfz28_0
              try clear hfz28_1
              try clear hfz32_0
              try clear hfz32_1
              try clear hfz36_0
              try clear hfz36_1
              try clear hfz40_0
              try clear hfz40_1
              try clear hfz43_0
              try clear hfz43_1
              try clear hfz45_0
              try clear hfz45_1
              try clear hfz4_0
              try clear hfz4_1
              try clear hfz7_0
              try clear hfz7_1
              try clear hfz9_0
              try clear hfz9_1
              try clear hx175_0
              try clear hx178_0
              try clear hx178_1
              try clear p1
              try clear p17
              try clear p175
              try clear p178
              try clear p2
              try clear p6
              try clear q1
              try clear q17
              try clear q175
              try clear q178
              obtain ⟨x90_5, rfl, HA, HK5, HO_9, BK174, HB⟩ := hrel
              cases gk with
              | zero => exact absurd HA.out (by simp [impl_IsSorts.l3])
              | succ k5 =>
               have H := HA.out
               clear HA
               simp only [impl_IsSorts.l3] at H
               by_cases c49 : x90_5 < (t180.length : Int)
               ·rw [if_pos c49] at H
                have c49b0 : decide (x90_5 < (t180.length : Int)) = true := decide_eq_true c49
                clear c49
                by_cases c50 : x85_4 = x90_5
                ·rw [if_pos c50] at H
                 have c50b0 : (x85_4 == x90_5) = true := beq_iff_eq.mpr c50
                 have c50b1 : (x85_4 != x90_5) = false := bne_eq_false_iff_eq.mpr c50
                 clear c50
                 have H' := Aside0.mk H
                 clear H
                 go_wp2
                 repeat (go_quiet (fail); try go_wp2)
                 go_roundg k5
                 case measure => have := HJ1.out; have := HK2.out; have := HK3.out; have := HK4.out; have := HK5.out; omega
                 case rel => exact ⟨(wrap64 (x90_5 + 1)), impl_IsSorts.a6, H', ⟨impl_IsSorts.a8⟩, ⟨impl_IsSorts.a7⟩, ⟨impl_IsSorts.a1⟩, ⟨impl_IsSorts.a0⟩⟩
                ·rw [if_neg c50] at H
                 have c50b0 : (x85_4 == x90_5) = false := beq_eq_false_iff_ne.mpr c50
                 have c50b1 : (x85_4 != x90_5) = true := bne_iff_ne.mpr c50
                 by_cases c51 : 0 ≤ x85_4
                 ·rw [if_pos c51] at H
                  have c51b0 : decide (0 ≤ x85_4) = true := decide_eq_true c51
                  clear c51
                  by_cases c52 : x85_4 < (t180.length : Int)
                  ·rw [if_pos c52] at H
                   have c52b0 : decide (x85_4 < (t180.length : Int)) = true := decide_eq_true c52
                   clear c52
                   by_cases c53 : 0 ≤ x90_5
                   ·rw [if_pos c53] at H
                    have c53b0 := eq_true c53
                    have c53b1 : decide (0 ≤ x90_5) = true := decide_eq_true c53
                    clear c53
                    obtain ⟨ji54, hji54⟩ : ∃ j_ : Int, (shl .i64 1 x90_5) = j_ := ⟨_, rfl⟩
                    replace H : (if (Go.bits .and .i64 (rd t180 x85_4) (ji54)) = 0 then (impl_IsSorts.l3 k5 t180 x85_4 (t180.length : Int) x85_4 (t180.length : Int) (wrap64 (x90_5 + 1))) else (if x90_5 < (t180.length : Int) then (if (Go.bits .and .i64 (rd t180 x90_5) (shl .i64 1 x85_4)) = 0 then (impl_IsSorts.l3 k5 t180 x85_4 (t180.length : Int) x85_4 (t180.length : Int) (wrap64 (x90_5 + 1))) else (some false)) else (none))) = some r := by first | (rw [hji54] at H; exact H) | (simp only [hji54] at H ⊢; exact H)
                    have hji54_ : (IntKind.i64.wrap (1 * 2 ^ min x90_5.toNat 64)) = ji54 := hji54
                    have hji54z : x90_5 ≤ 64 → (IntKind.i64.wrap (1 * 2 ^ x90_5.toNat)) = ji54 := shl_small hji54
                    have hji54u : (IntKind.i64.wrap (2 ^ min x90_5.toNat 64)) = ji54 := by have h_ := hji54_; rw [Int.one_mul] at h_; exact h_
                    have hji54v : x90_5 ≤ 64 → (IntKind.i64.wrap (2 ^ x90_5.toNat)) = ji54 := fun hle_ => by have h_ := hji54z hle_; rw [Int.one_mul] at h_; exact h_
                    have hji54y : (wrap64 (1 * 2 ^ min x90_5.toNat 64)) = ji54 := (i64_w _).symm.trans hji54_
                    have hji54x : x90_5 ≤ 64 → (wrap64 (1 * 2 ^ x90_5.toNat)) = ji54 := fun h_ => (i64_w _).symm.trans (hji54z h_)
                    by_cases c55 : (Go.bits .and .i64 (rd t180 x85_4) (ji54)) = 0
                    ·rw [if_pos c55] at H
                     have c55b0 : ((Go.bits .and .i64 (rd t180 x85_4) (ji54)) == 0) = true := beq_iff_eq.mpr c55
                     have c55b1 : ((Go.bits .and .i64 (rd t180 x85_4) (ji54)) != 0) = false := bne_eq_false_iff_eq.mpr c55
                     clear c55
                     have H' := Aside0.mk H
                     clear H
                     have p183 : 0 ≤ (x85_4 : Int) := of_decide_eq_true impl_IsSorts.a2
                     have q183 : x85_4 < (t180.length : Int) := of_decide_eq_true impl_IsSorts.a2
                     obtain ⟨ad183, e183, hx183_0⟩ := Kd.at_int (Kd.R_reads' HO_9.out).2.2 x85_4 p183 q183
                     cases e183
                     replace p183 := eq_true p183
                     replace q183 := eq_true q183
                     go_wp2
                     repeat (go_quiet (fail); try go_wp2)
                     go_roundg k5
                     case measure => have := HJ1.out; have := HK2.out; have := HK3.out; have := HK4.out; have := HK5.out; omega
                     case rel => exact ⟨(wrap64 (x90_5 + 1)), impl_IsSorts.a6, H', ⟨impl_IsSorts.a8⟩, ⟨impl_IsSorts.a7⟩, ⟨impl_IsSorts.a1⟩, ⟨impl_IsSorts.a0⟩⟩
                    ·rw [if_neg c55] at H
                     have c55b0 : ((Go.bits .and .i64 (rd t180 x85_4) (ji54)) == 0) = false := beq_eq_false_iff_ne.mpr c55
                     have c55b1 : ((Go.bits .and .i64 (rd t180 x85_4) (ji54)) != 0) = true := bne_iff_ne.mpr c55
                     by_cases c56 : x90_5 < (t180.length : Int)
                     ·rw [if_pos c56] at H
                      have c56b0 : decide (x90_5 < (t180.length : Int)) = true := decide_eq_true c56
                      clear c56
                      have c57b0 := eq_true (of_decide_eq_true impl_IsSorts.a2 : 0 ≤ x85_4)
                      obtain ⟨ji58, hji58⟩ : ∃ j_ : Int, (shl .i64 1 x85_4) = j_ := ⟨_, rfl⟩
                      replace H : (if (Go.bits .and .i64 (rd t180 x90_5) (ji58)) = 0 then (impl_IsSorts.l3 k5 t180 x85_4 (t180.length : Int) x85_4 (t180.length : Int) (wrap64 (x90_5 + 1))) else (some false)) = some r := by first | (rw [hji58] at H; exact H) | (simp only [hji58] at H ⊢; exact H)
                      have hji58_ : (IntKind.i64.wrap (1 * 2 ^ min x85_4.toNat 64)) = ji58 := hji58
                      have hji58z : x85_4 ≤ 64 → (IntKind.i64.wrap (1 * 2 ^ x85_4.toNat)) = ji58 := shl_small hji58
                      have hji58u : (IntKind.i64.wrap (2 ^ min x85_4.toNat 64)) = ji58 := by have h_ := hji58_; rw [Int.one_mul] at h_; exact h_
                      have hji58v : x85_4 ≤ 64 → (IntKind.i64.wrap (2 ^ x85_4.toNat)) = ji58 := fun hle_ => by have h_ := hji58z hle_; rw [Int.one_mul] at h_; exact h_
                      have hji58y : (wrap64 (1 * 2 ^ min x85_4.toNat 64)) = ji58 := (i64_w _).symm.trans hji58_
                      have hji58x : x85_4 ≤ 64 → (wrap64 (1 * 2 ^ x85_4.toNat)) = ji58 := fun h_ => (i64_w _).symm.trans (hji58z h_)
                      by_cases c59 : (Go.bits .and .i64 (rd t180 x90_5) (ji58)) = 0
                      ·rw [if_pos c59] at H
                       have c59b0 : ((Go.bits .and .i64 (rd t180 x90_5) (ji58)) == 0) = true := beq_iff_eq.mpr c59
                       have c59b1 : ((Go.bits .and .i64 (rd t180 x90_5) (ji58)) != 0) = false := bne_eq_false_iff_eq.mpr c59
                       clear c59
                       have H' := Aside0.mk H
                       clear H
                       have p183 : 0 ≤ (x85_4 : Int) := of_decide_eq_true impl_IsSorts.a2
                       have q183 : x85_4 < (t180.length : Int) := of_decide_eq_true impl_IsSorts.a2
                       obtain ⟨ad183, e183, hx183_0⟩ := Kd.at_int (Kd.R_reads' HO_9.out).2.2 x85_4 p183 q183
                       cases e183
                       replace p183 := eq_true p183
                       replace q183 := eq_true q183
                       have p184 : 0 ≤ (x90_5 : Int) := of_decide_eq_true impl_IsSorts.a2
                       have q184 : x90_5 < (t180.length : Int) := of_decide_eq_true impl_IsSorts.a2
                       obtain ⟨ad184, e184, hx184_0⟩ := Kd.at_int (Kd.R_reads' HO_9.out).2.2 x90_5 p184 q184
                       obtain rfl : ad183 = ad184 := (by injection e184)
                       replace p184 := eq_true p184
                       replace q184 := eq_true q184
                       go_wp2
                       repeat (go_quiet (fail); try go_wp2)
                       go_roundg k5
                       case measure => have := HJ1.out; have := HK2.out; have := HK3.out; have := HK4.out; have := HK5.out; omega
                       case rel => exact ⟨(wrap64 (x90_5 + 1)), impl_IsSorts.a6, H', ⟨impl_IsSorts.a8⟩, ⟨impl_IsSorts.a7⟩, ⟨impl_IsSorts.a1⟩, ⟨impl_IsSorts.a0⟩⟩
                      ·rw [if_neg c59] at H
                       have c59b0 : ((Go.bits .and .i64 (rd t180 x90_5) (ji58)) == 0) = false := beq_eq_false_iff_ne.mpr c59
                       have c59b1 : ((Go.bits .and .i64 (rd t180 x90_5) (ji58)) != 0) = true := bne_iff_ne.mpr c59
                       obtain rfl := Option.some.inj H
                       have p183 : 0 ≤ (x85_4 : Int) := of_decide_eq_true impl_IsSorts.a2
                       have q183 : x85_4 < (t180.length : Int) := of_decide_eq_true impl_IsSorts.a2
                       obtain ⟨ad183, e183, hx183_0⟩ := Kd.at_int (Kd.R_reads' HO_9.out).2.2 x85_4 p183 q183
                       cases e183
                       replace p183 := eq_true p183
                       replace q183 := eq_true q183
                       have p184 : 0 ≤ (x90_5 : Int) := of_decide_eq_true impl_IsSorts.a2
                       have q184 : x90_5 < (t180.length : Int) := of_decide_eq_true impl_IsSorts.a2
                       obtain ⟨ad184, e184, hx184_0⟩ := Kd.at_int (Kd.R_reads' HO_9.out).2.2 x90_5 p184 q184
                       obtain rfl : ad183 = ad184 := (by injection e184)
                       replace p184 := eq_true p184
                       replace q184 := eq_true q184
                       go_wp2
                       repeat (go_quiet (fail); try go_wp2)
                       go_ret
                       exact ⟨by first | rfl | (simp [errW_none, errW_some] <;> rfl) | (simp only [← hji54, ← hji58]; first | rfl | (simp [errW_none, errW_some] <;> rfl)) | (simp [*, errW_none, errW_some] <;> rfl), impl_IsSorts.a0⟩
                     ·rw [if_neg c56] at H
                      exact absurd H (by simp)
                   ·rw [if_neg c53] at H
                    exact absurd H (by simp)
                  ·rw [if_neg c52] at H
                   exact absurd H (by simp)
                 ·rw [if_neg c51] at H
                  exact absurd H (by simp)
               ·rw [if_neg c49] at H
                have c49b0 : decide (x90_5 < (t180.length : Int)) = false := decide_eq_false c49
                clear c49
                have H' := Aside0.mk H
                clear H
                go_wp2
                repeat (go_quiet (fail); try go_wp2)
                go_roundg k5
                case measure => have := HJ1.out; have := HK2.out; have := HK3.out; have := HK4.out; have := HK5.out; omega
                case rel => exact ⟨(wrap64 (x85_4 + 1)), impl_IsSorts.a6, H', ⟨impl_IsSorts.a8⟩, ⟨impl_IsSorts.a7⟩, ⟨impl_IsSorts.a1⟩, ⟨impl_IsSorts.a0⟩⟩
            ·rw [if_neg c48] at H
             have c48b0 : decide (x85_4 < (t180.length : Int)) = false := decide_eq_false c48
             clear c48
             obtain rfl := Option.some.inj H
             go_wp2
             repeat (go_quiet (fail); try go_wp2)
             go_ret
             exact ⟨impl_IsSorts.a5, impl_IsSorts.a0⟩

end Go.Proofs.Ytlpkicbmcpmemaa.Q

