/- Functions of the program as plain Lean functions, and that the calls come to what they say. -/
import Derived.Test.YtlpkicbmcpmemaaZQx0h2d4ba
import Derived.Test.YtlpkicbmcpmemaaZQx1h6f3c5
import Derived.Test.YtlpkicbmcpmemaaZQx3ha0ac6
import Derived.Test.YtlpkicbmcpmemaaZQx4h2f5a3
import Derived.Test.YtlpkicbmcpmemaaZQx5ha550c
import Derived.Test.YtlpkicbmcpmemaaZQx8h3bb97
import Derived.Test.YtlpkicbmcpmemaaZQx15h11e27
import Derived.Test.YtlpkicbmcpmemaaZShorth9309d
namespace Go.Proofs.Ytlpkicbmcpmemaa.Q
open Go.RowKit Go.Proofs.YtlpkicbmcpmemaaW.PrintWords Go.Proofs.YtlpkicbmcpmemaaW.PrintLast Go.Proofs.YtlpkicbmcpmemaaW.PrintMore
attribute [local go_sem] max2_int min2_int max_two min_two max_three min_three max_four min_four   -- for this text's walks alone
set_option linter.unusedVariables false
set_option linter.unusedSimpArgs false

/-! ### spec_AboveSort: function 24 -/
theorem spec_AboveSort.a0 {P_ : Prop} (h_ : P_ := by repeat (first | (with_reducible first | exact HB.out | apply below_alloc | apply pw_below_drewN | apply below_drew1 | refine below_set ?_ GE430.out) | exact HB.out)) : P_ := h_
theorem spec_AboveSort.a1 {P_ : Prop} (h_ : P_ := by repeat (first | (with_reducible first | exact HB.out | apply below_alloc | apply pw_below_drewN | apply below_drew1) | exact HB.out)) : P_ := h_
theorem spec_AboveSort.a2 {P_ : Prop} (h_ : P_ := by (try simp only [List.map_toArray, List.map_cons, List.map_nil]); first | done | rfl | (simp only [List.length_drop, List.length_take]; rfl)) : P_ := h_
theorem spec_AboveSort.a3 {P_ : Prop} (h_ : P_ := by (with_reducible repeat (first | refine blk_drewN ?_ _ | refine blk_drew ?_ | refine blk_alloc ?_ _)); exact BK430.out) : P_ := h_
theorem spec_AboveSort.a4 {P_ : Prop} (h_ : P_ := by first | rfl | (simp [errW_none, errW_some] <;> rfl) | (simp [*, errW_none, errW_some] <;> rfl)) : P_ := h_
def spec_AboveSort.f (k : Nat) (l0_0 : List ByteArray) (l0_1 : List (S52)) (a1 : Int) : Option (Int) := (spec_IsSorts.f k l0_0 l0_1).bind fun t431 => (if t431 = true then ((spec_l1In.f a1 0 (wrap64 ((l0_0.length : Int) - 1))).bind fun t432 => (if t432 = true then ((spec_l3Up.f k l0_0 l0_1).bind fun t433 => (if 0 ≤ a1 then (if a1 < (t433.length : Int) then (some (rd t433 a1)) else (none)) else (none))) else (some 0))) else (some 0))
set_option maxHeartbeats 8000000 in
set_option maxRecDepth 100000 in
theorem spec_AboveSort.calls (k : Nat) (A0_0 : Option Addr) (c0_0 : Nat) (l0_0 : List ByteArray) (A0_1 : Option Addr) (c0_1 : Nat) (l0_1 : List (S52)) (a1 : Int) (r : Int) (w : World) (hr0_0 : Kd.C Kd.string w A0_0 l0_0.length l0_0) (hc0_0 : l0_0.length ≤ c0_0) (hr0_1 : Kd.C k52 w A0_1 l0_1.length l0_1) (hc0_1 : l0_1.length ≤ c0_1) (h : spec_AboveSort.f k l0_0 l0_1 a1 = some r) :
  Calls Try.prog 24 #[.agg #[.slice A0_0 l0_0.length c0_0, .slice A0_1 l0_1.length c0_1], .int .i64 a1] w fun e w' => e = .returned (.int .i64 r) ∧ Below w.heap.size w w' := by
 have hu30 := Try.underlying30
 have HR0_0 := Aside0.mk hr0_0
 have HC0_0 := Aside0.mk hc0_0
 clear hr0_0 hc0_0
 have HR0_1 := Aside0.mk hr0_1
 have HC0_1 := Aside0.mk hc0_1
 clear hr0_1 hc0_1
 have HB := Aside0.mk (Below.refl w.heap.size w)
 have H : ((spec_IsSorts.f k l0_0 l0_1).bind fun t431 => (if t431 = true then ((spec_l1In.f a1 0 (wrap64 ((l0_0.length : Int) - 1))).bind fun t432 => (if t432 = true then ((spec_l3Up.f k l0_0 l0_1).bind fun t433 => (if 0 ≤ a1 then (if a1 < (t433.length : Int) then (some (rd t433 a1)) else (none)) else (none))) else (some 0))) else (some 0))) = some r := h
 clear h
 replace H := Option.bind_eq_some_iff.mp H
 obtain ⟨t431, A30, H⟩ := H
 replace H : (if t431 = true then ((spec_l1In.f a1 0 (wrap64 ((l0_0.length : Int) - 1))).bind fun t432 => (if t432 = true then ((spec_l3Up.f k l0_0 l0_1).bind fun t433 => (if 0 ≤ a1 then (if a1 < (t433.length : Int) then (some (rd t433 a1)) else (none)) else (none))) else (some 0))) else (some 0)) = some r := H
 have A3 := Aside0.mk A30
 clear A30
 by_cases c4 : t431 = true
 ·subst c4
  have H1 : ((spec_l1In.f a1 0 (wrap64 ((l0_0.length : Int) - 1))).bind fun t432 => (if t432 = true then ((spec_l3Up.f k l0_0 l0_1).bind fun t433 => (if 0 ≤ a1 then (if a1 < (t433.length : Int) then (some (rd t433 a1)) else (none)) else (none))) else (some 0))) = some r := by rw [if_pos rfl] at H; exact H
  clear H
  have H := H1
  clear H1
  replace H := Option.bind_eq_some_iff.mp H
  obtain ⟨t432, A50, H⟩ := H
  replace H : (if t432 = true then ((spec_l3Up.f k l0_0 l0_1).bind fun t433 => (if 0 ≤ a1 then (if a1 < (t433.length : Int) then (some (rd t433 a1)) else (none)) else (none))) else (some 0)) = some r := H
  have A5 := Aside0.mk A50
  clear A50
  by_cases c6 : t432 = true
  ·subst c6
   have H1 : ((spec_l3Up.f k l0_0 l0_1).bind fun t433 => (if 0 ≤ a1 then (if a1 < (t433.length : Int) then (some (rd t433 a1)) else (none)) else (none))) = some r := by rw [if_pos rfl] at H; exact H
   clear H
   have H := H1
   clear H1
   replace H := Option.bind_eq_some_iff.mp H
   obtain ⟨t433, A70, H⟩ := H
   replace H : (if 0 ≤ a1 then (if a1 < (t433.length : Int) then (some (rd t433 a1)) else (none)) else (none)) = some r := H
   have A7 := Aside0.mk A70
   clear A70
   by_cases c8 : 0 ≤ a1
   ·rw [if_pos c8] at H
    have c8b0 : decide (0 ≤ a1) = true := decide_eq_true c8
    clear c8
    by_cases c9 : a1 < (t433.length : Int)
    ·rw [if_pos c9] at H
     have c9b0 : decide (a1 < (t433.length : Int)) = true := decide_eq_true c9
     clear c9
     obtain rfl := Option.some.inj H
     go_enter Try.func24, Try.ntmps24
     go_wp2_with (first | ((with_reducible refine gate_dst (N := 2) rfl ?_); (try (refine gate_guard (by rfl) ?_; dsimp only)); refine box_event ?hg (N := 2) ?hd (cs := #[.slice A0_0 l0_0.length c0_0, .slice A0_1 l0_1.length c0_1]) (t := 30) ?hr ?_; (case hd => rfl); (case hg => rfl); (case hr => first | (go_simp; done) | (go_simp; rfl)); intro gb430 hg w10 hbox hb; have n0_ := Aside0.mk (below_step spec_AboveSort.a1 hb); have n1_ := Aside0.mk (hbox); have n2_ := Aside0.mk ((by rw [hg]; exact (below_size spec_AboveSort.a1) : w.heap.size ≤ gb430)); have n3_ := Aside0.mk ((by rw [hg]; exact (below_size spec_AboveSort.a1) : w.heap.size ≤ gb430)); clear HB; have HB := n0_; have BK430 := n1_; have GW430 := n2_; have GE430 := n3_; clear n0_ n1_ n2_ n3_; clear hb hbox hg; have hcz11_0 : w10.cell? ⟨gb430, 0, none⟩ = some (.slice A0_0 l0_0.length c0_0) := (blk_cell BK430.out 0).trans rfl; have hcz11_1 : w10.cell? ⟨gb430, 1, none⟩ = some (.slice A0_1 l0_1.length c0_1) := (blk_cell BK430.out 1).trans rfl; have hfz11_0 := blk_frozen BK430.out 0; have hfz11_1 := blk_frozen BK430.out 1) | ((with_reducible refine gate_callee (f := 13) rfl ?_); refine goesL_ (some 6) rfl rfl Try.func13 (by kernel_rfl) rfl #[.agg #[.slice A0_0 l0_0.length c0_0, .slice A0_1 l0_1.length c0_1]] rfl spec_AboveSort.a2 ?_; (with_reducible refine (spec_IsSorts.calls k _ _ l0_0 _ _ l0_1 true _ ?side1 ?side2 ?side3 ?side4 A3.out).mono ?_); (case side1 => repeat (first | exact (Kd.C_below HR0_0.out HB.out) | (with_reducible refine Kd.C_alloc ?_ _) | (with_reducible refine Kd.C_drewN ?_ _) | (with_reducible refine Kd.C_drew ?_))); (case side2 => exact HC0_0.out); (case side3 => repeat (first | exact (Kd.C_below HR0_1.out HB.out) | (with_reducible refine Kd.C_alloc ?_ _) | (with_reducible refine Kd.C_drewN ?_ _) | (with_reducible refine Kd.C_drew ?_))); (case side4 => exact HC0_1.out); rintro e w12 ⟨rfl, hb⟩; refine ⟨_, rfl, ?_⟩; have n0_ := Aside0.mk (blk_below (g := gb430) (o := .cells #[.slice A0_0 l0_0.length c0_0, .slice A0_1 l0_1.length c0_1] 30 (0, 0)) spec_AboveSort.a3 hb); have n1_ := Aside0.mk (below_step spec_AboveSort.a0 hb); clear BK430; clear HB; have BK430 := n0_; have HB := n1_; clear n0_ n1_; (try clear hb); (try clear hb2); (try clear hk); (try clear hi); have hcz13_0 : w12.cell? ⟨gb430, 0, none⟩ = some (.slice A0_0 l0_0.length c0_0) := (blk_cell BK430.out 0).trans rfl; have hcz13_1 : w12.cell? ⟨gb430, 1, none⟩ = some (.slice A0_1 l0_1.length c0_1) := (blk_cell BK430.out 1).trans rfl; have hfz13_0 := blk_frozen BK430.out 0; have hfz13_1 := blk_frozen BK430.out 1) | (go_at_call 40; (with_reducible refine (spec_l1In.calls a1 0 (wrap64 ((l0_0.length : Int) - 1)) true _ A5.out).mono ?_); rintro e w' ⟨rfl, ⟨nd, rfl⟩⟩) | ((with_reducible refine gate_callee (f := 41) rfl ?_); refine goesL_ (some 18) rfl rfl Try.func41 (by kernel_rfl) rfl #[.agg #[.slice A0_0 l0_0.length c0_0, .slice A0_1 l0_1.length c0_1]] rfl spec_AboveSort.a2 ?_; (with_reducible refine (spec_l3Up.calls k _ _ l0_0 _ _ l0_1 t433 _ ?side1 ?side2 ?side3 ?side4 A7.out).mono ?_); (case side1 => repeat (first | exact (Kd.C_below HR0_0.out spec_AboveSort.a0) | (with_reducible refine Kd.C_alloc ?_ _) | (with_reducible refine Kd.C_drewN ?_ _) | (with_reducible refine Kd.C_drew ?_))); (case side2 => exact HC0_0.out); (case side3 => repeat (first | exact (Kd.C_below HR0_1.out spec_AboveSort.a0) | (with_reducible refine Kd.C_alloc ?_ _) | (with_reducible refine Kd.C_drewN ?_ _) | (with_reducible refine Kd.C_drew ?_))); (case side4 => exact HC0_1.out); rintro e w14 ⟨v434, rfl, ho0, hb⟩; refine ⟨_, rfl, ?_⟩; have n0_ := Aside0.mk (Kd.R_lower ho0 (below_size spec_AboveSort.a0)); have n1_ := Aside0.mk (blk_below (g := gb430) (o := .cells #[.slice A0_0 l0_0.length c0_0, .slice A0_1 l0_1.length c0_1] 30 (0, 0)) spec_AboveSort.a3 hb); have n2_ := Aside0.mk (below_step spec_AboveSort.a0 hb); clear BK430; clear HB; have HO435 := n0_; have BK430 := n1_; have HB := n2_; clear n0_ n1_ n2_; (try clear hb); (try clear hb2); (try clear hk); (try clear hi); (try clear ho0); obtain ⟨Ao15, co15, eo15⟩ := Kd.R_slice HO435.out; subst eo15; have p436 : 0 ≤ (a1 : Int) := of_decide_eq_true (by first | (with_reducible assumption) | assumption); have q436 : a1 < (t433.length : Int) := of_decide_eq_true (by first | (with_reducible assumption) | assumption); obtain ⟨ad436, e436, hx436_0⟩ := Kd.at_int (Kd.R_reads' HO435.out).2.2 a1 p436 q436; cases e436; replace p436 := eq_true p436; replace q436 := eq_true q436))
     go_ret
     exact ⟨spec_AboveSort.a4, spec_AboveSort.a0⟩
    ·rw [if_neg c9] at H
     exact absurd H (by simp)
   ·rw [if_neg c8] at H
    exact absurd H (by simp)
  ·replace c6 := Bool.eq_false_iff.mpr c6
   subst c6
   have H1 : (some 0) = some r := by rw [if_neg (show ¬ (false = true) by decide)] at H; exact H
   clear H
   have H := H1
   clear H1
   obtain rfl := Option.some.inj H
   go_enter Try.func24, Try.ntmps24
   go_wp2_with (first | ((with_reducible refine gate_dst (N := 2) rfl ?_); (try (refine gate_guard (by rfl) ?_; dsimp only)); refine box_event ?hg (N := 2) ?hd (cs := #[.slice A0_0 l0_0.length c0_0, .slice A0_1 l0_1.length c0_1]) (t := 30) ?hr ?_; (case hd => rfl); (case hg => rfl); (case hr => first | (go_simp; done) | (go_simp; rfl)); intro gb430 hg w16 hbox hb; have n0_ := Aside0.mk (below_step spec_AboveSort.a1 hb); have n1_ := Aside0.mk (hbox); have n2_ := Aside0.mk ((by rw [hg]; exact (below_size spec_AboveSort.a1) : w.heap.size ≤ gb430)); have n3_ := Aside0.mk ((by rw [hg]; exact (below_size spec_AboveSort.a1) : w.heap.size ≤ gb430)); clear HB; have HB := n0_; have BK430 := n1_; have GW430 := n2_; have GE430 := n3_; clear n0_ n1_ n2_ n3_; clear hb hbox hg; have hcz17_0 : w16.cell? ⟨gb430, 0, none⟩ = some (.slice A0_0 l0_0.length c0_0) := (blk_cell BK430.out 0).trans rfl; have hcz17_1 : w16.cell? ⟨gb430, 1, none⟩ = some (.slice A0_1 l0_1.length c0_1) := (blk_cell BK430.out 1).trans rfl; have hfz17_0 := blk_frozen BK430.out 0; have hfz17_1 := blk_frozen BK430.out 1) | ((with_reducible refine gate_callee (f := 13) rfl ?_); refine goesL_ (some 6) rfl rfl Try.func13 (by kernel_rfl) rfl #[.agg #[.slice A0_0 l0_0.length c0_0, .slice A0_1 l0_1.length c0_1]] rfl spec_AboveSort.a2 ?_; (with_reducible refine (spec_IsSorts.calls k _ _ l0_0 _ _ l0_1 true _ ?side1 ?side2 ?side3 ?side4 A3.out).mono ?_); (case side1 => repeat (first | exact (Kd.C_below HR0_0.out HB.out) | (with_reducible refine Kd.C_alloc ?_ _) | (with_reducible refine Kd.C_drewN ?_ _) | (with_reducible refine Kd.C_drew ?_))); (case side2 => exact HC0_0.out); (case side3 => repeat (first | exact (Kd.C_below HR0_1.out HB.out) | (with_reducible refine Kd.C_alloc ?_ _) | (with_reducible refine Kd.C_drewN ?_ _) | (with_reducible refine Kd.C_drew ?_))); (case side4 => exact HC0_1.out); rintro e w18 ⟨rfl, hb⟩; refine ⟨_, rfl, ?_⟩; have n0_ := Aside0.mk (blk_below (g := gb430) (o := .cells #[.slice A0_0 l0_0.length c0_0, .slice A0_1 l0_1.length c0_1] 30 (0, 0)) spec_AboveSort.a3 hb); have n1_ := Aside0.mk (below_step spec_AboveSort.a0 hb); clear BK430; clear HB; have BK430 := n0_; have HB := n1_; clear n0_ n1_; (try clear hb); (try clear hb2); (try clear hk); (try clear hi); have hcz19_0 : w18.cell? ⟨gb430, 0, none⟩ = some (.slice A0_0 l0_0.length c0_0) := (blk_cell BK430.out 0).trans rfl; have hcz19_1 : w18.cell? ⟨gb430, 1, none⟩ = some (.slice A0_1 l0_1.length c0_1) := (blk_cell BK430.out 1).trans rfl; have hfz19_0 := blk_frozen BK430.out 0; have hfz19_1 := blk_frozen BK430.out 1) | (go_at_call 40; (with_reducible refine (spec_l1In.calls a1 0 (wrap64 ((l0_0.length : Int) - 1)) false _ A5.out).mono ?_); rintro e w' ⟨rfl, ⟨nd, rfl⟩⟩))
   go_ret
   exact ⟨spec_AboveSort.a4, spec_AboveSort.a0⟩
 ·replace c4 := Bool.eq_false_iff.mpr c4
  subst c4
  have H1 : (some 0) = some r := by rw [if_neg (show ¬ (false = true) by decide)] at H; exact H
  clear H
  have H := H1
  clear H1
  obtain rfl := Option.some.inj H
  go_enter Try.func24, Try.ntmps24
  go_wp2_with (first | ((with_reducible refine gate_dst (N := 2) rfl ?_); (try (refine gate_guard (by rfl) ?_; dsimp only)); refine box_event ?hg (N := 2) ?hd (cs := #[.slice A0_0 l0_0.length c0_0, .slice A0_1 l0_1.length c0_1]) (t := 30) ?hr ?_; (case hd => rfl); (case hg => rfl); (case hr => first | (go_simp; done) | (go_simp; rfl)); intro gb430 hg w20 hbox hb; have n0_ := Aside0.mk (below_step spec_AboveSort.a1 hb); have n1_ := Aside0.mk (hbox); have n2_ := Aside0.mk ((by rw [hg]; exact (below_size spec_AboveSort.a1) : w.heap.size ≤ gb430)); have n3_ := Aside0.mk ((by rw [hg]; exact (below_size spec_AboveSort.a1) : w.heap.size ≤ gb430)); clear HB; have HB := n0_; have BK430 := n1_; have GW430 := n2_; have GE430 := n3_; clear n0_ n1_ n2_ n3_; clear hb hbox hg; have hcz21_0 : w20.cell? ⟨gb430, 0, none⟩ = some (.slice A0_0 l0_0.length c0_0) := (blk_cell BK430.out 0).trans rfl; have hcz21_1 : w20.cell? ⟨gb430, 1, none⟩ = some (.slice A0_1 l0_1.length c0_1) := (blk_cell BK430.out 1).trans rfl; have hfz21_0 := blk_frozen BK430.out 0; have hfz21_1 := blk_frozen BK430.out 1) | ((with_reducible refine gate_callee (f := 13) rfl ?_); refine goesL_ (some 6) rfl rfl Try.func13 (by kernel_rfl) rfl #[.agg #[.slice A0_0 l0_0.length c0_0, .slice A0_1 l0_1.length c0_1]] rfl spec_AboveSort.a2 ?_; (with_reducible refine (spec_IsSorts.calls k _ _ l0_0 _ _ l0_1 false _ ?side1 ?side2 ?side3 ?side4 A3.out).mono ?_); (case side1 => repeat (first | exact (Kd.C_below HR0_0.out HB.out) | (with_reducible refine Kd.C_alloc ?_ _) | (with_reducible refine Kd.C_drewN ?_ _) | (with_reducible refine Kd.C_drew ?_))); (case side2 => exact HC0_0.out); (case side3 => repeat (first | exact (Kd.C_below HR0_1.out HB.out) | (with_reducible refine Kd.C_alloc ?_ _) | (with_reducible refine Kd.C_drewN ?_ _) | (with_reducible refine Kd.C_drew ?_))); (case side4 => exact HC0_1.out); rintro e w22 ⟨rfl, hb⟩; refine ⟨_, rfl, ?_⟩; have n0_ := Aside0.mk (blk_below (g := gb430) (o := .cells #[.slice A0_0 l0_0.length c0_0, .slice A0_1 l0_1.length c0_1] 30 (0, 0)) spec_AboveSort.a3 hb); have n1_ := Aside0.mk (below_step spec_AboveSort.a0 hb); clear BK430; clear HB; have BK430 := n0_; have HB := n1_; clear n0_ n1_; (try clear hb); (try clear hb2); (try clear hk); (try clear hi)))
  go_ret
  exact ⟨spec_AboveSort.a4, spec_AboveSort.a0⟩

/-! ### laws_FnExactAboveSort: function 5 -/
/-! ### spec_BelowSort: function 25 -/
theorem spec_BelowSort.a0 {P_ : Prop} (h_ : P_ := by repeat (first | (with_reducible first | exact HB.out | apply below_alloc | apply pw_below_drewN | apply below_drew1 | refine below_set ?_ GE461.out) | exact HB.out)) : P_ := h_
theorem spec_BelowSort.a1 {P_ : Prop} (h_ : P_ := by (with_reducible repeat (first | refine blk_drewN ?_ _ | refine blk_drew ?_ | refine blk_alloc ?_ _)); exact BK461.out) : P_ := h_
theorem spec_BelowSort.a2 {P_ : Prop} (h_ : P_ := by (try simp only [List.map_toArray, List.map_cons, List.map_nil]); first | done | rfl | (simp only [List.length_drop, List.length_take]; rfl)) : P_ := h_
theorem spec_BelowSort.a3 {P_ : Prop} (h_ : P_ := by first | rfl | (simp; done) | (simp [*]; done)) : P_ := h_
theorem spec_BelowSort.a4 {P_ : Prop} (h_ : P_ := by repeat (first | (with_reducible first | exact HB.out | apply below_alloc | apply pw_below_drewN | apply below_drew1) | exact HB.out)) : P_ := h_
mutual
def spec_BelowSort.j0 : Nat → Int → Int → Bool → List ByteArray → List (S52) → Option (Int)
 | 0, _, _, _, _, _ => none
 | k + 1, x1, x5, x19, x462000, x462001 => if x19 = true then (some x5) else ((spec_l3Up.f k x462000 x462001).bind fun t464 => (spec_BelowSort.l0 k x1 x5 t464 0))
def spec_BelowSort.l0 : Nat → Int → Int → List Int → Int → Option (Int)
 | 0, _, _, _, _ => none
 | k + 1, x1, x5, x6, x7 => if x7 < (x6.length : Int) then (if 0 ≤ x7 then ((spec_l2Has.f (rd x6 x7) x1).bind fun t468 => (if t468 = true then ((spec_l2Bit.f x7).bind fun t469 => (spec_BelowSort.l0 k x1 (Go.bits .or .i64 x5 t469) x6 (wrap64 (x7 + 1)))) else (spec_BelowSort.l0 k x1 x5 x6 (wrap64 (x7 + 1))))) else (none)) else (some x5)
end
def spec_BelowSort.f (k : Nat) (l0_0 : List ByteArray) (l0_1 : List (S52)) (a1 : Int) : Option (Int) := (spec_IsSorts.f k l0_0 l0_1).bind fun t462 => (if t462 = true then ((spec_l1In.f a1 0 (wrap64 ((l0_0.length : Int) - 1))).bind fun t463 => (spec_BelowSort.j0 k a1 0 (!t463) l0_0 l0_1)) else (spec_BelowSort.j0 k a1 0 true l0_0 l0_1))
set_option maxHeartbeats 8000000 in
set_option maxRecDepth 100000 in
theorem spec_BelowSort.calls (k : Nat) (A0_0 : Option Addr) (c0_0 : Nat) (l0_0 : List ByteArray) (A0_1 : Option Addr) (c0_1 : Nat) (l0_1 : List (S52)) (a1 : Int) (r : Int) (w : World) (hr0_0 : Kd.C Kd.string w A0_0 l0_0.length l0_0) (hc0_0 : l0_0.length ≤ c0_0) (hr0_1 : Kd.C k52 w A0_1 l0_1.length l0_1) (hc0_1 : l0_1.length ≤ c0_1) (h : spec_BelowSort.f k l0_0 l0_1 a1 = some r) :
  Calls Try.prog 25 #[.agg #[.slice A0_0 l0_0.length c0_0, .slice A0_1 l0_1.length c0_1], .int .i64 a1] w fun e w' => e = .returned (.int .i64 r) ∧ Below w.heap.size w w' := by
 have hu30 := Try.underlying30
 have HR0_0 := Aside0.mk hr0_0
 have HC0_0 := Aside0.mk hc0_0
 clear hr0_0 hc0_0
 have HR0_1 := Aside0.mk hr0_1
 have HC0_1 := Aside0.mk hc0_1
 clear hr0_1 hc0_1
 have HB := Aside0.mk (Below.refl w.heap.size w)
 have H : ((spec_IsSorts.f k l0_0 l0_1).bind fun t462 => (if t462 = true then ((spec_l1In.f a1 0 (wrap64 ((l0_0.length : Int) - 1))).bind fun t463 => (spec_BelowSort.j0 k a1 0 (!t463) l0_0 l0_1)) else (spec_BelowSort.j0 k a1 0 true l0_0 l0_1))) = some r := h
 clear h
 have HC3 := Aside0.mk H
 clear H
 go_enter Try.func25, Try.ntmps25
 go_upto_region 2 with (first | ((with_reducible refine gate_dst (N := 2) rfl ?_); (try (refine gate_guard (by rfl) ?_; dsimp only)); refine box_event ?hg (N := 2) ?hd (cs := #[.slice A0_0 l0_0.length c0_0, .slice A0_1 l0_1.length c0_1]) (t := 30) ?hr ?_; (case hd => rfl); (case hg => rfl); (case hr => first | (go_simp; done) | (go_simp; rfl)); intro gb461 hg w4 hbox hb; have n0_ := Aside0.mk (below_step spec_BelowSort.a4 hb); have n1_ := Aside0.mk (hbox); have n2_ := Aside0.mk ((by rw [hg]; exact (below_size spec_BelowSort.a4) : w.heap.size ≤ gb461)); have n3_ := Aside0.mk ((by rw [hg]; exact (below_size spec_BelowSort.a4) : w.heap.size ≤ gb461)); clear HB; have HB := n0_; have BK461 := n1_; have GW461 := n2_; have GE461 := n3_; clear n0_ n1_ n2_ n3_; clear hb hbox hg))
 (try simp only [Act.put, List.setIfInBounds_toArray, List.set_cons_zero, List.set_cons_succ])
 go_cut [19] (fun v19 wc => ∃ (kq : Nat) (x19_2 : Bool), v19 = .bool x19_2 ∧ Aside0 (spec_BelowSort.j0 kq a1 0 x19_2 l0_0 l0_1 = some r) ∧ Aside0 (kq ≤ k) ∧ Aside0 (wc.heap[gb461]? = some (.cells #[(.slice A0_0 l0_0.length c0_0), (.slice A0_1 l0_1.length c0_1)] 30 (0, 0))) ∧ Aside0 (Below w.heap.size w wc))
 case first =>
  have H := HC3.out
  clear HC3
  replace H := Option.bind_eq_some_iff.mp H
  obtain ⟨t462, A50, H⟩ := H
  replace H : (if t462 = true then ((spec_l1In.f a1 0 (wrap64 ((l0_0.length : Int) - 1))).bind fun t463 => (spec_BelowSort.j0 k a1 0 (!t463) l0_0 l0_1)) else (spec_BelowSort.j0 k a1 0 true l0_0 l0_1)) = some r := H
  have A5 := Aside0.mk A50
  clear A50
  by_cases c6 : t462 = true
  ·subst c6
   have H1 : ((spec_l1In.f a1 0 (wrap64 ((l0_0.length : Int) - 1))).bind fun t463 => (spec_BelowSort.j0 k a1 0 (!t463) l0_0 l0_1)) = some r := by rw [if_pos rfl] at H; exact H
   clear H
   have H := H1
   clear H1
   replace H := Option.bind_eq_some_iff.mp H
   obtain ⟨t463, A70, H⟩ := H
   replace H : (spec_BelowSort.j0 k a1 0 (!t463) l0_0 l0_1) = some r := H
   have A7 := Aside0.mk A70
   clear A70
   have H' := Aside0.mk H
   clear H
   have hcz8_0 : w4.cell? ⟨gb461, 0, none⟩ = some (.slice A0_0 l0_0.length c0_0) := (blk_cell BK461.out 0).trans rfl
   have hcz8_1 : w4.cell? ⟨gb461, 1, none⟩ = some (.slice A0_1 l0_1.length c0_1) := (blk_cell BK461.out 1).trans rfl
   have hfz8_0 := blk_frozen BK461.out 0
   have hfz8_1 := blk_frozen BK461.out 1
   go_wp2_with (first | ((with_reducible refine gate_callee (f := 13) rfl ?_); refine goesL_ (some 9) rfl rfl Try.func13 (by kernel_rfl) rfl #[.agg #[.slice A0_0 l0_0.length c0_0, .slice A0_1 l0_1.length c0_1]] rfl spec_BelowSort.a2 ?_; (with_reducible refine (spec_IsSorts.calls k _ _ l0_0 _ _ l0_1 true _ ?side1 ?side2 ?side3 ?side4 A5.out).mono ?_); (case side1 => repeat (first | exact (Kd.C_below HR0_0.out HB.out) | (with_reducible refine Kd.C_alloc ?_ _) | (with_reducible refine Kd.C_drewN ?_ _) | (with_reducible refine Kd.C_drew ?_))); (case side2 => exact HC0_0.out); (case side3 => repeat (first | exact (Kd.C_below HR0_1.out HB.out) | (with_reducible refine Kd.C_alloc ?_ _) | (with_reducible refine Kd.C_drewN ?_ _) | (with_reducible refine Kd.C_drew ?_))); (case side4 => exact HC0_1.out); rintro e w9 ⟨rfl, hb⟩; refine ⟨_, rfl, ?_⟩; have n0_ := Aside0.mk (blk_below (g := gb461) (o := .cells #[.slice A0_0 l0_0.length c0_0, .slice A0_1 l0_1.length c0_1] 30 (0, 0)) spec_BelowSort.a1 hb); have n1_ := Aside0.mk (below_step spec_BelowSort.a0 hb); clear BK461; clear HB; have BK461 := n0_; have HB := n1_; clear n0_ n1_; (try clear hb); (try clear hb2); (try clear hk); (try clear hi); have hcz10_0 : w9.cell? ⟨gb461, 0, none⟩ = some (.slice A0_0 l0_0.length c0_0) := (blk_cell BK461.out 0).trans rfl; have hcz10_1 : w9.cell? ⟨gb461, 1, none⟩ = some (.slice A0_1 l0_1.length c0_1) := (blk_cell BK461.out 1).trans rfl; have hfz10_0 := blk_frozen BK461.out 0; have hfz10_1 := blk_frozen BK461.out 1) | (go_at_call 40; (with_reducible refine (spec_l1In.calls a1 0 (wrap64 ((l0_0.length : Int) - 1)) t463 _ A7.out).mono ?_); rintro e w' ⟨rfl, ⟨nd, rfl⟩⟩))
   go_meet
   case rel => exact ⟨_, (!t463), spec_BelowSort.a3, H', ⟨by first | omega | exact Nat.le_refl _⟩, ⟨spec_BelowSort.a1⟩, ⟨spec_BelowSort.a0⟩⟩
  ·replace c6 := Bool.eq_false_iff.mpr c6
   subst c6
   have H1 : (spec_BelowSort.j0 k a1 0 true l0_0 l0_1) = some r := by rw [if_neg (show ¬ (false = true) by decide)] at H; exact H
   clear H
   have H := H1
   clear H1
   have H' := Aside0.mk H
   clear H
   have hcz11_0 : w4.cell? ⟨gb461, 0, none⟩ = some (.slice A0_0 l0_0.length c0_0) := (blk_cell BK461.out 0).trans rfl
   have hcz11_1 : w4.cell? ⟨gb461, 1, none⟩ = some (.slice A0_1 l0_1.length c0_1) := (blk_cell BK461.out 1).trans rfl
   have hfz11_0 := blk_frozen BK461.out 0
   have hfz11_1 := blk_frozen BK461.out 1
   go_wp2_with (first | ((with_reducible refine gate_callee (f := 13) rfl ?_); refine goesL_ (some 9) rfl rfl Try.func13 (by kernel_rfl) rfl #[.agg #[.slice A0_0 l0_0.length c0_0, .slice A0_1 l0_1.length c0_1]] rfl spec_BelowSort.a2 ?_; (with_reducible refine (spec_IsSorts.calls k _ _ l0_0 _ _ l0_1 false _ ?side1 ?side2 ?side3 ?side4 A5.out).mono ?_); (case side1 => repeat (first | exact (Kd.C_below HR0_0.out HB.out) | (with_reducible refine Kd.C_alloc ?_ _) | (with_reducible refine Kd.C_drewN ?_ _) | (with_reducible refine Kd.C_drew ?_))); (case side2 => exact HC0_0.out); (case side3 => repeat (first | exact (Kd.C_below HR0_1.out HB.out) | (with_reducible refine Kd.C_alloc ?_ _) | (with_reducible refine Kd.C_drewN ?_ _) | (with_reducible refine Kd.C_drew ?_))); (case side4 => exact HC0_1.out); rintro e w12 ⟨rfl, hb⟩; refine ⟨_, rfl, ?_⟩; have n0_ := Aside0.mk (blk_below (g := gb461) (o := .cells #[.slice A0_0 l0_0.length c0_0, .slice A0_1 l0_1.length c0_1] 30 (0, 0)) spec_BelowSort.a1 hb); have n1_ := Aside0.mk (below_step spec_BelowSort.a0 hb); clear BK461; clear HB; have BK461 := n0_; have HB := n1_; clear n0_ n1_; (try clear hb); (try clear hb2); (try clear hk); (try clear hi)))
   go_meet
   case rel => exact ⟨_, (true), spec_BelowSort.a3, H', ⟨by first | omega | exact Nat.le_refl _⟩, ⟨spec_BelowSort.a1⟩, ⟨spec_BelowSort.a0⟩⟩
 case rest =>
  clear HC3
  try clear c1
  try clear c2
  try clear p2
  try clear c6
  try clear p6
  try clear hcz10_0
  try clear hcz10_1
  try clear hcz11_0
  try clear hcz11_1
  try clear hcz8_0
  try clear hcz8_1
  try clear hfz10_0
  try clear hfz10_1
  try clear hfz11_0
  try clear hfz11_1
  try clear hfz8_0
  try clear hfz8_1
  obtain ⟨kq, x19_2, rfl, HA, HJ2, BK461, HB⟩ := hcut
  cases kq with
  | zero => exact absurd HA.out (by simp [spec_BelowSort.j0])
  | succ kj2 =>
   have H := HA.out
   clear HA
   simp only [spec_BelowSort.j0] at H
   by_cases c13 : x19_2 = true
   ·subst c13
    have H1 : (some 0) = some r := by rw [if_pos rfl] at H; exact H
    clear H
    have H := H1
    clear H1
    obtain rfl := Option.some.inj H
    go_wp2
    go_ret
    exact ⟨by first | rfl | (simp [errW_none, errW_some] <;> rfl) | (simp [*, errW_none, errW_some] <;> rfl), spec_BelowSort.a0⟩
   ·replace c13 := Bool.eq_false_iff.mpr c13
    subst c13
    have H1 : ((spec_l3Up.f kj2 l0_0 l0_1).bind fun t464 => (spec_BelowSort.l0 kj2 a1 0 t464 0)) = some r := by rw [if_neg (show ¬ (false = true) by decide)] at H; exact H
    clear H
    have H := H1
    clear H1
    replace H := Option.bind_eq_some_iff.mp H
    obtain ⟨t464, A140, H⟩ := H
    replace H : (spec_BelowSort.l0 kj2 a1 0 t464 0) = some r := H
    have A14 := Aside0.mk A140
    clear A140
    have H' := Aside0.mk H
    clear H
    have hcz15_0 : wc.cell? ⟨gb461, 0, none⟩ = some (.slice A0_0 l0_0.length c0_0) := (blk_cell BK461.out 0).trans rfl
    have hcz15_1 : wc.cell? ⟨gb461, 1, none⟩ = some (.slice A0_1 l0_1.length c0_1) := (blk_cell BK461.out 1).trans rfl
    have hfz15_0 := blk_frozen BK461.out 0
    have hfz15_1 := blk_frozen BK461.out 1
    go_wp2_with (first | ((with_reducible refine gate_callee (f := 41) rfl ?_); refine goesL_ (some 22) rfl rfl Try.func41 (by kernel_rfl) rfl #[.agg #[.slice A0_0 l0_0.length c0_0, .slice A0_1 l0_1.length c0_1]] rfl spec_BelowSort.a2 ?_; (with_reducible refine (spec_l3Up.calls kj2 _ _ l0_0 _ _ l0_1 t464 _ ?side1 ?side2 ?side3 ?side4 A14.out).mono ?_); (case side1 => repeat (first | exact (Kd.C_below HR0_0.out HB.out) | (with_reducible refine Kd.C_alloc ?_ _) | (with_reducible refine Kd.C_drewN ?_ _) | (with_reducible refine Kd.C_drew ?_))); (case side2 => exact HC0_0.out); (case side3 => repeat (first | exact (Kd.C_below HR0_1.out HB.out) | (with_reducible refine Kd.C_alloc ?_ _) | (with_reducible refine Kd.C_drewN ?_ _) | (with_reducible refine Kd.C_drew ?_))); (case side4 => exact HC0_1.out); rintro e w16 ⟨v465, rfl, ho0, hb⟩; refine ⟨_, rfl, ?_⟩; have n0_ := Aside0.mk (Kd.R_lower ho0 (below_size spec_BelowSort.a0)); have n1_ := Aside0.mk (blk_below (g := gb461) (o := .cells #[.slice A0_0 l0_0.length c0_0, .slice A0_1 l0_1.length c0_1] 30 (0, 0)) spec_BelowSort.a1 hb); have n2_ := Aside0.mk (below_step spec_BelowSort.a0 hb); clear BK461; clear HB; have HO466 := n0_; have BK461 := n1_; have HB := n2_; clear n0_ n1_ n2_; (try clear hb); (try clear hb2); (try clear hk); (try clear hi); (try clear ho0)))
    go_loopg [5, 7] kj2 (fun kq v5 v7 w' => ∃ (x5_2 : Int) (x7_2 : Int), v5 = .int .i64 x5_2 ∧ v7 = .int .i64 x7_2 ∧ Aside0 (spec_BelowSort.l0 kq a1 x5_2 t464 x7_2 = some r) ∧ Aside0 (kq ≤ kj2) ∧ Aside0 (Kd.R (Kd.int .i64) 3 w' w.heap.size (fun _ => True) v465 t464) ∧ Aside0 (w'.heap[gb461]? = some (.cells #[(.slice A0_0 l0_0.length c0_0), (.slice A0_1 l0_1.length c0_1)] 30 (0, 0))) ∧ Aside0 (Below w.heap.size w w'))
    case atStart => exact ⟨(0), (0), spec_BelowSort.a3, spec_BelowSort.a3, H', ⟨Nat.le_refl _⟩, ⟨by (with_reducible repeat (first | apply Kd.R_alloc | apply Kd.R_drewN | apply Kd.R_drew)); exact HO466.out⟩, ⟨spec_BelowSort.a1⟩, ⟨spec_BelowSort.a0⟩⟩
    case round =>
     clear H'
     try clear c1
     try clear c2
     try clear p2
     try clear c4
     try clear c6
     try clear p6
     try clear c13
     try clear hcz10_0
     try clear hcz10_1
     try clear hcz11_0
     try clear hcz11_1
     try clear hcz15_0
     try clear hcz15_1
     try clear hcz8_0
     try clear hcz8_1
     try clear hfz10_0
     try clear hfz10_1
     try clear hfz11_0
     try clear hfz11_1
     try clear hfz15_0
     try clear hfz15_1
     try clear hfz8_0
     try clear hfz8_1
     try clear p2
     try clear p6
     obtain ⟨x5_2, x7_2, rfl, rfl, HA, HK2, HO_6, BK461, HB⟩ := hrel
     cases gk with
     | zero => exact absurd HA.out (by simp [spec_BelowSort.l0])
     | succ k2 =>
      have H := HA.out
      clear HA
      simp only [spec_BelowSort.l0] at H
      by_cases c17 : x7_2 < (t464.length : Int)
      ·rw [if_pos c17] at H
       have c17b0 : decide (x7_2 < (t464.length : Int)) = true := decide_eq_true c17
       clear c17
       by_cases c18 : 0 ≤ x7_2
       ·rw [if_pos c18] at H
        have c18b0 : decide (0 ≤ x7_2) = true := decide_eq_true c18
        clear c18
        replace H := Option.bind_eq_some_iff.mp H
        obtain ⟨t468, A190, H⟩ := H
        replace H : (if t468 = true then ((spec_l2Bit.f x7_2).bind fun t469 => (spec_BelowSort.l0 k2 a1 (Go.bits .or .i64 x5_2 t469) t464 (wrap64 (x7_2 + 1)))) else (spec_BelowSort.l0 k2 a1 x5_2 t464 (wrap64 (x7_2 + 1)))) = some r := H
        have A19 := Aside0.mk A190
        clear A190
        by_cases c20 : t468 = true
        ·subst c20
         have H1 : ((spec_l2Bit.f x7_2).bind fun t469 => (spec_BelowSort.l0 k2 a1 (Go.bits .or .i64 x5_2 t469) t464 (wrap64 (x7_2 + 1)))) = some r := by rw [if_pos rfl] at H; exact H
         clear H
         have H := H1
         clear H1
         replace H := Option.bind_eq_some_iff.mp H
         obtain ⟨t469, A210, H⟩ := H
         replace H : (spec_BelowSort.l0 k2 a1 (Go.bits .or .i64 x5_2 t469) t464 (wrap64 (x7_2 + 1))) = some r := H
         have A21 := Aside0.mk A210
         clear A210
         have H' := Aside0.mk H
         clear H
         obtain ⟨Ao22, co22, eo22⟩ := Kd.R_slice HO_6.out
         subst eo22
         have p467 : 0 ≤ (x7_2 : Int) := of_decide_eq_true (by first | (with_reducible assumption) | assumption)
         have q467 : x7_2 < (t464.length : Int) := of_decide_eq_true (by first | (with_reducible assumption) | assumption)
         obtain ⟨ad467, e467, hx467_0⟩ := Kd.at_int (Kd.R_reads' HO_6.out).2.2 x7_2 p467 q467
         cases e467
         replace p467 := eq_true p467
         replace q467 := eq_true q467
         go_wp2_with (first | ((with_reducible refine gate_callee (f := 42) rfl ?_); refine goesL_ (some 34) rfl rfl Try.func42 (by kernel_rfl) rfl #[.int .i64 (rd t464 x7_2), .int .i64 a1] rfl spec_BelowSort.a2 ?_; (with_reducible refine (spec_l2Has.calls (rd t464 x7_2) a1 true _ A19.out).mono ?_); rintro e w' ⟨rfl, ⟨nd, rfl⟩⟩; refine ⟨_, rfl, ?_⟩) | ((with_reducible refine gate_callee (f := 55) rfl ?_); refine goesL_ (some 37) rfl rfl Try.func55 (by kernel_rfl) rfl #[.int .i64 x7_2] rfl spec_BelowSort.a2 ?_; (with_reducible refine (spec_l2Bit.calls x7_2 t469 _ A21.out).mono ?_); rintro e w' ⟨rfl, ⟨nd, rfl⟩⟩; refine ⟨_, rfl, ?_⟩))
         go_roundg k2
         case measure => have := HJ2.out; have := HK2.out; omega
         case rel => exact ⟨(Go.bits .or .i64 x5_2 t469), (wrap64 (x7_2 + 1)), spec_BelowSort.a3, spec_BelowSort.a3, H', ⟨by have := HJ2.out; have := HK2.out; omega⟩, ⟨by (with_reducible repeat (first | apply Kd.R_alloc | apply Kd.R_drewN | apply Kd.R_drew)); exact HO_6.out⟩, ⟨spec_BelowSort.a1⟩, ⟨spec_BelowSort.a0⟩⟩
        ·replace c20 := Bool.eq_false_iff.mpr c20
         subst c20
         have H1 : (spec_BelowSort.l0 k2 a1 x5_2 t464 (wrap64 (x7_2 + 1))) = some r := by rw [if_neg (show ¬ (false = true) by decide)] at H; exact H
         clear H
         have H := H1
         clear H1
         have H' := Aside0.mk H
         clear H
         obtain ⟨Ao23, co23, eo23⟩ := Kd.R_slice HO_6.out
         subst eo23
         have p467 : 0 ≤ (x7_2 : Int) := of_decide_eq_true (by first | (with_reducible assumption) | assumption)
         have q467 : x7_2 < (t464.length : Int) := of_decide_eq_true (by first | (with_reducible assumption) | assumption)
         obtain ⟨ad467, e467, hx467_0⟩ := Kd.at_int (Kd.R_reads' HO_6.out).2.2 x7_2 p467 q467
         cases e467
         replace p467 := eq_true p467
         replace q467 := eq_true q467
         go_wp2_with (first | ((with_reducible refine gate_callee (f := 42) rfl ?_); refine goesL_ (some 34) rfl rfl Try.func42 (by kernel_rfl) rfl #[.int .i64 (rd t464 x7_2), .int .i64 a1] rfl spec_BelowSort.a2 ?_; (with_reducible refine (spec_l2Has.calls (rd t464 x7_2) a1 false _ A19.out).mono ?_); rintro e w' ⟨rfl, ⟨nd, rfl⟩⟩; refine ⟨_, rfl, ?_⟩))
         go_roundg k2
         case measure => have := HJ2.out; have := HK2.out; omega
         case rel => exact ⟨(x5_2), (wrap64 (x7_2 + 1)), spec_BelowSort.a3, spec_BelowSort.a3, H', ⟨by have := HJ2.out; have := HK2.out; omega⟩, ⟨by (with_reducible repeat (first | apply Kd.R_alloc | apply Kd.R_drewN | apply Kd.R_drew)); exact HO_6.out⟩, ⟨spec_BelowSort.a1⟩, ⟨spec_BelowSort.a0⟩⟩
       ·rw [if_neg c18] at H
        exact absurd H (by simp)
      ·rw [if_neg c17] at H
       have c17b0 : decide (x7_2 < (t464.length : Int)) = false := decide_eq_false c17
       clear c17
       obtain rfl := Option.some.inj H
       obtain ⟨Ao24, co24, eo24⟩ := Kd.R_slice HO_6.out
       subst eo24
       go_wp2
       go_ret
       exact ⟨by first | rfl | (simp [errW_none, errW_some] <;> rfl) | (simp [*, errW_none, errW_some] <;> rfl), spec_BelowSort.a0⟩

end Go.Proofs.Ytlpkicbmcpmemaa.Q

