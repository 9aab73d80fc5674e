/- Functions of the program as plain Lean functions, and that the calls come to what they say. -/
import Derived.Test.YtlpkicbmcpmemaaZQx0h0f72a
import Derived.Test.YtlpkicbmcpmemaaZQx1h8a6a8
import Derived.Test.YtlpkicbmcpmemaaZQx5h4661f
import Derived.Test.YtlpkicbmcpmemaaZQx8haf1cc
import Derived.Test.YtlpkicbmcpmemaaZQx15ha55fb
import Derived.Test.YtlpkicbmcpmemaaZQx17h17040
namespace Go.Proofs.Ytlpkicbmcpmemaa.Q
open Go.RowKit Go.Proofs.YtlpkicbmcpmemaaW.PrintWords Go.Proofs.YtlpkicbmcpmemaaW.PrintLast Go.Proofs.YtlpkicbmcpmemaaW.PrintMore
attribute [local go_sem] max2_int min2_int max_two min_two max_three min_three max_four min_four   -- for this text's walks alone
set_option linter.unusedVariables false
set_option linter.unusedSimpArgs false

/-! ### laws_FnExactBelowSort: function 6 -/
theorem laws_FnExactBelowSort.a0 {P_ : Prop} (h_ : P_ := by repeat (first | (with_reducible first | exact HB.out | apply below_alloc | apply pw_below_drewN | apply below_drew1 | refine below_set ?_ GE470.out) | exact HB.out)) : P_ := h_
theorem laws_FnExactBelowSort.a1 {P_ : Prop} (h_ : P_ := by (with_reducible repeat (first | refine blk_drewN ?_ _ | refine blk_drew ?_ | refine blk_alloc ?_ _)); exact BK470.out) : P_ := h_
theorem laws_FnExactBelowSort.a2 {P_ : Prop} (h_ : P_ := by (try simp only [List.map_toArray, List.map_cons, List.map_nil]); first | done | rfl | (simp only [List.length_drop, List.length_take]; rfl)) : P_ := h_
theorem laws_FnExactBelowSort.a3 {P_ : Prop} (h_ : P_ := by repeat (first | (with_reducible first | exact HB.out | apply below_alloc | apply pw_below_drewN | apply below_drew1 | refine below_set ?_ GE470.out | refine below_set ?_ GE485.out) | exact HB.out)) : P_ := h_
theorem laws_FnExactBelowSort.a4 {P_ : Prop} (h_ : P_ := by (with_reducible repeat (first | apply Kd.R_alloc | apply Kd.R_drewN | apply Kd.R_drew)); exact HO474.out) : P_ := h_
theorem laws_FnExactBelowSort.a5 {P_ : Prop} (h_ : P_ := by (with_reducible repeat (first | apply Kd.R_alloc | apply Kd.R_drewN | apply Kd.R_drew)); exact HO477.out) : P_ := h_
theorem laws_FnExactBelowSort.a6 {P_ : Prop} (h_ : P_ := by repeat (first | (with_reducible first | exact HB.out | apply below_alloc | apply pw_below_drewN | apply below_drew1) | exact HB.out)) : P_ := h_
theorem laws_FnExactBelowSort.a7 {P_ : Prop} (h_ : P_ := by (with_reducible repeat (first | apply Kd.R_alloc | apply Kd.R_drewN | apply Kd.R_drew)); exact HO481.out) : P_ := h_
theorem laws_FnExactBelowSort.a8 {P_ : Prop} (h_ : P_ := by (with_reducible repeat (first | apply Kd.R_alloc | apply Kd.R_drewN | apply Kd.R_drew)); exact HO484.out) : P_ := h_
theorem laws_FnExactBelowSort.a9 {P_ : Prop} (h_ : P_ := by (with_reducible repeat (first | refine blk_drewN ?_ _ | refine blk_drew ?_ | refine blk_alloc ?_ _)); refine blk_far ?_ NB470_485.out _; (with_reducible repeat (first | refine blk_drewN ?_ _ | refine blk_drew ?_ | refine blk_alloc ?_ _)); refine blk_far ?_ NB470_485.out _; (with_reducible repeat (first | refine blk_drewN ?_ _ | refine blk_drew ?_ | refine blk_alloc ?_ _)); exact BK470.out) : P_ := h_
def laws_FnExactBelowSort.f (k : Nat) (l0_0 : List ByteArray) (l0_1 : List (S73)) (a1 : Int) : Option (Bool) := (laws_szSorts.f k l0_0 l0_1 1048576).bind fun t471 => (if t471 < 0 then (some true) else ((laws_toSorts.f k l0_0 l0_1).bind fun bt472 => ((spec_BelowSort.f k bt472.1 bt472.2 a1).bind fun t478 => ((laws_toSorts.f k l0_0 l0_1).bind fun bt479 => ((impl_BelowSort.f k bt479.1 bt479.2 a1).bind fun t486 => (if t486 = t478 then ((laws_toSorts.f k l0_0 l0_1).bind fun bt487 => ((laws_eqSorts.f k bt479.1 bt479.2 bt487.1 bt487.2).bind fun t493 => (if t493 = true then (some true) else (some false)))) else (some false)))))))
set_option maxHeartbeats 8000000 in
set_option maxRecDepth 100000 in
theorem laws_FnExactBelowSort.calls (k : Nat) (A0_0 : Option Addr) (c0_0 : Nat) (l0_0 : List ByteArray) (A0_1 : Option Addr) (c0_1 : Nat) (l0_1 : List (S73)) (a1 : Int) (r : Bool) (w : World) (hr0_0 : Kd.C Kd.string w A0_0 l0_0.length l0_0) (hc0_0 : l0_0.length ≤ c0_0) (hr0_1 : Kd.C k73 w A0_1 l0_1.length l0_1) (hc0_1 : l0_1.length ≤ c0_1) (h : laws_FnExactBelowSort.f k l0_0 l0_1 a1 = some r) :
  Calls Try.prog 6 #[.agg #[.slice A0_0 l0_0.length c0_0, .slice A0_1 l0_1.length c0_1], .int .i64 a1] w fun e w' => e = .returned (.bool r) ∧ Below w.heap.size w w' := by
 have hu25 := Try.underlying25
 have hu30 := Try.underlying30
 have HR0_0 := Aside0.mk hr0_0
 have HC0_0 := Aside0.mk hc0_0
 clear hr0_0 hc0_0
 have HR0_1 := Aside0.mk hr0_1
 have HC0_1 := Aside0.mk hc0_1
 clear hr0_1 hc0_1
 have HB := Aside0.mk (Below.refl w.heap.size w)
 have H : ((laws_szSorts.f k l0_0 l0_1 1048576).bind fun t471 => (if t471 < 0 then (some true) else ((laws_toSorts.f k l0_0 l0_1).bind fun bt472 => ((spec_BelowSort.f k bt472.1 bt472.2 a1).bind fun t478 => ((laws_toSorts.f k l0_0 l0_1).bind fun bt479 => ((impl_BelowSort.f k bt479.1 bt479.2 a1).bind fun t486 => (if t486 = t478 then ((laws_toSorts.f k l0_0 l0_1).bind fun bt487 => ((laws_eqSorts.f k bt479.1 bt479.2 bt487.1 bt487.2).bind fun t493 => (if t493 = true then (some true) else (some false)))) else (some false)))))))) = some r := h
 clear h
 replace H := Option.bind_eq_some_iff.mp H
 obtain ⟨t471, A30, H⟩ := H
 replace H : (if t471 < 0 then (some true) else ((laws_toSorts.f k l0_0 l0_1).bind fun bt472 => ((spec_BelowSort.f k bt472.1 bt472.2 a1).bind fun t478 => ((laws_toSorts.f k l0_0 l0_1).bind fun bt479 => ((impl_BelowSort.f k bt479.1 bt479.2 a1).bind fun t486 => (if t486 = t478 then ((laws_toSorts.f k l0_0 l0_1).bind fun bt487 => ((laws_eqSorts.f k bt479.1 bt479.2 bt487.1 bt487.2).bind fun t493 => (if t493 = true then (some true) else (some false)))) else (some false))))))) = some r := H
 have A3 := Aside0.mk A30
 clear A30
 by_cases c4 : t471 < 0
 ·rw [if_pos c4] at H
  have c4b0 : decide (t471 < 0) = true := decide_eq_true c4
  clear c4
  obtain rfl := Option.some.inj H
  go_enter Try.func6, Try.ntmps6
  go_wp2_with (first | ((with_reducible refine gate_dst (N := 2) rfl ?_); refine box_event ?hg (N := 2) ?hd (cs := #[.slice A0_0 l0_0.length c0_0, .slice A0_1 l0_1.length c0_1]) (t := 25) ?hr ?_; (case hd => rfl); (case hg => rfl); (case hr => first | (go_simp; done) | (go_simp; rfl)); intro gb470 hg w5 hbox hb; have n0_ := Aside0.mk (below_step laws_FnExactBelowSort.a6 hb); have n1_ := Aside0.mk (hbox); have n2_ := Aside0.mk ((by rw [hg]; exact (below_size laws_FnExactBelowSort.a6) : w.heap.size ≤ gb470)); have n3_ := Aside0.mk ((by rw [hg]; exact (below_size laws_FnExactBelowSort.a6) : w.heap.size ≤ gb470)); clear HB; have HB := n0_; have BK470 := n1_; have GW470 := n2_; have GE470 := n3_; clear n0_ n1_ n2_ n3_; clear hb hbox hg; have hcz6_0 : w5.cell? ⟨gb470, 0, none⟩ = some (.slice A0_0 l0_0.length c0_0) := (blk_cell BK470.out 0).trans rfl; have hcz6_1 : w5.cell? ⟨gb470, 1, none⟩ = some (.slice A0_1 l0_1.length c0_1) := (blk_cell BK470.out 1).trans rfl; have hfz6_0 := blk_frozen BK470.out 0; have hfz6_1 := blk_frozen BK470.out 1) | ((with_reducible refine gate_callee (f := 12) rfl ?_); refine goesL_ (some 11) rfl rfl Try.func12 (by kernel_rfl) rfl #[.agg #[.slice A0_0 l0_0.length c0_0, .slice A0_1 l0_1.length c0_1], .int .i64 1048576] rfl laws_FnExactBelowSort.a2 ?_; (with_reducible refine (laws_szSorts.calls k _ _ l0_0 _ _ l0_1 1048576 t471 _ ?side1 ?side2 ?side3 ?side4 A3.out).mono ?_); (case side1 => repeat (first | exact (Kd.C_below HR0_0.out HB.out) | (with_reducible refine Kd.C_alloc ?_ _) | (with_reducible refine Kd.C_drewN ?_ _) | (with_reducible refine Kd.C_drew ?_))); (case side2 => exact HC0_0.out); (case side3 => repeat (first | exact (Kd.C_below HR0_1.out HB.out) | (with_reducible refine Kd.C_alloc ?_ _) | (with_reducible refine Kd.C_drewN ?_ _) | (with_reducible refine Kd.C_drew ?_))); (case side4 => exact HC0_1.out); rintro e w7 ⟨rfl, hb⟩; refine ⟨_, rfl, ?_⟩; have n0_ := Aside0.mk (blk_below (g := gb470) (o := .cells #[.slice A0_0 l0_0.length c0_0, .slice A0_1 l0_1.length c0_1] 25 (0, 0)) laws_FnExactBelowSort.a1 hb); have n1_ := Aside0.mk (below_step laws_FnExactBelowSort.a0 hb); clear BK470; clear HB; have BK470 := n0_; have HB := n1_; clear n0_ n1_; (try clear hb); (try clear hb2); (try clear hk); (try clear hi)))
  go_ret
  exact ⟨by first | rfl | (simp [errW_none, errW_some] <;> rfl) | (simp [*, errW_none, errW_some] <;> rfl), laws_FnExactBelowSort.a0⟩
 ·rw [if_neg c4] at H
  have c4b0 : decide (t471 < 0) = false := decide_eq_false c4
  clear c4
  replace H := Option.bind_eq_some_iff.mp H
  obtain ⟨⟨t472, t475⟩, A80, H⟩ := H
  replace H : ((spec_BelowSort.f k t472 t475 a1).bind fun t478 => ((laws_toSorts.f k l0_0 l0_1).bind fun bt479 => ((impl_BelowSort.f k bt479.1 bt479.2 a1).bind fun t486 => (if t486 = t478 then ((laws_toSorts.f k l0_0 l0_1).bind fun bt487 => ((laws_eqSorts.f k bt479.1 bt479.2 bt487.1 bt487.2).bind fun t493 => (if t493 = true then (some true) else (some false)))) else (some false))))) = some r := H
  have A8 := Aside0.mk A80
  clear A80
  replace H := Option.bind_eq_some_iff.mp H
  obtain ⟨t478, A90, H⟩ := H
  replace H : ((laws_toSorts.f k l0_0 l0_1).bind fun bt479 => ((impl_BelowSort.f k bt479.1 bt479.2 a1).bind fun t486 => (if t486 = t478 then ((laws_toSorts.f k l0_0 l0_1).bind fun bt487 => ((laws_eqSorts.f k bt479.1 bt479.2 bt487.1 bt487.2).bind fun t493 => (if t493 = true then (some true) else (some false)))) else (some false)))) = some r := H
  have A9 := Aside0.mk A90
  clear A90
  replace H := Option.bind_eq_some_iff.mp H
  obtain ⟨⟨t479, t482⟩, A100, H⟩ := H
  replace H : ((impl_BelowSort.f k t479 t482 a1).bind fun t486 => (if t486 = t478 then ((laws_toSorts.f k l0_0 l0_1).bind fun bt487 => ((laws_eqSorts.f k t479 t482 bt487.1 bt487.2).bind fun t493 => (if t493 = true then (some true) else (some false)))) else (some false))) = some r := H
  have A10 := Aside0.mk A100
  clear A100
  replace H := Option.bind_eq_some_iff.mp H
  obtain ⟨t486, A110, H⟩ := H
  replace H : (if t486 = t478 then ((laws_toSorts.f k l0_0 l0_1).bind fun bt487 => ((laws_eqSorts.f k t479 t482 bt487.1 bt487.2).bind fun t493 => (if t493 = true then (some true) else (some false)))) else (some false)) = some r := H
  have A11 := Aside0.mk A110
  clear A110
  by_cases c12 : t486 = t478
  ·rw [if_pos c12] at H
   have c12b0 : (t486 == t478) = true := beq_iff_eq.mpr c12
   have c12b1 : (t486 != t478) = false := bne_eq_false_iff_eq.mpr c12
   clear c12
   replace H := Option.bind_eq_some_iff.mp H
   obtain ⟨⟨t487, t490⟩, A130, H⟩ := H
   replace H : ((laws_eqSorts.f k t479 t482 t487 t490).bind fun t493 => (if t493 = true then (some true) else (some false))) = some r := H
   have A13 := Aside0.mk A130
   clear A130
   replace H := Option.bind_eq_some_iff.mp H
   obtain ⟨t493, A140, H⟩ := H
   replace H : (if t493 = true then (some true) else (some false)) = some r := H
   have A14 := Aside0.mk A140
   clear A140
   by_cases c15 : t493 = true
   ·subst c15
    have H1 : (some true) = some r := by rw [if_pos rfl] at H; exact H
    clear H
    have H := H1
    clear H1
    obtain rfl := Option.some.inj H
    go_enter Try.func6, Try.ntmps6
    try go_wp2_with (first | ((with_reducible refine gate_dst (N := 2) rfl ?_); refine box_event ?hg (N := 2) ?hd (cs := #[.slice A0_0 l0_0.length c0_0, .slice A0_1 l0_1.length c0_1]) (t := 25) ?hr ?_; (case hd => rfl); (case hg => rfl); (case hr => first | (go_simp; done) | (go_simp; rfl)); intro gb470 hg w16 hbox hb; have n0_ := Aside0.mk (below_step laws_FnExactBelowSort.a6 hb); have n1_ := Aside0.mk (hbox); have n2_ := Aside0.mk ((by rw [hg]; exact (below_size laws_FnExactBelowSort.a6) : w.heap.size ≤ gb470)); have n3_ := Aside0.mk ((by rw [hg]; exact (below_size laws_FnExactBelowSort.a6) : w.heap.size ≤ gb470)); clear HB; have HB := n0_; have BK470 := n1_; have GW470 := n2_; have GE470 := n3_; clear n0_ n1_ n2_ n3_; clear hb hbox hg; have hcz17_0 : w16.cell? ⟨gb470, 0, none⟩ = some (.slice A0_0 l0_0.length c0_0) := (blk_cell BK470.out 0).trans rfl; have hcz17_1 : w16.cell? ⟨gb470, 1, none⟩ = some (.slice A0_1 l0_1.length c0_1) := (blk_cell BK470.out 1).trans rfl; have hfz17_0 := blk_frozen BK470.out 0; have hfz17_1 := blk_frozen BK470.out 1) | ((with_reducible refine gate_callee (f := 12) rfl ?_); refine goesL_ (some 11) rfl rfl Try.func12 (by kernel_rfl) rfl #[.agg #[.slice A0_0 l0_0.length c0_0, .slice A0_1 l0_1.length c0_1], .int .i64 1048576] rfl laws_FnExactBelowSort.a2 ?_; (with_reducible refine (laws_szSorts.calls k _ _ l0_0 _ _ l0_1 1048576 t471 _ ?side1 ?side2 ?side3 ?side4 A3.out).mono ?_); (case side1 => repeat (first | exact (Kd.C_below HR0_0.out HB.out) | (with_reducible refine Kd.C_alloc ?_ _) | (with_reducible refine Kd.C_drewN ?_ _) | (with_reducible refine Kd.C_drew ?_))); (case side2 => exact HC0_0.out); (case side3 => repeat (first | exact (Kd.C_below HR0_1.out HB.out) | (with_reducible refine Kd.C_alloc ?_ _) | (with_reducible refine Kd.C_drewN ?_ _) | (with_reducible refine Kd.C_drew ?_))); (case side4 => exact HC0_1.out); rintro e w18 ⟨rfl, hb⟩; refine ⟨_, rfl, ?_⟩; have n0_ := Aside0.mk (blk_below (g := gb470) (o := .cells #[.slice A0_0 l0_0.length c0_0, .slice A0_1 l0_1.length c0_1] 25 (0, 0)) laws_FnExactBelowSort.a1 hb); have n1_ := Aside0.mk (below_step laws_FnExactBelowSort.a0 hb); clear BK470; clear HB; have BK470 := n0_; have HB := n1_; clear n0_ n1_; (try clear hb); (try clear hb2); (try clear hk); (try clear hi); have hcz19_0 : w18.cell? ⟨gb470, 0, none⟩ = some (.slice A0_0 l0_0.length c0_0) := (blk_cell BK470.out 0).trans rfl; have hcz19_1 : w18.cell? ⟨gb470, 1, none⟩ = some (.slice A0_1 l0_1.length c0_1) := (blk_cell BK470.out 1).trans rfl; have hfz19_0 := blk_frozen BK470.out 0; have hfz19_1 := blk_frozen BK470.out 1) | ((with_reducible refine gate_callee (f := 14) rfl ?_); refine goesL_ (some 15) rfl rfl Try.func14 (by kernel_rfl) rfl #[.agg #[.slice A0_0 l0_0.length c0_0, .slice A0_1 l0_1.length c0_1]] rfl laws_FnExactBelowSort.a2 ?_; (with_reducible refine (laws_toSorts.calls k _ _ l0_0 _ _ l0_1 t472 t475 _ ?side1 ?side2 ?side3 ?side4 A8.out).mono ?_); (case side1 => repeat (first | exact (Kd.C_below HR0_0.out HB.out) | (with_reducible refine Kd.C_alloc ?_ _) | (with_reducible refine Kd.C_drewN ?_ _) | (with_reducible refine Kd.C_drew ?_))); (case side2 => exact HC0_0.out); (case side3 => repeat (first | exact (Kd.C_below HR0_1.out HB.out) | (with_reducible refine Kd.C_alloc ?_ _) | (with_reducible refine Kd.C_drewN ?_ _) | (with_reducible refine Kd.C_drew ?_))); (case side4 => exact HC0_1.out); rintro e w20 ⟨v473, v476, rfl, ho0, ho1, hb⟩; refine ⟨_, rfl, ?_⟩; have n0_ := Aside0.mk (Kd.R_lower ho0 (below_size laws_FnExactBelowSort.a0)); have n1_ := Aside0.mk (Kd.R_lower ho1 (below_size laws_FnExactBelowSort.a0)); have n2_ := Aside0.mk (blk_below (g := gb470) (o := .cells #[.slice A0_0 l0_0.length c0_0, .slice A0_1 l0_1.length c0_1] 25 (0, 0)) laws_FnExactBelowSort.a1 hb); have n3_ := Aside0.mk (below_step laws_FnExactBelowSort.a0 hb); clear BK470; clear HB; have HO474 := n0_; have HO477 := n1_; have BK470 := n2_; have HB := n3_; clear n0_ n1_ n2_ n3_; (try clear hb); (try clear hb2); (try clear hk); (try clear hi); (try clear ho0); (try clear ho1); obtain ⟨Ao21, co21, eo21⟩ := Kd.R_slice HO474.out; subst eo21; obtain ⟨Ao22, co22, eo22⟩ := Kd.R_slice HO477.out; subst eo22) | ((with_reducible refine gate_callee (f := 25) rfl ?_); refine goesL_ (some 17) rfl rfl Try.func25 (by kernel_rfl) rfl #[.agg #[.slice Ao21 t472.length co21, .slice Ao22 t475.length co22], .int .i64 a1] rfl laws_FnExactBelowSort.a2 ?_; (with_reducible refine (spec_BelowSort.calls k _ _ t472 _ _ t475 a1 t478 _ ?side1 ?side2 ?side3 ?side4 A9.out).mono ?_); (case side1 => repeat (first | exact (Kd.R_reads' HO474.out).2.2 | (with_reducible refine Kd.C_alloc ?_ _) | (with_reducible refine Kd.C_drewN ?_ _) | (with_reducible refine Kd.C_drew ?_))); (case side2 => exact (Kd.R_reads' HO474.out).2.1); (case side3 => repeat (first | exact (Kd.R_reads' HO477.out).2.2 | (with_reducible refine Kd.C_alloc ?_ _) | (with_reducible refine Kd.C_drewN ?_ _) | (with_reducible refine Kd.C_drew ?_))); (case side4 => exact (Kd.R_reads' HO477.out).2.1); rintro e w23 ⟨rfl, hb⟩; refine ⟨_, rfl, ?_⟩; have n0_ := Aside0.mk (Kd.R_below laws_FnExactBelowSort.a4 hb); have n1_ := Aside0.mk (Kd.R_below laws_FnExactBelowSort.a5 hb); have n2_ := Aside0.mk (blk_below (g := gb470) (o := .cells #[.slice A0_0 l0_0.length c0_0, .slice A0_1 l0_1.length c0_1] 25 (0, 0)) laws_FnExactBelowSort.a1 hb); have n3_ := Aside0.mk (below_step laws_FnExactBelowSort.a0 hb); clear HO474; clear HO477; clear BK470; clear HB; have HO474 := n0_; have HO477 := n1_; have BK470 := n2_; have HB := n3_; clear n0_ n1_ n2_ n3_; (try clear hb); (try clear hb2); (try clear hk); (try clear hi); have hcz24_0 : w23.cell? ⟨gb470, 0, none⟩ = some (.slice A0_0 l0_0.length c0_0) := (blk_cell BK470.out 0).trans rfl; have hcz24_1 : w23.cell? ⟨gb470, 1, none⟩ = some (.slice A0_1 l0_1.length c0_1) := (blk_cell BK470.out 1).trans rfl; have hfz24_0 := blk_frozen BK470.out 0; have hfz24_1 := blk_frozen BK470.out 1) | ((with_reducible refine gate_callee (f := 14) rfl ?_); refine goesL_ (some 19) rfl rfl Try.func14 (by kernel_rfl) rfl #[.agg #[.slice A0_0 l0_0.length c0_0, .slice A0_1 l0_1.length c0_1]] rfl laws_FnExactBelowSort.a2 ?_; (with_reducible refine (laws_toSorts.calls k _ _ l0_0 _ _ l0_1 t479 t482 _ ?side1 ?side2 ?side3 ?side4 A10.out).mono ?_); (case side1 => repeat (first | exact (Kd.C_below HR0_0.out HB.out) | (with_reducible refine Kd.C_alloc ?_ _) | (with_reducible refine Kd.C_drewN ?_ _) | (with_reducible refine Kd.C_drew ?_))); (case side2 => exact HC0_0.out); (case side3 => repeat (first | exact (Kd.C_below HR0_1.out HB.out) | (with_reducible refine Kd.C_alloc ?_ _) | (with_reducible refine Kd.C_drewN ?_ _) | (with_reducible refine Kd.C_drew ?_))); (case side4 => exact HC0_1.out); rintro e w25 ⟨v480, v483, rfl, ho0, ho1, hb⟩; refine ⟨_, rfl, ?_⟩; have n0_ := Aside0.mk (Kd.R_elder' laws_FnExactBelowSort.a4 (Kd.R_base ho0) hb); have n1_ := Aside0.mk (Kd.R_elder' laws_FnExactBelowSort.a5 (Kd.R_base ho1) hb); have n2_ := Aside0.mk (Kd.R_lower (Kd.R_new' ho0 (Kd.R_lt laws_FnExactBelowSort.a4)) (below_size laws_FnExactBelowSort.a0)); have n3_ := Aside0.mk (Kd.R_lower (Kd.R_new' ho1 (Kd.R_lt laws_FnExactBelowSort.a5)) (below_size laws_FnExactBelowSort.a0)); have n4_ := Aside0.mk (blk_below (g := gb470) (o := .cells #[.slice A0_0 l0_0.length c0_0, .slice A0_1 l0_1.length c0_1] 25 (0, 0)) laws_FnExactBelowSort.a1 hb); have n5_ := Aside0.mk (below_step laws_FnExactBelowSort.a0 hb); clear HO474; clear HO477; clear BK470; clear HB; have HO474 := n0_; have HO477 := n1_; have HO481 := n2_; have HO484 := n3_; have BK470 := n4_; have HB := n5_; clear n0_ n1_ n2_ n3_ n4_ n5_; (try clear hb); (try clear hb2); (try clear hk); (try clear hi); (try clear ho0); (try clear ho1)) | ((with_reducible refine gate_dst (N := 7) rfl ?_); refine box_event ?hg (N := 7) ?hd (cs := #[.slice none 0 0, .slice none 0 0]) (t := 30) ?hr ?_; (case hd => rfl); (case hg => rfl); (case hr => first | (go_simp; done) | (go_simp; rfl)); intro gb485 hg w26 hbox hb; have n0_ := Aside0.mk (Kd.R_below laws_FnExactBelowSort.a4 hb); have n1_ := Aside0.mk (Kd.R_below laws_FnExactBelowSort.a5 hb); have n2_ := Aside0.mk (Kd.R_below laws_FnExactBelowSort.a7 hb); have n3_ := Aside0.mk (Kd.R_below laws_FnExactBelowSort.a8 hb); have n4_ := Aside0.mk (blk_below (g := gb470) (o := .cells #[.slice A0_0 l0_0.length c0_0, .slice A0_1 l0_1.length c0_1] 25 (0, 0)) laws_FnExactBelowSort.a1 hb); have n5_ := Aside0.mk (below_step laws_FnExactBelowSort.a0 hb); have n6_ := Aside0.mk (hbox); have n7_ := Aside0.mk ((by rw [hg]; exact (below_size laws_FnExactBelowSort.a0) : w.heap.size ≤ gb485)); have n8_ := Aside0.mk ((by rw [hg]; exact (below_size laws_FnExactBelowSort.a0) : w.heap.size ≤ gb485)); have n9_ := Aside0.mk ((by rw [hg]; exact Nat.ne_of_lt (blk_lt (g := gb470) (o := .cells #[.slice A0_0 l0_0.length c0_0, .slice A0_1 l0_1.length c0_1] 25 (0, 0)) laws_FnExactBelowSort.a1) : gb470 ≠ gb485)); have n10_ := Aside0.mk ((by rw [hg]; exact Nat.ne_of_gt (blk_lt (g := gb470) (o := .cells #[.slice A0_0 l0_0.length c0_0, .slice A0_1 l0_1.length c0_1] 25 (0, 0)) laws_FnExactBelowSort.a1) : gb485 ≠ gb470)); clear HO474; clear HO477; clear HO481; clear HO484; clear BK470; clear HB; have HO474 := n0_; have HO477 := n1_; have HO481 := n2_; have HO484 := n3_; have BK470 := n4_; have HB := n5_; have BK485 := n6_; have GW485 := n7_; have GE485 := n8_; have NB470_485 := n9_; have NB485_470 := n10_; clear n0_ n1_ n2_ n3_ n4_ n5_ n6_ n7_ n8_ n9_ n10_; clear hb hbox hg; obtain ⟨Ao27, co27, eo27⟩ := Kd.R_slice HO481.out; subst eo27; have hnb28 := NB485_470.out; have hnc28 := NB470_485.out; have hcz29_0 : w26.cell? ⟨gb485, 0, none⟩ = some (.slice none 0 0) := (blk_cell BK485.out 0).trans rfl; have hcz29_1 : w26.cell? ⟨gb485, 1, none⟩ = some (.slice none 0 0) := (blk_cell BK485.out 1).trans rfl; have hfz29_0 := blk_frozen BK485.out 0; have hfz29_1 := blk_frozen BK485.out 1; obtain ⟨Ao30, co30, eo30⟩ := Kd.R_slice HO484.out; subst eo30) | ((with_reducible refine gate_callee (f := 20) rfl ?_); refine goesL_ (some 22) rfl rfl Try.func20 (by kernel_rfl) rfl #[.agg #[.slice Ao27 t479.length co27, .slice Ao30 t482.length co30], .int .i64 a1] rfl laws_FnExactBelowSort.a2 ?_; (with_reducible refine (impl_BelowSort.calls k _ _ t479 _ _ t482 a1 t486 _ ?side1 ?side2 ?side3 ?side4 A11.out).mono ?_); (case side1 => refine (Kd.R_reads' (e := 9) (base := w.heap.size) (ok := fun k_ => (True ∧ some k_ ≠ (.slice Ao21 t472.length co21 : Value).ownBlock)) (n := t479.length) (c := co27) ?_).2.2; exact (by (with_reducible repeat (first | apply Kd.R_alloc | apply Kd.R_drewN | apply Kd.R_drew)); exact (Kd.R_mono (Kd.R_far (p := ⟨gb485, 1, none⟩) (Kd.R_far (p := ⟨gb485, 0, none⟩) (Kd.R_types HO481.out BK485.out (by decide)) (fun _ hk => hk.2) (.slice Ao27 t479.length co27)) (fun _ hk => hk.2) (.slice Ao30 t482.length co30)) (fun _ h_ => h_.1)))); (case side2 => exact (Kd.R_reads' HO481.out).2.1); (case side3 => refine (Kd.R_reads' (e := 52) (base := w.heap.size) (ok := fun k_ => (True ∧ some k_ ≠ (.slice Ao22 t475.length co22 : Value).ownBlock)) (n := t482.length) (c := co30) ?_).2.2; exact (by (with_reducible repeat (first | apply Kd.R_alloc | apply Kd.R_drewN | apply Kd.R_drew)); exact (Kd.R_mono (Kd.R_far (p := ⟨gb485, 1, none⟩) (Kd.R_far (p := ⟨gb485, 0, none⟩) (Kd.R_types HO484.out BK485.out (by decide)) (fun _ hk => hk.2) (.slice Ao27 t479.length co27)) (fun _ hk => hk.2) (.slice Ao30 t482.length co30)) (fun _ h_ => h_.1)))); (case side4 => exact (Kd.R_reads' HO484.out).2.1); rintro e w31 ⟨rfl, hb⟩; refine ⟨_, rfl, ?_⟩; have n0_ := Aside0.mk (Kd.R_below (by (with_reducible repeat (first | apply Kd.R_alloc | apply Kd.R_drewN | apply Kd.R_drew)); exact (Kd.R_mono (Kd.R_far (p := ⟨gb485, 1, none⟩) (Kd.R_far (p := ⟨gb485, 0, none⟩) (Kd.R_types HO474.out BK485.out (by decide)) (fun _ hk => hk.2) (.slice Ao27 t479.length co27)) (fun _ hk => hk.2) (.slice Ao30 t482.length co30)) (fun _ h_ => h_.1))) hb); have n1_ := Aside0.mk (Kd.R_below (by (with_reducible repeat (first | apply Kd.R_alloc | apply Kd.R_drewN | apply Kd.R_drew)); exact (Kd.R_mono (Kd.R_far (p := ⟨gb485, 1, none⟩) (Kd.R_far (p := ⟨gb485, 0, none⟩) (Kd.R_types HO477.out BK485.out (by decide)) (fun _ hk => hk.2) (.slice Ao27 t479.length co27)) (fun _ hk => hk.2) (.slice Ao30 t482.length co30)) (fun _ h_ => h_.1))) hb); have n2_ := Aside0.mk (Kd.R_below (by (with_reducible repeat (first | apply Kd.R_alloc | apply Kd.R_drewN | apply Kd.R_drew)); exact (Kd.R_mono (Kd.R_far (p := ⟨gb485, 1, none⟩) (Kd.R_far (p := ⟨gb485, 0, none⟩) (Kd.R_types HO481.out BK485.out (by decide)) (fun _ hk => hk.2) (.slice Ao27 t479.length co27)) (fun _ hk => hk.2) (.slice Ao30 t482.length co30)) (fun _ h_ => h_.1))) hb); have n3_ := Aside0.mk (Kd.R_below (by (with_reducible repeat (first | apply Kd.R_alloc | apply Kd.R_drewN | apply Kd.R_drew)); exact (Kd.R_mono (Kd.R_far (p := ⟨gb485, 1, none⟩) (Kd.R_far (p := ⟨gb485, 0, none⟩) (Kd.R_types HO484.out BK485.out (by decide)) (fun _ hk => hk.2) (.slice Ao27 t479.length co27)) (fun _ hk => hk.2) (.slice Ao30 t482.length co30)) (fun _ h_ => h_.1))) hb); have n4_ := Aside0.mk (blk_below (g := gb470) (o := .cells #[.slice A0_0 l0_0.length c0_0, .slice A0_1 l0_1.length c0_1] 25 (0, 0)) laws_FnExactBelowSort.a9 hb); have n5_ := Aside0.mk (blk_below (g := gb485) (o := .cells #[.slice Ao27 t479.length co27, .slice Ao30 t482.length co30] 30 (0, 0)) (by (with_reducible repeat (first | refine blk_drewN ?_ _ | refine blk_drew ?_ | refine blk_alloc ?_ _)); refine blk_put (cs := #[.slice Ao27 t479.length co27, .slice none 0 0]) ?_ 1 _ rfl; (with_reducible repeat (first | refine blk_drewN ?_ _ | refine blk_drew ?_ | refine blk_alloc ?_ _)); refine blk_put (cs := #[.slice none 0 0, .slice none 0 0]) ?_ 0 _ rfl; (with_reducible repeat (first | refine blk_drewN ?_ _ | refine blk_drew ?_ | refine blk_alloc ?_ _)); exact BK485.out) hb); have n6_ := Aside0.mk (below_step laws_FnExactBelowSort.a3 hb); clear HO474; clear HO477; clear HO481; clear HO484; clear BK470; clear BK485; clear HB; have HO474 := n0_; have HO477 := n1_; have HO481 := n2_; have HO484 := n3_; have BK470 := n4_; have BK485 := n5_; have HB := n6_; clear n0_ n1_ n2_ n3_ n4_ n5_ n6_; (try clear hb); (try clear hb2); (try clear hk); (try clear hi)))
    have n0_ := Aside0.mk (Kd.R_drew HO474.out)
    have n1_ := Aside0.mk (Kd.R_drew HO477.out)
    have n2_ := Aside0.mk (Kd.R_drew HO481.out)
    have n3_ := Aside0.mk (Kd.R_drew HO484.out)
    have n4_ := Aside0.mk (blk_drew BK470.out)
    have n5_ := Aside0.mk (blk_drew BK485.out)
    have n6_ := Aside0.mk (below_drew1 HB.out)
    clear HO474
    clear HO477
    clear HO481
    clear HO484
    clear BK470
    clear BK485
    clear HB
    have HO474 := n0_
    have HO477 := n1_
    have HO481 := n2_
    have HO484 := n3_
    have BK470 := n4_
    have BK485 := n5_
    have HB := n6_
    clear n0_ n1_ n2_ n3_ n4_ n5_ n6_
    refine start_ (n := 5) (S := fun w' => w'.cell? ⟨gb485, 0, none⟩ = some (.slice Ao27 t479.length co27) ∧ w'.cell? ⟨gb485, 1, none⟩ = some (.slice Ao30 t482.length co30) ∧ w'.cell? ⟨gb470, 0, none⟩ = some (.slice A0_0 l0_0.length c0_0) ∧ w'.cell? ⟨gb470, 1, none⟩ = some (.slice A0_1 l0_1.length c0_1)) (ds := []) #[false, false, false, false, false] (by kernel_rfl) rfl rfl ⟨(blk_cell BK485.out 0).trans rfl, (blk_cell BK485.out 1).trans rfl, (blk_cell BK470.out 0).trans rfl, (blk_cell BK470.out 1).trans rfl⟩ (fun hHeld => ?_)
    generalize w31.drew = w32 at HO474 HO477 HO481 HO484 BK470 BK485 HB hHeld ⊢
    refine take_ (i := 0) (N := some 26) (v := ?_) (a' := ?_) #[true, false, false, false, false] rfl rfl (by kernel_rfl) (fun _ _ _ h => h) (Or.inl ⟨by rfl, ?_⟩) hHeld ?_ ?_
    rotate_left
    ·rintro w' ⟨s0, s1, s2, s3⟩
     go_simp
     with_reducible rfl
    rotate_left
    ·simp only [Act.put, List.setIfInBounds_toArray, List.set_cons_zero, List.set_cons_succ, i64_w, i32_w]
     rfl
    refine take_ (i := 1) (N := some 27) (v := ?_) (a' := ?_) #[true, true, false, false, false] rfl rfl (by kernel_rfl) (fun _ _ _ h => h) (Or.inl ⟨by rfl, ?_⟩) hHeld ?_ ?_
    rotate_left
    ·rintro w' ⟨s0, s1, s2, s3⟩
     go_simp
     with_reducible rfl
    rotate_left
    ·simp only [Act.put, List.setIfInBounds_toArray, List.set_cons_zero, List.set_cons_succ, i64_w, i32_w]
     rfl
    refine one_ (i := 2) (N := some 28) #[true, true, true, false, false] rfl rfl (by kernel_rfl) (by decide) (fun K hK => ?_)
    refine goes_ Try.func14 (by kernel_rfl) rfl #[.agg #[.slice A0_0 l0_0.length c0_0, .slice A0_1 l0_1.length c0_1]] (by rfl) rfl rfl laws_FnExactBelowSort.a2 ?_
    with_reducible refine (laws_toSorts.calls k _ _ l0_0 _ _ l0_1 t487 t490 _ ?side1 ?side2 ?side3 ?side4 A13.out).mono ?_
    (case side1 => repeat (first | exact (Kd.C_below HR0_0.out HB.out) | (with_reducible refine Kd.C_alloc ?_ _) | (with_reducible refine Kd.C_drewN ?_ _) | (with_reducible refine Kd.C_drew ?_)))
    (case side2 => exact HC0_0.out)
    (case side3 => repeat (first | exact (Kd.C_below HR0_1.out HB.out) | (with_reducible refine Kd.C_alloc ?_ _) | (with_reducible refine Kd.C_drewN ?_ _) | (with_reducible refine Kd.C_drew ?_)))
    (case side4 => exact HC0_1.out)
    rintro e w33 ⟨v488, v491, rfl, ho0, ho1, hb⟩
    refine ⟨_, rfl, ?_⟩
    have n0_ := Aside0.mk (Kd.R_elder' laws_FnExactBelowSort.a4 (Kd.R_base ho0) hb)
    have n1_ := Aside0.mk (Kd.R_elder' laws_FnExactBelowSort.a5 (Kd.R_base ho1) hb)
    have n2_ := Aside0.mk (Kd.R_elder' laws_FnExactBelowSort.a7 (Kd.R_base ho0) hb)
    have n3_ := Aside0.mk (Kd.R_elder' laws_FnExactBelowSort.a8 (Kd.R_base ho1) hb)
    have n4_ := Aside0.mk (Kd.R_lower (Kd.R_new' (Kd.R_new' ho0 (Kd.R_lt laws_FnExactBelowSort.a4)) (Kd.R_lt laws_FnExactBelowSort.a7)) (below_size laws_FnExactBelowSort.a3))
    have n5_ := Aside0.mk (Kd.R_lower (Kd.R_new' (Kd.R_new' ho1 (Kd.R_lt laws_FnExactBelowSort.a5)) (Kd.R_lt laws_FnExactBelowSort.a8)) (below_size laws_FnExactBelowSort.a3))
    have n6_ := Aside0.mk (blk_below (g := gb470) (o := .cells #[.slice A0_0 l0_0.length c0_0, .slice A0_1 l0_1.length c0_1] 25 (0, 0)) laws_FnExactBelowSort.a1 hb)
    have n7_ := Aside0.mk (blk_below (g := gb485) (o := .cells #[.slice Ao27 t479.length co27, .slice Ao30 t482.length co30] 30 (0, 0)) (by (with_reducible repeat (first | refine blk_drewN ?_ _ | refine blk_drew ?_ | refine blk_alloc ?_ _)); exact BK485.out) hb)
    have n8_ := Aside0.mk (below_step laws_FnExactBelowSort.a3 hb)
    clear HO474
    clear HO477
    clear HO481
    clear HO484
    clear BK470
    clear BK485
    clear HB
    have HO474 := n0_
    have HO477 := n1_
    have HO481 := n2_
    have HO484 := n3_
    have HO489 := n4_
    have HO492 := n5_
    have BK470 := n6_
    have BK485 := n7_
    have HB := n8_
    clear n0_ n1_ n2_ n3_ n4_ n5_ n6_ n7_ n8_
    (try clear hb)
    (try clear hb2)
    (try clear hk)
    (try clear hi)
    (try clear ho0)
    (try clear ho1)
    obtain ⟨Ao34, co34, eo34⟩ := Kd.R_slice HO489.out
    (first | subst eo34 | (injection eo34 with f1_ f2_ f3_; have f4_ := f1_.symm; have f5_ := f3_.symm; clear f1_ f2_ f3_; subst f4_; subst f5_))
    obtain ⟨Ao35, co35, eo35⟩ := Kd.R_slice HO492.out
    (first | subst eo35 | (injection eo35 with f1_ f2_ f3_; have f4_ := f1_.symm; have f5_ := f3_.symm; clear f1_ f2_ f3_; subst f4_; subst f5_))
    refine hK.out _ _ ⟨(blk_cell BK485.out 0).trans rfl, (blk_cell BK485.out 1).trans rfl, (blk_cell BK470.out 0).trans rfl, (blk_cell BK470.out 1).trans rfl⟩ (fun hHeld => ?_)
    clear hK K
    refine norm_ (a' := ?_) ?_ ?_
    rotate_left
    ·show Act.put _ (some 28) _ = _
     simp only [Act.put, List.setIfInBounds_toArray, List.set_cons_zero, List.set_cons_succ, i64_w, i32_w]
     rfl
    refine one_ (i := 3) (N := some 29) #[true, true, true, true, false] rfl rfl (by kernel_rfl) (by decide) (fun K hK => ?_)
    refine goes_ Try.func16 (by kernel_rfl) rfl #[.agg #[.slice Ao27 t479.length co27, .slice Ao30 t482.length co30], .agg #[.slice Ao34 t487.length co34, .slice Ao35 t490.length co35]] (by rfl) rfl rfl laws_FnExactBelowSort.a2 ?_
    with_reducible refine (laws_eqSorts.calls k _ _ t479 _ _ t482 _ _ t487 _ _ t490 true _ ?side1 ?side2 ?side3 ?side4 ?side5 ?side6 ?side7 ?side8 A14.out).mono ?_
    (case side1 => repeat (first | exact (Kd.R_reads' HO481.out).2.2 | (with_reducible refine Kd.C_alloc ?_ _) | (with_reducible refine Kd.C_drewN ?_ _) | (with_reducible refine Kd.C_drew ?_)))
    (case side2 => exact (Kd.R_reads' HO481.out).2.1)
    (case side3 => repeat (first | exact (Kd.R_reads' HO484.out).2.2 | (with_reducible refine Kd.C_alloc ?_ _) | (with_reducible refine Kd.C_drewN ?_ _) | (with_reducible refine Kd.C_drew ?_)))
    (case side4 => exact (Kd.R_reads' HO484.out).2.1)
    (case side5 => repeat (first | exact (Kd.R_reads' HO489.out).2.2 | (with_reducible refine Kd.C_alloc ?_ _) | (with_reducible refine Kd.C_drewN ?_ _) | (with_reducible refine Kd.C_drew ?_)))
    (case side6 => exact (Kd.R_reads' HO489.out).2.1)
    (case side7 => repeat (first | exact (Kd.R_reads' HO492.out).2.2 | (with_reducible refine Kd.C_alloc ?_ _) | (with_reducible refine Kd.C_drewN ?_ _) | (with_reducible refine Kd.C_drew ?_)))
    (case side8 => exact (Kd.R_reads' HO492.out).2.1)
    rintro e w36 ⟨rfl, hb⟩
    refine ⟨_, rfl, ?_⟩
    have n0_ := Aside0.mk (Kd.R_below laws_FnExactBelowSort.a4 hb)
    have n1_ := Aside0.mk (Kd.R_below laws_FnExactBelowSort.a5 hb)
    have n2_ := Aside0.mk (Kd.R_below laws_FnExactBelowSort.a7 hb)
    have n3_ := Aside0.mk (Kd.R_below laws_FnExactBelowSort.a8 hb)
    have n4_ := Aside0.mk (Kd.R_below (by (with_reducible repeat (first | apply Kd.R_alloc | apply Kd.R_drewN | apply Kd.R_drew)); exact HO489.out) hb)
    have n5_ := Aside0.mk (Kd.R_below (by (with_reducible repeat (first | apply Kd.R_alloc | apply Kd.R_drewN | apply Kd.R_drew)); exact HO492.out) hb)
    have n6_ := Aside0.mk (blk_below (g := gb470) (o := .cells #[.slice A0_0 l0_0.length c0_0, .slice A0_1 l0_1.length c0_1] 25 (0, 0)) laws_FnExactBelowSort.a1 hb)
    have n7_ := Aside0.mk (blk_below (g := gb485) (o := .cells #[.slice Ao27 t479.length co27, .slice Ao30 t482.length co30] 30 (0, 0)) (by (with_reducible repeat (first | refine blk_drewN ?_ _ | refine blk_drew ?_ | refine blk_alloc ?_ _)); exact BK485.out) hb)
    have n8_ := Aside0.mk (below_step laws_FnExactBelowSort.a3 hb)
    clear HO474
    clear HO477
    clear HO481
    clear HO484
    clear HO489
    clear HO492
    clear BK470
    clear BK485
    clear HB
    have HO474 := n0_
    have HO477 := n1_
    have HO481 := n2_
    have HO484 := n3_
    have HO489 := n4_
    have HO492 := n5_
    have BK470 := n6_
    have BK485 := n7_
    have HB := n8_
    clear n0_ n1_ n2_ n3_ n4_ n5_ n6_ n7_ n8_
    (try clear hb)
    (try clear hb2)
    (try clear hk)
    (try clear hi)
    refine hK.out _ _ ⟨(blk_cell BK485.out 0).trans rfl, (blk_cell BK485.out 1).trans rfl, (blk_cell BK470.out 0).trans rfl, (blk_cell BK470.out 1).trans rfl⟩ (fun hHeld => ?_)
    clear hK K
    refine norm_ (a' := ?_) ?_ ?_
    rotate_left
    ·show Act.put _ (some 29) _ = _
     simp only [Act.put, List.setIfInBounds_toArray, List.set_cons_zero, List.set_cons_succ, i64_w, i32_w]
     rfl
    refine pure_ (i := 4) (N := some 30) (v := ?_) (a' := ?_) #[true, true, true, true, true] rfl rfl (by kernel_rfl) (fun _ _ _ h => h) (Or.inl ⟨by rfl, ?_⟩) ?_ ?_
    rotate_left
    ·intro w'
     go_simp
     with_reducible rfl
    rotate_left
    ·simp only [Act.put, List.setIfInBounds_toArray, List.set_cons_zero, List.set_cons_succ, i64_w, i32_w]
     rfl
    refine done_ (by kernel_rfl) ?_
    try go_wp2
    go_ret
    exact ⟨by first | rfl | (simp [errW_none, errW_some] <;> rfl) | (simp [*, errW_none, errW_some] <;> rfl), laws_FnExactBelowSort.a3⟩
   ·replace c15 := Bool.eq_false_iff.mpr c15
    subst c15
    have H1 : (some false) = some r := by rw [if_neg (show ¬ (false = true) by decide)] at H; exact H
    clear H
    have H := H1
    clear H1
    obtain rfl := Option.some.inj H
    go_enter Try.func6, Try.ntmps6
    try go_wp2_with (first | ((with_reducible refine gate_dst (N := 2) rfl ?_); refine box_event ?hg (N := 2) ?hd (cs := #[.slice A0_0 l0_0.length c0_0, .slice A0_1 l0_1.length c0_1]) (t := 25) ?hr ?_; (case hd => rfl); (case hg => rfl); (case hr => first | (go_simp; done) | (go_simp; rfl)); intro gb470 hg w37 hbox hb; have n0_ := Aside0.mk (below_step laws_FnExactBelowSort.a6 hb); have n1_ := Aside0.mk (hbox); have n2_ := Aside0.mk ((by rw [hg]; exact (below_size laws_FnExactBelowSort.a6) : w.heap.size ≤ gb470)); have n3_ := Aside0.mk ((by rw [hg]; exact (below_size laws_FnExactBelowSort.a6) : w.heap.size ≤ gb470)); clear HB; have HB := n0_; have BK470 := n1_; have GW470 := n2_; have GE470 := n3_; clear n0_ n1_ n2_ n3_; clear hb hbox hg; have hcz38_0 : w37.cell? ⟨gb470, 0, none⟩ = some (.slice A0_0 l0_0.length c0_0) := (blk_cell BK470.out 0).trans rfl; have hcz38_1 : w37.cell? ⟨gb470, 1, none⟩ = some (.slice A0_1 l0_1.length c0_1) := (blk_cell BK470.out 1).trans rfl; have hfz38_0 := blk_frozen BK470.out 0; have hfz38_1 := blk_frozen BK470.out 1) | ((with_reducible refine gate_callee (f := 12) rfl ?_); refine goesL_ (some 11) rfl rfl Try.func12 (by kernel_rfl) rfl #[.agg #[.slice A0_0 l0_0.length c0_0, .slice A0_1 l0_1.length c0_1], .int .i64 1048576] rfl laws_FnExactBelowSort.a2 ?_; (with_reducible refine (laws_szSorts.calls k _ _ l0_0 _ _ l0_1 1048576 t471 _ ?side1 ?side2 ?side3 ?side4 A3.out).mono ?_); (case side1 => repeat (first | exact (Kd.C_below HR0_0.out HB.out) | (with_reducible refine Kd.C_alloc ?_ _) | (with_reducible refine Kd.C_drewN ?_ _) | (with_reducible refine Kd.C_drew ?_))); (case side2 => exact HC0_0.out); (case side3 => repeat (first | exact (Kd.C_below HR0_1.out HB.out) | (with_reducible refine Kd.C_alloc ?_ _) | (with_reducible refine Kd.C_drewN ?_ _) | (with_reducible refine Kd.C_drew ?_))); (case side4 => exact HC0_1.out); rintro e w39 ⟨rfl, hb⟩; refine ⟨_, rfl, ?_⟩; have n0_ := Aside0.mk (blk_below (g := gb470) (o := .cells #[.slice A0_0 l0_0.length c0_0, .slice A0_1 l0_1.length c0_1] 25 (0, 0)) laws_FnExactBelowSort.a1 hb); have n1_ := Aside0.mk (below_step laws_FnExactBelowSort.a0 hb); clear BK470; clear HB; have BK470 := n0_; have HB := n1_; clear n0_ n1_; (try clear hb); (try clear hb2); (try clear hk); (try clear hi); have hcz40_0 : w39.cell? ⟨gb470, 0, none⟩ = some (.slice A0_0 l0_0.length c0_0) := (blk_cell BK470.out 0).trans rfl; have hcz40_1 : w39.cell? ⟨gb470, 1, none⟩ = some (.slice A0_1 l0_1.length c0_1) := (blk_cell BK470.out 1).trans rfl; have hfz40_0 := blk_frozen BK470.out 0; have hfz40_1 := blk_frozen BK470.out 1) | ((with_reducible refine gate_callee (f := 14) rfl ?_); refine goesL_ (some 15) rfl rfl Try.func14 (by kernel_rfl) rfl #[.agg #[.slice A0_0 l0_0.length c0_0, .slice A0_1 l0_1.length c0_1]] rfl laws_FnExactBelowSort.a2 ?_; (with_reducible refine (laws_toSorts.calls k _ _ l0_0 _ _ l0_1 t472 t475 _ ?side1 ?side2 ?side3 ?side4 A8.out).mono ?_); (case side1 => repeat (first | exact (Kd.C_below HR0_0.out HB.out) | (with_reducible refine Kd.C_alloc ?_ _) | (with_reducible refine Kd.C_drewN ?_ _) | (with_reducible refine Kd.C_drew ?_))); (case side2 => exact HC0_0.out); (case side3 => repeat (first | exact (Kd.C_below HR0_1.out HB.out) | (with_reducible refine Kd.C_alloc ?_ _) | (with_reducible refine Kd.C_drewN ?_ _) | (with_reducible refine Kd.C_drew ?_))); (case side4 => exact HC0_1.out); rintro e w41 ⟨v473, v476, rfl, ho0, ho1, hb⟩; refine ⟨_, rfl, ?_⟩; have n0_ := Aside0.mk (Kd.R_lower ho0 (below_size laws_FnExactBelowSort.a0)); have n1_ := Aside0.mk (Kd.R_lower ho1 (below_size laws_FnExactBelowSort.a0)); have n2_ := Aside0.mk (blk_below (g := gb470) (o := .cells #[.slice A0_0 l0_0.length c0_0, .slice A0_1 l0_1.length c0_1] 25 (0, 0)) laws_FnExactBelowSort.a1 hb); have n3_ := Aside0.mk (below_step laws_FnExactBelowSort.a0 hb); clear BK470; clear HB; have HO474 := n0_; have HO477 := n1_; have BK470 := n2_; have HB := n3_; clear n0_ n1_ n2_ n3_; (try clear hb); (try clear hb2); (try clear hk); (try clear hi); (try clear ho0); (try clear ho1); obtain ⟨Ao42, co42, eo42⟩ := Kd.R_slice HO474.out; subst eo42; obtain ⟨Ao43, co43, eo43⟩ := Kd.R_slice HO477.out; subst eo43) | ((with_reducible refine gate_callee (f := 25) rfl ?_); refine goesL_ (some 17) rfl rfl Try.func25 (by kernel_rfl) rfl #[.agg #[.slice Ao42 t472.length co42, .slice Ao43 t475.length co43], .int .i64 a1] rfl laws_FnExactBelowSort.a2 ?_; (with_reducible refine (spec_BelowSort.calls k _ _ t472 _ _ t475 a1 t478 _ ?side1 ?side2 ?side3 ?side4 A9.out).mono ?_); (case side1 => repeat (first | exact (Kd.R_reads' HO474.out).2.2 | (with_reducible refine Kd.C_alloc ?_ _) | (with_reducible refine Kd.C_drewN ?_ _) | (with_reducible refine Kd.C_drew ?_))); (case side2 => exact (Kd.R_reads' HO474.out).2.1); (case side3 => repeat (first | exact (Kd.R_reads' HO477.out).2.2 | (with_reducible refine Kd.C_alloc ?_ _) | (with_reducible refine Kd.C_drewN ?_ _) | (with_reducible refine Kd.C_drew ?_))); (case side4 => exact (Kd.R_reads' HO477.out).2.1); rintro e w44 ⟨rfl, hb⟩; refine ⟨_, rfl, ?_⟩; have n0_ := Aside0.mk (Kd.R_below laws_FnExactBelowSort.a4 hb); have n1_ := Aside0.mk (Kd.R_below laws_FnExactBelowSort.a5 hb); have n2_ := Aside0.mk (blk_below (g := gb470) (o := .cells #[.slice A0_0 l0_0.length c0_0, .slice A0_1 l0_1.length c0_1] 25 (0, 0)) laws_FnExactBelowSort.a1 hb); have n3_ := Aside0.mk (below_step laws_FnExactBelowSort.a0 hb); clear HO474; clear HO477; clear BK470; clear HB; have HO474 := n0_; have HO477 := n1_; have BK470 := n2_; have HB := n3_; clear n0_ n1_ n2_ n3_; (try clear hb); (try clear hb2); (try clear hk); (try clear hi); have hcz45_0 : w44.cell? ⟨gb470, 0, none⟩ = some (.slice A0_0 l0_0.length c0_0) := (blk_cell BK470.out 0).trans rfl; have hcz45_1 : w44.cell? ⟨gb470, 1, none⟩ = some (.slice A0_1 l0_1.length c0_1) := (blk_cell BK470.out 1).trans rfl; have hfz45_0 := blk_frozen BK470.out 0; have hfz45_1 := blk_frozen BK470.out 1) | ((with_reducible refine gate_callee (f := 14) rfl ?_); refine goesL_ (some 19) rfl rfl Try.func14 (by kernel_rfl) rfl #[.agg #[.slice A0_0 l0_0.length c0_0, .slice A0_1 l0_1.length c0_1]] rfl laws_FnExactBelowSort.a2 ?_; (with_reducible refine (laws_toSorts.calls k _ _ l0_0 _ _ l0_1 t479 t482 _ ?side1 ?side2 ?side3 ?side4 A10.out).mono ?_); (case side1 => repeat (first | exact (Kd.C_below HR0_0.out HB.out) | (with_reducible refine Kd.C_alloc ?_ _) | (with_reducible refine Kd.C_drewN ?_ _) | (with_reducible refine Kd.C_drew ?_))); (case side2 => exact HC0_0.out); (case side3 => repeat (first | exact (Kd.C_below HR0_1.out HB.out) | (with_reducible refine Kd.C_alloc ?_ _) | (with_reducible refine Kd.C_drewN ?_ _) | (with_reducible refine Kd.C_drew ?_))); (case side4 => exact HC0_1.out); rintro e w46 ⟨v480, v483, rfl, ho0, ho1, hb⟩; refine ⟨_, rfl, ?_⟩; have n0_ := Aside0.mk (Kd.R_elder' laws_FnExactBelowSort.a4 (Kd.R_base ho0) hb); have n1_ := Aside0.mk (Kd.R_elder' laws_FnExactBelowSort.a5 (Kd.R_base ho1) hb); have n2_ := Aside0.mk (Kd.R_lower (Kd.R_new' ho0 (Kd.R_lt laws_FnExactBelowSort.a4)) (below_size laws_FnExactBelowSort.a0)); have n3_ := Aside0.mk (Kd.R_lower (Kd.R_new' ho1 (Kd.R_lt laws_FnExactBelowSort.a5)) (below_size laws_FnExactBelowSort.a0)); have n4_ := Aside0.mk (blk_below (g := gb470) (o := .cells #[.slice A0_0 l0_0.length c0_0, .slice A0_1 l0_1.length c0_1] 25 (0, 0)) laws_FnExactBelowSort.a1 hb); have n5_ := Aside0.mk (below_step laws_FnExactBelowSort.a0 hb); clear HO474; clear HO477; clear BK470; clear HB; have HO474 := n0_; have HO477 := n1_; have HO481 := n2_; have HO484 := n3_; have BK470 := n4_; have HB := n5_; clear n0_ n1_ n2_ n3_ n4_ n5_; (try clear hb); (try clear hb2); (try clear hk); (try clear hi); (try clear ho0); (try clear ho1)) | ((with_reducible refine gate_dst (N := 7) rfl ?_); refine box_event ?hg (N := 7) ?hd (cs := #[.slice none 0 0, .slice none 0 0]) (t := 30) ?hr ?_; (case hd => rfl); (case hg => rfl); (case hr => first | (go_simp; done) | (go_simp; rfl)); intro gb485 hg w47 hbox hb; have n0_ := Aside0.mk (Kd.R_below laws_FnExactBelowSort.a4 hb); have n1_ := Aside0.mk (Kd.R_below laws_FnExactBelowSort.a5 hb); have n2_ := Aside0.mk (Kd.R_below laws_FnExactBelowSort.a7 hb); have n3_ := Aside0.mk (Kd.R_below laws_FnExactBelowSort.a8 hb); have n4_ := Aside0.mk (blk_below (g := gb470) (o := .cells #[.slice A0_0 l0_0.length c0_0, .slice A0_1 l0_1.length c0_1] 25 (0, 0)) laws_FnExactBelowSort.a1 hb); have n5_ := Aside0.mk (below_step laws_FnExactBelowSort.a0 hb); have n6_ := Aside0.mk (hbox); have n7_ := Aside0.mk ((by rw [hg]; exact (below_size laws_FnExactBelowSort.a0) : w.heap.size ≤ gb485)); have n8_ := Aside0.mk ((by rw [hg]; exact (below_size laws_FnExactBelowSort.a0) : w.heap.size ≤ gb485)); have n9_ := Aside0.mk ((by rw [hg]; exact Nat.ne_of_lt (blk_lt (g := gb470) (o := .cells #[.slice A0_0 l0_0.length c0_0, .slice A0_1 l0_1.length c0_1] 25 (0, 0)) laws_FnExactBelowSort.a1) : gb470 ≠ gb485)); have n10_ := Aside0.mk ((by rw [hg]; exact Nat.ne_of_gt (blk_lt (g := gb470) (o := .cells #[.slice A0_0 l0_0.length c0_0, .slice A0_1 l0_1.length c0_1] 25 (0, 0)) laws_FnExactBelowSort.a1) : gb485 ≠ gb470)); clear HO474; clear HO477; clear HO481; clear HO484; clear BK470; clear HB; have HO474 := n0_; have HO477 := n1_; have HO481 := n2_; have HO484 := n3_; have BK470 := n4_; have HB := n5_; have BK485 := n6_; have GW485 := n7_; have GE485 := n8_; have NB470_485 := n9_; have NB485_470 := n10_; clear n0_ n1_ n2_ n3_ n4_ n5_ n6_ n7_ n8_ n9_ n10_; clear hb hbox hg; obtain ⟨Ao48, co48, eo48⟩ := Kd.R_slice HO481.out; subst eo48; have hnb49 := NB485_470.out; have hnc49 := NB470_485.out; have hcz50_0 : w47.cell? ⟨gb485, 0, none⟩ = some (.slice none 0 0) := (blk_cell BK485.out 0).trans rfl; have hcz50_1 : w47.cell? ⟨gb485, 1, none⟩ = some (.slice none 0 0) := (blk_cell BK485.out 1).trans rfl; have hfz50_0 := blk_frozen BK485.out 0; have hfz50_1 := blk_frozen BK485.out 1; obtain ⟨Ao51, co51, eo51⟩ := Kd.R_slice HO484.out; subst eo51) | ((with_reducible refine gate_callee (f := 20) rfl ?_); refine goesL_ (some 22) rfl rfl Try.func20 (by kernel_rfl) rfl #[.agg #[.slice Ao48 t479.length co48, .slice Ao51 t482.length co51], .int .i64 a1] rfl laws_FnExactBelowSort.a2 ?_; (with_reducible refine (impl_BelowSort.calls k _ _ t479 _ _ t482 a1 t486 _ ?side1 ?side2 ?side3 ?side4 A11.out).mono ?_); (case side1 => refine (Kd.R_reads' (e := 9) (base := w.heap.size) (ok := fun k_ => (True ∧ some k_ ≠ (.slice Ao42 t472.length co42 : Value).ownBlock)) (n := t479.length) (c := co48) ?_).2.2; exact (by (with_reducible repeat (first | apply Kd.R_alloc | apply Kd.R_drewN | apply Kd.R_drew)); exact (Kd.R_mono (Kd.R_far (p := ⟨gb485, 1, none⟩) (Kd.R_far (p := ⟨gb485, 0, none⟩) (Kd.R_types HO481.out BK485.out (by decide)) (fun _ hk => hk.2) (.slice Ao48 t479.length co48)) (fun _ hk => hk.2) (.slice Ao51 t482.length co51)) (fun _ h_ => h_.1)))); (case side2 => exact (Kd.R_reads' HO481.out).2.1); (case side3 => refine (Kd.R_reads' (e := 52) (base := w.heap.size) (ok := fun k_ => (True ∧ some k_ ≠ (.slice Ao43 t475.length co43 : Value).ownBlock)) (n := t482.length) (c := co51) ?_).2.2; exact (by (with_reducible repeat (first | apply Kd.R_alloc | apply Kd.R_drewN | apply Kd.R_drew)); exact (Kd.R_mono (Kd.R_far (p := ⟨gb485, 1, none⟩) (Kd.R_far (p := ⟨gb485, 0, none⟩) (Kd.R_types HO484.out BK485.out (by decide)) (fun _ hk => hk.2) (.slice Ao48 t479.length co48)) (fun _ hk => hk.2) (.slice Ao51 t482.length co51)) (fun _ h_ => h_.1)))); (case side4 => exact (Kd.R_reads' HO484.out).2.1); rintro e w52 ⟨rfl, hb⟩; refine ⟨_, rfl, ?_⟩; have n0_ := Aside0.mk (Kd.R_below (by (with_reducible repeat (first | apply Kd.R_alloc | apply Kd.R_drewN | apply Kd.R_drew)); exact (Kd.R_mono (Kd.R_far (p := ⟨gb485, 1, none⟩) (Kd.R_far (p := ⟨gb485, 0, none⟩) (Kd.R_types HO474.out BK485.out (by decide)) (fun _ hk => hk.2) (.slice Ao48 t479.length co48)) (fun _ hk => hk.2) (.slice Ao51 t482.length co51)) (fun _ h_ => h_.1))) hb); have n1_ := Aside0.mk (Kd.R_below (by (with_reducible repeat (first | apply Kd.R_alloc | apply Kd.R_drewN | apply Kd.R_drew)); exact (Kd.R_mono (Kd.R_far (p := ⟨gb485, 1, none⟩) (Kd.R_far (p := ⟨gb485, 0, none⟩) (Kd.R_types HO477.out BK485.out (by decide)) (fun _ hk => hk.2) (.slice Ao48 t479.length co48)) (fun _ hk => hk.2) (.slice Ao51 t482.length co51)) (fun _ h_ => h_.1))) hb); have n2_ := Aside0.mk (Kd.R_below (by (with_reducible repeat (first | apply Kd.R_alloc | apply Kd.R_drewN | apply Kd.R_drew)); exact (Kd.R_mono (Kd.R_far (p := ⟨gb485, 1, none⟩) (Kd.R_far (p := ⟨gb485, 0, none⟩) (Kd.R_types HO481.out BK485.out (by decide)) (fun _ hk => hk.2) (.slice Ao48 t479.length co48)) (fun _ hk => hk.2) (.slice Ao51 t482.length co51)) (fun _ h_ => h_.1))) hb); have n3_ := Aside0.mk (Kd.R_below (by (with_reducible repeat (first | apply Kd.R_alloc | apply Kd.R_drewN | apply Kd.R_drew)); exact (Kd.R_mono (Kd.R_far (p := ⟨gb485, 1, none⟩) (Kd.R_far (p := ⟨gb485, 0, none⟩) (Kd.R_types HO484.out BK485.out (by decide)) (fun _ hk => hk.2) (.slice Ao48 t479.length co48)) (fun _ hk => hk.2) (.slice Ao51 t482.length co51)) (fun _ h_ => h_.1))) hb); have n4_ := Aside0.mk (blk_below (g := gb470) (o := .cells #[.slice A0_0 l0_0.length c0_0, .slice A0_1 l0_1.length c0_1] 25 (0, 0)) laws_FnExactBelowSort.a9 hb); have n5_ := Aside0.mk (blk_below (g := gb485) (o := .cells #[.slice Ao48 t479.length co48, .slice Ao51 t482.length co51] 30 (0, 0)) (by (with_reducible repeat (first | refine blk_drewN ?_ _ | refine blk_drew ?_ | refine blk_alloc ?_ _)); refine blk_put (cs := #[.slice Ao48 t479.length co48, .slice none 0 0]) ?_ 1 _ rfl; (with_reducible repeat (first | refine blk_drewN ?_ _ | refine blk_drew ?_ | refine blk_alloc ?_ _)); refine blk_put (cs := #[.slice none 0 0, .slice none 0 0]) ?_ 0 _ rfl; (with_reducible repeat (first | refine blk_drewN ?_ _ | refine blk_drew ?_ | refine blk_alloc ?_ _)); exact BK485.out) hb); have n6_ := Aside0.mk (below_step laws_FnExactBelowSort.a3 hb); clear HO474; clear HO477; clear HO481; clear HO484; clear BK470; clear BK485; clear HB; have HO474 := n0_; have HO477 := n1_; have HO481 := n2_; have HO484 := n3_; have BK470 := n4_; have BK485 := n5_; have HB := n6_; clear n0_ n1_ n2_ n3_ n4_ n5_ n6_; (try clear hb); (try clear hb2); (try clear hk); (try clear hi)))
    have n0_ := Aside0.mk (Kd.R_drew HO474.out)
    have n1_ := Aside0.mk (Kd.R_drew HO477.out)
    have n2_ := Aside0.mk (Kd.R_drew HO481.out)
    have n3_ := Aside0.mk (Kd.R_drew HO484.out)
    have n4_ := Aside0.mk (blk_drew BK470.out)
    have n5_ := Aside0.mk (blk_drew BK485.out)
    have n6_ := Aside0.mk (below_drew1 HB.out)
    clear HO474
    clear HO477
    clear HO481
    clear HO484
    clear BK470
    clear BK485
    clear HB
    have HO474 := n0_
    have HO477 := n1_
    have HO481 := n2_
    have HO484 := n3_
    have BK470 := n4_
    have BK485 := n5_
    have HB := n6_
    clear n0_ n1_ n2_ n3_ n4_ n5_ n6_
    refine start_ (n := 5) (S := fun w' => w'.cell? ⟨gb485, 0, none⟩ = some (.slice Ao48 t479.length co48) ∧ w'.cell? ⟨gb485, 1, none⟩ = some (.slice Ao51 t482.length co51) ∧ w'.cell? ⟨gb470, 0, none⟩ = some (.slice A0_0 l0_0.length c0_0) ∧ w'.cell? ⟨gb470, 1, none⟩ = some (.slice A0_1 l0_1.length c0_1)) (ds := []) #[false, false, false, false, false] (by kernel_rfl) rfl rfl ⟨(blk_cell BK485.out 0).trans rfl, (blk_cell BK485.out 1).trans rfl, (blk_cell BK470.out 0).trans rfl, (blk_cell BK470.out 1).trans rfl⟩ (fun hHeld => ?_)
    generalize w52.drew = w53 at HO474 HO477 HO481 HO484 BK470 BK485 HB hHeld ⊢
    refine take_ (i := 0) (N := some 26) (v := ?_) (a' := ?_) #[true, false, false, false, false] rfl rfl (by kernel_rfl) (fun _ _ _ h => h) (Or.inl ⟨by rfl, ?_⟩) hHeld ?_ ?_
    rotate_left
    ·rintro w' ⟨s0, s1, s2, s3⟩
     go_simp
     with_reducible rfl
    rotate_left
    ·simp only [Act.put, List.setIfInBounds_toArray, List.set_cons_zero, List.set_cons_succ, i64_w, i32_w]
     rfl
    refine take_ (i := 1) (N := some 27) (v := ?_) (a' := ?_) #[true, true, false, false, false] rfl rfl (by kernel_rfl) (fun _ _ _ h => h) (Or.inl ⟨by rfl, ?_⟩) hHeld ?_ ?_
    rotate_left
    ·rintro w' ⟨s0, s1, s2, s3⟩
     go_simp
     with_reducible rfl
    rotate_left
    ·simp only [Act.put, List.setIfInBounds_toArray, List.set_cons_zero, List.set_cons_succ, i64_w, i32_w]
     rfl
    refine one_ (i := 2) (N := some 28) #[true, true, true, false, false] rfl rfl (by kernel_rfl) (by decide) (fun K hK => ?_)
    refine goes_ Try.func14 (by kernel_rfl) rfl #[.agg #[.slice A0_0 l0_0.length c0_0, .slice A0_1 l0_1.length c0_1]] (by rfl) rfl rfl laws_FnExactBelowSort.a2 ?_
    with_reducible refine (laws_toSorts.calls k _ _ l0_0 _ _ l0_1 t487 t490 _ ?side1 ?side2 ?side3 ?side4 A13.out).mono ?_
    (case side1 => repeat (first | exact (Kd.C_below HR0_0.out HB.out) | (with_reducible refine Kd.C_alloc ?_ _) | (with_reducible refine Kd.C_drewN ?_ _) | (with_reducible refine Kd.C_drew ?_)))
    (case side2 => exact HC0_0.out)
    (case side3 => repeat (first | exact (Kd.C_below HR0_1.out HB.out) | (with_reducible refine Kd.C_alloc ?_ _) | (with_reducible refine Kd.C_drewN ?_ _) | (with_reducible refine Kd.C_drew ?_)))
    (case side4 => exact HC0_1.out)
    rintro e w54 ⟨v488, v491, rfl, ho0, ho1, hb⟩
    refine ⟨_, rfl, ?_⟩
    have n0_ := Aside0.mk (Kd.R_elder' laws_FnExactBelowSort.a4 (Kd.R_base ho0) hb)
    have n1_ := Aside0.mk (Kd.R_elder' laws_FnExactBelowSort.a5 (Kd.R_base ho1) hb)
    have n2_ := Aside0.mk (Kd.R_elder' laws_FnExactBelowSort.a7 (Kd.R_base ho0) hb)
    have n3_ := Aside0.mk (Kd.R_elder' laws_FnExactBelowSort.a8 (Kd.R_base ho1) hb)
    have n4_ := Aside0.mk (Kd.R_lower (Kd.R_new' (Kd.R_new' ho0 (Kd.R_lt laws_FnExactBelowSort.a4)) (Kd.R_lt laws_FnExactBelowSort.a7)) (below_size laws_FnExactBelowSort.a3))
    have n5_ := Aside0.mk (Kd.R_lower (Kd.R_new' (Kd.R_new' ho1 (Kd.R_lt laws_FnExactBelowSort.a5)) (Kd.R_lt laws_FnExactBelowSort.a8)) (below_size laws_FnExactBelowSort.a3))
    have n6_ := Aside0.mk (blk_below (g := gb470) (o := .cells #[.slice A0_0 l0_0.length c0_0, .slice A0_1 l0_1.length c0_1] 25 (0, 0)) laws_FnExactBelowSort.a1 hb)
    have n7_ := Aside0.mk (blk_below (g := gb485) (o := .cells #[.slice Ao48 t479.length co48, .slice Ao51 t482.length co51] 30 (0, 0)) (by (with_reducible repeat (first | refine blk_drewN ?_ _ | refine blk_drew ?_ | refine blk_alloc ?_ _)); exact BK485.out) hb)
    have n8_ := Aside0.mk (below_step laws_FnExactBelowSort.a3 hb)
    clear HO474
    clear HO477
    clear HO481
    clear HO484
    clear BK470
    clear BK485
    clear HB
    have HO474 := n0_
    have HO477 := n1_
    have HO481 := n2_
    have HO484 := n3_
    have HO489 := n4_
    have HO492 := n5_
    have BK470 := n6_
    have BK485 := n7_
    have HB := n8_
    clear n0_ n1_ n2_ n3_ n4_ n5_ n6_ n7_ n8_
    (try clear hb)
    (try clear hb2)
    (try clear hk)
    (try clear hi)
    (try clear ho0)
    (try clear ho1)
    obtain ⟨Ao55, co55, eo55⟩ := Kd.R_slice HO489.out
    (first | subst eo55 | (injection eo55 with f1_ f2_ f3_; have f4_ := f1_.symm; have f5_ := f3_.symm; clear f1_ f2_ f3_; subst f4_; subst f5_))
    obtain ⟨Ao56, co56, eo56⟩ := Kd.R_slice HO492.out
    (first | subst eo56 | (injection eo56 with f1_ f2_ f3_; have f4_ := f1_.symm; have f5_ := f3_.symm; clear f1_ f2_ f3_; subst f4_; subst f5_))
    refine hK.out _ _ ⟨(blk_cell BK485.out 0).trans rfl, (blk_cell BK485.out 1).trans rfl, (blk_cell BK470.out 0).trans rfl, (blk_cell BK470.out 1).trans rfl⟩ (fun hHeld => ?_)
    clear hK K
    refine norm_ (a' := ?_) ?_ ?_
    rotate_left
    ·show Act.put _ (some 28) _ = _
     simp only [Act.put, List.setIfInBounds_toArray, List.set_cons_zero, List.set_cons_succ, i64_w, i32_w]
     rfl
    refine one_ (i := 3) (N := some 29) #[true, true, true, true, false] rfl rfl (by kernel_rfl) (by decide) (fun K hK => ?_)
    refine goes_ Try.func16 (by kernel_rfl) rfl #[.agg #[.slice Ao48 t479.length co48, .slice Ao51 t482.length co51], .agg #[.slice Ao55 t487.length co55, .slice Ao56 t490.length co56]] (by rfl) rfl rfl laws_FnExactBelowSort.a2 ?_
    with_reducible refine (laws_eqSorts.calls k _ _ t479 _ _ t482 _ _ t487 _ _ t490 false _ ?side1 ?side2 ?side3 ?side4 ?side5 ?side6 ?side7 ?side8 A14.out).mono ?_
    (case side1 => repeat (first | exact (Kd.R_reads' HO481.out).2.2 | (with_reducible refine Kd.C_alloc ?_ _) | (with_reducible refine Kd.C_drewN ?_ _) | (with_reducible refine Kd.C_drew ?_)))
    (case side2 => exact (Kd.R_reads' HO481.out).2.1)
    (case side3 => repeat (first | exact (Kd.R_reads' HO484.out).2.2 | (with_reducible refine Kd.C_alloc ?_ _) | (with_reducible refine Kd.C_drewN ?_ _) | (with_reducible refine Kd.C_drew ?_)))
    (case side4 => exact (Kd.R_reads' HO484.out).2.1)
    (case side5 => repeat (first | exact (Kd.R_reads' HO489.out).2.2 | (with_reducible refine Kd.C_alloc ?_ _) | (with_reducible refine Kd.C_drewN ?_ _) | (with_reducible refine Kd.C_drew ?_)))
    (case side6 => exact (Kd.R_reads' HO489.out).2.1)
    (case side7 => repeat (first | exact (Kd.R_reads' HO492.out).2.2 | (with_reducible refine Kd.C_alloc ?_ _) | (with_reducible refine Kd.C_drewN ?_ _) | (with_reducible refine Kd.C_drew ?_)))
    (case side8 => exact (Kd.R_reads' HO492.out).2.1)
    rintro e w57 ⟨rfl, hb⟩
    refine ⟨_, rfl, ?_⟩
    have n0_ := Aside0.mk (Kd.R_below laws_FnExactBelowSort.a4 hb)
    have n1_ := Aside0.mk (Kd.R_below laws_FnExactBelowSort.a5 hb)
    have n2_ := Aside0.mk (Kd.R_below laws_FnExactBelowSort.a7 hb)
    have n3_ := Aside0.mk (Kd.R_below laws_FnExactBelowSort.a8 hb)
    have n4_ := Aside0.mk (Kd.R_below (by (with_reducible repeat (first | apply Kd.R_alloc | apply Kd.R_drewN | apply Kd.R_drew)); exact HO489.out) hb)
    have n5_ := Aside0.mk (Kd.R_below (by (with_reducible repeat (first | apply Kd.R_alloc | apply Kd.R_drewN | apply Kd.R_drew)); exact HO492.out) hb)
    have n6_ := Aside0.mk (blk_below (g := gb470) (o := .cells #[.slice A0_0 l0_0.length c0_0, .slice A0_1 l0_1.length c0_1] 25 (0, 0)) laws_FnExactBelowSort.a1 hb)
    have n7_ := Aside0.mk (blk_below (g := gb485) (o := .cells #[.slice Ao48 t479.length co48, .slice Ao51 t482.length co51] 30 (0, 0)) (by (with_reducible repeat (first | refine blk_drewN ?_ _ | refine blk_drew ?_ | refine blk_alloc ?_ _)); exact BK485.out) hb)
    have n8_ := Aside0.mk (below_step laws_FnExactBelowSort.a3 hb)
    clear HO474
    clear HO477
    clear HO481
    clear HO484
    clear HO489
    clear HO492
    clear BK470
    clear BK485
    clear HB
    have HO474 := n0_
    have HO477 := n1_
    have HO481 := n2_
    have HO484 := n3_
    have HO489 := n4_
    have HO492 := n5_
    have BK470 := n6_
    have BK485 := n7_
    have HB := n8_
    clear n0_ n1_ n2_ n3_ n4_ n5_ n6_ n7_ n8_
    (try clear hb)
    (try clear hb2)
    (try clear hk)
    (try clear hi)
    refine hK.out _ _ ⟨(blk_cell BK485.out 0).trans rfl, (blk_cell BK485.out 1).trans rfl, (blk_cell BK470.out 0).trans rfl, (blk_cell BK470.out 1).trans rfl⟩ (fun hHeld => ?_)
    clear hK K
    refine norm_ (a' := ?_) ?_ ?_
    rotate_left
    ·show Act.put _ (some 29) _ = _
     simp only [Act.put, List.setIfInBounds_toArray, List.set_cons_zero, List.set_cons_succ, i64_w, i32_w]
     rfl
    refine pure_ (i := 4) (N := some 30) (v := ?_) (a' := ?_) #[true, true, true, true, true] rfl rfl (by kernel_rfl) (fun _ _ _ h => h) (Or.inl ⟨by rfl, ?_⟩) ?_ ?_
    rotate_left
    ·intro w'
     go_simp
     with_reducible rfl
    rotate_left
    ·simp only [Act.put, List.setIfInBounds_toArray, List.set_cons_zero, List.set_cons_succ, i64_w, i32_w]
     rfl
    refine done_ (by kernel_rfl) ?_
    try go_wp2
    go_ret
    exact ⟨by first | rfl | (simp [errW_none, errW_some] <;> rfl) | (simp [*, errW_none, errW_some] <;> rfl), laws_FnExactBelowSort.a3⟩
  ·rw [if_neg c12] at H
   have c12b0 : (t486 == t478) = false := beq_eq_false_iff_ne.mpr c12
   have c12b1 : (t486 != t478) = true := bne_iff_ne.mpr c12
   obtain rfl := Option.some.inj H
   go_enter Try.func6, Try.ntmps6
   go_wp2_with (first | ((with_reducible refine gate_dst (N := 2) rfl ?_); refine box_event ?hg (N := 2) ?hd (cs := #[.slice A0_0 l0_0.length c0_0, .slice A0_1 l0_1.length c0_1]) (t := 25) ?hr ?_; (case hd => rfl); (case hg => rfl); (case hr => first | (go_simp; done) | (go_simp; rfl)); intro gb470 hg w58 hbox hb; have n0_ := Aside0.mk (below_step laws_FnExactBelowSort.a6 hb); have n1_ := Aside0.mk (hbox); have n2_ := Aside0.mk ((by rw [hg]; exact (below_size laws_FnExactBelowSort.a6) : w.heap.size ≤ gb470)); have n3_ := Aside0.mk ((by rw [hg]; exact (below_size laws_FnExactBelowSort.a6) : w.heap.size ≤ gb470)); clear HB; have HB := n0_; have BK470 := n1_; have GW470 := n2_; have GE470 := n3_; clear n0_ n1_ n2_ n3_; clear hb hbox hg; have hcz59_0 : w58.cell? ⟨gb470, 0, none⟩ = some (.slice A0_0 l0_0.length c0_0) := (blk_cell BK470.out 0).trans rfl; have hcz59_1 : w58.cell? ⟨gb470, 1, none⟩ = some (.slice A0_1 l0_1.length c0_1) := (blk_cell BK470.out 1).trans rfl; have hfz59_0 := blk_frozen BK470.out 0; have hfz59_1 := blk_frozen BK470.out 1) | ((with_reducible refine gate_callee (f := 12) rfl ?_); refine goesL_ (some 11) rfl rfl Try.func12 (by kernel_rfl) rfl #[.agg #[.slice A0_0 l0_0.length c0_0, .slice A0_1 l0_1.length c0_1], .int .i64 1048576] rfl laws_FnExactBelowSort.a2 ?_; (with_reducible refine (laws_szSorts.calls k _ _ l0_0 _ _ l0_1 1048576 t471 _ ?side1 ?side2 ?side3 ?side4 A3.out).mono ?_); (case side1 => repeat (first | exact (Kd.C_below HR0_0.out HB.out) | (with_reducible refine Kd.C_alloc ?_ _) | (with_reducible refine Kd.C_drewN ?_ _) | (with_reducible refine Kd.C_drew ?_))); (case side2 => exact HC0_0.out); (case side3 => repeat (first | exact (Kd.C_below HR0_1.out HB.out) | (with_reducible refine Kd.C_alloc ?_ _) | (with_reducible refine Kd.C_drewN ?_ _) | (with_reducible refine Kd.C_drew ?_))); (case side4 => exact HC0_1.out); rintro e w60 ⟨rfl, hb⟩; refine ⟨_, rfl, ?_⟩; have n0_ := Aside0.mk (blk_below (g := gb470) (o := .cells #[.slice A0_0 l0_0.length c0_0, .slice A0_1 l0_1.length c0_1] 25 (0, 0)) laws_FnExactBelowSort.a1 hb); have n1_ := Aside0.mk (below_step laws_FnExactBelowSort.a0 hb); clear BK470; clear HB; have BK470 := n0_; have HB := n1_; clear n0_ n1_; (try clear hb); (try clear hb2); (try clear hk); (try clear hi); have hcz61_0 : w60.cell? ⟨gb470, 0, none⟩ = some (.slice A0_0 l0_0.length c0_0) := (blk_cell BK470.out 0).trans rfl; have hcz61_1 : w60.cell? ⟨gb470, 1, none⟩ = some (.slice A0_1 l0_1.length c0_1) := (blk_cell BK470.out 1).trans rfl; have hfz61_0 := blk_frozen BK470.out 0; have hfz61_1 := blk_frozen BK470.out 1) | ((with_reducible refine gate_callee (f := 14) rfl ?_); refine goesL_ (some 15) rfl rfl Try.func14 (by kernel_rfl) rfl #[.agg #[.slice A0_0 l0_0.length c0_0, .slice A0_1 l0_1.length c0_1]] rfl laws_FnExactBelowSort.a2 ?_; (with_reducible refine (laws_toSorts.calls k _ _ l0_0 _ _ l0_1 t472 t475 _ ?side1 ?side2 ?side3 ?side4 A8.out).mono ?_); (case side1 => repeat (first | exact (Kd.C_below HR0_0.out HB.out) | (with_reducible refine Kd.C_alloc ?_ _) | (with_reducible refine Kd.C_drewN ?_ _) | (with_reducible refine Kd.C_drew ?_))); (case side2 => exact HC0_0.out); (case side3 => repeat (first | exact (Kd.C_below HR0_1.out HB.out) | (with_reducible refine Kd.C_alloc ?_ _) | (with_reducible refine Kd.C_drewN ?_ _) | (with_reducible refine Kd.C_drew ?_))); (case side4 => exact HC0_1.out); rintro e w62 ⟨v473, v476, rfl, ho0, ho1, hb⟩; refine ⟨_, rfl, ?_⟩; have n0_ := Aside0.mk (Kd.R_lower ho0 (below_size laws_FnExactBelowSort.a0)); have n1_ := Aside0.mk (Kd.R_lower ho1 (below_size laws_FnExactBelowSort.a0)); have n2_ := Aside0.mk (blk_below (g := gb470) (o := .cells #[.slice A0_0 l0_0.length c0_0, .slice A0_1 l0_1.length c0_1] 25 (0, 0)) laws_FnExactBelowSort.a1 hb); have n3_ := Aside0.mk (below_step laws_FnExactBelowSort.a0 hb); clear BK470; clear HB; have HO474 := n0_; have HO477 := n1_; have BK470 := n2_; have HB := n3_; clear n0_ n1_ n2_ n3_; (try clear hb); (try clear hb2); (try clear hk); (try clear hi); (try clear ho0); (try clear ho1); obtain ⟨Ao63, co63, eo63⟩ := Kd.R_slice HO474.out; subst eo63; obtain ⟨Ao64, co64, eo64⟩ := Kd.R_slice HO477.out; subst eo64) | ((with_reducible refine gate_callee (f := 25) rfl ?_); refine goesL_ (some 17) rfl rfl Try.func25 (by kernel_rfl) rfl #[.agg #[.slice Ao63 t472.length co63, .slice Ao64 t475.length co64], .int .i64 a1] rfl laws_FnExactBelowSort.a2 ?_; (with_reducible refine (spec_BelowSort.calls k _ _ t472 _ _ t475 a1 t478 _ ?side1 ?side2 ?side3 ?side4 A9.out).mono ?_); (case side1 => repeat (first | exact (Kd.R_reads' HO474.out).2.2 | (with_reducible refine Kd.C_alloc ?_ _) | (with_reducible refine Kd.C_drewN ?_ _) | (with_reducible refine Kd.C_drew ?_))); (case side2 => exact (Kd.R_reads' HO474.out).2.1); (case side3 => repeat (first | exact (Kd.R_reads' HO477.out).2.2 | (with_reducible refine Kd.C_alloc ?_ _) | (with_reducible refine Kd.C_drewN ?_ _) | (with_reducible refine Kd.C_drew ?_))); (case side4 => exact (Kd.R_reads' HO477.out).2.1); rintro e w65 ⟨rfl, hb⟩; refine ⟨_, rfl, ?_⟩; have n0_ := Aside0.mk (Kd.R_below laws_FnExactBelowSort.a4 hb); have n1_ := Aside0.mk (Kd.R_below laws_FnExactBelowSort.a5 hb); have n2_ := Aside0.mk (blk_below (g := gb470) (o := .cells #[.slice A0_0 l0_0.length c0_0, .slice A0_1 l0_1.length c0_1] 25 (0, 0)) laws_FnExactBelowSort.a1 hb); have n3_ := Aside0.mk (below_step laws_FnExactBelowSort.a0 hb); clear HO474; clear HO477; clear BK470; clear HB; have HO474 := n0_; have HO477 := n1_; have BK470 := n2_; have HB := n3_; clear n0_ n1_ n2_ n3_; (try clear hb); (try clear hb2); (try clear hk); (try clear hi); have hcz66_0 : w65.cell? ⟨gb470, 0, none⟩ = some (.slice A0_0 l0_0.length c0_0) := (blk_cell BK470.out 0).trans rfl; have hcz66_1 : w65.cell? ⟨gb470, 1, none⟩ = some (.slice A0_1 l0_1.length c0_1) := (blk_cell BK470.out 1).trans rfl; have hfz66_0 := blk_frozen BK470.out 0; have hfz66_1 := blk_frozen BK470.out 1) | ((with_reducible refine gate_callee (f := 14) rfl ?_); refine goesL_ (some 19) rfl rfl Try.func14 (by kernel_rfl) rfl #[.agg #[.slice A0_0 l0_0.length c0_0, .slice A0_1 l0_1.length c0_1]] rfl laws_FnExactBelowSort.a2 ?_; (with_reducible refine (laws_toSorts.calls k _ _ l0_0 _ _ l0_1 t479 t482 _ ?side1 ?side2 ?side3 ?side4 A10.out).mono ?_); (case side1 => repeat (first | exact (Kd.C_below HR0_0.out HB.out) | (with_reducible refine Kd.C_alloc ?_ _) | (with_reducible refine Kd.C_drewN ?_ _) | (with_reducible refine Kd.C_drew ?_))); (case side2 => exact HC0_0.out); (case side3 => repeat (first | exact (Kd.C_below HR0_1.out HB.out) | (with_reducible refine Kd.C_alloc ?_ _) | (with_reducible refine Kd.C_drewN ?_ _) | (with_reducible refine Kd.C_drew ?_))); (case side4 => exact HC0_1.out); rintro e w67 ⟨v480, v483, rfl, ho0, ho1, hb⟩; refine ⟨_, rfl, ?_⟩; have n0_ := Aside0.mk (Kd.R_elder' laws_FnExactBelowSort.a4 (Kd.R_base ho0) hb); have n1_ := Aside0.mk (Kd.R_elder' laws_FnExactBelowSort.a5 (Kd.R_base ho1) hb); have n2_ := Aside0.mk (Kd.R_lower (Kd.R_new' ho0 (Kd.R_lt laws_FnExactBelowSort.a4)) (below_size laws_FnExactBelowSort.a0)); have n3_ := Aside0.mk (Kd.R_lower (Kd.R_new' ho1 (Kd.R_lt laws_FnExactBelowSort.a5)) (below_size laws_FnExactBelowSort.a0)); have n4_ := Aside0.mk (blk_below (g := gb470) (o := .cells #[.slice A0_0 l0_0.length c0_0, .slice A0_1 l0_1.length c0_1] 25 (0, 0)) laws_FnExactBelowSort.a1 hb); have n5_ := Aside0.mk (below_step laws_FnExactBelowSort.a0 hb); clear HO474; clear HO477; clear BK470; clear HB; have HO474 := n0_; have HO477 := n1_; have HO481 := n2_; have HO484 := n3_; have BK470 := n4_; have HB := n5_; clear n0_ n1_ n2_ n3_ n4_ n5_; (try clear hb); (try clear hb2); (try clear hk); (try clear hi); (try clear ho0); (try clear ho1)) | ((with_reducible refine gate_dst (N := 7) rfl ?_); refine box_event ?hg (N := 7) ?hd (cs := #[.slice none 0 0, .slice none 0 0]) (t := 30) ?hr ?_; (case hd => rfl); (case hg => rfl); (case hr => first | (go_simp; done) | (go_simp; rfl)); intro gb485 hg w68 hbox hb; have n0_ := Aside0.mk (Kd.R_below laws_FnExactBelowSort.a4 hb); have n1_ := Aside0.mk (Kd.R_below laws_FnExactBelowSort.a5 hb); have n2_ := Aside0.mk (Kd.R_below laws_FnExactBelowSort.a7 hb); have n3_ := Aside0.mk (Kd.R_below laws_FnExactBelowSort.a8 hb); have n4_ := Aside0.mk (blk_below (g := gb470) (o := .cells #[.slice A0_0 l0_0.length c0_0, .slice A0_1 l0_1.length c0_1] 25 (0, 0)) laws_FnExactBelowSort.a1 hb); have n5_ := Aside0.mk (below_step laws_FnExactBelowSort.a0 hb); have n6_ := Aside0.mk (hbox); have n7_ := Aside0.mk ((by rw [hg]; exact (below_size laws_FnExactBelowSort.a0) : w.heap.size ≤ gb485)); have n8_ := Aside0.mk ((by rw [hg]; exact (below_size laws_FnExactBelowSort.a0) : w.heap.size ≤ gb485)); have n9_ := Aside0.mk ((by rw [hg]; exact Nat.ne_of_lt (blk_lt (g := gb470) (o := .cells #[.slice A0_0 l0_0.length c0_0, .slice A0_1 l0_1.length c0_1] 25 (0, 0)) laws_FnExactBelowSort.a1) : gb470 ≠ gb485)); have n10_ := Aside0.mk ((by rw [hg]; exact Nat.ne_of_gt (blk_lt (g := gb470) (o := .cells #[.slice A0_0 l0_0.length c0_0, .slice A0_1 l0_1.length c0_1] 25 (0, 0)) laws_FnExactBelowSort.a1) : gb485 ≠ gb470)); clear HO474; clear HO477; clear HO481; clear HO484; clear BK470; clear HB; have HO474 := n0_; have HO477 := n1_; have HO481 := n2_; have HO484 := n3_; have BK470 := n4_; have HB := n5_; have BK485 := n6_; have GW485 := n7_; have GE485 := n8_; have NB470_485 := n9_; have NB485_470 := n10_; clear n0_ n1_ n2_ n3_ n4_ n5_ n6_ n7_ n8_ n9_ n10_; clear hb hbox hg; obtain ⟨Ao69, co69, eo69⟩ := Kd.R_slice HO481.out; subst eo69; have hnb70 := NB485_470.out; have hnc70 := NB470_485.out; have hcz71_0 : w68.cell? ⟨gb485, 0, none⟩ = some (.slice none 0 0) := (blk_cell BK485.out 0).trans rfl; have hcz71_1 : w68.cell? ⟨gb485, 1, none⟩ = some (.slice none 0 0) := (blk_cell BK485.out 1).trans rfl; have hfz71_0 := blk_frozen BK485.out 0; have hfz71_1 := blk_frozen BK485.out 1; obtain ⟨Ao72, co72, eo72⟩ := Kd.R_slice HO484.out; subst eo72) | ((with_reducible refine gate_callee (f := 20) rfl ?_); refine goesL_ (some 22) rfl rfl Try.func20 (by kernel_rfl) rfl #[.agg #[.slice Ao69 t479.length co69, .slice Ao72 t482.length co72], .int .i64 a1] rfl laws_FnExactBelowSort.a2 ?_; (with_reducible refine (impl_BelowSort.calls k _ _ t479 _ _ t482 a1 t486 _ ?side1 ?side2 ?side3 ?side4 A11.out).mono ?_); (case side1 => refine (Kd.R_reads' (e := 9) (base := w.heap.size) (ok := fun k_ => (True ∧ some k_ ≠ (.slice Ao63 t472.length co63 : Value).ownBlock)) (n := t479.length) (c := co69) ?_).2.2; exact (by (with_reducible repeat (first | apply Kd.R_alloc | apply Kd.R_drewN | apply Kd.R_drew)); exact (Kd.R_mono (Kd.R_far (p := ⟨gb485, 1, none⟩) (Kd.R_far (p := ⟨gb485, 0, none⟩) (Kd.R_types HO481.out BK485.out (by decide)) (fun _ hk => hk.2) (.slice Ao69 t479.length co69)) (fun _ hk => hk.2) (.slice Ao72 t482.length co72)) (fun _ h_ => h_.1)))); (case side2 => exact (Kd.R_reads' HO481.out).2.1); (case side3 => refine (Kd.R_reads' (e := 52) (base := w.heap.size) (ok := fun k_ => (True ∧ some k_ ≠ (.slice Ao64 t475.length co64 : Value).ownBlock)) (n := t482.length) (c := co72) ?_).2.2; exact (by (with_reducible repeat (first | apply Kd.R_alloc | apply Kd.R_drewN | apply Kd.R_drew)); exact (Kd.R_mono (Kd.R_far (p := ⟨gb485, 1, none⟩) (Kd.R_far (p := ⟨gb485, 0, none⟩) (Kd.R_types HO484.out BK485.out (by decide)) (fun _ hk => hk.2) (.slice Ao69 t479.length co69)) (fun _ hk => hk.2) (.slice Ao72 t482.length co72)) (fun _ h_ => h_.1)))); (case side4 => exact (Kd.R_reads' HO484.out).2.1); rintro e w73 ⟨rfl, hb⟩; refine ⟨_, rfl, ?_⟩; have n0_ := Aside0.mk (Kd.R_below (by (with_reducible repeat (first | apply Kd.R_alloc | apply Kd.R_drewN | apply Kd.R_drew)); exact (Kd.R_mono (Kd.R_far (p := ⟨gb485, 1, none⟩) (Kd.R_far (p := ⟨gb485, 0, none⟩) (Kd.R_types HO474.out BK485.out (by decide)) (fun _ hk => hk.2) (.slice Ao69 t479.length co69)) (fun _ hk => hk.2) (.slice Ao72 t482.length co72)) (fun _ h_ => h_.1))) hb); have n1_ := Aside0.mk (Kd.R_below (by (with_reducible repeat (first | apply Kd.R_alloc | apply Kd.R_drewN | apply Kd.R_drew)); exact (Kd.R_mono (Kd.R_far (p := ⟨gb485, 1, none⟩) (Kd.R_far (p := ⟨gb485, 0, none⟩) (Kd.R_types HO477.out BK485.out (by decide)) (fun _ hk => hk.2) (.slice Ao69 t479.length co69)) (fun _ hk => hk.2) (.slice Ao72 t482.length co72)) (fun _ h_ => h_.1))) hb); have n2_ := Aside0.mk (Kd.R_below (by (with_reducible repeat (first | apply Kd.R_alloc | apply Kd.R_drewN | apply Kd.R_drew)); exact (Kd.R_mono (Kd.R_far (p := ⟨gb485, 1, none⟩) (Kd.R_far (p := ⟨gb485, 0, none⟩) (Kd.R_types HO481.out BK485.out (by decide)) (fun _ hk => hk.2) (.slice Ao69 t479.length co69)) (fun _ hk => hk.2) (.slice Ao72 t482.length co72)) (fun _ h_ => h_.1))) hb); have n3_ := Aside0.mk (Kd.R_below (by (with_reducible repeat (first | apply Kd.R_alloc | apply Kd.R_drewN | apply Kd.R_drew)); exact (Kd.R_mono (Kd.R_far (p := ⟨gb485, 1, none⟩) (Kd.R_far (p := ⟨gb485, 0, none⟩) (Kd.R_types HO484.out BK485.out (by decide)) (fun _ hk => hk.2) (.slice Ao69 t479.length co69)) (fun _ hk => hk.2) (.slice Ao72 t482.length co72)) (fun _ h_ => h_.1))) hb); have n4_ := Aside0.mk (blk_below (g := gb470) (o := .cells #[.slice A0_0 l0_0.length c0_0, .slice A0_1 l0_1.length c0_1] 25 (0, 0)) laws_FnExactBelowSort.a9 hb); have n5_ := Aside0.mk (blk_below (g := gb485) (o := .cells #[.slice Ao69 t479.length co69, .slice Ao72 t482.length co72] 30 (0, 0)) (by (with_reducible repeat (first | refine blk_drewN ?_ _ | refine blk_drew ?_ | refine blk_alloc ?_ _)); refine blk_put (cs := #[.slice Ao69 t479.length co69, .slice none 0 0]) ?_ 1 _ rfl; (with_reducible repeat (first | refine blk_drewN ?_ _ | refine blk_drew ?_ | refine blk_alloc ?_ _)); refine blk_put (cs := #[.slice none 0 0, .slice none 0 0]) ?_ 0 _ rfl; (with_reducible repeat (first | refine blk_drewN ?_ _ | refine blk_drew ?_ | refine blk_alloc ?_ _)); exact BK485.out) hb); have n6_ := Aside0.mk (below_step laws_FnExactBelowSort.a3 hb); clear HO474; clear HO477; clear HO481; clear HO484; clear BK470; clear BK485; clear HB; have HO474 := n0_; have HO477 := n1_; have HO481 := n2_; have HO484 := n3_; have BK470 := n4_; have BK485 := n5_; have HB := n6_; clear n0_ n1_ n2_ n3_ n4_ n5_ n6_; (try clear hb); (try clear hb2); (try clear hk); (try clear hi)))
   go_ret
   exact ⟨by first | rfl | (simp [errW_none, errW_some] <;> rfl) | (simp [*, errW_none, errW_some] <;> rfl), laws_FnExactBelowSort.a3⟩

/-! ### spec_l1Min: function 68 -/
def spec_l1Min.f (a0 : Int) (a1 : Int) : Option (Int) := if a0 < a1 then (some a0) else (some a1)
set_option maxHeartbeats 8000000 in
set_option maxRecDepth 100000 in
theorem spec_l1Min.calls (a0 : Int) (a1 : Int) (r : Int) (w : World) (h : spec_l1Min.f a0 a1 = some r) :
    Calls Try.prog 68 #[.int .i64 a0, .int .i64 a1] w fun e w' => e = .returned (.int .i64 r) ∧ Drawn0 w w' := by
  have H : (if a0 < a1 then (some a0) else (some a1)) = some r := h
  clear h
  by_cases c3 : a0 < a1
  · rw [if_pos c3] at H
    have c3b0 : decide (a0 < a1) = true := decide_eq_true c3
    clear c3
    obtain rfl := Option.some.inj H
    go_enter Try.func68, Try.ntmps68
    go_wp2
    go_ret
    exact ⟨by first | rfl | (simp; done) | (simp [*]; done), by repeat (first | exact Drawn0.refl _ | apply Drawn0.step)⟩
  · rw [if_neg c3] at H
    have c3b0 : decide (a0 < a1) = false := decide_eq_false c3
    clear c3
    obtain rfl := Option.some.inj H
    go_enter Try.func68, Try.ntmps68
    go_wp2
    go_ret
    exact ⟨by first | rfl | (simp; done) | (simp [*]; done), by repeat (first | exact Drawn0.refl _ | apply Drawn0.step)⟩

/-! ### spec_l3Kinds: function 56 -/
theorem spec_l3Kinds.a0 {P_ : Prop} (h_ : P_ := by repeat (first | (with_reducible first | exact HB.out | apply below_alloc | apply pw_below_drewN | apply below_drew1 | refine below_set ?_ GE494.out) | exact HB.out)) : P_ := h_
theorem spec_l3Kinds.a1 {P_ : Prop} (h_ : P_ := by first | (with_reducible assumption) | assumption) : P_ := h_
theorem spec_l3Kinds.a2 {P_ : Prop} (h_ : P_ := by (with_reducible repeat (first | refine blk_drewN ?_ _ | refine blk_drew ?_ | refine blk_alloc ?_ _)); exact BK494.out) : P_ := h_
theorem spec_l3Kinds.a3 {P_ : Prop} (h_ : P_ := by repeat (first | (with_reducible first | exact HB.out | apply below_alloc | apply pw_below_drewN | apply below_drew1) | exact HB.out)) : P_ := h_
theorem spec_l3Kinds.a4 {P_ : Prop} (h_ : P_ := by (with_reducible repeat (first | apply Kd.R_alloc | apply Kd.R_drewN | apply Kd.R_drew)); exact HO_3.out) : P_ := h_
mutual
def spec_l3Kinds.l0 : Nat → List Int → Int → List ByteArray → List (S52) → Option (List Int)
 | 0, _, _, _, _ => none
 | k + 1, x3, x4, x495000, x495001 => if x4 < (x495000.length : Int) then (if x3.length < 17592186044416 then (spec_l3Kinds.l0 k (x3 ++ [x4]) (wrap64 (x4 + 1)) x495000 x495001) else (none)) else (spec_l3Kinds.l1 k x3 0 x495000 x495001)
def spec_l3Kinds.l1 : Nat → List Int → Int → List ByteArray → List (S52) → Option (List Int)
 | 0, _, _, _, _ => none
 | k + 1, x3, x5, x495000, x495001 => if x5 < (x3.length : Int) then (spec_l3Kinds.l2 k x3 x5 0 x495000 x495001) else (some x3)
def spec_l3Kinds.l2 : Nat → List Int → Int → Int → List ByteArray → List (S52) → Option (List Int)
 | 0, _, _, _, _, _ => none
 | k + 1, x3, x5, x6, x495000, x495001 => if x6 < (x495001.length : Int) then (if 0 ≤ x6 then (if 0 ≤ ((rd_T52 x495001 x6).f0) then (if ((rd_T52 x495001 x6).f0) < (x3.length : Int) then (if 0 ≤ ((rd_T52 x495001 x6).f1) then (if ((rd_T52 x495001 x6).f1) < (x3.length : Int) then ((spec_l1Min.f (rd x3 ((rd_T52 x495001 x6).f0)) (rd x3 ((rd_T52 x495001 x6).f1))).bind fun t505 => (spec_l3Kinds.l2 k ((x3.set (((rd_T52 x495001 x6).f0) : Int).toNat t505).set (((rd_T52 x495001 x6).f1) : Int).toNat t505) x5 (wrap64 (x6 + 1)) x495000 x495001)) else (none)) else (none)) else (none)) else (none)) else (none)) else (spec_l3Kinds.l1 k x3 (wrap64 (x5 + 1)) x495000 x495001)
end
def spec_l3Kinds.f (k : Nat) (l0_0 : List ByteArray) (l0_1 : List (S52)) : Option (List Int) := spec_l3Kinds.l0 k (([] : List Int)) 0 l0_0 l0_1
set_option maxHeartbeats 8000000 in
set_option maxRecDepth 100000 in
theorem spec_l3Kinds.calls (k : Nat) (A0_0 : Option Addr) (c0_0 : Nat) (l0_0 : List ByteArray) (A0_1 : Option Addr) (c0_1 : Nat) (l0_1 : List (S52)) (r : List Int) (w : World) (hr0_0 : Kd.C Kd.string w A0_0 l0_0.length l0_0) (hc0_0 : l0_0.length ≤ c0_0) (hr0_1 : Kd.C k52 w A0_1 l0_1.length l0_1) (hc0_1 : l0_1.length ≤ c0_1) (h : spec_l3Kinds.f k l0_0 l0_1 = some r) :
  Calls Try.prog 56 #[.agg #[.slice A0_0 l0_0.length c0_0, .slice A0_1 l0_1.length c0_1]] w fun e w' => ∃ v0_ : Value, e = .returned (v0_) ∧ Kd.R (Kd.int .i64) 3 w' w.heap.size (fun _ => True) v0_ r ∧ Below w.heap.size w w' := by
 have hu30 := Try.underlying30
 have HR0_0 := Aside0.mk hr0_0
 have HC0_0 := Aside0.mk hc0_0
 clear hr0_0 hc0_0
 have HR0_1 := Aside0.mk hr0_1
 have HC0_1 := Aside0.mk hc0_1
 clear hr0_1 hc0_1
 have HB := Aside0.mk (Below.refl w.heap.size w)
 have H : (spec_l3Kinds.l0 k (([] : List Int)) 0 l0_0 l0_1) = some r := h
 clear h
 obtain ⟨y495, hy495⟩ : ∃ y_ : List Int, y_ = (([] : List Int)) := ⟨_, rfl⟩
 replace H : (spec_l3Kinds.l0 k y495 0 l0_0 l0_1) = some r := by first | (rw [hy495]; with_reducible exact H) | (have H2_ := (Option.bind_some _ _).symm.trans H; rw [hy495]; with_reducible exact H2_) | (have H2_ := (Option.bind_some _ _).symm.trans H; with_reducible exact H2_) | with_reducible exact H | (rw [hy495]; exact H) | exact H
 have Ny495 := Aside0.mk hy495
 clear hy495
 have H' := Aside0.mk H
 clear H
 go_enter Try.func56, Try.ntmps56
 go_wp2_with (first | ((with_reducible refine gate_dst (N := 1) rfl ?_); refine box_event ?hg (N := 1) ?hd (cs := #[.slice A0_0 l0_0.length c0_0, .slice A0_1 l0_1.length c0_1]) (t := 30) ?hr ?_; (case hd => rfl); (case hg => rfl); (case hr => first | (go_simp; done) | (go_simp; rfl)); intro gb494 hg w2 hbox hb; have n0_ := Aside0.mk (below_step spec_l3Kinds.a3 hb); have n1_ := Aside0.mk (hbox); have n2_ := Aside0.mk ((by rw [hg]; exact (below_size spec_l3Kinds.a3) : w.heap.size ≤ gb494)); have n3_ := Aside0.mk ((by rw [hg]; exact (below_size spec_l3Kinds.a3) : w.heap.size ≤ gb494)); clear HB; have HB := n0_; have BK494 := n1_; have GW494 := n2_; have GE494 := n3_; clear n0_ n1_ n2_ n3_; clear hb hbox hg) | ((with_reducible refine gate_dst (N := 10) rfl ?_); refine Kd.R_lit (Kd.int .i64) _ 3 ?hg (N := 10) ?hd (xs := ([] : List Int)) (inner := []) (ok := fun _ => True) (okp := fun _ => True) ?hr ?hp (fun _ hk => hk) trivial (Below.refl _ _) (Nat.le_refl _) (by simp) ?_; (case hd => rfl); (case hg => rfl); (case hr => first | (go_simp; done) | (go_simp; rfl)); (case hp => exact (Reps.none _ _)); intro v496 w3 ho4 hb hg_ hnew_; clear hg_ hnew_; (first | rw [← Ny495.out] at ho4 | (simp only [Int.reduceToNat] at ho4; rw [← Ny495.out] at ho4)); have n0_ := Aside0.mk (Kd.R_lower ho4 (below_size spec_l3Kinds.a0)); have n1_ := Aside0.mk (blk_below (g := gb494) (o := .cells #[.slice A0_0 l0_0.length c0_0, .slice A0_1 l0_1.length c0_1] 30 (0, 0)) spec_l3Kinds.a2 hb); have n2_ := Aside0.mk (below_step spec_l3Kinds.a0 hb); clear BK494; clear HB; have HO497 := n0_; have BK494 := n1_; have HB := n2_; clear n0_ n1_ n2_; clear hb ho4))
 repeat (go_quiet (first | ((with_reducible refine gate_dst (N := 1) rfl ?_); refine box_event ?hg (N := 1) ?hd (cs := #[.slice A0_0 l0_0.length c0_0, .slice A0_1 l0_1.length c0_1]) (t := 30) ?hr ?_; (case hd => rfl); (case hg => rfl); (case hr => first | (go_simp; done) | (go_simp; rfl)); intro gb494 hg w2 hbox hb; have n0_ := Aside0.mk (below_step spec_l3Kinds.a3 hb); have n1_ := Aside0.mk (hbox); have n2_ := Aside0.mk ((by rw [hg]; exact (below_size spec_l3Kinds.a3) : w.heap.size ≤ gb494)); have n3_ := Aside0.mk ((by rw [hg]; exact (below_size spec_l3Kinds.a3) : w.heap.size ≤ gb494)); clear HB; have HB := n0_; have BK494 := n1_; have GW494 := n2_; have GE494 := n3_; clear n0_ n1_ n2_ n3_; clear hb hbox hg) | ((with_reducible refine gate_dst (N := 10) rfl ?_); refine Kd.R_lit (Kd.int .i64) _ 3 ?hg (N := 10) ?hd (xs := ([] : List Int)) (inner := []) (ok := fun _ => True) (okp := fun _ => True) ?hr ?hp (fun _ hk => hk) trivial (Below.refl _ _) (Nat.le_refl _) (by simp) ?_; (case hd => rfl); (case hg => rfl); (case hr => first | (go_simp; done) | (go_simp; rfl)); (case hp => exact (Reps.none _ _)); intro v496 w3 ho4 hb hg_ hnew_; clear hg_ hnew_; (first | rw [← Ny495.out] at ho4 | (simp only [Int.reduceToNat] at ho4; rw [← Ny495.out] at ho4)); have n0_ := Aside0.mk (Kd.R_lower ho4 (below_size spec_l3Kinds.a0)); have n1_ := Aside0.mk (blk_below (g := gb494) (o := .cells #[.slice A0_0 l0_0.length c0_0, .slice A0_1 l0_1.length c0_1] 30 (0, 0)) spec_l3Kinds.a2 hb); have n2_ := Aside0.mk (below_step spec_l3Kinds.a0 hb); clear BK494; clear HB; have HO497 := n0_; have BK494 := n1_; have HB := n2_; clear n0_ n1_ n2_; clear hb ho4)); try go_wp2_with (first | ((with_reducible refine gate_dst (N := 1) rfl ?_); refine box_event ?hg (N := 1) ?hd (cs := #[.slice A0_0 l0_0.length c0_0, .slice A0_1 l0_1.length c0_1]) (t := 30) ?hr ?_; (case hd => rfl); (case hg => rfl); (case hr => first | (go_simp; done) | (go_simp; rfl)); intro gb494 hg w2 hbox hb; have n0_ := Aside0.mk (below_step spec_l3Kinds.a3 hb); have n1_ := Aside0.mk (hbox); have n2_ := Aside0.mk ((by rw [hg]; exact (below_size spec_l3Kinds.a3) : w.heap.size ≤ gb494)); have n3_ := Aside0.mk ((by rw [hg]; exact (below_size spec_l3Kinds.a3) : w.heap.size ≤ gb494)); clear HB; have HB := n0_; have BK494 := n1_; have GW494 := n2_; have GE494 := n3_; clear n0_ n1_ n2_ n3_; clear hb hbox hg) | ((with_reducible refine gate_dst (N := 10) rfl ?_); refine Kd.R_lit (Kd.int .i64) _ 3 ?hg (N := 10) ?hd (xs := ([] : List Int)) (inner := []) (ok := fun _ => True) (okp := fun _ => True) ?hr ?hp (fun _ hk => hk) trivial (Below.refl _ _) (Nat.le_refl _) (by simp) ?_; (case hd => rfl); (case hg => rfl); (case hr => first | (go_simp; done) | (go_simp; rfl)); (case hp => exact (Reps.none _ _)); intro v496 w3 ho4 hb hg_ hnew_; clear hg_ hnew_; (first | rw [← Ny495.out] at ho4 | (simp only [Int.reduceToNat] at ho4; rw [← Ny495.out] at ho4)); have n0_ := Aside0.mk (Kd.R_lower ho4 (below_size spec_l3Kinds.a0)); have n1_ := Aside0.mk (blk_below (g := gb494) (o := .cells #[.slice A0_0 l0_0.length c0_0, .slice A0_1 l0_1.length c0_1] 30 (0, 0)) spec_l3Kinds.a2 hb); have n2_ := Aside0.mk (below_step spec_l3Kinds.a0 hb); clear BK494; clear HB; have HO497 := n0_; have BK494 := n1_; have HB := n2_; clear n0_ n1_ n2_; clear hb ho4)))
 go_loopg [3, 4] k (fun kq v3 v4 w' => ∃ (x3_1 : List Int) (x4_1 : Int), v4 = .int .i64 x4_1 ∧ Aside0 (spec_l3Kinds.l0 kq x3_1 x4_1 l0_0 l0_1 = some r) ∧ Aside0 (kq ≤ k) ∧ Aside0 (Kd.R (Kd.int .i64) 3 w' w.heap.size (fun _ => True) v3 x3_1) ∧ Aside0 (w'.heap[gb494]? = some (.cells #[(.slice A0_0 l0_0.length c0_0), (.slice A0_1 l0_1.length c0_1)] 30 (0, 0))) ∧ Aside0 (Below w.heap.size w w'))
 case atStart => exact ⟨(y495), (0), (by first | rfl | (simp; done) | (simp [*]; done)), H', ⟨Nat.le_refl _⟩, ⟨by (with_reducible repeat (first | apply Kd.R_alloc | apply Kd.R_drewN | apply Kd.R_drew)); exact HO497.out⟩, ⟨spec_l3Kinds.a2⟩, ⟨spec_l3Kinds.a0⟩⟩
 case round =>
  clear H'
  try clear p2
  obtain ⟨x3_1, x4_1, rfl, HA, HK1, HO_3, BK494, HB⟩ := hrel
  cases gk with
  | zero => exact absurd HA.out (by simp [spec_l3Kinds.l0])
  | succ k1 =>
   have H := HA.out
   clear HA
   simp only [spec_l3Kinds.l0] at H
   by_cases c5 : x4_1 < (l0_0.length : Int)
   ·rw [if_pos c5] at H
    have c5b0 : decide (x4_1 < (l0_0.length : Int)) = true := decide_eq_true c5
    clear c5
    by_cases c6 : x3_1.length < 17592186044416
    ·rw [if_pos c6] at H
     have LMc6 := Aside0.mk c6
     clear c6
     obtain ⟨y498, hy498⟩ : ∃ y_ : List Int, y_ = (x3_1 ++ [x4_1]) := ⟨_, rfl⟩
     replace H : (spec_l3Kinds.l0 k1 y498 (wrap64 (x4_1 + 1)) l0_0 l0_1) = some r := by first | (rw [hy498]; with_reducible exact H) | (have H2_ := (Option.bind_some _ _).symm.trans H; rw [hy498]; with_reducible exact H2_) | (have H2_ := (Option.bind_some _ _).symm.trans H; with_reducible exact H2_) | with_reducible exact H | (rw [hy498]; exact H) | exact H
     have Ny498 := Aside0.mk hy498
     clear hy498
     have H' := Aside0.mk H
     clear H
     have hcz7_0 : wr.cell? ⟨gb494, 0, none⟩ = some (.slice A0_0 l0_0.length c0_0) := (blk_cell BK494.out 0).trans rfl
     have hcz7_1 : wr.cell? ⟨gb494, 1, none⟩ = some (.slice A0_1 l0_1.length c0_1) := (blk_cell BK494.out 1).trans rfl
     have hfz7_0 := blk_frozen BK494.out 0
     have hfz7_1 := blk_frozen BK494.out 1
     go_wp2_with (first | ((with_reducible refine gate_builtin (b := .append) (xs := #[.tmp 18, .tmp 20]) rfl ?_); at_builtin; refine Kd.R_append (Kd.int .i64) (w0 := w) w.heap.size rfl (.tmp 18) (.tmp 20) 44 3 (.int .i64 0) 8 rfl Try.underlying44 info3 rfl (by decide) (by omega) u3 x3_1 x4_1 [.int .i64 x4_1] (fun _ => True) (fun _ => False) rfl rfl ?aP (fun _ hk => hk.elim) ?aF ?aO ?aB ?aS ?aL ?_; (case aP => exact rfl); (case aB => exact spec_l3Kinds.a0); (case aF => exact (fun _ _ => trivial)); (case aO => exact spec_l3Kinds.a4); (case aS => exact (below_size spec_l3Kinds.a0)); (case aL => have := LMc6.out; omega); intro v499 w8 ho hb hg hat; rw [← Ny498.out] at ho; have n0_ := Aside0.mk (blk_grown (g := gb494) (o := .cells #[.slice A0_0 l0_0.length c0_0, .slice A0_1 l0_1.length c0_1] 30 (0, 0)) spec_l3Kinds.a2 hg (Kd.R_ne HO_3.out BK494.out (by decide))); have n1_ := Aside0.mk (hb); have n2_ := Aside0.mk (ho); clear BK494; clear HB; clear HO_3; have BK494 := n0_; have HB := n1_; have HO500 := n2_; clear n0_ n1_ n2_; clear ho hb hg hat))
     repeat (go_quiet (first | ((with_reducible refine gate_builtin (b := .append) (xs := #[.tmp 18, .tmp 20]) rfl ?_); at_builtin; refine Kd.R_append (Kd.int .i64) (w0 := w) w.heap.size rfl (.tmp 18) (.tmp 20) 44 3 (.int .i64 0) 8 rfl Try.underlying44 info3 rfl (by decide) (by omega) u3 x3_1 x4_1 [.int .i64 x4_1] (fun _ => True) (fun _ => False) rfl rfl ?aP (fun _ hk => hk.elim) ?aF ?aO ?aB ?aS ?aL ?_; (case aP => exact rfl); (case aB => exact spec_l3Kinds.a0); (case aF => exact (fun _ _ => trivial)); (case aO => exact spec_l3Kinds.a4); (case aS => exact (below_size spec_l3Kinds.a0)); (case aL => have := LMc6.out; omega); intro v499 w8 ho hb hg hat; rw [← Ny498.out] at ho; have n0_ := Aside0.mk (blk_grown (g := gb494) (o := .cells #[.slice A0_0 l0_0.length c0_0, .slice A0_1 l0_1.length c0_1] 30 (0, 0)) spec_l3Kinds.a2 hg (Kd.R_ne HO_3.out BK494.out (by decide))); have n1_ := Aside0.mk (hb); have n2_ := Aside0.mk (ho); clear BK494; clear HB; clear HO_3; have BK494 := n0_; have HB := n1_; have HO500 := n2_; clear n0_ n1_ n2_; clear ho hb hg hat)); try go_wp2_with (first | ((with_reducible refine gate_builtin (b := .append) (xs := #[.tmp 18, .tmp 20]) rfl ?_); at_builtin; refine Kd.R_append (Kd.int .i64) (w0 := w) w.heap.size rfl (.tmp 18) (.tmp 20) 44 3 (.int .i64 0) 8 rfl Try.underlying44 info3 rfl (by decide) (by omega) u3 x3_1 x4_1 [.int .i64 x4_1] (fun _ => True) (fun _ => False) rfl rfl ?aP (fun _ hk => hk.elim) ?aF ?aO ?aB ?aS ?aL ?_; (case aP => exact rfl); (case aB => exact spec_l3Kinds.a0); (case aF => exact (fun _ _ => trivial)); (case aO => exact spec_l3Kinds.a4); (case aS => exact (below_size spec_l3Kinds.a0)); (case aL => have := LMc6.out; omega); intro v499 w8 ho hb hg hat; rw [← Ny498.out] at ho; have n0_ := Aside0.mk (blk_grown (g := gb494) (o := .cells #[.slice A0_0 l0_0.length c0_0, .slice A0_1 l0_1.length c0_1] 30 (0, 0)) spec_l3Kinds.a2 hg (Kd.R_ne HO_3.out BK494.out (by decide))); have n1_ := Aside0.mk (hb); have n2_ := Aside0.mk (ho); clear BK494; clear HB; clear HO_3; have BK494 := n0_; have HB := n1_; have HO500 := n2_; clear n0_ n1_ n2_; clear ho hb hg hat)))
     go_roundg k1
     case measure => have := HK1.out; omega
     case rel => exact ⟨(y498), (wrap64 (x4_1 + 1)), (by first | rfl | (simp; done) | (simp [*]; done)), H', ⟨by have := HK1.out; omega⟩, ⟨by (with_reducible repeat (first | apply Kd.R_alloc | apply Kd.R_drewN | apply Kd.R_drew)); exact HO500.out⟩, ⟨spec_l3Kinds.a2⟩, ⟨spec_l3Kinds.a0⟩⟩
    ·rw [if_neg c6] at H
     exact absurd H (by simp)
   ·rw [if_neg c5] at H
    have c5b0 : decide (x4_1 < (l0_0.length : Int)) = false := decide_eq_false c5
    clear c5
    have H' := Aside0.mk H
    clear H
    have hcz9_0 : wr.cell? ⟨gb494, 0, none⟩ = some (.slice A0_0 l0_0.length c0_0) := (blk_cell BK494.out 0).trans rfl
    have hcz9_1 : wr.cell? ⟨gb494, 1, none⟩ = some (.slice A0_1 l0_1.length c0_1) := (blk_cell BK494.out 1).trans rfl
    have hfz9_0 := blk_frozen BK494.out 0
    have hfz9_1 := blk_frozen BK494.out 1
    go_wp2
    repeat (go_quiet (fail); try go_wp2)
    go_loopg [5] k1 (fun kq v5 w' => ∃ (x3_2 : List Int) (x5_2 : Int), v5 = .int .i64 x5_2 ∧ Aside0 (spec_l3Kinds.l1 kq x3_2 x5_2 l0_0 l0_1 = some r) ∧ Aside0 (kq ≤ k1) ∧ Aside0 (Kd.R (Kd.int .i64) 3 w' w.heap.size (fun _ => True) u3 x3_2) ∧ Aside0 (w'.heap[gb494]? = some (.cells #[(.slice A0_0 l0_0.length c0_0), (.slice A0_1 l0_1.length c0_1)] 30 (0, 0))) ∧ Aside0 (Below w.heap.size w w'))
    case atStart => exact ⟨(x3_1), (0), (by first | rfl | (simp; done) | (simp [*]; done)), H', ⟨Nat.le_refl _⟩, ⟨spec_l3Kinds.a4⟩, ⟨spec_l3Kinds.a2⟩, ⟨spec_l3Kinds.a0⟩⟩
    case round =>
     clear H'
     try clear p2
     try clear c5
     try clear c5b0
     try clear c6
     try clear p6
     try clear hcz7_0
     try clear hcz7_1
     try clear hcz9_0
     try clear hcz9_1
     try clear hfz7_0
     try clear hfz7_1
     try clear hfz9_0
     try clear hfz9_1
     try clear p2
     obtain ⟨x3_2, x5_2, rfl, HA, HK2, HO_3, BK494, HB⟩ := hrel
     cases gk with
     | zero => exact absurd HA.out (by simp [spec_l3Kinds.l1])
     | succ k2 =>
      have H := HA.out
      clear HA
      simp only [spec_l3Kinds.l1] at H
      by_cases c10 : x5_2 < (x3_2.length : Int)
      ·rw [if_pos c10] at H
       have c10b0 : decide (x5_2 < (x3_2.length : Int)) = true := decide_eq_true c10
       clear c10
       have H' := Aside0.mk H
       clear H
       obtain ⟨Ao11, co11, eo11⟩ := Kd.R_slice HO_3.out
       subst eo11
       go_wp2
       repeat (go_quiet (fail); try go_wp2)
       go_loopg [6] k2 (fun kq v6 w' => ∃ (x3_3 : List Int) (x6_3 : Int), v6 = .int .i64 x6_3 ∧ Aside0 (spec_l3Kinds.l2 kq x3_3 x5_2 x6_3 l0_0 l0_1 = some r) ∧ Aside0 (kq ≤ k2) ∧ Aside0 (Kd.R (Kd.int .i64) 3 w' w.heap.size (fun _ => True) (.slice Ao11 x3_2.length co11) x3_3) ∧ Aside0 (w'.heap[gb494]? = some (.cells #[(.slice A0_0 l0_0.length c0_0), (.slice A0_1 l0_1.length c0_1)] 30 (0, 0))) ∧ Aside0 (Below w.heap.size w w'))
       case atStart => exact ⟨(x3_2), (0), (by first | rfl | (simp; done) | (simp [*]; done)), H', ⟨Nat.le_refl _⟩, ⟨spec_l3Kinds.a4⟩, ⟨spec_l3Kinds.a2⟩, ⟨spec_l3Kinds.a0⟩⟩
       case round =>
        clear H'
        try clear c1
        try clear p2
        try clear c5
        try clear c5b0
        try clear c6
        try clear p6
        try clear c10
        try clear c10b0
        try clear hcz7_0
        try clear hcz7_1
        try clear hcz9_0
        try clear hcz9_1
        try clear hfz7_0
        try clear hfz7_1
        try clear hfz9_0
        try clear hfz9_1
        try clear p2
        try clear p6
        obtain ⟨x3_3, x6_3, rfl, HA, HK3, HO_3, BK494, HB⟩ := hrel
        have hl3_3 := (Kd.R_reads' HO_3.out).1
        rw [hl3_3] at HO_3
        (try simp only [hl3_3])
        (try simp only [hl3_3] at BK494)
        cases gk with
        | zero => exact absurd HA.out (by simp [spec_l3Kinds.l2])
        | succ k3 =>
         have H := HA.out
         clear HA
         simp only [spec_l3Kinds.l2] at H
         by_cases c12 : x6_3 < (l0_1.length : Int)
         ·rw [if_pos c12] at H
          have c12b0 : decide (x6_3 < (l0_1.length : Int)) = true := decide_eq_true c12
          (try (have c12b1 := c12b0; simp only [hl3_3] at c12b1))
          clear c12
          by_cases c13 : 0 ≤ x6_3
          ·rw [if_pos c13] at H
           have c13b0 : decide (0 ≤ x6_3) = true := decide_eq_true c13
           clear c13
           by_cases c14 : 0 ≤ ((rd_T52 l0_1 x6_3).f0)
           ·rw [if_pos c14] at H
            have c14b0 : decide (0 ≤ ((rd_T52 l0_1 x6_3).f0)) = true := decide_eq_true c14
            clear c14
            by_cases c15 : ((rd_T52 l0_1 x6_3).f0) < (x3_3.length : Int)
            ·rw [if_pos c15] at H
             have c15b0 : decide (((rd_T52 l0_1 x6_3).f0) < (x3_3.length : Int)) = true := decide_eq_true c15
             (try (have c15b1 := c15b0; simp only [hl3_3] at c15b1))
             clear c15
             by_cases c16 : 0 ≤ ((rd_T52 l0_1 x6_3).f1)
             ·rw [if_pos c16] at H
              have c16b0 : decide (0 ≤ ((rd_T52 l0_1 x6_3).f1)) = true := decide_eq_true c16
              clear c16
              by_cases c17 : ((rd_T52 l0_1 x6_3).f1) < (x3_3.length : Int)
              ·rw [if_pos c17] at H
               have c17b0 : decide (((rd_T52 l0_1 x6_3).f1) < (x3_3.length : Int)) = true := decide_eq_true c17
               (try (have c17b1 := c17b0; simp only [hl3_3] at c17b1))
               clear c17
               replace H := Option.bind_eq_some_iff.mp H
               obtain ⟨t505, A180, H⟩ := H
               replace H : (spec_l3Kinds.l2 k3 ((x3_3.set (((rd_T52 l0_1 x6_3).f0) : Int).toNat t505).set (((rd_T52 l0_1 x6_3).f1) : Int).toNat t505) x5_2 (wrap64 (x6_3 + 1)) l0_0 l0_1) = some r := H
               have A18 := Aside0.mk A180
               clear A180
               obtain ⟨y506, hy506⟩ : ∃ y_ : List Int, y_ = (x3_3.set (((rd_T52 l0_1 x6_3).f0) : Int).toNat t505) := ⟨_, rfl⟩
               replace H : (spec_l3Kinds.l2 k3 (y506.set (((rd_T52 l0_1 x6_3).f1) : Int).toNat t505) x5_2 (wrap64 (x6_3 + 1)) l0_0 l0_1) = some r := by first | (rw [hy506]; with_reducible exact H) | (have H2_ := (Option.bind_some _ _).symm.trans H; rw [hy506]; with_reducible exact H2_) | (have H2_ := (Option.bind_some _ _).symm.trans H; with_reducible exact H2_) | with_reducible exact H | (rw [hy506]; exact H) | exact H
               have Ny506 := Aside0.mk hy506
               clear hy506
               obtain ⟨y507, hy507⟩ : ∃ y_ : List Int, y_ = (y506.set (((rd_T52 l0_1 x6_3).f1) : Int).toNat t505) := ⟨_, rfl⟩
               replace H : (spec_l3Kinds.l2 k3 y507 x5_2 (wrap64 (x6_3 + 1)) l0_0 l0_1) = some r := by first | (rw [hy507]; with_reducible exact H) | (have H2_ := (Option.bind_some _ _).symm.trans H; rw [hy507]; with_reducible exact H2_) | (have H2_ := (Option.bind_some _ _).symm.trans H; with_reducible exact H2_) | with_reducible exact H | (rw [hy507]; exact H) | exact H
               have Ny507 := Aside0.mk hy507
               clear hy507
               have H' := Aside0.mk H
               clear H
               have hcz21_0 : wr.cell? ⟨gb494, 0, none⟩ = some (.slice A0_0 l0_0.length c0_0) := (blk_cell BK494.out 0).trans rfl
               have hcz21_1 : wr.cell? ⟨gb494, 1, none⟩ = some (.slice A0_1 l0_1.length c0_1) := (blk_cell BK494.out 1).trans rfl
               have hfz21_0 := blk_frozen BK494.out 0
               have hfz21_1 := blk_frozen BK494.out 1
               have p501 : 0 ≤ (x6_3 : Int) := of_decide_eq_true spec_l3Kinds.a1
               have q501 : x6_3 < (l0_1.length : Int) := of_decide_eq_true spec_l3Kinds.a1
               obtain ⟨ad501, e501, hx501_0, hx501_1⟩ := at_T52 HR0_1.out x6_3 p501 q501
               cases e501
               replace hx501_0 := (HB.out.cell (World.block_lt_of_cell? w _ hx501_0)).trans hx501_0
               replace hx501_1 := (HB.out.cell (World.block_lt_of_cell? w _ hx501_1)).trans hx501_1
               replace p501 := eq_true p501
               replace q501 := eq_true q501
               have p502 : 0 ≤ (x6_3 : Int) := of_decide_eq_true spec_l3Kinds.a1
               have q502 : x6_3 < (l0_1.length : Int) := of_decide_eq_true spec_l3Kinds.a1
               obtain ⟨ad502, e502, hx502_0, hx502_1⟩ := at_T52 HR0_1.out x6_3 p502 q502
               obtain rfl : ad501 = ad502 := (by injection e502)
               replace hx502_0 := (HB.out.cell (World.block_lt_of_cell? w _ hx502_0)).trans hx502_0
               replace hx502_1 := (HB.out.cell (World.block_lt_of_cell? w _ hx502_1)).trans hx502_1
               replace p502 := eq_true p502
               replace q502 := eq_true q502
               have p503 : 0 ≤ (((rd_T52 l0_1 x6_3).f0) : Int) := of_decide_eq_true spec_l3Kinds.a1
               have q503 : ((rd_T52 l0_1 x6_3).f0) < (x3_3.length : Int) := of_decide_eq_true spec_l3Kinds.a1
               obtain ⟨ad503, e503, hx503_0⟩ := Kd.at_int (Kd.R_reads' HO_3.out).2.2 ((rd_T52 l0_1 x6_3).f0) p503 q503
               cases e503
               replace p503 := eq_true p503
               replace q503 := eq_true q503
               have p504 : 0 ≤ (((rd_T52 l0_1 x6_3).f1) : Int) := of_decide_eq_true spec_l3Kinds.a1
               have q504 : ((rd_T52 l0_1 x6_3).f1) < (x3_3.length : Int) := of_decide_eq_true spec_l3Kinds.a1
               obtain ⟨ad504, e504, hx504_0⟩ := Kd.at_int (Kd.R_reads' HO_3.out).2.2 ((rd_T52 l0_1 x6_3).f1) p504 q504
               obtain rfl : ad503 = ad504 := (by injection e504)
               replace p504 := eq_true p504
               replace q504 := eq_true q504
               go_wp2_with (first | (go_at_call 68; (with_reducible refine (spec_l1Min.calls (rd x3_3 ((rd_T52 l0_1 x6_3).f0)) (rd x3_3 ((rd_T52 l0_1 x6_3).f1)) t505 _ A18.out).mono ?_); rintro e w' ⟨rfl, ⟨nd, rfl⟩⟩; (try first | exact ⟨rfl, _, World.drewN_drewN _ _ _⟩ | exact ⟨rfl, _, Eq.trans (World.drewN_drewN _ _ _) (congrArg (World.drewN _) (Nat.add_assoc _ _ _))⟩); have p19 : 0 ≤ (((rd_T52 l0_1 x6_3).f0) : Int) := of_decide_eq_true spec_l3Kinds.a1; have q19 : (((rd_T52 l0_1 x6_3).f0) : Int) < ((x3_3.length : Int) : Int) := of_decide_eq_true spec_l3Kinds.a1; obtain ⟨go19, co19, eo19, gb19, gl19, cl19, HG19⟩ := Kd.R_form HO_3.out (by omega); (first | cases eo19 | (injection eo19 with ea_ en_ ec_; (first | subst ea_ | (injection ea_ with ea_; subst ea_)); subst ec_; clear en_)); have GB19 := Aside0.mk gb19; have GG19 := Aside0.mk HG19; clear gb19 gl19 HG19; (first | simp only [add_plain] at hx503_0 | skip); (first | simp only [add_plain] at hx504_0 | skip); obtain ⟨hx19_0, hf19_0⟩ := Kd.R_celln 0 HO_3.out (((rd_T52 l0_1 x6_3).f0) : Int) p19 q19; replace p19 := eq_true p19; replace q19 := eq_true q19; obtain ⟨hy22_, hz22_⟩ := Kd.R_celln 0 HO_3.out (((rd_T52 l0_1 x6_3).f0) : Int) (of_decide_eq_true spec_l3Kinds.a1) (of_decide_eq_true spec_l3Kinds.a1); have HP22 := Kd.R_putg HO_3.out (((rd_T52 l0_1 x6_3).f0) : Int) t505) | ((with_reducible refine gate_store (t := 3) (p := 59) rfl ?_); (try (rw [drewN_self wr]; generalize hq_ : World.drewN wr _ = wr; have n0_ := Aside0.mk (Kd.R_at hq_ HO_3.out); have n1_ := Aside0.mk (blk_at hq_ BK494.out); have n2_ := Aside0.mk (below_at hq_ HB.out); clear hq_ HO_3 BK494 HB; have HO_3 := n0_; have BK494 := n1_; have HB := n2_; clear n0_ n1_ n2_; (try (obtain ⟨hy22_, hz22_⟩ := Kd.R_celln 0 HO_3.out (((rd_T52 l0_1 x6_3).f0) : Int) (of_decide_eq_true spec_l3Kinds.a1) (of_decide_eq_true spec_l3Kinds.a1))); (try (have HP22 := Kd.R_putg HO_3.out (((rd_T52 l0_1 x6_3).f0) : Int) t505)))); refine store_event (t := 3) (p := 59) (v := ?vo_w23) (w1 := (wr.setCell ⟨go19, (((rd_T52 l0_1 x6_3).f0) : Int).toNat, none⟩ (.int .i64 t505))) ?hg ?ho ?hn ?hr ?_; (case ho => rfl); (case hg => rfl); (case hn => rfl); (case hr => first | (go_simp; done) | (go_simp; rfl)); intro w23 hw; have hg : wr.grownBy w23 (some go19) := (by rw [hw]; exact HP22.2); have hp_ : Kd.R (Kd.int .i64) 3 w23 w.heap.size (fun _ => True) (.slice (some ⟨go19, 0, none⟩) x3_3.length co11) y506 := (by rw [hw, Ny506.out]; exact HP22.1); clear HP22; have n0_ := Aside0.mk (hp_); have n1_ := Aside0.mk (blk_grown (g := gb494) (o := .cells #[.slice A0_0 l0_0.length c0_0, .slice (some ad501) l0_1.length c0_1] 30 (0, 0)) spec_l3Kinds.a2 hg (Kd.R_ne HO_3.out BK494.out (by decide))); have n2_ := Aside0.mk ((by rw [hw]; exact below_set (HB.out) GB19.out : Below w.heap.size w w23)); clear HO_3; clear BK494; clear HB; have HO_3 := n0_; have BK494 := n1_; have HB := n2_; clear n0_ n1_ n2_; clear hg hw hp_; have p20 : 0 ≤ (((rd_T52 l0_1 x6_3).f1) : Int) := of_decide_eq_true spec_l3Kinds.a1; have q20 : (((rd_T52 l0_1 x6_3).f1) : Int) < ((x3_3.length : Int) : Int) := of_decide_eq_true spec_l3Kinds.a1; obtain ⟨hx20_0, hf20_0⟩ := Kd.R_celln 0 HO_3.out (((rd_T52 l0_1 x6_3).f1) : Int) p20 q20; replace p20 := eq_true p20; replace q20 := eq_true q20; obtain ⟨hy24_, hz24_⟩ := Kd.R_celln 0 HO_3.out (((rd_T52 l0_1 x6_3).f1) : Int) (of_decide_eq_true spec_l3Kinds.a1) (of_decide_eq_true spec_l3Kinds.a1); have HP24 := Kd.R_putg HO_3.out (((rd_T52 l0_1 x6_3).f1) : Int) t505) | ((with_reducible refine gate_store (t := 3) (p := 63) rfl ?_); (try (rw [drewN_self w23]; generalize hq_ : World.drewN w23 _ = w23; have n0_ := Aside0.mk (Kd.R_at hq_ HO_3.out); have n1_ := Aside0.mk (blk_at hq_ BK494.out); have n2_ := Aside0.mk (below_at hq_ HB.out); clear hq_ HO_3 BK494 HB; have HO_3 := n0_; have BK494 := n1_; have HB := n2_; clear n0_ n1_ n2_; (try (obtain ⟨hy24_, hz24_⟩ := Kd.R_celln 0 HO_3.out (((rd_T52 l0_1 x6_3).f1) : Int) (of_decide_eq_true spec_l3Kinds.a1) (of_decide_eq_true spec_l3Kinds.a1))); (try (have HP24 := Kd.R_putg HO_3.out (((rd_T52 l0_1 x6_3).f1) : Int) t505)))); refine store_event (t := 3) (p := 63) (v := ?vo_w25) (w1 := (w23.setCell ⟨go19, (((rd_T52 l0_1 x6_3).f1) : Int).toNat, none⟩ (.int .i64 t505))) ?hg ?ho ?hn ?hr ?_; (case ho => rfl); (case hg => rfl); (case hn => rfl); (case hr => first | (go_simp; done) | (go_simp; rfl)); intro w25 hw; have hg : w23.grownBy w25 (some go19) := (by rw [hw]; exact HP24.2); have hp_ : Kd.R (Kd.int .i64) 3 w25 w.heap.size (fun _ => True) (.slice (some ⟨go19, 0, none⟩) x3_3.length co11) y507 := (by rw [hw, Ny507.out]; exact HP24.1); clear HP24; have n0_ := Aside0.mk (hp_); have n1_ := Aside0.mk (blk_grown (g := gb494) (o := .cells #[.slice A0_0 l0_0.length c0_0, .slice (some ad501) l0_1.length c0_1] 30 (0, 0)) spec_l3Kinds.a2 hg (Kd.R_ne HO_3.out BK494.out (by decide))); have n2_ := Aside0.mk ((by rw [hw]; exact below_set (HB.out) GB19.out : Below w.heap.size w w25)); clear HO_3; clear BK494; clear HB; have HO_3 := n0_; have BK494 := n1_; have HB := n2_; clear n0_ n1_ n2_; clear hg hw hp_))
               repeat (go_quiet (first | (go_at_call 68; (with_reducible refine (spec_l1Min.calls (rd x3_3 ((rd_T52 l0_1 x6_3).f0)) (rd x3_3 ((rd_T52 l0_1 x6_3).f1)) t505 _ A18.out).mono ?_); rintro e w' ⟨rfl, ⟨nd, rfl⟩⟩; (try first | exact ⟨rfl, _, World.drewN_drewN _ _ _⟩ | exact ⟨rfl, _, Eq.trans (World.drewN_drewN _ _ _) (congrArg (World.drewN _) (Nat.add_assoc _ _ _))⟩); have p19 : 0 ≤ (((rd_T52 l0_1 x6_3).f0) : Int) := of_decide_eq_true spec_l3Kinds.a1; have q19 : (((rd_T52 l0_1 x6_3).f0) : Int) < ((x3_3.length : Int) : Int) := of_decide_eq_true spec_l3Kinds.a1; obtain ⟨go19, co19, eo19, gb19, gl19, cl19, HG19⟩ := Kd.R_form HO_3.out (by omega); (first | cases eo19 | (injection eo19 with ea_ en_ ec_; (first | subst ea_ | (injection ea_ with ea_; subst ea_)); subst ec_; clear en_)); have GB19 := Aside0.mk gb19; have GG19 := Aside0.mk HG19; clear gb19 gl19 HG19; (first | simp only [add_plain] at hx503_0 | skip); (first | simp only [add_plain] at hx504_0 | skip); obtain ⟨hx19_0, hf19_0⟩ := Kd.R_celln 0 HO_3.out (((rd_T52 l0_1 x6_3).f0) : Int) p19 q19; replace p19 := eq_true p19; replace q19 := eq_true q19; obtain ⟨hy22_, hz22_⟩ := Kd.R_celln 0 HO_3.out (((rd_T52 l0_1 x6_3).f0) : Int) (of_decide_eq_true spec_l3Kinds.a1) (of_decide_eq_true spec_l3Kinds.a1); have HP22 := Kd.R_putg HO_3.out (((rd_T52 l0_1 x6_3).f0) : Int) t505) | ((with_reducible refine gate_store (t := 3) (p := 59) rfl ?_); (try (rw [drewN_self wr]; generalize hq_ : World.drewN wr _ = wr; have n0_ := Aside0.mk (Kd.R_at hq_ HO_3.out); have n1_ := Aside0.mk (blk_at hq_ BK494.out); have n2_ := Aside0.mk (below_at hq_ HB.out); clear hq_ HO_3 BK494 HB; have HO_3 := n0_; have BK494 := n1_; have HB := n2_; clear n0_ n1_ n2_; (try (obtain ⟨hy22_, hz22_⟩ := Kd.R_celln 0 HO_3.out (((rd_T52 l0_1 x6_3).f0) : Int) (of_decide_eq_true spec_l3Kinds.a1) (of_decide_eq_true spec_l3Kinds.a1))); (try (have HP22 := Kd.R_putg HO_3.out (((rd_T52 l0_1 x6_3).f0) : Int) t505)))); refine store_event (t := 3) (p := 59) (v := ?vo_w23) (w1 := (wr.setCell ⟨go19, (((rd_T52 l0_1 x6_3).f0) : Int).toNat, none⟩ (.int .i64 t505))) ?hg ?ho ?hn ?hr ?_; (case ho => rfl); (case hg => rfl); (case hn => rfl); (case hr => first | (go_simp; done) | (go_simp; rfl)); intro w23 hw; have hg : wr.grownBy w23 (some go19) := (by rw [hw]; exact HP22.2); have hp_ : Kd.R (Kd.int .i64) 3 w23 w.heap.size (fun _ => True) (.slice (some ⟨go19, 0, none⟩) x3_3.length co11) y506 := (by rw [hw, Ny506.out]; exact HP22.1); clear HP22; have n0_ := Aside0.mk (hp_); have n1_ := Aside0.mk (blk_grown (g := gb494) (o := .cells #[.slice A0_0 l0_0.length c0_0, .slice (some ad501) l0_1.length c0_1] 30 (0, 0)) spec_l3Kinds.a2 hg (Kd.R_ne HO_3.out BK494.out (by decide))); have n2_ := Aside0.mk ((by rw [hw]; exact below_set (HB.out) GB19.out : Below w.heap.size w w23)); clear HO_3; clear BK494; clear HB; have HO_3 := n0_; have BK494 := n1_; have HB := n2_; clear n0_ n1_ n2_; clear hg hw hp_; have p20 : 0 ≤ (((rd_T52 l0_1 x6_3).f1) : Int) := of_decide_eq_true spec_l3Kinds.a1; have q20 : (((rd_T52 l0_1 x6_3).f1) : Int) < ((x3_3.length : Int) : Int) := of_decide_eq_true spec_l3Kinds.a1; obtain ⟨hx20_0, hf20_0⟩ := Kd.R_celln 0 HO_3.out (((rd_T52 l0_1 x6_3).f1) : Int) p20 q20; replace p20 := eq_true p20; replace q20 := eq_true q20; obtain ⟨hy24_, hz24_⟩ := Kd.R_celln 0 HO_3.out (((rd_T52 l0_1 x6_3).f1) : Int) (of_decide_eq_true spec_l3Kinds.a1) (of_decide_eq_true spec_l3Kinds.a1); have HP24 := Kd.R_putg HO_3.out (((rd_T52 l0_1 x6_3).f1) : Int) t505) | ((with_reducible refine gate_store (t := 3) (p := 63) rfl ?_); (try (rw [drewN_self w23]; generalize hq_ : World.drewN w23 _ = w23; have n0_ := Aside0.mk (Kd.R_at hq_ HO_3.out); have n1_ := Aside0.mk (blk_at hq_ BK494.out); have n2_ := Aside0.mk (below_at hq_ HB.out); clear hq_ HO_3 BK494 HB; have HO_3 := n0_; have BK494 := n1_; have HB := n2_; clear n0_ n1_ n2_; (try (obtain ⟨hy24_, hz24_⟩ := Kd.R_celln 0 HO_3.out (((rd_T52 l0_1 x6_3).f1) : Int) (of_decide_eq_true spec_l3Kinds.a1) (of_decide_eq_true spec_l3Kinds.a1))); (try (have HP24 := Kd.R_putg HO_3.out (((rd_T52 l0_1 x6_3).f1) : Int) t505)))); refine store_event (t := 3) (p := 63) (v := ?vo_w25) (w1 := (w23.setCell ⟨go19, (((rd_T52 l0_1 x6_3).f1) : Int).toNat, none⟩ (.int .i64 t505))) ?hg ?ho ?hn ?hr ?_; (case ho => rfl); (case hg => rfl); (case hn => rfl); (case hr => first | (go_simp; done) | (go_simp; rfl)); intro w25 hw; have hg : w23.grownBy w25 (some go19) := (by rw [hw]; exact HP24.2); have hp_ : Kd.R (Kd.int .i64) 3 w25 w.heap.size (fun _ => True) (.slice (some ⟨go19, 0, none⟩) x3_3.length co11) y507 := (by rw [hw, Ny507.out]; exact HP24.1); clear HP24; have n0_ := Aside0.mk (hp_); have n1_ := Aside0.mk (blk_grown (g := gb494) (o := .cells #[.slice A0_0 l0_0.length c0_0, .slice (some ad501) l0_1.length c0_1] 30 (0, 0)) spec_l3Kinds.a2 hg (Kd.R_ne HO_3.out BK494.out (by decide))); have n2_ := Aside0.mk ((by rw [hw]; exact below_set (HB.out) GB19.out : Below w.heap.size w w25)); clear HO_3; clear BK494; clear HB; have HO_3 := n0_; have BK494 := n1_; have HB := n2_; clear n0_ n1_ n2_; clear hg hw hp_)); try go_wp2_with (first | (go_at_call 68; (with_reducible refine (spec_l1Min.calls (rd x3_3 ((rd_T52 l0_1 x6_3).f0)) (rd x3_3 ((rd_T52 l0_1 x6_3).f1)) t505 _ A18.out).mono ?_); rintro e w' ⟨rfl, ⟨nd, rfl⟩⟩; (try first | exact ⟨rfl, _, World.drewN_drewN _ _ _⟩ | exact ⟨rfl, _, Eq.trans (World.drewN_drewN _ _ _) (congrArg (World.drewN _) (Nat.add_assoc _ _ _))⟩); have p19 : 0 ≤ (((rd_T52 l0_1 x6_3).f0) : Int) := of_decide_eq_true spec_l3Kinds.a1; have q19 : (((rd_T52 l0_1 x6_3).f0) : Int) < ((x3_3.length : Int) : Int) := of_decide_eq_true spec_l3Kinds.a1; obtain ⟨go19, co19, eo19, gb19, gl19, cl19, HG19⟩ := Kd.R_form HO_3.out (by omega); (first | cases eo19 | (injection eo19 with ea_ en_ ec_; (first | subst ea_ | (injection ea_ with ea_; subst ea_)); subst ec_; clear en_)); have GB19 := Aside0.mk gb19; have GG19 := Aside0.mk HG19; clear gb19 gl19 HG19; (first | simp only [add_plain] at hx503_0 | skip); (first | simp only [add_plain] at hx504_0 | skip); obtain ⟨hx19_0, hf19_0⟩ := Kd.R_celln 0 HO_3.out (((rd_T52 l0_1 x6_3).f0) : Int) p19 q19; replace p19 := eq_true p19; replace q19 := eq_true q19; obtain ⟨hy22_, hz22_⟩ := Kd.R_celln 0 HO_3.out (((rd_T52 l0_1 x6_3).f0) : Int) (of_decide_eq_true spec_l3Kinds.a1) (of_decide_eq_true spec_l3Kinds.a1); have HP22 := Kd.R_putg HO_3.out (((rd_T52 l0_1 x6_3).f0) : Int) t505) | ((with_reducible refine gate_store (t := 3) (p := 59) rfl ?_); (try (rw [drewN_self wr]; generalize hq_ : World.drewN wr _ = wr; have n0_ := Aside0.mk (Kd.R_at hq_ HO_3.out); have n1_ := Aside0.mk (blk_at hq_ BK494.out); have n2_ := Aside0.mk (below_at hq_ HB.out); clear hq_ HO_3 BK494 HB; have HO_3 := n0_; have BK494 := n1_; have HB := n2_; clear n0_ n1_ n2_; (try (obtain ⟨hy22_, hz22_⟩ := Kd.R_celln 0 HO_3.out (((rd_T52 l0_1 x6_3).f0) : Int) (of_decide_eq_true spec_l3Kinds.a1) (of_decide_eq_true spec_l3Kinds.a1))); (try (have HP22 := Kd.R_putg HO_3.out (((rd_T52 l0_1 x6_3).f0) : Int) t505)))); refine store_event (t := 3) (p := 59) (v := ?vo_w23) (w1 := (wr.setCell ⟨go19, (((rd_T52 l0_1 x6_3).f0) : Int).toNat, none⟩ (.int .i64 t505))) ?hg ?ho ?hn ?hr ?_; (case ho => rfl); (case hg => rfl); (case hn => rfl); (case hr => first | (go_simp; done) | (go_simp; rfl)); intro w23 hw; have hg : wr.grownBy w23 (some go19) := (by rw [hw]; exact HP22.2); have hp_ : Kd.R (Kd.int .i64) 3 w23 w.heap.size (fun _ => True) (.slice (some ⟨go19, 0, none⟩) x3_3.length co11) y506 := (by rw [hw, Ny506.out]; exact HP22.1); clear HP22; have n0_ := Aside0.mk (hp_); have n1_ := Aside0.mk (blk_grown (g := gb494) (o := .cells #[.slice A0_0 l0_0.length c0_0, .slice (some ad501) l0_1.length c0_1] 30 (0, 0)) spec_l3Kinds.a2 hg (Kd.R_ne HO_3.out BK494.out (by decide))); have n2_ := Aside0.mk ((by rw [hw]; exact below_set (HB.out) GB19.out : Below w.heap.size w w23)); clear HO_3; clear BK494; clear HB; have HO_3 := n0_; have BK494 := n1_; have HB := n2_; clear n0_ n1_ n2_; clear hg hw hp_; have p20 : 0 ≤ (((rd_T52 l0_1 x6_3).f1) : Int) := of_decide_eq_true spec_l3Kinds.a1; have q20 : (((rd_T52 l0_1 x6_3).f1) : Int) < ((x3_3.length : Int) : Int) := of_decide_eq_true spec_l3Kinds.a1; obtain ⟨hx20_0, hf20_0⟩ := Kd.R_celln 0 HO_3.out (((rd_T52 l0_1 x6_3).f1) : Int) p20 q20; replace p20 := eq_true p20; replace q20 := eq_true q20; obtain ⟨hy24_, hz24_⟩ := Kd.R_celln 0 HO_3.out (((rd_T52 l0_1 x6_3).f1) : Int) (of_decide_eq_true spec_l3Kinds.a1) (of_decide_eq_true spec_l3Kinds.a1); have HP24 := Kd.R_putg HO_3.out (((rd_T52 l0_1 x6_3).f1) : Int) t505) | ((with_reducible refine gate_store (t := 3) (p := 63) rfl ?_); (try (rw [drewN_self w23]; generalize hq_ : World.drewN w23 _ = w23; have n0_ := Aside0.mk (Kd.R_at hq_ HO_3.out); have n1_ := Aside0.mk (blk_at hq_ BK494.out); have n2_ := Aside0.mk (below_at hq_ HB.out); clear hq_ HO_3 BK494 HB; have HO_3 := n0_; have BK494 := n1_; have HB := n2_; clear n0_ n1_ n2_; (try (obtain ⟨hy24_, hz24_⟩ := Kd.R_celln 0 HO_3.out (((rd_T52 l0_1 x6_3).f1) : Int) (of_decide_eq_true spec_l3Kinds.a1) (of_decide_eq_true spec_l3Kinds.a1))); (try (have HP24 := Kd.R_putg HO_3.out (((rd_T52 l0_1 x6_3).f1) : Int) t505)))); refine store_event (t := 3) (p := 63) (v := ?vo_w25) (w1 := (w23.setCell ⟨go19, (((rd_T52 l0_1 x6_3).f1) : Int).toNat, none⟩ (.int .i64 t505))) ?hg ?ho ?hn ?hr ?_; (case ho => rfl); (case hg => rfl); (case hn => rfl); (case hr => first | (go_simp; done) | (go_simp; rfl)); intro w25 hw; have hg : w23.grownBy w25 (some go19) := (by rw [hw]; exact HP24.2); have hp_ : Kd.R (Kd.int .i64) 3 w25 w.heap.size (fun _ => True) (.slice (some ⟨go19, 0, none⟩) x3_3.length co11) y507 := (by rw [hw, Ny507.out]; exact HP24.1); clear HP24; have n0_ := Aside0.mk (hp_); have n1_ := Aside0.mk (blk_grown (g := gb494) (o := .cells #[.slice A0_0 l0_0.length c0_0, .slice (some ad501) l0_1.length c0_1] 30 (0, 0)) spec_l3Kinds.a2 hg (Kd.R_ne HO_3.out BK494.out (by decide))); have n2_ := Aside0.mk ((by rw [hw]; exact below_set (HB.out) GB19.out : Below w.heap.size w w25)); clear HO_3; clear BK494; clear HB; have HO_3 := n0_; have BK494 := n1_; have HB := n2_; clear n0_ n1_ n2_; clear hg hw hp_)))
               (try simp only [← hl3_3])
               go_roundg k3
               case measure => have := HK1.out; have := HK2.out; have := HK3.out; omega
               case rel => exact ⟨(y507), (wrap64 (x6_3 + 1)), (by first | rfl | (simp; done) | (simp [*]; done)), H', ⟨by have := HK1.out; have := HK2.out; have := HK3.out; omega⟩, ⟨by (try simp only [hl3_3]); (with_reducible repeat (first | apply Kd.R_alloc | apply Kd.R_drewN | apply Kd.R_drew)); exact HO_3.out⟩, ⟨by (try simp only [hl3_3]); (with_reducible repeat (first | refine blk_drewN ?_ _ | refine blk_drew ?_ | refine blk_alloc ?_ _)); exact BK494.out⟩, ⟨spec_l3Kinds.a0⟩⟩
              ·rw [if_neg c17] at H
               exact absurd H (by simp)
             ·rw [if_neg c16] at H
              exact absurd H (by simp)
            ·rw [if_neg c15] at H
             exact absurd H (by simp)
           ·rw [if_neg c14] at H
            exact absurd H (by simp)
          ·rw [if_neg c13] at H
           exact absurd H (by simp)
         ·rw [if_neg c12] at H
          have c12b0 : decide (x6_3 < (l0_1.length : Int)) = false := decide_eq_false c12
          (try (have c12b1 := c12b0; simp only [hl3_3] at c12b1))
          clear c12
          have H' := Aside0.mk H
          clear H
          have hcz26_0 : wr.cell? ⟨gb494, 0, none⟩ = some (.slice A0_0 l0_0.length c0_0) := (blk_cell BK494.out 0).trans rfl
          have hcz26_1 : wr.cell? ⟨gb494, 1, none⟩ = some (.slice A0_1 l0_1.length c0_1) := (blk_cell BK494.out 1).trans rfl
          have hfz26_0 := blk_frozen BK494.out 0
          have hfz26_1 := blk_frozen BK494.out 1
          go_wp2
          repeat (go_quiet (fail); try go_wp2)
          (try simp only [← hl3_3])
          go_roundg k3
          case measure => have := HK1.out; have := HK2.out; have := HK3.out; omega
          case rel => exact ⟨(x3_3), (wrap64 (x5_2 + 1)), (by first | rfl | (simp; done) | (simp [*]; done)), H', ⟨by have := HK1.out; have := HK2.out; have := HK3.out; omega⟩, ⟨by (try simp only [hl3_3]); (with_reducible repeat (first | apply Kd.R_alloc | apply Kd.R_drewN | apply Kd.R_drew)); exact HO_3.out⟩, ⟨by (try simp only [hl3_3]); (with_reducible repeat (first | refine blk_drewN ?_ _ | refine blk_drew ?_ | refine blk_alloc ?_ _)); exact BK494.out⟩, ⟨spec_l3Kinds.a0⟩⟩
      ·rw [if_neg c10] at H
       have c10b0 : decide (x5_2 < (x3_2.length : Int)) = false := decide_eq_false c10
       clear c10
       obtain rfl := Option.some.inj H
       obtain ⟨Ao27, co27, eo27⟩ := Kd.R_slice HO_3.out
       subst eo27
       go_wp2
       repeat (go_quiet (fail); try go_wp2)
       go_ret
       exact ⟨_, by first | rfl | (simp [errW_none, errW_some] <;> rfl) | (simp [*, errW_none, errW_some] <;> rfl), spec_l3Kinds.a4, spec_l3Kinds.a0⟩

end Go.Proofs.Ytlpkicbmcpmemaa.Q

