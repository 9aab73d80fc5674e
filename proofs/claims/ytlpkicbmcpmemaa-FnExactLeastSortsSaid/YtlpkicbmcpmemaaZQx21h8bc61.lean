/- Functions of the program as plain Lean functions, and that the calls come to what they say. -/
import Derived.Test.YtlpkicbmcpmemaaZQx0h0f72a
import Derived.Test.YtlpkicbmcpmemaaZQx1h8a6a8
import Derived.Test.YtlpkicbmcpmemaaZQx3h1c538
import Derived.Test.YtlpkicbmcpmemaaZQx4h1ed93
import Derived.Test.YtlpkicbmcpmemaaZQx5h4661f
import Derived.Test.YtlpkicbmcpmemaaZQx8haf1cc
import Derived.Test.YtlpkicbmcpmemaaZQx19hcada7
import Derived.Test.YtlpkicbmcpmemaaZQx20ha9f1c
namespace Go.Proofs.Ytlpkicbmcpmemaa.Q
open Go.RowKit Go.Proofs.YtlpkicbmcpmemaaW.PrintWords Go.Proofs.YtlpkicbmcpmemaaW.PrintLast Go.Proofs.YtlpkicbmcpmemaaW.PrintMore
attribute [local go_sem] max2_int min2_int max_two min_two max_three min_three max_four min_four   -- for this text's walks alone
set_option linter.unusedVariables false
set_option linter.unusedSimpArgs false

/-! ### laws_FnExactGreatestSorts: function 8 -/
/-! ### spec_LeastSorts: function 29 -/
theorem spec_LeastSorts.a0 {P_ : Prop} (h_ : P_ := by repeat (first | (with_reducible first | exact HB.out | apply below_alloc | apply pw_below_drewN | apply below_drew1 | refine below_set ?_ GE598.out) | exact HB.out)) : P_ := h_
theorem spec_LeastSorts.a1 {P_ : Prop} (h_ : P_ := by (with_reducible repeat (first | refine blk_drewN ?_ _ | refine blk_drew ?_ | refine blk_alloc ?_ _)); exact BK598.out) : P_ := h_
theorem spec_LeastSorts.a2 {P_ : Prop} (h_ : P_ := by first | rfl | (simp; done) | (simp [*]; done)) : P_ := h_
theorem spec_LeastSorts.a3 {P_ : Prop} (h_ : P_ := by (with_reducible repeat (first | apply Kd.R_alloc | apply Kd.R_drewN | apply Kd.R_drew)); exact HO_6.out) : P_ := h_
theorem spec_LeastSorts.a4 {P_ : Prop} (h_ : P_ := by (try simp only [List.map_toArray, List.map_cons, List.map_nil]); first | done | rfl | (simp only [List.length_drop, List.length_take]; rfl)) : P_ := h_
mutual
def spec_LeastSorts.j0 : Nat → Int → Int → Bool → List ByteArray → List (S52) → Option (Int)
 | 0, _, _, _, _, _ => none
 | k + 1, x1, x5, x22, x599000, x599001 => if x22 = true then (some x5) else ((spec_l3Up.f k x599000 x599001).bind fun t602 => (spec_LeastSorts.l0 k x1 x5 t602 0))
def spec_LeastSorts.l0 : Nat → Int → Int → List Int → Int → Option (Int)
 | 0, _, _, _, _ => none
 | k + 1, x1, x5, x6, x7 => if x7 < (x6.length : Int) then ((spec_l2Has.f x1 x7).bind fun t605 => (spec_LeastSorts.l1 k x1 x5 x6 x7 t605 0)) else (some x5)
def spec_LeastSorts.l1 : Nat → Int → Int → List Int → Int → Bool → Int → Option (Int)
 | 0, _, _, _, _, _, _ => none
 | k + 1, x1, x5, x6, x7, x8, x9 => if x9 < (x6.length : Int) then (if x8 = true then (if x9 = x7 then (spec_LeastSorts.l1 k x1 x5 x6 x7 true (wrap64 (x9 + 1))) else ((spec_l2Has.f x1 x9).bind fun t606 => (if t606 = true then (if 0 ≤ x9 then ((spec_l2Has.f (rd x6 x9) x7).bind fun t608 => (spec_LeastSorts.l1 k x1 x5 x6 x7 (!t608) (wrap64 (x9 + 1)))) else (none)) else (spec_LeastSorts.l1 k x1 x5 x6 x7 true (wrap64 (x9 + 1)))))) else (spec_LeastSorts.l1 k x1 x5 x6 x7 false (wrap64 (x9 + 1)))) else (if x8 = true then ((spec_l2Bit.f x7).bind fun t609 => (spec_LeastSorts.l0 k x1 (Go.bits .or .i64 x5 t609) x6 (wrap64 (x7 + 1)))) else (spec_LeastSorts.l0 k x1 x5 x6 (wrap64 (x7 + 1))))
end
def spec_LeastSorts.f (k : Nat) (l0_0 : List ByteArray) (l0_1 : List (S52)) (a1 : Int) : Option (Int) := (spec_IsSorts.f k l0_0 l0_1).bind fun t599 => (if t599 = true then ((spec_l2Bit.f (l0_0.length : Int)).bind fun t600 => ((spec_IsSubset.f a1 (wrap64 (t600 - 1))).bind fun t601 => (spec_LeastSorts.j0 k a1 0 (!t601) l0_0 l0_1))) else (spec_LeastSorts.j0 k a1 0 true l0_0 l0_1))
set_option maxHeartbeats 8000000 in
set_option maxRecDepth 100000 in
theorem spec_LeastSorts.calls (k : Nat) (A0_0 : Option Addr) (c0_0 : Nat) (l0_0 : List ByteArray) (A0_1 : Option Addr) (c0_1 : Nat) (l0_1 : List (S52)) (a1 : Int) (r : Int) (w : World) (hr0_0 : Kd.C Kd.string w A0_0 l0_0.length l0_0) (hc0_0 : l0_0.length ≤ c0_0) (hr0_1 : Kd.C k52 w A0_1 l0_1.length l0_1) (hc0_1 : l0_1.length ≤ c0_1) (h : spec_LeastSorts.f k l0_0 l0_1 a1 = some r) :
  Calls Try.prog 29 #[.agg #[.slice A0_0 l0_0.length c0_0, .slice A0_1 l0_1.length c0_1], .int .i64 a1] w fun e w' => e = .returned (.int .i64 r) ∧ Below w.heap.size w w' := by
 have hu30 := Try.underlying30
 have HR0_0 := Aside0.mk hr0_0
 have HC0_0 := Aside0.mk hc0_0
 clear hr0_0 hc0_0
 have HR0_1 := Aside0.mk hr0_1
 have HC0_1 := Aside0.mk hc0_1
 clear hr0_1 hc0_1
 have HB := Aside0.mk (Below.refl w.heap.size w)
 have H : ((spec_IsSorts.f k l0_0 l0_1).bind fun t599 => (if t599 = true then ((spec_l2Bit.f (l0_0.length : Int)).bind fun t600 => ((spec_IsSubset.f a1 (wrap64 (t600 - 1))).bind fun t601 => (spec_LeastSorts.j0 k a1 0 (!t601) l0_0 l0_1))) else (spec_LeastSorts.j0 k a1 0 true l0_0 l0_1))) = some r := h
 clear h
 have HC3 := Aside0.mk H
 clear H
 go_enter Try.func29, Try.ntmps29
 go_upto_region 2 with (first | ((with_reducible refine gate_dst (N := 2) rfl ?_); (try (refine gate_guard (by rfl) ?_; dsimp only)); refine box_event ?hg (N := 2) ?hd (cs := #[.slice A0_0 l0_0.length c0_0, .slice A0_1 l0_1.length c0_1]) (t := 30) ?hr ?_; (case hd => rfl); (case hg => rfl); (case hr => first | (go_simp; done) | (go_simp; rfl)); intro gb598 hg w4 hbox hb; have n0_ := Aside0.mk (below_step (by repeat (first | (with_reducible first | exact HB.out | apply below_alloc | apply pw_below_drewN | apply below_drew1) | exact HB.out)) hb); have n1_ := Aside0.mk (hbox); have n2_ := Aside0.mk ((by rw [hg]; exact (below_size (by repeat (first | (with_reducible first | exact HB.out | apply below_alloc | apply pw_below_drewN | apply below_drew1) | exact HB.out))) : w.heap.size ≤ gb598)); have n3_ := Aside0.mk ((by rw [hg]; exact (below_size (by repeat (first | (with_reducible first | exact HB.out | apply below_alloc | apply pw_below_drewN | apply below_drew1) | exact HB.out))) : w.heap.size ≤ gb598)); clear HB; have HB := n0_; have BK598 := n1_; have GW598 := n2_; have GE598 := n3_; clear n0_ n1_ n2_ n3_; clear hb hbox hg))
 (try simp only [Act.put, List.setIfInBounds_toArray, List.set_cons_zero, List.set_cons_succ])
 go_cut [22] (fun v22 wc => ∃ (kq : Nat) (x22_2 : Bool), v22 = .bool x22_2 ∧ Aside0 (spec_LeastSorts.j0 kq a1 0 x22_2 l0_0 l0_1 = some r) ∧ Aside0 (kq ≤ k) ∧ Aside0 (wc.heap[gb598]? = some (.cells #[(.slice A0_0 l0_0.length c0_0), (.slice A0_1 l0_1.length c0_1)] 30 (0, 0))) ∧ Aside0 (Below w.heap.size w wc))
 case first =>
  have H := HC3.out
  clear HC3
  replace H := Option.bind_eq_some_iff.mp H
  obtain ⟨t599, A50, H⟩ := H
  replace H : (if t599 = true then ((spec_l2Bit.f (l0_0.length : Int)).bind fun t600 => ((spec_IsSubset.f a1 (wrap64 (t600 - 1))).bind fun t601 => (spec_LeastSorts.j0 k a1 0 (!t601) l0_0 l0_1))) else (spec_LeastSorts.j0 k a1 0 true l0_0 l0_1)) = some r := H
  have A5 := Aside0.mk A50
  clear A50
  by_cases c6 : t599 = true
  ·subst c6
   have H1 : ((spec_l2Bit.f (l0_0.length : Int)).bind fun t600 => ((spec_IsSubset.f a1 (wrap64 (t600 - 1))).bind fun t601 => (spec_LeastSorts.j0 k a1 0 (!t601) l0_0 l0_1))) = some r := by rw [if_pos rfl] at H; exact H
   clear H
   have H := H1
   clear H1
   replace H := Option.bind_eq_some_iff.mp H
   obtain ⟨t600, A70, H⟩ := H
   replace H : ((spec_IsSubset.f a1 (wrap64 (t600 - 1))).bind fun t601 => (spec_LeastSorts.j0 k a1 0 (!t601) l0_0 l0_1)) = some r := H
   have A7 := Aside0.mk A70
   clear A70
   replace H := Option.bind_eq_some_iff.mp H
   obtain ⟨t601, A80, H⟩ := H
   replace H : (spec_LeastSorts.j0 k a1 0 (!t601) l0_0 l0_1) = some r := H
   have A8 := Aside0.mk A80
   clear A80
   have H' := Aside0.mk H
   clear H
   have hcz9_0 : w4.cell? ⟨gb598, 0, none⟩ = some (.slice A0_0 l0_0.length c0_0) := (blk_cell BK598.out 0).trans rfl
   have hcz9_1 : w4.cell? ⟨gb598, 1, none⟩ = some (.slice A0_1 l0_1.length c0_1) := (blk_cell BK598.out 1).trans rfl
   have hfz9_0 := blk_frozen BK598.out 0
   have hfz9_1 := blk_frozen BK598.out 1
   go_wp2_with (first | ((with_reducible refine gate_callee (f := 13) rfl ?_); refine goesL_ (some 11) rfl rfl Try.func13 (by kernel_rfl) rfl #[.agg #[.slice A0_0 l0_0.length c0_0, .slice A0_1 l0_1.length c0_1]] rfl spec_LeastSorts.a4 ?_; (with_reducible refine (spec_IsSorts.calls k _ _ l0_0 _ _ l0_1 true _ ?side1 ?side2 ?side3 ?side4 A5.out).mono ?_); (case side1 => repeat (first | exact (Kd.C_below HR0_0.out HB.out) | (with_reducible refine Kd.C_alloc ?_ _) | (with_reducible refine Kd.C_drewN ?_ _) | (with_reducible refine Kd.C_drew ?_))); (case side2 => exact HC0_0.out); (case side3 => repeat (first | exact (Kd.C_below HR0_1.out HB.out) | (with_reducible refine Kd.C_alloc ?_ _) | (with_reducible refine Kd.C_drewN ?_ _) | (with_reducible refine Kd.C_drew ?_))); (case side4 => exact HC0_1.out); rintro e w10 ⟨rfl, hb⟩; refine ⟨_, rfl, ?_⟩; have n0_ := Aside0.mk (blk_below (g := gb598) (o := .cells #[.slice A0_0 l0_0.length c0_0, .slice A0_1 l0_1.length c0_1] 30 (0, 0)) spec_LeastSorts.a1 hb); have n1_ := Aside0.mk (below_step spec_LeastSorts.a0 hb); clear BK598; clear HB; have BK598 := n0_; have HB := n1_; clear n0_ n1_; (try clear hb); (try clear hb2); (try clear hk); (try clear hi); have hcz11_0 : w10.cell? ⟨gb598, 0, none⟩ = some (.slice A0_0 l0_0.length c0_0) := (blk_cell BK598.out 0).trans rfl; have hcz11_1 : w10.cell? ⟨gb598, 1, none⟩ = some (.slice A0_1 l0_1.length c0_1) := (blk_cell BK598.out 1).trans rfl; have hfz11_0 := blk_frozen BK598.out 0; have hfz11_1 := blk_frozen BK598.out 1) | (go_at_call 55; (with_reducible refine (spec_l2Bit.calls (l0_0.length : Int) t600 _ A7.out).mono ?_); rintro e w' ⟨rfl, ⟨nd, rfl⟩⟩) | (go_at_call 34; (with_reducible refine (spec_IsSubset.calls a1 (wrap64 (t600 - 1)) t601 _ A8.out).mono ?_); rintro e w' ⟨rfl, ⟨nd, rfl⟩⟩))
   go_meet
   case rel => exact ⟨_, (!t601), spec_LeastSorts.a2, H', ⟨by first | omega | exact Nat.le_refl _⟩, ⟨spec_LeastSorts.a1⟩, ⟨spec_LeastSorts.a0⟩⟩
  ·replace c6 := Bool.eq_false_iff.mpr c6
   subst c6
   have H1 : (spec_LeastSorts.j0 k a1 0 true l0_0 l0_1) = some r := by rw [if_neg (show ¬ (false = true) by decide)] at H; exact H
   clear H
   have H := H1
   clear H1
   have H' := Aside0.mk H
   clear H
   have hcz12_0 : w4.cell? ⟨gb598, 0, none⟩ = some (.slice A0_0 l0_0.length c0_0) := (blk_cell BK598.out 0).trans rfl
   have hcz12_1 : w4.cell? ⟨gb598, 1, none⟩ = some (.slice A0_1 l0_1.length c0_1) := (blk_cell BK598.out 1).trans rfl
   have hfz12_0 := blk_frozen BK598.out 0
   have hfz12_1 := blk_frozen BK598.out 1
   go_wp2_with (first | ((with_reducible refine gate_callee (f := 13) rfl ?_); refine goesL_ (some 11) rfl rfl Try.func13 (by kernel_rfl) rfl #[.agg #[.slice A0_0 l0_0.length c0_0, .slice A0_1 l0_1.length c0_1]] rfl spec_LeastSorts.a4 ?_; (with_reducible refine (spec_IsSorts.calls k _ _ l0_0 _ _ l0_1 false _ ?side1 ?side2 ?side3 ?side4 A5.out).mono ?_); (case side1 => repeat (first | exact (Kd.C_below HR0_0.out HB.out) | (with_reducible refine Kd.C_alloc ?_ _) | (with_reducible refine Kd.C_drewN ?_ _) | (with_reducible refine Kd.C_drew ?_))); (case side2 => exact HC0_0.out); (case side3 => repeat (first | exact (Kd.C_below HR0_1.out HB.out) | (with_reducible refine Kd.C_alloc ?_ _) | (with_reducible refine Kd.C_drewN ?_ _) | (with_reducible refine Kd.C_drew ?_))); (case side4 => exact HC0_1.out); rintro e w13 ⟨rfl, hb⟩; refine ⟨_, rfl, ?_⟩; have n0_ := Aside0.mk (blk_below (g := gb598) (o := .cells #[.slice A0_0 l0_0.length c0_0, .slice A0_1 l0_1.length c0_1] 30 (0, 0)) spec_LeastSorts.a1 hb); have n1_ := Aside0.mk (below_step spec_LeastSorts.a0 hb); clear BK598; clear HB; have BK598 := n0_; have HB := n1_; clear n0_ n1_; (try clear hb); (try clear hb2); (try clear hk); (try clear hi)))
   go_meet
   case rel => exact ⟨_, (true), spec_LeastSorts.a2, H', ⟨by first | omega | exact Nat.le_refl _⟩, ⟨spec_LeastSorts.a1⟩, ⟨spec_LeastSorts.a0⟩⟩
 case rest =>
  clear HC3
  try clear c1
  try clear c2
  try clear p2
  try clear c6
  try clear p6
  try clear c13
  try clear hcz11_0
  try clear hcz11_1
  try clear hcz12_0
  try clear hcz12_1
  try clear hcz9_0
  try clear hcz9_1
  try clear hfz11_0
  try clear hfz11_1
  try clear hfz12_0
  try clear hfz12_1
  try clear hfz9_0
  try clear hfz9_1
  obtain ⟨kq, x22_2, rfl, HA, HJ2, BK598, HB⟩ := hcut
  cases kq with
  | zero => exact absurd HA.out (by simp [spec_LeastSorts.j0])
  | succ kj2 =>
   have H := HA.out
   clear HA
   simp only [spec_LeastSorts.j0] at H
   by_cases c14 : x22_2 = true
   ·subst c14
    have H1 : (some 0) = some r := by rw [if_pos rfl] at H; exact H
    clear H
    have H := H1
    clear H1
    obtain rfl := Option.some.inj H
    go_wp2
    go_ret
    exact ⟨by first | rfl | (simp [errW_none, errW_some] <;> rfl) | (simp [*, errW_none, errW_some] <;> rfl), spec_LeastSorts.a0⟩
   ·replace c14 := Bool.eq_false_iff.mpr c14
    subst c14
    have H1 : ((spec_l3Up.f kj2 l0_0 l0_1).bind fun t602 => (spec_LeastSorts.l0 kj2 a1 0 t602 0)) = some r := by rw [if_neg (show ¬ (false = true) by decide)] at H; exact H
    clear H
    have H := H1
    clear H1
    replace H := Option.bind_eq_some_iff.mp H
    obtain ⟨t602, A150, H⟩ := H
    replace H : (spec_LeastSorts.l0 kj2 a1 0 t602 0) = some r := H
    have A15 := Aside0.mk A150
    clear A150
    have H' := Aside0.mk H
    clear H
    have hcz16_0 : wc.cell? ⟨gb598, 0, none⟩ = some (.slice A0_0 l0_0.length c0_0) := (blk_cell BK598.out 0).trans rfl
    have hcz16_1 : wc.cell? ⟨gb598, 1, none⟩ = some (.slice A0_1 l0_1.length c0_1) := (blk_cell BK598.out 1).trans rfl
    have hfz16_0 := blk_frozen BK598.out 0
    have hfz16_1 := blk_frozen BK598.out 1
    go_wp2_with (first | ((with_reducible refine gate_callee (f := 41) rfl ?_); refine goesL_ (some 25) rfl rfl Try.func41 (by kernel_rfl) rfl #[.agg #[.slice A0_0 l0_0.length c0_0, .slice A0_1 l0_1.length c0_1]] rfl spec_LeastSorts.a4 ?_; (with_reducible refine (spec_l3Up.calls kj2 _ _ l0_0 _ _ l0_1 t602 _ ?side1 ?side2 ?side3 ?side4 A15.out).mono ?_); (case side1 => repeat (first | exact (Kd.C_below HR0_0.out HB.out) | (with_reducible refine Kd.C_alloc ?_ _) | (with_reducible refine Kd.C_drewN ?_ _) | (with_reducible refine Kd.C_drew ?_))); (case side2 => exact HC0_0.out); (case side3 => repeat (first | exact (Kd.C_below HR0_1.out HB.out) | (with_reducible refine Kd.C_alloc ?_ _) | (with_reducible refine Kd.C_drewN ?_ _) | (with_reducible refine Kd.C_drew ?_))); (case side4 => exact HC0_1.out); rintro e w17 ⟨v603, rfl, ho0, hb⟩; refine ⟨_, rfl, ?_⟩; have n0_ := Aside0.mk (Kd.R_lower ho0 (below_size spec_LeastSorts.a0)); have n1_ := Aside0.mk (blk_below (g := gb598) (o := .cells #[.slice A0_0 l0_0.length c0_0, .slice A0_1 l0_1.length c0_1] 30 (0, 0)) spec_LeastSorts.a1 hb); have n2_ := Aside0.mk (below_step spec_LeastSorts.a0 hb); clear BK598; clear HB; have HO604 := n0_; have BK598 := n1_; have HB := n2_; clear n0_ n1_ n2_; (try clear hb); (try clear hb2); (try clear hk); (try clear hi); (try clear ho0)))
    go_loopg [5, 7] kj2 (fun kq v5 v7 w' => ∃ (x5_2 : Int) (x7_2 : Int), v5 = .int .i64 x5_2 ∧ v7 = .int .i64 x7_2 ∧ Aside0 (spec_LeastSorts.l0 kq a1 x5_2 t602 x7_2 = some r) ∧ Aside0 (kq ≤ kj2) ∧ Aside0 (Kd.R (Kd.int .i64) 3 w' w.heap.size (fun _ => True) v603 t602) ∧ Aside0 (w'.heap[gb598]? = some (.cells #[(.slice A0_0 l0_0.length c0_0), (.slice A0_1 l0_1.length c0_1)] 30 (0, 0))) ∧ Aside0 (Below w.heap.size w w'))
    case atStart => exact ⟨(0), (0), spec_LeastSorts.a2, spec_LeastSorts.a2, H', ⟨Nat.le_refl _⟩, ⟨by (with_reducible repeat (first | apply Kd.R_alloc | apply Kd.R_drewN | apply Kd.R_drew)); exact HO604.out⟩, ⟨spec_LeastSorts.a1⟩, ⟨spec_LeastSorts.a0⟩⟩
    case round =>
     clear H'
     try clear c1
     try clear c2
     try clear p2
     try clear c4
     try clear c6
     try clear p6
     try clear c13
     try clear c14
     try clear hcz11_0
     try clear hcz11_1
     try clear hcz12_0
     try clear hcz12_1
     try clear hcz16_0
     try clear hcz16_1
     try clear hcz9_0
     try clear hcz9_1
     try clear hfz11_0
     try clear hfz11_1
     try clear hfz12_0
     try clear hfz12_1
     try clear hfz16_0
     try clear hfz16_1
     try clear hfz9_0
     try clear hfz9_1
     try clear p2
     try clear p6
     obtain ⟨x5_2, x7_2, rfl, rfl, HA, HK2, HO_6, BK598, HB⟩ := hrel
     cases gk with
     | zero => exact absurd HA.out (by simp [spec_LeastSorts.l0])
     | succ k2 =>
      have H := HA.out
      clear HA
      simp only [spec_LeastSorts.l0] at H
      by_cases c18 : x7_2 < (t602.length : Int)
      ·rw [if_pos c18] at H
       have c18b0 : decide (x7_2 < (t602.length : Int)) = true := decide_eq_true c18
       clear c18
       replace H := Option.bind_eq_some_iff.mp H
       obtain ⟨t605, A190, H⟩ := H
       replace H : (spec_LeastSorts.l1 k2 a1 x5_2 t602 x7_2 t605 0) = some r := H
       have A19 := Aside0.mk A190
       clear A190
       have H' := Aside0.mk H
       clear H
       obtain ⟨Ao20, co20, eo20⟩ := Kd.R_slice HO_6.out
       subst eo20
       go_wp2_with (first | ((with_reducible refine gate_callee (f := 42) rfl ?_); refine goesL_ (some 34) rfl rfl Try.func42 (by kernel_rfl) rfl #[.int .i64 a1, .int .i64 x7_2] rfl spec_LeastSorts.a4 ?_; (with_reducible refine (spec_l2Has.calls a1 x7_2 t605 _ A19.out).mono ?_); rintro e w' ⟨rfl, ⟨nd, rfl⟩⟩; refine ⟨_, rfl, ?_⟩))
       go_loopg [8, 9] k2 (fun kq v8 v9 w' => ∃ (x8_3 : Bool) (x9_3 : Int), v8 = .bool x8_3 ∧ v9 = .int .i64 x9_3 ∧ Aside0 (spec_LeastSorts.l1 kq a1 x5_2 t602 x7_2 x8_3 x9_3 = some r) ∧ Aside0 (kq ≤ k2) ∧ Aside0 (Kd.R (Kd.int .i64) 3 w' w.heap.size (fun _ => True) (.slice Ao20 t602.length co20) t602) ∧ Aside0 (w'.heap[gb598]? = some (.cells #[(.slice A0_0 l0_0.length c0_0), (.slice A0_1 l0_1.length c0_1)] 30 (0, 0))) ∧ Aside0 (Below w.heap.size w w'))
       case atStart => exact ⟨(t605), (0), spec_LeastSorts.a2, spec_LeastSorts.a2, H', ⟨Nat.le_refl _⟩, ⟨spec_LeastSorts.a3⟩, ⟨spec_LeastSorts.a1⟩, ⟨spec_LeastSorts.a0⟩⟩
       case round =>
        clear H'
        try clear c1
        try clear c2
        try clear p2
        try clear c4
        try clear c6
        try clear p6
        try clear c13
        try clear c14
        try clear c18
        try clear c18b0
        try clear hcz11_0
        try clear hcz11_1
        try clear hcz12_0
        try clear hcz12_1
        try clear hcz16_0
        try clear hcz16_1
        try clear hcz9_0
        try clear hcz9_1
        try clear hfz11_0
        try clear hfz11_1
        try clear hfz12_0
        try clear hfz12_1
        try clear hfz16_0
        try clear hfz16_1
        try clear hfz9_0
        try clear hfz9_1
        try clear p2
        try clear p6
        obtain ⟨x8_3, x9_3, rfl, rfl, HA, HK3, HO_6, BK598, HB⟩ := hrel
        cases gk with
        | zero => exact absurd HA.out (by simp [spec_LeastSorts.l1])
        | succ k3 =>
         have H := HA.out
         clear HA
         simp only [spec_LeastSorts.l1] at H
         by_cases c21 : x9_3 < (t602.length : Int)
         ·rw [if_pos c21] at H
          have c21b0 : decide (x9_3 < (t602.length : Int)) = true := decide_eq_true c21
          clear c21
          by_cases c22 : x8_3 = true
          ·subst c22
           have H1 : (if x9_3 = x7_2 then (spec_LeastSorts.l1 k3 a1 x5_2 t602 x7_2 true (wrap64 (x9_3 + 1))) else ((spec_l2Has.f a1 x9_3).bind fun t606 => (if t606 = true then (if 0 ≤ x9_3 then ((spec_l2Has.f (rd t602 x9_3) x7_2).bind fun t608 => (spec_LeastSorts.l1 k3 a1 x5_2 t602 x7_2 (!t608) (wrap64 (x9_3 + 1)))) else (none)) else (spec_LeastSorts.l1 k3 a1 x5_2 t602 x7_2 true (wrap64 (x9_3 + 1)))))) = some r := by rw [if_pos rfl] at H; exact H
           clear H
           have H := H1
           clear H1
           by_cases c23 : x9_3 = x7_2
           ·rw [if_pos c23] at H
            have c23b0 : (x9_3 == x7_2) = true := beq_iff_eq.mpr c23
            have c23b1 : (x9_3 != x7_2) = false := bne_eq_false_iff_eq.mpr c23
            clear c23
            have H' := Aside0.mk H
            clear H
            go_wp2
            go_roundg k3
            case measure => have := HJ2.out; have := HK2.out; have := HK3.out; omega
            case rel => exact ⟨(true), (wrap64 (x9_3 + 1)), spec_LeastSorts.a2, spec_LeastSorts.a2, H', ⟨by have := HJ2.out; have := HK2.out; have := HK3.out; omega⟩, ⟨spec_LeastSorts.a3⟩, ⟨spec_LeastSorts.a1⟩, ⟨spec_LeastSorts.a0⟩⟩
           ·rw [if_neg c23] at H
            have c23b0 : (x9_3 == x7_2) = false := beq_eq_false_iff_ne.mpr c23
            have c23b1 : (x9_3 != x7_2) = true := bne_iff_ne.mpr c23
            replace H := Option.bind_eq_some_iff.mp H
            obtain ⟨t606, A240, H⟩ := H
            replace H : (if t606 = true then (if 0 ≤ x9_3 then ((spec_l2Has.f (rd t602 x9_3) x7_2).bind fun t608 => (spec_LeastSorts.l1 k3 a1 x5_2 t602 x7_2 (!t608) (wrap64 (x9_3 + 1)))) else (none)) else (spec_LeastSorts.l1 k3 a1 x5_2 t602 x7_2 true (wrap64 (x9_3 + 1)))) = some r := H
            have A24 := Aside0.mk A240
            clear A240
            by_cases c25 : t606 = true
            ·subst c25
             have H1 : (if 0 ≤ x9_3 then ((spec_l2Has.f (rd t602 x9_3) x7_2).bind fun t608 => (spec_LeastSorts.l1 k3 a1 x5_2 t602 x7_2 (!t608) (wrap64 (x9_3 + 1)))) else (none)) = some r := by rw [if_pos rfl] at H; exact H
             clear H
             have H := H1
             clear H1
             by_cases c26 : 0 ≤ x9_3
             ·rw [if_pos c26] at H
              have c26b0 : decide (0 ≤ x9_3) = true := decide_eq_true c26
              clear c26
              replace H := Option.bind_eq_some_iff.mp H
              obtain ⟨t608, A270, H⟩ := H
              replace H : (spec_LeastSorts.l1 k3 a1 x5_2 t602 x7_2 (!t608) (wrap64 (x9_3 + 1))) = some r := H
              have A27 := Aside0.mk A270
              clear A270
              have H' := Aside0.mk H
              clear H
              go_wp2_with (first | (go_at_call 42; (with_reducible refine (spec_l2Has.calls a1 x9_3 true _ A24.out).mono ?_); rintro e w' ⟨rfl, ⟨nd, rfl⟩⟩; have p607 : 0 ≤ (x9_3 : Int) := of_decide_eq_true (by first | (with_reducible assumption) | assumption); have q607 : x9_3 < (t602.length : Int) := of_decide_eq_true (by first | (with_reducible assumption) | assumption); obtain ⟨ad607, e607, hx607_0⟩ := Kd.at_int (Kd.R_reads' HO_6.out).2.2 x9_3 p607 q607; cases e607; replace p607 := eq_true p607; replace q607 := eq_true q607) | (go_at_call 42; (with_reducible refine (spec_l2Has.calls (rd t602 x9_3) x7_2 t608 _ A27.out).mono ?_); rintro e w' ⟨rfl, ⟨nd, rfl⟩⟩))
              go_roundg k3
              case measure => have := HJ2.out; have := HK2.out; have := HK3.out; omega
              case rel => exact ⟨(!t608), (wrap64 (x9_3 + 1)), spec_LeastSorts.a2, spec_LeastSorts.a2, H', ⟨by have := HJ2.out; have := HK2.out; have := HK3.out; omega⟩, ⟨spec_LeastSorts.a3⟩, ⟨spec_LeastSorts.a1⟩, ⟨spec_LeastSorts.a0⟩⟩
             ·rw [if_neg c26] at H
              exact absurd H (by simp)
            ·replace c25 := Bool.eq_false_iff.mpr c25
             subst c25
             have H1 : (spec_LeastSorts.l1 k3 a1 x5_2 t602 x7_2 true (wrap64 (x9_3 + 1))) = some r := by rw [if_neg (show ¬ (false = true) by decide)] at H; exact H
             clear H
             have H := H1
             clear H1
             have H' := Aside0.mk H
             clear H
             go_wp2_with (first | (go_at_call 42; (with_reducible refine (spec_l2Has.calls a1 x9_3 false _ A24.out).mono ?_); rintro e w' ⟨rfl, ⟨nd, rfl⟩⟩))
             go_roundg k3
             case measure => have := HJ2.out; have := HK2.out; have := HK3.out; omega
             case rel => exact ⟨(true), (wrap64 (x9_3 + 1)), spec_LeastSorts.a2, spec_LeastSorts.a2, H', ⟨by have := HJ2.out; have := HK2.out; have := HK3.out; omega⟩, ⟨spec_LeastSorts.a3⟩, ⟨spec_LeastSorts.a1⟩, ⟨spec_LeastSorts.a0⟩⟩
          ·replace c22 := Bool.eq_false_iff.mpr c22
           subst c22
           have H1 : (spec_LeastSorts.l1 k3 a1 x5_2 t602 x7_2 false (wrap64 (x9_3 + 1))) = some r := by rw [if_neg (show ¬ (false = true) by decide)] at H; exact H
           clear H
           have H := H1
           clear H1
           have H' := Aside0.mk H
           clear H
           go_wp2
           go_roundg k3
           case measure => have := HJ2.out; have := HK2.out; have := HK3.out; omega
           case rel => exact ⟨(false), (wrap64 (x9_3 + 1)), spec_LeastSorts.a2, spec_LeastSorts.a2, H', ⟨by have := HJ2.out; have := HK2.out; have := HK3.out; omega⟩, ⟨spec_LeastSorts.a3⟩, ⟨spec_LeastSorts.a1⟩, ⟨spec_LeastSorts.a0⟩⟩
         ·rw [if_neg c21] at H
          have c21b0 : decide (x9_3 < (t602.length : Int)) = false := decide_eq_false c21
          clear c21
          by_cases c28 : x8_3 = true
          ·subst c28
           have H1 : ((spec_l2Bit.f x7_2).bind fun t609 => (spec_LeastSorts.l0 k3 a1 (Go.bits .or .i64 x5_2 t609) t602 (wrap64 (x7_2 + 1)))) = some r := by rw [if_pos rfl] at H; exact H
           clear H
           have H := H1
           clear H1
           replace H := Option.bind_eq_some_iff.mp H
           obtain ⟨t609, A290, H⟩ := H
           replace H : (spec_LeastSorts.l0 k3 a1 (Go.bits .or .i64 x5_2 t609) t602 (wrap64 (x7_2 + 1))) = some r := H
           have A29 := Aside0.mk A290
           clear A290
           have H' := Aside0.mk H
           clear H
           go_wp2_with (first | ((with_reducible refine gate_callee (f := 55) rfl ?_); refine goesL_ (some 65) rfl rfl Try.func55 (by kernel_rfl) rfl #[.int .i64 x7_2] rfl spec_LeastSorts.a4 ?_; (with_reducible refine (spec_l2Bit.calls x7_2 t609 _ A29.out).mono ?_); rintro e w' ⟨rfl, ⟨nd, rfl⟩⟩; refine ⟨_, rfl, ?_⟩))
           go_roundg k3
           case measure => have := HJ2.out; have := HK2.out; have := HK3.out; omega
           case rel => exact ⟨(Go.bits .or .i64 x5_2 t609), (wrap64 (x7_2 + 1)), spec_LeastSorts.a2, spec_LeastSorts.a2, H', ⟨by have := HJ2.out; have := HK2.out; have := HK3.out; omega⟩, ⟨spec_LeastSorts.a3⟩, ⟨spec_LeastSorts.a1⟩, ⟨spec_LeastSorts.a0⟩⟩
          ·replace c28 := Bool.eq_false_iff.mpr c28
           subst c28
           have H1 : (spec_LeastSorts.l0 k3 a1 x5_2 t602 (wrap64 (x7_2 + 1))) = some r := by rw [if_neg (show ¬ (false = true) by decide)] at H; exact H
           clear H
           have H := H1
           clear H1
           have H' := Aside0.mk H
           clear H
           go_wp2
           go_roundg k3
           case measure => have := HJ2.out; have := HK2.out; have := HK3.out; omega
           case rel => exact ⟨(x5_2), (wrap64 (x7_2 + 1)), spec_LeastSorts.a2, spec_LeastSorts.a2, H', ⟨by have := HJ2.out; have := HK2.out; have := HK3.out; omega⟩, ⟨spec_LeastSorts.a3⟩, ⟨spec_LeastSorts.a1⟩, ⟨spec_LeastSorts.a0⟩⟩
      ·rw [if_neg c18] at H
       have c18b0 : decide (x7_2 < (t602.length : Int)) = false := decide_eq_false c18
       clear c18
       obtain rfl := Option.some.inj H
       obtain ⟨Ao30, co30, eo30⟩ := Kd.R_slice HO_6.out
       subst eo30
       go_wp2
       go_ret
       exact ⟨by first | rfl | (simp [errW_none, errW_some] <;> rfl) | (simp [*, errW_none, errW_some] <;> rfl), spec_LeastSorts.a0⟩

end Go.Proofs.Ytlpkicbmcpmemaa.Q

