/- Functions of the program as plain Lean functions, and that the calls come to what they say. -/
import Derived.Test.YtlpkicbmcpmemaaZQx0h2d4ba
import Derived.Test.YtlpkicbmcpmemaaZQx3ha0ac6
import Derived.Test.YtlpkicbmcpmemaaZQx4h2f5a3
import Derived.Test.YtlpkicbmcpmemaaZQx13hbc95f
import Derived.Test.YtlpkicbmcpmemaaZQx14ha62dd
import Derived.Test.YtlpkicbmcpmemaaZQx19hc6db2
namespace Go.Proofs.Ytlpkicbmcpmemaa.Q
open Go.RowKit Go.Proofs.YtlpkicbmcpmemaaW.PrintWords Go.Proofs.YtlpkicbmcpmemaaW.PrintLast Go.Proofs.YtlpkicbmcpmemaaW.PrintMore
attribute [local go_sem] max2_int min2_int max_two min_two max_three min_three max_four min_four   -- for this text's walks alone
set_option linter.unusedVariables false
set_option linter.unusedSimpArgs false

/-! ### spec_GreatestSorts: function 27 -/
/-! ### impl_order_hasAll: function 57 -/
theorem impl_order_hasAll.a0 {P_ : Prop} (h_ : P_ := by repeat (first | (with_reducible first | exact HB.out | apply below_alloc | apply pw_below_drewN | apply below_drew1) | exact HB.out)) : P_ := h_
theorem impl_order_hasAll.a1 {P_ : Prop} (h_ : P_ := by repeat (first | (with_reducible first | exact HB.out | apply below_alloc | apply pw_below_drewN | apply below_drew1 | refine below_set ?_ GE553.out) | exact HB.out)) : P_ := h_
def impl_order_hasAll.f (l0_0 : List Int) (l0_1 : List Int) (l0_2 : List Int) (a1 : Int) : Option (Bool) := if a1 ≥ 0 then (some (decide (a1 < (shl .i64 1 (l0_0.length : Int))))) else (some false)
set_option maxHeartbeats 8000000 in
set_option maxRecDepth 100000 in
theorem impl_order_hasAll.calls (A0_0 : Option Addr) (c0_0 : Nat) (l0_0 : List Int) (A0_1 : Option Addr) (c0_1 : Nat) (l0_1 : List Int) (A0_2 : Option Addr) (c0_2 : Nat) (l0_2 : List Int) (a1 : Int) (r : Bool) (w : World) (hr0_0 : Kd.C (Kd.int .i64) w A0_0 l0_0.length l0_0) (hc0_0 : l0_0.length ≤ c0_0) (hr0_1 : Kd.C (Kd.int .i64) w A0_1 l0_1.length l0_1) (hc0_1 : l0_1.length ≤ c0_1) (hr0_2 : Kd.C (Kd.int .i64) w A0_2 l0_2.length l0_2) (hc0_2 : l0_2.length ≤ c0_2) (h : impl_order_hasAll.f l0_0 l0_1 l0_2 a1 = some r) :
  Calls Try.prog 57 #[.agg #[.slice A0_0 l0_0.length c0_0, .slice A0_1 l0_1.length c0_1, .slice A0_2 l0_2.length c0_2], .int .i64 a1] w fun e w' => e = .returned (.bool r) ∧ Below w.heap.size w w' := by
 have hu64 := Try.underlying64
 have HR0_0 := Aside0.mk hr0_0
 have HC0_0 := Aside0.mk hc0_0
 clear hr0_0 hc0_0
 have HR0_1 := Aside0.mk hr0_1
 have HC0_1 := Aside0.mk hc0_1
 clear hr0_1 hc0_1
 have HR0_2 := Aside0.mk hr0_2
 have HC0_2 := Aside0.mk hc0_2
 clear hr0_2 hc0_2
 have HB := Aside0.mk (Below.refl w.heap.size w)
 have H : (if a1 ≥ 0 then (some (decide (a1 < (shl .i64 1 (l0_0.length : Int))))) else (some false)) = some r := h
 clear h
 by_cases c3 : a1 ≥ 0
 ·rw [if_pos c3] at H
  have c3b0 : decide (0 ≤ a1) = true := decide_eq_true c3
  clear c3
  obtain ⟨ji4, hji4⟩ : ∃ j_ : Int, (shl .i64 1 (l0_0.length : Int)) = j_ := ⟨_, rfl⟩
  replace H : (some (decide (a1 < (ji4)))) = some r := by first | (rw [hji4] at H; exact H) | (simp only [hji4] at H ⊢; exact H)
  have hji4_ : (IntKind.i64.wrap (1 * 2 ^ min (l0_0.length : Int).toNat 64)) = ji4 := hji4
  have hji4z : (l0_0.length : Int) ≤ 64 → (IntKind.i64.wrap (1 * 2 ^ (l0_0.length : Int).toNat)) = ji4 := shl_small hji4
  have hji4p : (IntKind.i64.wrap (1 * 2 ^ min l0_0.length 64)) = ji4 := hji4_
  have hji4q : (l0_0.length : Int) ≤ 64 → (IntKind.i64.wrap (1 * 2 ^ l0_0.length)) = ji4 := hji4z
  have hji4r : (IntKind.i64.wrap (2 ^ min l0_0.length 64)) = ji4 := by have h_ := hji4p; rw [Int.one_mul] at h_; exact h_
  have hji4s : (l0_0.length : Int) ≤ 64 → (IntKind.i64.wrap (2 ^ l0_0.length)) = ji4 := fun hle_ => by have h_ := hji4q hle_; rw [Int.one_mul] at h_; exact h_
  have hji4u : (IntKind.i64.wrap (2 ^ min (l0_0.length : Int).toNat 64)) = ji4 := by have h_ := hji4_; rw [Int.one_mul] at h_; exact h_
  have hji4v : (l0_0.length : Int) ≤ 64 → (IntKind.i64.wrap (2 ^ (l0_0.length : Int).toNat)) = ji4 := fun hle_ => by have h_ := hji4z hle_; rw [Int.one_mul] at h_; exact h_
  have hji4y : (wrap64 (1 * 2 ^ min (l0_0.length : Int).toNat 64)) = ji4 := (i64_w _).symm.trans hji4_
  have hji4x : (l0_0.length : Int) ≤ 64 → (wrap64 (1 * 2 ^ (l0_0.length : Int).toNat)) = ji4 := fun h_ => (i64_w _).symm.trans (hji4z h_)
  obtain rfl := Option.some.inj H
  go_enter Try.func57, Try.ntmps57
  go_wp2_with (first | ((with_reducible refine gate_dst (N := 2) rfl ?_); (try (refine gate_guard (by rfl) ?_; dsimp only)); refine box_event ?hg (N := 2) ?hd (cs := #[.slice A0_0 l0_0.length c0_0, .slice A0_1 l0_1.length c0_1, .slice A0_2 l0_2.length c0_2]) (t := 64) ?hr ?_; (case hd => rfl); (case hg => rfl); (case hr => first | (go_simp; done) | (go_simp; rfl)); intro gb553 hg w5 hbox hb; have n0_ := Aside0.mk (below_step impl_order_hasAll.a0 hb); have n1_ := Aside0.mk (hbox); have n2_ := Aside0.mk ((by rw [hg]; exact (below_size impl_order_hasAll.a0) : w.heap.size ≤ gb553)); have n3_ := Aside0.mk ((by rw [hg]; exact (below_size impl_order_hasAll.a0) : w.heap.size ≤ gb553)); clear HB; have HB := n0_; have BK553 := n1_; have GW553 := n2_; have GE553 := n3_; clear n0_ n1_ n2_ n3_; clear hb hbox hg; have hcz6_0 : w5.cell? ⟨gb553, 0, none⟩ = some (.slice A0_0 l0_0.length c0_0) := (blk_cell BK553.out 0).trans rfl; have hcz6_1 : w5.cell? ⟨gb553, 1, none⟩ = some (.slice A0_1 l0_1.length c0_1) := (blk_cell BK553.out 1).trans rfl; have hcz6_2 : w5.cell? ⟨gb553, 2, none⟩ = some (.slice A0_2 l0_2.length c0_2) := (blk_cell BK553.out 2).trans rfl; have hfz6_0 := blk_frozen BK553.out 0; have hfz6_1 := blk_frozen BK553.out 1; have hfz6_2 := blk_frozen BK553.out 2))
  go_ret
  exact ⟨by first | rfl | (simp [errW_none, errW_some] <;> rfl) | (simp only [← hji4]; first | rfl | (simp [errW_none, errW_some] <;> rfl)) | (simp [*, errW_none, errW_some] <;> rfl), impl_order_hasAll.a1⟩
 ·rw [if_neg c3] at H
  have c3b0 : decide (0 ≤ a1) = false := decide_eq_false c3
  clear c3
  obtain rfl := Option.some.inj H
  go_enter Try.func57, Try.ntmps57
  go_wp2_with (first | ((with_reducible refine gate_dst (N := 2) rfl ?_); (try (refine gate_guard (by rfl) ?_; dsimp only)); refine box_event ?hg (N := 2) ?hd (cs := #[.slice A0_0 l0_0.length c0_0, .slice A0_1 l0_1.length c0_1, .slice A0_2 l0_2.length c0_2]) (t := 64) ?hr ?_; (case hd => rfl); (case hg => rfl); (case hr => first | (go_simp; done) | (go_simp; rfl)); intro gb553 hg w7 hbox hb; have n0_ := Aside0.mk (below_step impl_order_hasAll.a0 hb); have n1_ := Aside0.mk (hbox); have n2_ := Aside0.mk ((by rw [hg]; exact (below_size impl_order_hasAll.a0) : w.heap.size ≤ gb553)); have n3_ := Aside0.mk ((by rw [hg]; exact (below_size impl_order_hasAll.a0) : w.heap.size ≤ gb553)); clear HB; have HB := n0_; have BK553 := n1_; have GW553 := n2_; have GE553 := n3_; clear n0_ n1_ n2_ n3_; clear hb hbox hg))
  go_ret
  exact ⟨by first | rfl | (simp [errW_none, errW_some] <;> rfl) | (simp [*, errW_none, errW_some] <;> rfl), impl_order_hasAll.a1⟩

/-! ### impl_order_extreme: function 58 -/
theorem impl_order_extreme.a0 {P_ : Prop} (h_ : P_ := by repeat (first | (with_reducible first | exact HB.out | apply below_alloc | apply pw_below_drewN | apply below_drew1 | refine below_set ?_ GE554.out) | exact HB.out)) : P_ := h_
theorem impl_order_extreme.a1 {P_ : Prop} (h_ : P_ := by repeat (first | (with_reducible first | exact HB.out | apply below_alloc | apply pw_below_drewN | apply below_drew1) | exact HB.out)) : P_ := h_
theorem impl_order_extreme.a2 {P_ : Prop} (h_ : P_ := by (with_reducible repeat (first | refine blk_drewN ?_ _ | refine blk_drew ?_ | refine blk_alloc ?_ _)); exact BK554.out) : P_ := h_
theorem impl_order_extreme.a3 {P_ : Prop} (h_ : P_ := by first | (with_reducible assumption) | assumption) : P_ := h_
theorem impl_order_extreme.a4 {P_ : Prop} (h_ : P_ := by first | rfl | (simp; done) | (simp [*]; done)) : P_ := h_
def impl_order_extreme.l0 : Nat → Int → List Int → Int → List Int → Int → Int → Option (Int)
 | 0, _, _, _, _, _, _ => none
 | k + 1, x1, x2, x7, x11, x12, x13 => if x13 < x12 then (if 0 ≤ x13 then (if x13 < (x11.length : Int) then (if 0 ≤ (rd x11 x13) then (if (rd x11 x13) < (x2.length : Int) then (if (Go.bits .and .i64 x1 (rd x2 (rd x11 x13))) = (shl .i64 1 (rd x11 x13)) then (impl_order_extreme.l0 k x1 x2 (Go.bits .or .i64 x7 (shl .i64 1 (rd x11 x13))) x11 x12 (wrap64 (x13 + 1))) else (impl_order_extreme.l0 k x1 x2 x7 x11 x12 (wrap64 (x13 + 1)))) else (none)) else (none)) else (none)) else (none)) else (some x7)
def impl_order_extreme.f (k : Nat) (l0_0 : List Int) (l0_1 : List Int) (l0_2 : List Int) (a1 : Int) (l2 : List Int) : Option (Int) := (impl_ListOf.f k a1).bind fun t555 => (impl_order_extreme.l0 k a1 l2 0 t555 (t555.length : Int) 0)
set_option maxHeartbeats 8000000 in
set_option maxRecDepth 100000 in
theorem impl_order_extreme.calls (k : Nat) (A0_0 : Option Addr) (c0_0 : Nat) (l0_0 : List Int) (A0_1 : Option Addr) (c0_1 : Nat) (l0_1 : List Int) (A0_2 : Option Addr) (c0_2 : Nat) (l0_2 : List Int) (a1 : Int) (A2 : Option Addr) (c2 : Nat) (l2 : List Int) (r : Int) (w : World) (hr0_0 : Kd.C (Kd.int .i64) w A0_0 l0_0.length l0_0) (hc0_0 : l0_0.length ≤ c0_0) (hr0_1 : Kd.C (Kd.int .i64) w A0_1 l0_1.length l0_1) (hc0_1 : l0_1.length ≤ c0_1) (hr0_2 : Kd.C (Kd.int .i64) w A0_2 l0_2.length l0_2) (hc0_2 : l0_2.length ≤ c0_2) (hr2 : Kd.C (Kd.int .i64) w A2 l2.length l2) (hc2 : l2.length ≤ c2) (h : impl_order_extreme.f k l0_0 l0_1 l0_2 a1 l2 = some r) :
  Calls Try.prog 58 #[.agg #[.slice A0_0 l0_0.length c0_0, .slice A0_1 l0_1.length c0_1, .slice A0_2 l0_2.length c0_2], .int .i64 a1, .slice A2 l2.length c2] w fun e w' => e = .returned (.int .i64 r) ∧ Below w.heap.size w w' := by
 have hu64 := Try.underlying64
 have HR0_0 := Aside0.mk hr0_0
 have HC0_0 := Aside0.mk hc0_0
 clear hr0_0 hc0_0
 have HR0_1 := Aside0.mk hr0_1
 have HC0_1 := Aside0.mk hc0_1
 clear hr0_1 hc0_1
 have HR0_2 := Aside0.mk hr0_2
 have HC0_2 := Aside0.mk hc0_2
 clear hr0_2 hc0_2
 have HR2 := Aside0.mk hr2
 have HC2 := Aside0.mk hc2
 clear hr2 hc2
 have HB := Aside0.mk (Below.refl w.heap.size w)
 have H : ((impl_ListOf.f k a1).bind fun t555 => (impl_order_extreme.l0 k a1 l2 0 t555 (t555.length : Int) 0)) = some r := h
 clear h
 replace H := Option.bind_eq_some_iff.mp H
 obtain ⟨t555, A40, H⟩ := H
 replace H : (impl_order_extreme.l0 k a1 l2 0 t555 (t555.length : Int) 0) = some r := H
 have A4 := Aside0.mk A40
 clear A40
 have H' := Aside0.mk H
 clear H
 go_enter Try.func58, Try.ntmps58
 go_wp2_with (first | ((with_reducible refine gate_dst (N := 3) rfl ?_); refine box_event ?hg (N := 3) ?hd (cs := #[.slice A0_0 l0_0.length c0_0, .slice A0_1 l0_1.length c0_1, .slice A0_2 l0_2.length c0_2]) (t := 64) ?hr ?_; (case hd => rfl); (case hg => rfl); (case hr => first | (go_simp; done) | (go_simp; rfl)); intro gb554 hg w5 hbox hb; have n0_ := Aside0.mk (below_step impl_order_extreme.a1 hb); have n1_ := Aside0.mk (hbox); have n2_ := Aside0.mk ((by rw [hg]; exact (below_size impl_order_extreme.a1) : w.heap.size ≤ gb554)); have n3_ := Aside0.mk ((by rw [hg]; exact (below_size impl_order_extreme.a1) : w.heap.size ≤ gb554)); clear HB; have HB := n0_; have BK554 := n1_; have GW554 := n2_; have GE554 := n3_; clear n0_ n1_ n2_ n3_; clear hb hbox hg) | (go_at_call 67; (with_reducible refine (impl_ListOf.calls k a1 t555 _ A4.out).mono ?_); rintro e w6 ⟨v556, rfl, ho0, hb⟩; have n0_ := Aside0.mk (Kd.R_lower ho0 (below_size impl_order_extreme.a0)); have n1_ := Aside0.mk (blk_below (g := gb554) (o := .cells #[.slice A0_0 l0_0.length c0_0, .slice A0_1 l0_1.length c0_1, .slice A0_2 l0_2.length c0_2] 64 (0, 0)) impl_order_extreme.a2 hb); have n2_ := Aside0.mk (below_step impl_order_extreme.a0 hb); clear BK554; clear HB; have HO557 := n0_; have BK554 := n1_; have HB := n2_; clear n0_ n1_ n2_; (try clear hb); (try clear hb2); (try clear hk); (try clear hi); (try clear ho0); obtain ⟨Ao7, co7, eo7⟩ := Kd.R_slice HO557.out; subst eo7))
 repeat (go_quiet (first | ((with_reducible refine gate_dst (N := 3) rfl ?_); refine box_event ?hg (N := 3) ?hd (cs := #[.slice A0_0 l0_0.length c0_0, .slice A0_1 l0_1.length c0_1, .slice A0_2 l0_2.length c0_2]) (t := 64) ?hr ?_; (case hd => rfl); (case hg => rfl); (case hr => first | (go_simp; done) | (go_simp; rfl)); intro gb554 hg w5 hbox hb; have n0_ := Aside0.mk (below_step impl_order_extreme.a1 hb); have n1_ := Aside0.mk (hbox); have n2_ := Aside0.mk ((by rw [hg]; exact (below_size impl_order_extreme.a1) : w.heap.size ≤ gb554)); have n3_ := Aside0.mk ((by rw [hg]; exact (below_size impl_order_extreme.a1) : w.heap.size ≤ gb554)); clear HB; have HB := n0_; have BK554 := n1_; have GW554 := n2_; have GE554 := n3_; clear n0_ n1_ n2_ n3_; clear hb hbox hg) | (go_at_call 67; (with_reducible refine (impl_ListOf.calls k a1 t555 _ A4.out).mono ?_); rintro e w6 ⟨v556, rfl, ho0, hb⟩; have n0_ := Aside0.mk (Kd.R_lower ho0 (below_size impl_order_extreme.a0)); have n1_ := Aside0.mk (blk_below (g := gb554) (o := .cells #[.slice A0_0 l0_0.length c0_0, .slice A0_1 l0_1.length c0_1, .slice A0_2 l0_2.length c0_2] 64 (0, 0)) impl_order_extreme.a2 hb); have n2_ := Aside0.mk (below_step impl_order_extreme.a0 hb); clear BK554; clear HB; have HO557 := n0_; have BK554 := n1_; have HB := n2_; clear n0_ n1_ n2_; (try clear hb); (try clear hb2); (try clear hk); (try clear hi); (try clear ho0); obtain ⟨Ao7, co7, eo7⟩ := Kd.R_slice HO557.out; subst eo7)); try go_wp2_with (first | ((with_reducible refine gate_dst (N := 3) rfl ?_); refine box_event ?hg (N := 3) ?hd (cs := #[.slice A0_0 l0_0.length c0_0, .slice A0_1 l0_1.length c0_1, .slice A0_2 l0_2.length c0_2]) (t := 64) ?hr ?_; (case hd => rfl); (case hg => rfl); (case hr => first | (go_simp; done) | (go_simp; rfl)); intro gb554 hg w5 hbox hb; have n0_ := Aside0.mk (below_step impl_order_extreme.a1 hb); have n1_ := Aside0.mk (hbox); have n2_ := Aside0.mk ((by rw [hg]; exact (below_size impl_order_extreme.a1) : w.heap.size ≤ gb554)); have n3_ := Aside0.mk ((by rw [hg]; exact (below_size impl_order_extreme.a1) : w.heap.size ≤ gb554)); clear HB; have HB := n0_; have BK554 := n1_; have GW554 := n2_; have GE554 := n3_; clear n0_ n1_ n2_ n3_; clear hb hbox hg) | (go_at_call 67; (with_reducible refine (impl_ListOf.calls k a1 t555 _ A4.out).mono ?_); rintro e w6 ⟨v556, rfl, ho0, hb⟩; have n0_ := Aside0.mk (Kd.R_lower ho0 (below_size impl_order_extreme.a0)); have n1_ := Aside0.mk (blk_below (g := gb554) (o := .cells #[.slice A0_0 l0_0.length c0_0, .slice A0_1 l0_1.length c0_1, .slice A0_2 l0_2.length c0_2] 64 (0, 0)) impl_order_extreme.a2 hb); have n2_ := Aside0.mk (below_step impl_order_extreme.a0 hb); clear BK554; clear HB; have HO557 := n0_; have BK554 := n1_; have HB := n2_; clear n0_ n1_ n2_; (try clear hb); (try clear hb2); (try clear hk); (try clear hi); (try clear ho0); obtain ⟨Ao7, co7, eo7⟩ := Kd.R_slice HO557.out; subst eo7)))
 go_loopg [7, 13] k (fun kq v7 v13 w' => ∃ (x7_1 : Int) (x13_1 : Int), v7 = .int .i64 x7_1 ∧ v13 = .int .i64 x13_1 ∧ Aside0 (impl_order_extreme.l0 kq a1 l2 x7_1 t555 (t555.length : Int) x13_1 = some r) ∧ Aside0 (kq ≤ k) ∧ Aside0 (Kd.R (Kd.int .i64) 3 w' w.heap.size (fun _ => True) (.slice Ao7 t555.length co7) t555) ∧ Aside0 (w'.heap[gb554]? = some (.cells #[(.slice A0_0 l0_0.length c0_0), (.slice A0_1 l0_1.length c0_1), (.slice A0_2 l0_2.length c0_2)] 64 (0, 0))) ∧ Aside0 (Below w.heap.size w w'))
 case atStart => exact ⟨(0), (0), impl_order_extreme.a4, impl_order_extreme.a4, H', ⟨Nat.le_refl _⟩, ⟨by (with_reducible repeat (first | apply Kd.R_alloc | apply Kd.R_drewN | apply Kd.R_drew)); exact HO557.out⟩, ⟨impl_order_extreme.a2⟩, ⟨impl_order_extreme.a0⟩⟩
 case round =>
  clear H'
  try clear c2
  try clear p2
  try clear c5
  obtain ⟨x7_1, x13_1, rfl, rfl, HA, HK1, HO_11, BK554, HB⟩ := hrel
  cases gk with
  | zero => exact absurd HA.out (by simp [impl_order_extreme.l0])
  | succ k1 =>
   have H := HA.out
   clear HA
   simp only [impl_order_extreme.l0] at H
   by_cases c8 : x13_1 < (t555.length : Int)
   ·rw [if_pos c8] at H
    have c8b0 : decide (x13_1 < (t555.length : Int)) = true := decide_eq_true c8
    clear c8
    by_cases c9 : 0 ≤ x13_1
    ·rw [if_pos c9] at H
     have c9b0 : decide (0 ≤ x13_1) = true := decide_eq_true c9
     clear c9
     by_cases c10 : x13_1 < (t555.length : Int)
     ·rw [if_pos c10] at H
      have c10b0 : decide (x13_1 < (t555.length : Int)) = true := decide_eq_true c10
      clear c10
      by_cases c11 : 0 ≤ (rd t555 x13_1)
      ·rw [if_pos c11] at H
       have c11b0 : decide (0 ≤ (rd t555 x13_1)) = true := decide_eq_true c11
       clear c11
       by_cases c12 : (rd t555 x13_1) < (l2.length : Int)
       ·rw [if_pos c12] at H
        have c12b0 : decide ((rd t555 x13_1) < (l2.length : Int)) = true := decide_eq_true c12
        clear c12
        have c13b0 := eq_true (of_decide_eq_true impl_order_extreme.a3 : 0 ≤ (rd t555 x13_1))
        obtain ⟨ji14, hji14⟩ : ∃ j_ : Int, (shl .i64 1 (rd t555 x13_1)) = j_ := ⟨_, rfl⟩
        replace H : (if (Go.bits .and .i64 a1 (rd l2 (rd t555 x13_1))) = (ji14) then (impl_order_extreme.l0 k1 a1 l2 (Go.bits .or .i64 x7_1 (ji14)) t555 (t555.length : Int) (wrap64 (x13_1 + 1))) else (impl_order_extreme.l0 k1 a1 l2 x7_1 t555 (t555.length : Int) (wrap64 (x13_1 + 1)))) = some r := by first | (rw [hji14] at H; exact H) | (simp only [hji14] at H ⊢; exact H)
        have hji14_ : (IntKind.i64.wrap (1 * 2 ^ min (rd t555 x13_1).toNat 64)) = ji14 := hji14
        have hji14z : (rd t555 x13_1) ≤ 64 → (IntKind.i64.wrap (1 * 2 ^ (rd t555 x13_1).toNat)) = ji14 := shl_small hji14
        have hji14u : (IntKind.i64.wrap (2 ^ min (rd t555 x13_1).toNat 64)) = ji14 := by have h_ := hji14_; rw [Int.one_mul] at h_; exact h_
        have hji14v : (rd t555 x13_1) ≤ 64 → (IntKind.i64.wrap (2 ^ (rd t555 x13_1).toNat)) = ji14 := fun hle_ => by have h_ := hji14z hle_; rw [Int.one_mul] at h_; exact h_
        have hji14y : (wrap64 (1 * 2 ^ min (rd t555 x13_1).toNat 64)) = ji14 := (i64_w _).symm.trans hji14_
        have hji14x : (rd t555 x13_1) ≤ 64 → (wrap64 (1 * 2 ^ (rd t555 x13_1).toNat)) = ji14 := fun h_ => (i64_w _).symm.trans (hji14z h_)
        by_cases c15 : (Go.bits .and .i64 a1 (rd l2 (rd t555 x13_1))) = (ji14)
        ·rw [if_pos c15] at H
         have c15b0 : ((Go.bits .and .i64 a1 (rd l2 (rd t555 x13_1))) == (ji14)) = true := beq_iff_eq.mpr c15
         have c15b1 : ((Go.bits .and .i64 a1 (rd l2 (rd t555 x13_1))) != (ji14)) = false := bne_eq_false_iff_eq.mpr c15
         clear c15
         have c16b0 := eq_true (of_decide_eq_true impl_order_extreme.a3 : 0 ≤ (rd t555 x13_1))
         have H' := Aside0.mk H
         clear H
         have p558 : 0 ≤ (x13_1 : Int) := of_decide_eq_true impl_order_extreme.a3
         have q558 : x13_1 < (t555.length : Int) := of_decide_eq_true impl_order_extreme.a3
         obtain ⟨ad558, e558, hx558_0⟩ := Kd.at_int (Kd.R_reads' HO_11.out).2.2 x13_1 p558 q558
         cases e558
         replace p558 := eq_true p558
         replace q558 := eq_true q558
         have p559 : 0 ≤ ((rd t555 x13_1) : Int) := of_decide_eq_true impl_order_extreme.a3
         have q559 : (rd t555 x13_1) < (l2.length : Int) := of_decide_eq_true impl_order_extreme.a3
         obtain ⟨ad559, e559, hx559_0⟩ := Kd.at_int HR2.out (rd t555 x13_1) p559 q559
         cases e559
         replace hx559_0 := (HB.out.cell (World.block_lt_of_cell? w _ hx559_0)).trans hx559_0
         replace p559 := eq_true p559
         replace q559 := eq_true q559
         go_wp2
         repeat (go_quiet (fail); try go_wp2)
         go_roundg k1
         case measure => have := HK1.out; omega
         case rel => exact ⟨(Go.bits .or .i64 x7_1 (ji14)), (wrap64 (x13_1 + 1)), (by first | rfl | (simp; done) | (simp only [← hji14] <;> (first | rfl | simp)) | (simp [*]; done)), impl_order_extreme.a4, H', ⟨by have := HK1.out; omega⟩, ⟨by (with_reducible repeat (first | apply Kd.R_alloc | apply Kd.R_drewN | apply Kd.R_drew)); exact HO_11.out⟩, ⟨impl_order_extreme.a2⟩, ⟨impl_order_extreme.a0⟩⟩
        ·rw [if_neg c15] at H
         have c15b0 : ((Go.bits .and .i64 a1 (rd l2 (rd t555 x13_1))) == (ji14)) = false := beq_eq_false_iff_ne.mpr c15
         have c15b1 : ((Go.bits .and .i64 a1 (rd l2 (rd t555 x13_1))) != (ji14)) = true := bne_iff_ne.mpr c15
         have H' := Aside0.mk H
         clear H
         have p558 : 0 ≤ (x13_1 : Int) := of_decide_eq_true impl_order_extreme.a3
         have q558 : x13_1 < (t555.length : Int) := of_decide_eq_true impl_order_extreme.a3
         obtain ⟨ad558, e558, hx558_0⟩ := Kd.at_int (Kd.R_reads' HO_11.out).2.2 x13_1 p558 q558
         cases e558
         replace p558 := eq_true p558
         replace q558 := eq_true q558
         have p559 : 0 ≤ ((rd t555 x13_1) : Int) := of_decide_eq_true impl_order_extreme.a3
         have q559 : (rd t555 x13_1) < (l2.length : Int) := of_decide_eq_true impl_order_extreme.a3
         obtain ⟨ad559, e559, hx559_0⟩ := Kd.at_int HR2.out (rd t555 x13_1) p559 q559
         cases e559
         replace hx559_0 := (HB.out.cell (World.block_lt_of_cell? w _ hx559_0)).trans hx559_0
         replace p559 := eq_true p559
         replace q559 := eq_true q559
         go_wp2
         repeat (go_quiet (fail); try go_wp2)
         go_roundg k1
         case measure => have := HK1.out; omega
         case rel => exact ⟨(x7_1), (wrap64 (x13_1 + 1)), impl_order_extreme.a4, impl_order_extreme.a4, H', ⟨by have := HK1.out; omega⟩, ⟨by (with_reducible repeat (first | apply Kd.R_alloc | apply Kd.R_drewN | apply Kd.R_drew)); exact HO_11.out⟩, ⟨impl_order_extreme.a2⟩, ⟨impl_order_extreme.a0⟩⟩
       ·rw [if_neg c12] at H
        exact absurd H (by simp)
      ·rw [if_neg c11] at H
       exact absurd H (by simp)
     ·rw [if_neg c10] at H
      exact absurd H (by simp)
    ·rw [if_neg c9] at H
     exact absurd H (by simp)
   ·rw [if_neg c8] at H
    have c8b0 : decide (x13_1 < (t555.length : Int)) = false := decide_eq_false c8
    clear c8
    obtain rfl := Option.some.inj H
    go_wp2
    repeat (go_quiet (fail); try go_wp2)
    go_ret
    exact ⟨by first | rfl | (simp [errW_none, errW_some] <;> rfl) | (simp [*, errW_none, errW_some] <;> rfl), impl_order_extreme.a0⟩

/-! ### impl_GreatestSorts: function 28 -/
theorem impl_GreatestSorts.a0 {P_ : Prop} (h_ : P_ := by repeat (first | (with_reducible first | exact HB.out | apply below_alloc | apply pw_below_drewN | apply below_drew1 | refine below_set ?_ GE560.out) | exact HB.out)) : P_ := h_
theorem impl_GreatestSorts.a1 {P_ : Prop} (h_ : P_ := by (with_reducible repeat (first | refine blk_drewN ?_ _ | refine blk_drew ?_ | refine blk_alloc ?_ _)); exact BK560.out) : P_ := h_
theorem impl_GreatestSorts.a2 {P_ : Prop} (h_ : P_ := by repeat (first | (with_reducible first | exact HB.out | apply below_alloc | apply pw_below_drewN | apply below_drew1) | exact HB.out)) : P_ := h_
theorem impl_GreatestSorts.a3 {P_ : Prop} (h_ : P_ := by repeat (first | (with_reducible first | exact HB.out | apply below_alloc | apply pw_below_drewN | apply below_drew1 | refine below_set ?_ GE560.out | refine below_set ?_ GE571.out) | exact HB.out)) : P_ := h_
theorem impl_GreatestSorts.a4 {P_ : Prop} (h_ : P_ := by (with_reducible repeat (first | refine blk_drewN ?_ _ | refine blk_drew ?_ | refine blk_alloc ?_ _)); refine blk_far ?_ NB560_571.out _; (with_reducible repeat (first | refine blk_drewN ?_ _ | refine blk_drew ?_ | refine blk_alloc ?_ _)); refine blk_far ?_ NB560_571.out _; (with_reducible repeat (first | refine blk_drewN ?_ _ | refine blk_drew ?_ | refine blk_alloc ?_ _)); refine blk_far ?_ NB560_571.out _; (with_reducible repeat (first | refine blk_drewN ?_ _ | refine blk_drew ?_ | refine blk_alloc ?_ _)); exact BK560.out) : P_ := h_
theorem impl_GreatestSorts.a5 {P_ : Prop} (h_ : P_ := by (with_reducible repeat (first | apply Kd.R_alloc | apply Kd.R_drewN | apply Kd.R_drew)); exact (Kd.R_mono (Kd.R_far (p := ⟨gb571, 2, none⟩) (Kd.R_far (p := ⟨gb571, 1, none⟩) (Kd.R_far (p := ⟨gb571, 0, none⟩) (Kd.R_types HO563.out BK571.out (by decide)) (fun _ hk => hk.2) (.slice Ao12 t561.length co12)) (fun _ hk => hk.2) (.slice Ao15 t564.length co15)) (fun _ hk => hk.2) (.slice Ao16 t567.length co16)) (fun _ h_ => h_.1))) : P_ := h_
theorem impl_GreatestSorts.a6 {P_ : Prop} (h_ : P_ := by (with_reducible repeat (first | apply Kd.R_alloc | apply Kd.R_drewN | apply Kd.R_drew)); exact (Kd.R_mono (Kd.R_far (p := ⟨gb571, 2, none⟩) (Kd.R_far (p := ⟨gb571, 1, none⟩) (Kd.R_far (p := ⟨gb571, 0, none⟩) (Kd.R_types HO566.out BK571.out (by decide)) (fun _ hk => hk.2) (.slice Ao12 t561.length co12)) (fun _ hk => hk.2) (.slice Ao15 t564.length co15)) (fun _ hk => hk.2) (.slice Ao16 t567.length co16)) (fun _ h_ => h_.1))) : P_ := h_
theorem impl_GreatestSorts.a7 {P_ : Prop} (h_ : P_ := by (with_reducible repeat (first | apply Kd.R_alloc | apply Kd.R_drewN | apply Kd.R_drew)); exact (Kd.R_mono (Kd.R_far (p := ⟨gb571, 2, none⟩) (Kd.R_far (p := ⟨gb571, 1, none⟩) (Kd.R_far (p := ⟨gb571, 0, none⟩) (Kd.R_types HO569.out BK571.out (by decide)) (fun _ hk => hk.2) (.slice Ao12 t561.length co12)) (fun _ hk => hk.2) (.slice Ao15 t564.length co15)) (fun _ hk => hk.2) (.slice Ao16 t567.length co16)) (fun _ h_ => h_.1))) : P_ := h_
theorem impl_GreatestSorts.a8 {P_ : Prop} (h_ : P_ := by (with_reducible repeat (first | apply Kd.R_alloc | apply Kd.R_drewN | apply Kd.R_drew)); exact (Kd.R_mono (Kd.R_far (p := ⟨gb571, 2, none⟩) (Kd.R_far (p := ⟨gb571, 1, none⟩) (Kd.R_far (p := ⟨gb571, 0, none⟩) (Kd.R_types HO563.out BK571.out (by decide)) (fun _ hk => hk.2) (.slice Ao24 t561.length co24)) (fun _ hk => hk.2) (.slice Ao27 t564.length co27)) (fun _ hk => hk.2) (.slice Ao28 t567.length co28)) (fun _ h_ => h_.1))) : P_ := h_
theorem impl_GreatestSorts.a9 {P_ : Prop} (h_ : P_ := by (with_reducible repeat (first | apply Kd.R_alloc | apply Kd.R_drewN | apply Kd.R_drew)); exact (Kd.R_mono (Kd.R_far (p := ⟨gb571, 2, none⟩) (Kd.R_far (p := ⟨gb571, 1, none⟩) (Kd.R_far (p := ⟨gb571, 0, none⟩) (Kd.R_types HO566.out BK571.out (by decide)) (fun _ hk => hk.2) (.slice Ao24 t561.length co24)) (fun _ hk => hk.2) (.slice Ao27 t564.length co27)) (fun _ hk => hk.2) (.slice Ao28 t567.length co28)) (fun _ h_ => h_.1))) : P_ := h_
theorem impl_GreatestSorts.a10 {P_ : Prop} (h_ : P_ := by (with_reducible repeat (first | apply Kd.R_alloc | apply Kd.R_drewN | apply Kd.R_drew)); exact (Kd.R_mono (Kd.R_far (p := ⟨gb571, 2, none⟩) (Kd.R_far (p := ⟨gb571, 1, none⟩) (Kd.R_far (p := ⟨gb571, 0, none⟩) (Kd.R_types HO569.out BK571.out (by decide)) (fun _ hk => hk.2) (.slice Ao24 t561.length co24)) (fun _ hk => hk.2) (.slice Ao27 t564.length co27)) (fun _ hk => hk.2) (.slice Ao28 t567.length co28)) (fun _ h_ => h_.1))) : P_ := h_
theorem impl_GreatestSorts.a11 {P_ : Prop} (h_ : P_ := by (try simp only [List.map_toArray, List.map_cons, List.map_nil]); first | done | rfl | (simp only [List.length_drop, List.length_take]; rfl)) : P_ := h_
theorem impl_GreatestSorts.a12 {P_ : Prop} (h_ : P_ := by (with_reducible repeat (first | apply Kd.R_alloc | apply Kd.R_drewN | apply Kd.R_drew)); exact HO563.out) : P_ := h_
theorem impl_GreatestSorts.a13 {P_ : Prop} (h_ : P_ := by (with_reducible repeat (first | apply Kd.R_alloc | apply Kd.R_drewN | apply Kd.R_drew)); exact HO566.out) : P_ := h_
theorem impl_GreatestSorts.a14 {P_ : Prop} (h_ : P_ := by (with_reducible repeat (first | apply Kd.R_alloc | apply Kd.R_drewN | apply Kd.R_drew)); exact HO569.out) : P_ := h_
theorem impl_GreatestSorts.a15 {P_ : Prop} (h_ : P_ := by first | rfl | (simp [errW_none, errW_some] <;> rfl) | (simp [*, errW_none, errW_some] <;> rfl)) : P_ := h_
def impl_GreatestSorts.f (k : Nat) (l0_0 : List ByteArray) (l0_1 : List (S52)) (a1 : Int) : Option (Int) := (impl_newOrder.f k l0_0 l0_1).bind fun bt561 => (if bt561.2.2.2 = true then ((impl_order_hasAll.f bt561.1 bt561.2.1 bt561.2.2.1 a1).bind fun t572 => (if t572 = true then ((impl_order_extreme.f k bt561.1 bt561.2.1 bt561.2.2.1 a1 bt561.1).bind fun t573 => (some t573)) else (some 0))) else (some 0))
set_option maxHeartbeats 8000000 in
set_option maxRecDepth 100000 in
theorem impl_GreatestSorts.calls (k : Nat) (A0_0 : Option Addr) (c0_0 : Nat) (l0_0 : List ByteArray) (A0_1 : Option Addr) (c0_1 : Nat) (l0_1 : List (S52)) (a1 : Int) (r : Int) (w : World) (hr0_0 : Kd.C Kd.string w A0_0 l0_0.length l0_0) (hc0_0 : l0_0.length ≤ c0_0) (hr0_1 : Kd.C k52 w A0_1 l0_1.length l0_1) (hc0_1 : l0_1.length ≤ c0_1) (h : impl_GreatestSorts.f k l0_0 l0_1 a1 = some r) :
  Calls Try.prog 28 #[.agg #[.slice A0_0 l0_0.length c0_0, .slice A0_1 l0_1.length c0_1], .int .i64 a1] w fun e w' => e = .returned (.int .i64 r) ∧ Below w.heap.size w w' := by
 have hu30 := Try.underlying30
 have hu64 := Try.underlying64
 have HR0_0 := Aside0.mk hr0_0
 have HC0_0 := Aside0.mk hc0_0
 clear hr0_0 hc0_0
 have HR0_1 := Aside0.mk hr0_1
 have HC0_1 := Aside0.mk hc0_1
 clear hr0_1 hc0_1
 have HB := Aside0.mk (Below.refl w.heap.size w)
 have H : ((impl_newOrder.f k l0_0 l0_1).bind fun bt561 => (if bt561.2.2.2 = true then ((impl_order_hasAll.f bt561.1 bt561.2.1 bt561.2.2.1 a1).bind fun t572 => (if t572 = true then ((impl_order_extreme.f k bt561.1 bt561.2.1 bt561.2.2.1 a1 bt561.1).bind fun t573 => (some t573)) else (some 0))) else (some 0))) = some r := h
 clear h
 replace H := Option.bind_eq_some_iff.mp H
 obtain ⟨⟨t561, t564, t567, t570⟩, A30, H⟩ := H
 replace H : (if t570 = true then ((impl_order_hasAll.f t561 t564 t567 a1).bind fun t572 => (if t572 = true then ((impl_order_extreme.f k t561 t564 t567 a1 t561).bind fun t573 => (some t573)) else (some 0))) else (some 0)) = some r := H
 have A3 := Aside0.mk A30
 clear A30
 by_cases c4 : t570 = true
 ·subst c4
  have H1 : ((impl_order_hasAll.f t561 t564 t567 a1).bind fun t572 => (if t572 = true then ((impl_order_extreme.f k t561 t564 t567 a1 t561).bind fun t573 => (some t573)) else (some 0))) = some r := by rw [if_pos rfl] at H; exact H
  clear H
  have H := H1
  clear H1
  replace H := Option.bind_eq_some_iff.mp H
  obtain ⟨t572, A50, H⟩ := H
  replace H : (if t572 = true then ((impl_order_extreme.f k t561 t564 t567 a1 t561).bind fun t573 => (some t573)) else (some 0)) = some r := H
  have A5 := Aside0.mk A50
  clear A50
  by_cases c6 : t572 = true
  ·subst c6
   have H1 : ((impl_order_extreme.f k t561 t564 t567 a1 t561).bind fun t573 => (some t573)) = some r := by rw [if_pos rfl] at H; exact H
   clear H
   have H := H1
   clear H1
   replace H := Option.bind_eq_some_iff.mp H
   obtain ⟨t573, A70, H⟩ := H
   replace H : (some t573) = some r := H
   have A7 := Aside0.mk A70
   clear A70
   obtain rfl := Option.some.inj H
   go_enter Try.func28, Try.ntmps28
   go_wp2_with (first | ((with_reducible refine gate_dst (N := 2) rfl ?_); refine box_event ?hg (N := 2) ?hd (cs := #[.slice A0_0 l0_0.length c0_0, .slice A0_1 l0_1.length c0_1]) (t := 30) ?hr ?_; (case hd => rfl); (case hg => rfl); (case hr => first | (go_simp; done) | (go_simp; rfl)); intro gb560 hg w8 hbox hb; have n0_ := Aside0.mk (below_step impl_GreatestSorts.a2 hb); have n1_ := Aside0.mk (hbox); have n2_ := Aside0.mk ((by rw [hg]; exact (below_size impl_GreatestSorts.a2) : w.heap.size ≤ gb560)); have n3_ := Aside0.mk ((by rw [hg]; exact (below_size impl_GreatestSorts.a2) : w.heap.size ≤ gb560)); clear HB; have HB := n0_; have BK560 := n1_; have GW560 := n2_; have GE560 := n3_; clear n0_ n1_ n2_ n3_; clear hb hbox hg; have hcz9_0 : w8.cell? ⟨gb560, 0, none⟩ = some (.slice A0_0 l0_0.length c0_0) := (blk_cell BK560.out 0).trans rfl; have hcz9_1 : w8.cell? ⟨gb560, 1, none⟩ = some (.slice A0_1 l0_1.length c0_1) := (blk_cell BK560.out 1).trans rfl; have hfz9_0 := blk_frozen BK560.out 0; have hfz9_1 := blk_frozen BK560.out 1) | ((with_reducible refine gate_callee (f := 52) rfl ?_); refine goesL_ (some 9) rfl rfl Try.func52 (by kernel_rfl) rfl #[.agg #[.slice A0_0 l0_0.length c0_0, .slice A0_1 l0_1.length c0_1]] rfl impl_GreatestSorts.a11 ?_; (with_reducible refine (impl_newOrder.calls k _ _ l0_0 _ _ l0_1 t561 t564 t567 true _ ?side1 ?side2 ?side3 ?side4 A3.out).mono ?_); (case side1 => repeat (first | exact (Kd.C_below HR0_0.out HB.out) | (with_reducible refine Kd.C_alloc ?_ _) | (with_reducible refine Kd.C_drewN ?_ _) | (with_reducible refine Kd.C_drew ?_))); (case side2 => exact HC0_0.out); (case side3 => repeat (first | exact (Kd.C_below HR0_1.out HB.out) | (with_reducible refine Kd.C_alloc ?_ _) | (with_reducible refine Kd.C_drewN ?_ _) | (with_reducible refine Kd.C_drew ?_))); (case side4 => exact HC0_1.out); rintro e w10 ⟨v562, v565, v568, rfl, ho0, ho1, ho2, hb⟩; refine ⟨_, rfl, ?_⟩; have n0_ := Aside0.mk (Kd.R_lower ho0 (below_size impl_GreatestSorts.a0)); have n1_ := Aside0.mk (Kd.R_lower ho1 (below_size impl_GreatestSorts.a0)); have n2_ := Aside0.mk (Kd.R_lower ho2 (below_size impl_GreatestSorts.a0)); have n3_ := Aside0.mk (blk_below (g := gb560) (o := .cells #[.slice A0_0 l0_0.length c0_0, .slice A0_1 l0_1.length c0_1] 30 (0, 0)) impl_GreatestSorts.a1 hb); have n4_ := Aside0.mk (below_step impl_GreatestSorts.a0 hb); clear BK560; clear HB; have HO563 := n0_; have HO566 := n1_; have HO569 := n2_; have BK560 := n3_; have HB := n4_; clear n0_ n1_ n2_ n3_ n4_; (try clear hb); (try clear hb2); (try clear hk); (try clear hi); (try clear ho0); (try clear ho1); (try clear ho2)) | ((with_reducible refine gate_dst (N := 5) rfl ?_); refine box_event ?hg (N := 5) ?hd (cs := #[.slice none 0 0, .slice none 0 0, .slice none 0 0]) (t := 64) ?hr ?_; (case hd => rfl); (case hg => rfl); (case hr => first | (go_simp; done) | (go_simp; rfl)); intro gb571 hg w11 hbox hb; have n0_ := Aside0.mk (Kd.R_below impl_GreatestSorts.a12 hb); have n1_ := Aside0.mk (Kd.R_below impl_GreatestSorts.a13 hb); have n2_ := Aside0.mk (Kd.R_below impl_GreatestSorts.a14 hb); have n3_ := Aside0.mk (blk_below (g := gb560) (o := .cells #[.slice A0_0 l0_0.length c0_0, .slice A0_1 l0_1.length c0_1] 30 (0, 0)) impl_GreatestSorts.a1 hb); have n4_ := Aside0.mk (below_step impl_GreatestSorts.a0 hb); have n5_ := Aside0.mk (hbox); have n6_ := Aside0.mk ((by rw [hg]; exact (below_size impl_GreatestSorts.a0) : w.heap.size ≤ gb571)); have n7_ := Aside0.mk ((by rw [hg]; exact (below_size impl_GreatestSorts.a0) : w.heap.size ≤ gb571)); have n8_ := Aside0.mk ((by rw [hg]; exact Nat.ne_of_lt (blk_lt (g := gb560) (o := .cells #[.slice A0_0 l0_0.length c0_0, .slice A0_1 l0_1.length c0_1] 30 (0, 0)) impl_GreatestSorts.a1) : gb560 ≠ gb571)); have n9_ := Aside0.mk ((by rw [hg]; exact Nat.ne_of_gt (blk_lt (g := gb560) (o := .cells #[.slice A0_0 l0_0.length c0_0, .slice A0_1 l0_1.length c0_1] 30 (0, 0)) impl_GreatestSorts.a1) : gb571 ≠ gb560)); clear HO563; clear HO566; clear HO569; clear BK560; clear HB; have HO563 := n0_; have HO566 := n1_; have HO569 := n2_; have BK560 := n3_; have HB := n4_; have BK571 := n5_; have GW571 := n6_; have GE571 := n7_; have NB560_571 := n8_; have NB571_560 := n9_; clear n0_ n1_ n2_ n3_ n4_ n5_ n6_ n7_ n8_ n9_; clear hb hbox hg; obtain ⟨Ao12, co12, eo12⟩ := Kd.R_slice HO563.out; subst eo12; have hnb13 := NB571_560.out; have hnc13 := NB560_571.out; have hcz14_0 : w11.cell? ⟨gb571, 0, none⟩ = some (.slice none 0 0) := (blk_cell BK571.out 0).trans rfl; have hcz14_1 : w11.cell? ⟨gb571, 1, none⟩ = some (.slice none 0 0) := (blk_cell BK571.out 1).trans rfl; have hcz14_2 : w11.cell? ⟨gb571, 2, none⟩ = some (.slice none 0 0) := (blk_cell BK571.out 2).trans rfl; have hfz14_0 := blk_frozen BK571.out 0; have hfz14_1 := blk_frozen BK571.out 1; have hfz14_2 := blk_frozen BK571.out 2; obtain ⟨Ao15, co15, eo15⟩ := Kd.R_slice HO566.out; subst eo15; obtain ⟨Ao16, co16, eo16⟩ := Kd.R_slice HO569.out; subst eo16) | (go_at_call 57; (with_reducible refine (impl_order_hasAll.calls _ _ t561 _ _ t564 _ _ t567 a1 true _ ?side1 ?side2 ?side3 ?side4 ?side5 ?side6 A5.out).mono ?_); (case side1 => refine (Kd.R_reads' (e := 3) (base := w.heap.size) (ok := fun k_ => (some k_ ≠ (.slice Ao15 t564.length co15 : Value).ownBlock ∧ some k_ ≠ (.slice Ao16 t567.length co16 : Value).ownBlock)) (n := t561.length) (c := co12) ?_).2.2; exact impl_GreatestSorts.a5); (case side2 => exact (Kd.R_reads' HO563.out).2.1); (case side3 => refine (Kd.R_reads' (e := 3) (base := w.heap.size) (ok := fun k_ => (some k_ ≠ (.slice Ao12 t561.length co12 : Value).ownBlock ∧ some k_ ≠ (.slice Ao16 t567.length co16 : Value).ownBlock)) (n := t564.length) (c := co15) ?_).2.2; exact impl_GreatestSorts.a6); (case side4 => exact (Kd.R_reads' HO566.out).2.1); (case side5 => refine (Kd.R_reads' (e := 3) (base := w.heap.size) (ok := fun k_ => (some k_ ≠ (.slice Ao12 t561.length co12 : Value).ownBlock ∧ some k_ ≠ (.slice Ao15 t564.length co15 : Value).ownBlock)) (n := t567.length) (c := co16) ?_).2.2; exact impl_GreatestSorts.a7); (case side6 => exact (Kd.R_reads' HO569.out).2.1); rintro e w17 ⟨rfl, hb⟩; have n0_ := Aside0.mk (Kd.R_below impl_GreatestSorts.a5 hb); have n1_ := Aside0.mk (Kd.R_below impl_GreatestSorts.a6 hb); have n2_ := Aside0.mk (Kd.R_below impl_GreatestSorts.a7 hb); have n3_ := Aside0.mk (blk_below (g := gb560) (o := .cells #[.slice A0_0 l0_0.length c0_0, .slice A0_1 l0_1.length c0_1] 30 (0, 0)) impl_GreatestSorts.a4 hb); have n4_ := Aside0.mk (blk_below (g := gb571) (o := .cells #[.slice Ao12 t561.length co12, .slice Ao15 t564.length co15, .slice Ao16 t567.length co16] 64 (0, 0)) (by (with_reducible repeat (first | refine blk_drewN ?_ _ | refine blk_drew ?_ | refine blk_alloc ?_ _)); refine blk_put (cs := #[.slice Ao12 t561.length co12, .slice Ao15 t564.length co15, .slice none 0 0]) ?_ 2 _ rfl; (with_reducible repeat (first | refine blk_drewN ?_ _ | refine blk_drew ?_ | refine blk_alloc ?_ _)); refine blk_put (cs := #[.slice Ao12 t561.length co12, .slice none 0 0, .slice none 0 0]) ?_ 1 _ rfl; (with_reducible repeat (first | refine blk_drewN ?_ _ | refine blk_drew ?_ | refine blk_alloc ?_ _)); refine blk_put (cs := #[.slice none 0 0, .slice none 0 0, .slice none 0 0]) ?_ 0 _ rfl; (with_reducible repeat (first | refine blk_drewN ?_ _ | refine blk_drew ?_ | refine blk_alloc ?_ _)); exact BK571.out) hb); have n5_ := Aside0.mk (below_step impl_GreatestSorts.a3 hb); clear HO563; clear HO566; clear HO569; clear BK560; clear BK571; clear HB; have HO563 := n0_; have HO566 := n1_; have HO569 := n2_; have BK560 := n3_; have BK571 := n4_; have HB := n5_; clear n0_ n1_ n2_ n3_ n4_ n5_; (try clear hb); (try clear hb2); (try clear hk); (try clear hi); have hcz18_0 : w17.cell? ⟨gb571, 0, none⟩ = some (.slice Ao12 t561.length co12) := (blk_cell BK571.out 0).trans rfl; have hcz18_1 : w17.cell? ⟨gb571, 1, none⟩ = some (.slice Ao15 t564.length co15) := (blk_cell BK571.out 1).trans rfl; have hcz18_2 : w17.cell? ⟨gb571, 2, none⟩ = some (.slice Ao16 t567.length co16) := (blk_cell BK571.out 2).trans rfl; have hfz18_0 := blk_frozen BK571.out 0; have hfz18_1 := blk_frozen BK571.out 1; have hfz18_2 := blk_frozen BK571.out 2) | ((with_reducible refine gate_callee (f := 58) rfl ?_); refine goesL_ (some 24) rfl rfl Try.func58 (by kernel_rfl) rfl #[.agg #[.slice Ao12 t561.length co12, .slice Ao15 t564.length co15, .slice Ao16 t567.length co16], .int .i64 a1, .slice Ao12 t561.length co12] rfl impl_GreatestSorts.a11 ?_; (with_reducible refine (impl_order_extreme.calls k _ _ t561 _ _ t564 _ _ t567 a1 _ _ t561 t573 _ ?side1 ?side2 ?side3 ?side4 ?side5 ?side6 ?side7 ?side8 A7.out).mono ?_); (case side1 => repeat (first | exact (Kd.R_reads' HO563.out).2.2 | (with_reducible refine Kd.C_alloc ?_ _) | (with_reducible refine Kd.C_drewN ?_ _) | (with_reducible refine Kd.C_drew ?_))); (case side2 => exact (Kd.R_reads' HO563.out).2.1); (case side3 => repeat (first | exact (Kd.R_reads' HO566.out).2.2 | (with_reducible refine Kd.C_alloc ?_ _) | (with_reducible refine Kd.C_drewN ?_ _) | (with_reducible refine Kd.C_drew ?_))); (case side4 => exact (Kd.R_reads' HO566.out).2.1); (case side5 => repeat (first | exact (Kd.R_reads' HO569.out).2.2 | (with_reducible refine Kd.C_alloc ?_ _) | (with_reducible refine Kd.C_drewN ?_ _) | (with_reducible refine Kd.C_drew ?_))); (case side6 => exact (Kd.R_reads' HO569.out).2.1); (case side7 => repeat (first | exact (Kd.R_reads' HO563.out).2.2 | (with_reducible refine Kd.C_alloc ?_ _) | (with_reducible refine Kd.C_drewN ?_ _) | (with_reducible refine Kd.C_drew ?_))); (case side8 => exact (Kd.R_reads' HO563.out).2.1); rintro e w19 ⟨rfl, hb⟩; refine ⟨_, rfl, ?_⟩; have n0_ := Aside0.mk (Kd.R_below impl_GreatestSorts.a12 hb); have n1_ := Aside0.mk (Kd.R_below impl_GreatestSorts.a13 hb); have n2_ := Aside0.mk (Kd.R_below impl_GreatestSorts.a14 hb); have n3_ := Aside0.mk (blk_below (g := gb560) (o := .cells #[.slice A0_0 l0_0.length c0_0, .slice A0_1 l0_1.length c0_1] 30 (0, 0)) impl_GreatestSorts.a1 hb); have n4_ := Aside0.mk (blk_below (g := gb571) (o := .cells #[.slice Ao12 t561.length co12, .slice Ao15 t564.length co15, .slice Ao16 t567.length co16] 64 (0, 0)) (by (with_reducible repeat (first | refine blk_drewN ?_ _ | refine blk_drew ?_ | refine blk_alloc ?_ _)); exact BK571.out) hb); have n5_ := Aside0.mk (below_step impl_GreatestSorts.a3 hb); clear HO563; clear HO566; clear HO569; clear BK560; clear BK571; clear HB; have HO563 := n0_; have HO566 := n1_; have HO569 := n2_; have BK560 := n3_; have BK571 := n4_; have HB := n5_; clear n0_ n1_ n2_ n3_ n4_ n5_; (try clear hb); (try clear hb2); (try clear hk); (try clear hi)))
   go_ret
   exact ⟨impl_GreatestSorts.a15, impl_GreatestSorts.a3⟩
  ·replace c6 := Bool.eq_false_iff.mpr c6
   subst c6
   have H1 : (some 0) = some r := by rw [if_neg (show ¬ (false = true) by decide)] at H; exact H
   clear H
   have H := H1
   clear H1
   obtain rfl := Option.some.inj H
   go_enter Try.func28, Try.ntmps28
   go_wp2_with (first | ((with_reducible refine gate_dst (N := 2) rfl ?_); refine box_event ?hg (N := 2) ?hd (cs := #[.slice A0_0 l0_0.length c0_0, .slice A0_1 l0_1.length c0_1]) (t := 30) ?hr ?_; (case hd => rfl); (case hg => rfl); (case hr => first | (go_simp; done) | (go_simp; rfl)); intro gb560 hg w20 hbox hb; have n0_ := Aside0.mk (below_step impl_GreatestSorts.a2 hb); have n1_ := Aside0.mk (hbox); have n2_ := Aside0.mk ((by rw [hg]; exact (below_size impl_GreatestSorts.a2) : w.heap.size ≤ gb560)); have n3_ := Aside0.mk ((by rw [hg]; exact (below_size impl_GreatestSorts.a2) : w.heap.size ≤ gb560)); clear HB; have HB := n0_; have BK560 := n1_; have GW560 := n2_; have GE560 := n3_; clear n0_ n1_ n2_ n3_; clear hb hbox hg; have hcz21_0 : w20.cell? ⟨gb560, 0, none⟩ = some (.slice A0_0 l0_0.length c0_0) := (blk_cell BK560.out 0).trans rfl; have hcz21_1 : w20.cell? ⟨gb560, 1, none⟩ = some (.slice A0_1 l0_1.length c0_1) := (blk_cell BK560.out 1).trans rfl; have hfz21_0 := blk_frozen BK560.out 0; have hfz21_1 := blk_frozen BK560.out 1) | ((with_reducible refine gate_callee (f := 52) rfl ?_); refine goesL_ (some 9) rfl rfl Try.func52 (by kernel_rfl) rfl #[.agg #[.slice A0_0 l0_0.length c0_0, .slice A0_1 l0_1.length c0_1]] rfl impl_GreatestSorts.a11 ?_; (with_reducible refine (impl_newOrder.calls k _ _ l0_0 _ _ l0_1 t561 t564 t567 true _ ?side1 ?side2 ?side3 ?side4 A3.out).mono ?_); (case side1 => repeat (first | exact (Kd.C_below HR0_0.out HB.out) | (with_reducible refine Kd.C_alloc ?_ _) | (with_reducible refine Kd.C_drewN ?_ _) | (with_reducible refine Kd.C_drew ?_))); (case side2 => exact HC0_0.out); (case side3 => repeat (first | exact (Kd.C_below HR0_1.out HB.out) | (with_reducible refine Kd.C_alloc ?_ _) | (with_reducible refine Kd.C_drewN ?_ _) | (with_reducible refine Kd.C_drew ?_))); (case side4 => exact HC0_1.out); rintro e w22 ⟨v562, v565, v568, rfl, ho0, ho1, ho2, hb⟩; refine ⟨_, rfl, ?_⟩; have n0_ := Aside0.mk (Kd.R_lower ho0 (below_size impl_GreatestSorts.a0)); have n1_ := Aside0.mk (Kd.R_lower ho1 (below_size impl_GreatestSorts.a0)); have n2_ := Aside0.mk (Kd.R_lower ho2 (below_size impl_GreatestSorts.a0)); have n3_ := Aside0.mk (blk_below (g := gb560) (o := .cells #[.slice A0_0 l0_0.length c0_0, .slice A0_1 l0_1.length c0_1] 30 (0, 0)) impl_GreatestSorts.a1 hb); have n4_ := Aside0.mk (below_step impl_GreatestSorts.a0 hb); clear BK560; clear HB; have HO563 := n0_; have HO566 := n1_; have HO569 := n2_; have BK560 := n3_; have HB := n4_; clear n0_ n1_ n2_ n3_ n4_; (try clear hb); (try clear hb2); (try clear hk); (try clear hi); (try clear ho0); (try clear ho1); (try clear ho2)) | ((with_reducible refine gate_dst (N := 5) rfl ?_); refine box_event ?hg (N := 5) ?hd (cs := #[.slice none 0 0, .slice none 0 0, .slice none 0 0]) (t := 64) ?hr ?_; (case hd => rfl); (case hg => rfl); (case hr => first | (go_simp; done) | (go_simp; rfl)); intro gb571 hg w23 hbox hb; have n0_ := Aside0.mk (Kd.R_below impl_GreatestSorts.a12 hb); have n1_ := Aside0.mk (Kd.R_below impl_GreatestSorts.a13 hb); have n2_ := Aside0.mk (Kd.R_below impl_GreatestSorts.a14 hb); have n3_ := Aside0.mk (blk_below (g := gb560) (o := .cells #[.slice A0_0 l0_0.length c0_0, .slice A0_1 l0_1.length c0_1] 30 (0, 0)) impl_GreatestSorts.a1 hb); have n4_ := Aside0.mk (below_step impl_GreatestSorts.a0 hb); have n5_ := Aside0.mk (hbox); have n6_ := Aside0.mk ((by rw [hg]; exact (below_size impl_GreatestSorts.a0) : w.heap.size ≤ gb571)); have n7_ := Aside0.mk ((by rw [hg]; exact (below_size impl_GreatestSorts.a0) : w.heap.size ≤ gb571)); have n8_ := Aside0.mk ((by rw [hg]; exact Nat.ne_of_lt (blk_lt (g := gb560) (o := .cells #[.slice A0_0 l0_0.length c0_0, .slice A0_1 l0_1.length c0_1] 30 (0, 0)) impl_GreatestSorts.a1) : gb560 ≠ gb571)); have n9_ := Aside0.mk ((by rw [hg]; exact Nat.ne_of_gt (blk_lt (g := gb560) (o := .cells #[.slice A0_0 l0_0.length c0_0, .slice A0_1 l0_1.length c0_1] 30 (0, 0)) impl_GreatestSorts.a1) : gb571 ≠ gb560)); clear HO563; clear HO566; clear HO569; clear BK560; clear HB; have HO563 := n0_; have HO566 := n1_; have HO569 := n2_; have BK560 := n3_; have HB := n4_; have BK571 := n5_; have GW571 := n6_; have GE571 := n7_; have NB560_571 := n8_; have NB571_560 := n9_; clear n0_ n1_ n2_ n3_ n4_ n5_ n6_ n7_ n8_ n9_; clear hb hbox hg; obtain ⟨Ao24, co24, eo24⟩ := Kd.R_slice HO563.out; subst eo24; have hnb25 := NB571_560.out; have hnc25 := NB560_571.out; have hcz26_0 : w23.cell? ⟨gb571, 0, none⟩ = some (.slice none 0 0) := (blk_cell BK571.out 0).trans rfl; have hcz26_1 : w23.cell? ⟨gb571, 1, none⟩ = some (.slice none 0 0) := (blk_cell BK571.out 1).trans rfl; have hcz26_2 : w23.cell? ⟨gb571, 2, none⟩ = some (.slice none 0 0) := (blk_cell BK571.out 2).trans rfl; have hfz26_0 := blk_frozen BK571.out 0; have hfz26_1 := blk_frozen BK571.out 1; have hfz26_2 := blk_frozen BK571.out 2; obtain ⟨Ao27, co27, eo27⟩ := Kd.R_slice HO566.out; subst eo27; obtain ⟨Ao28, co28, eo28⟩ := Kd.R_slice HO569.out; subst eo28) | (go_at_call 57; (with_reducible refine (impl_order_hasAll.calls _ _ t561 _ _ t564 _ _ t567 a1 false _ ?side1 ?side2 ?side3 ?side4 ?side5 ?side6 A5.out).mono ?_); (case side1 => refine (Kd.R_reads' (e := 3) (base := w.heap.size) (ok := fun k_ => (some k_ ≠ (.slice Ao27 t564.length co27 : Value).ownBlock ∧ some k_ ≠ (.slice Ao28 t567.length co28 : Value).ownBlock)) (n := t561.length) (c := co24) ?_).2.2; exact impl_GreatestSorts.a8); (case side2 => exact (Kd.R_reads' HO563.out).2.1); (case side3 => refine (Kd.R_reads' (e := 3) (base := w.heap.size) (ok := fun k_ => (some k_ ≠ (.slice Ao24 t561.length co24 : Value).ownBlock ∧ some k_ ≠ (.slice Ao28 t567.length co28 : Value).ownBlock)) (n := t564.length) (c := co27) ?_).2.2; exact impl_GreatestSorts.a9); (case side4 => exact (Kd.R_reads' HO566.out).2.1); (case side5 => refine (Kd.R_reads' (e := 3) (base := w.heap.size) (ok := fun k_ => (some k_ ≠ (.slice Ao24 t561.length co24 : Value).ownBlock ∧ some k_ ≠ (.slice Ao27 t564.length co27 : Value).ownBlock)) (n := t567.length) (c := co28) ?_).2.2; exact impl_GreatestSorts.a10); (case side6 => exact (Kd.R_reads' HO569.out).2.1); rintro e w29 ⟨rfl, hb⟩; have n0_ := Aside0.mk (Kd.R_below impl_GreatestSorts.a8 hb); have n1_ := Aside0.mk (Kd.R_below impl_GreatestSorts.a9 hb); have n2_ := Aside0.mk (Kd.R_below impl_GreatestSorts.a10 hb); have n3_ := Aside0.mk (blk_below (g := gb560) (o := .cells #[.slice A0_0 l0_0.length c0_0, .slice A0_1 l0_1.length c0_1] 30 (0, 0)) impl_GreatestSorts.a4 hb); have n4_ := Aside0.mk (blk_below (g := gb571) (o := .cells #[.slice Ao24 t561.length co24, .slice Ao27 t564.length co27, .slice Ao28 t567.length co28] 64 (0, 0)) (by (with_reducible repeat (first | refine blk_drewN ?_ _ | refine blk_drew ?_ | refine blk_alloc ?_ _)); refine blk_put (cs := #[.slice Ao24 t561.length co24, .slice Ao27 t564.length co27, .slice none 0 0]) ?_ 2 _ rfl; (with_reducible repeat (first | refine blk_drewN ?_ _ | refine blk_drew ?_ | refine blk_alloc ?_ _)); refine blk_put (cs := #[.slice Ao24 t561.length co24, .slice none 0 0, .slice none 0 0]) ?_ 1 _ rfl; (with_reducible repeat (first | refine blk_drewN ?_ _ | refine blk_drew ?_ | refine blk_alloc ?_ _)); refine blk_put (cs := #[.slice none 0 0, .slice none 0 0, .slice none 0 0]) ?_ 0 _ rfl; (with_reducible repeat (first | refine blk_drewN ?_ _ | refine blk_drew ?_ | refine blk_alloc ?_ _)); exact BK571.out) hb); have n5_ := Aside0.mk (below_step impl_GreatestSorts.a3 hb); clear HO563; clear HO566; clear HO569; clear BK560; clear BK571; clear HB; have HO563 := n0_; have HO566 := n1_; have HO569 := n2_; have BK560 := n3_; have BK571 := n4_; have HB := n5_; clear n0_ n1_ n2_ n3_ n4_ n5_; (try clear hb); (try clear hb2); (try clear hk); (try clear hi)))
   go_ret
   exact ⟨impl_GreatestSorts.a15, impl_GreatestSorts.a3⟩
 ·replace c4 := Bool.eq_false_iff.mpr c4
  subst c4
  have H1 : (some 0) = some r := by rw [if_neg (show ¬ (false = true) by decide)] at H; exact H
  clear H
  have H := H1
  clear H1
  obtain rfl := Option.some.inj H
  go_enter Try.func28, Try.ntmps28
  go_wp2_with (first | ((with_reducible refine gate_dst (N := 2) rfl ?_); refine box_event ?hg (N := 2) ?hd (cs := #[.slice A0_0 l0_0.length c0_0, .slice A0_1 l0_1.length c0_1]) (t := 30) ?hr ?_; (case hd => rfl); (case hg => rfl); (case hr => first | (go_simp; done) | (go_simp; rfl)); intro gb560 hg w30 hbox hb; have n0_ := Aside0.mk (below_step impl_GreatestSorts.a2 hb); have n1_ := Aside0.mk (hbox); have n2_ := Aside0.mk ((by rw [hg]; exact (below_size impl_GreatestSorts.a2) : w.heap.size ≤ gb560)); have n3_ := Aside0.mk ((by rw [hg]; exact (below_size impl_GreatestSorts.a2) : w.heap.size ≤ gb560)); clear HB; have HB := n0_; have BK560 := n1_; have GW560 := n2_; have GE560 := n3_; clear n0_ n1_ n2_ n3_; clear hb hbox hg; have hcz31_0 : w30.cell? ⟨gb560, 0, none⟩ = some (.slice A0_0 l0_0.length c0_0) := (blk_cell BK560.out 0).trans rfl; have hcz31_1 : w30.cell? ⟨gb560, 1, none⟩ = some (.slice A0_1 l0_1.length c0_1) := (blk_cell BK560.out 1).trans rfl; have hfz31_0 := blk_frozen BK560.out 0; have hfz31_1 := blk_frozen BK560.out 1) | ((with_reducible refine gate_callee (f := 52) rfl ?_); refine goesL_ (some 9) rfl rfl Try.func52 (by kernel_rfl) rfl #[.agg #[.slice A0_0 l0_0.length c0_0, .slice A0_1 l0_1.length c0_1]] rfl impl_GreatestSorts.a11 ?_; (with_reducible refine (impl_newOrder.calls k _ _ l0_0 _ _ l0_1 t561 t564 t567 false _ ?side1 ?side2 ?side3 ?side4 A3.out).mono ?_); (case side1 => repeat (first | exact (Kd.C_below HR0_0.out HB.out) | (with_reducible refine Kd.C_alloc ?_ _) | (with_reducible refine Kd.C_drewN ?_ _) | (with_reducible refine Kd.C_drew ?_))); (case side2 => exact HC0_0.out); (case side3 => repeat (first | exact (Kd.C_below HR0_1.out HB.out) | (with_reducible refine Kd.C_alloc ?_ _) | (with_reducible refine Kd.C_drewN ?_ _) | (with_reducible refine Kd.C_drew ?_))); (case side4 => exact HC0_1.out); rintro e w32 ⟨v562, v565, v568, rfl, ho0, ho1, ho2, hb⟩; refine ⟨_, rfl, ?_⟩; have n0_ := Aside0.mk (Kd.R_lower ho0 (below_size impl_GreatestSorts.a0)); have n1_ := Aside0.mk (Kd.R_lower ho1 (below_size impl_GreatestSorts.a0)); have n2_ := Aside0.mk (Kd.R_lower ho2 (below_size impl_GreatestSorts.a0)); have n3_ := Aside0.mk (blk_below (g := gb560) (o := .cells #[.slice A0_0 l0_0.length c0_0, .slice A0_1 l0_1.length c0_1] 30 (0, 0)) impl_GreatestSorts.a1 hb); have n4_ := Aside0.mk (below_step impl_GreatestSorts.a0 hb); clear BK560; clear HB; have HO563 := n0_; have HO566 := n1_; have HO569 := n2_; have BK560 := n3_; have HB := n4_; clear n0_ n1_ n2_ n3_ n4_; (try clear hb); (try clear hb2); (try clear hk); (try clear hi); (try clear ho0); (try clear ho1); (try clear ho2)) | ((with_reducible refine gate_dst (N := 5) rfl ?_); refine box_event ?hg (N := 5) ?hd (cs := #[.slice none 0 0, .slice none 0 0, .slice none 0 0]) (t := 64) ?hr ?_; (case hd => rfl); (case hg => rfl); (case hr => first | (go_simp; done) | (go_simp; rfl)); intro gb571 hg w33 hbox hb; have n0_ := Aside0.mk (Kd.R_below impl_GreatestSorts.a12 hb); have n1_ := Aside0.mk (Kd.R_below impl_GreatestSorts.a13 hb); have n2_ := Aside0.mk (Kd.R_below impl_GreatestSorts.a14 hb); have n3_ := Aside0.mk (blk_below (g := gb560) (o := .cells #[.slice A0_0 l0_0.length c0_0, .slice A0_1 l0_1.length c0_1] 30 (0, 0)) impl_GreatestSorts.a1 hb); have n4_ := Aside0.mk (below_step impl_GreatestSorts.a0 hb); have n5_ := Aside0.mk (hbox); have n6_ := Aside0.mk ((by rw [hg]; exact (below_size impl_GreatestSorts.a0) : w.heap.size ≤ gb571)); have n7_ := Aside0.mk ((by rw [hg]; exact (below_size impl_GreatestSorts.a0) : w.heap.size ≤ gb571)); have n8_ := Aside0.mk ((by rw [hg]; exact Nat.ne_of_lt (blk_lt (g := gb560) (o := .cells #[.slice A0_0 l0_0.length c0_0, .slice A0_1 l0_1.length c0_1] 30 (0, 0)) impl_GreatestSorts.a1) : gb560 ≠ gb571)); have n9_ := Aside0.mk ((by rw [hg]; exact Nat.ne_of_gt (blk_lt (g := gb560) (o := .cells #[.slice A0_0 l0_0.length c0_0, .slice A0_1 l0_1.length c0_1] 30 (0, 0)) impl_GreatestSorts.a1) : gb571 ≠ gb560)); clear HO563; clear HO566; clear HO569; clear BK560; clear HB; have HO563 := n0_; have HO566 := n1_; have HO569 := n2_; have BK560 := n3_; have HB := n4_; have BK571 := n5_; have GW571 := n6_; have GE571 := n7_; have NB560_571 := n8_; have NB571_560 := n9_; clear n0_ n1_ n2_ n3_ n4_ n5_ n6_ n7_ n8_ n9_; clear hb hbox hg; obtain ⟨Ao34, co34, eo34⟩ := Kd.R_slice HO563.out; subst eo34; have hnb35 := NB571_560.out; have hnc35 := NB560_571.out; have hcz36_0 : w33.cell? ⟨gb571, 0, none⟩ = some (.slice none 0 0) := (blk_cell BK571.out 0).trans rfl; have hcz36_1 : w33.cell? ⟨gb571, 1, none⟩ = some (.slice none 0 0) := (blk_cell BK571.out 1).trans rfl; have hcz36_2 : w33.cell? ⟨gb571, 2, none⟩ = some (.slice none 0 0) := (blk_cell BK571.out 2).trans rfl; have hfz36_0 := blk_frozen BK571.out 0; have hfz36_1 := blk_frozen BK571.out 1; have hfz36_2 := blk_frozen BK571.out 2; obtain ⟨Ao37, co37, eo37⟩ := Kd.R_slice HO566.out; subst eo37; obtain ⟨Ao38, co38, eo38⟩ := Kd.R_slice HO569.out; subst eo38))
  go_ret
  exact ⟨impl_GreatestSorts.a15, impl_GreatestSorts.a3⟩

end Go.Proofs.Ytlpkicbmcpmemaa.Q

