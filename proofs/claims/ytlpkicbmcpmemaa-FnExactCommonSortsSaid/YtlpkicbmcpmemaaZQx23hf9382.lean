/- Functions of the program as plain Lean functions, and that the calls come to what they say. -/
import Derived.Test.YtlpkicbmcpmemaaZQx0h0f72a
import Derived.Test.YtlpkicbmcpmemaaZQx1h8a6a8
import Derived.Test.YtlpkicbmcpmemaaZQx5h4661f
import Derived.Test.YtlpkicbmcpmemaaZQx8haf1cc
import Derived.Test.YtlpkicbmcpmemaaZQx10hcec99
import Derived.Test.YtlpkicbmcpmemaaZQx11h3aeb5
import Derived.Test.YtlpkicbmcpmemaaZQx14he8c43
import Derived.Test.YtlpkicbmcpmemaaZQx15ha55fb
import Derived.Test.YtlpkicbmcpmemaaZQx20heac09
import Derived.Test.YtlpkicbmcpmemaaZQx22h94999
import Derived.Test.YtlpkicbmcpmemaaZShorth1c220
namespace Go.Proofs.Ytlpkicbmcpmemaa.Q
open Go.RowKit Go.Proofs.YtlpkicbmcpmemaaW.PrintWords Go.Proofs.YtlpkicbmcpmemaaW.PrintLast Go.Proofs.YtlpkicbmcpmemaaW.PrintMore
attribute [local go_sem] max2_int min2_int max_two min_two max_three min_three max_four min_four   -- for this text's walks alone
set_option linter.unusedVariables false
set_option linter.unusedSimpArgs false

/-! ### impl_CommonSorts: function 32 -/
theorem impl_CommonSorts.a0 {P_ : Prop} (h_ : P_ := by repeat (first | (with_reducible first | exact HB.out | apply below_alloc | apply pw_below_drewN | apply below_drew1 | refine below_set ?_ GE652.out) | exact HB.out)) : P_ := h_
theorem impl_CommonSorts.a1 {P_ : Prop} (h_ : P_ := by (with_reducible repeat (first | refine blk_drewN ?_ _ | refine blk_drew ?_ | refine blk_alloc ?_ _)); exact BK652.out) : P_ := h_
theorem impl_CommonSorts.a2 {P_ : Prop} (h_ : P_ := by repeat (first | (with_reducible first | exact HB.out | apply below_alloc | apply pw_below_drewN | apply below_drew1 | refine below_set ?_ GE652.out | refine below_set ?_ GE663.out) | exact HB.out)) : P_ := h_
theorem impl_CommonSorts.a3 {P_ : Prop} (h_ : P_ := by repeat (first | (with_reducible first | exact HB.out | apply below_alloc | apply pw_below_drewN | apply below_drew1) | exact HB.out)) : P_ := h_
theorem impl_CommonSorts.a4 {P_ : Prop} (h_ : P_ := by (with_reducible repeat (first | refine blk_drewN ?_ _ | refine blk_drew ?_ | refine blk_alloc ?_ _)); refine blk_far ?_ NB652_663.out _; (with_reducible repeat (first | refine blk_drewN ?_ _ | refine blk_drew ?_ | refine blk_alloc ?_ _)); refine blk_far ?_ NB652_663.out _; (with_reducible repeat (first | refine blk_drewN ?_ _ | refine blk_drew ?_ | refine blk_alloc ?_ _)); refine blk_far ?_ NB652_663.out _; (with_reducible repeat (first | refine blk_drewN ?_ _ | refine blk_drew ?_ | refine blk_alloc ?_ _)); exact BK652.out) : P_ := h_
theorem impl_CommonSorts.a5 {P_ : Prop} (h_ : P_ := by (with_reducible repeat (first | apply Kd.R_alloc | apply Kd.R_drewN | apply Kd.R_drew)); exact HO655.out) : P_ := h_
theorem impl_CommonSorts.a6 {P_ : Prop} (h_ : P_ := by (with_reducible repeat (first | apply Kd.R_alloc | apply Kd.R_drewN | apply Kd.R_drew)); exact HO658.out) : P_ := h_
theorem impl_CommonSorts.a7 {P_ : Prop} (h_ : P_ := by (with_reducible repeat (first | apply Kd.R_alloc | apply Kd.R_drewN | apply Kd.R_drew)); exact HO661.out) : P_ := h_
theorem impl_CommonSorts.a8 {P_ : Prop} (h_ : P_ := by (try simp only [List.map_toArray, List.map_cons, List.map_nil]); first | done | rfl | (simp only [List.length_drop, List.length_take]; rfl)) : P_ := h_
theorem impl_CommonSorts.a9 {P_ : Prop} (h_ : P_ := by (with_reducible repeat (first | apply Kd.R_alloc | apply Kd.R_drewN | apply Kd.R_drew)); exact (Kd.R_mono (Kd.R_far (p := ⟨gb663, 2, none⟩) (Kd.R_far (p := ⟨gb663, 1, none⟩) (Kd.R_far (p := ⟨gb663, 0, none⟩) (Kd.R_types HO655.out BK663.out (by decide)) (fun _ hk => hk.2) (.slice Ao19 t653.length co19)) (fun _ hk => hk.2) (.slice Ao22 t656.length co22)) (fun _ hk => hk.2) (.slice Ao23 t659.length co23)) (fun _ h_ => h_.1))) : P_ := h_
theorem impl_CommonSorts.a10 {P_ : Prop} (h_ : P_ := by (with_reducible repeat (first | apply Kd.R_alloc | apply Kd.R_drewN | apply Kd.R_drew)); exact (Kd.R_mono (Kd.R_far (p := ⟨gb663, 2, none⟩) (Kd.R_far (p := ⟨gb663, 1, none⟩) (Kd.R_far (p := ⟨gb663, 0, none⟩) (Kd.R_types HO658.out BK663.out (by decide)) (fun _ hk => hk.2) (.slice Ao19 t653.length co19)) (fun _ hk => hk.2) (.slice Ao22 t656.length co22)) (fun _ hk => hk.2) (.slice Ao23 t659.length co23)) (fun _ h_ => h_.1))) : P_ := h_
theorem impl_CommonSorts.a11 {P_ : Prop} (h_ : P_ := by (with_reducible repeat (first | apply Kd.R_alloc | apply Kd.R_drewN | apply Kd.R_drew)); exact (Kd.R_mono (Kd.R_far (p := ⟨gb663, 2, none⟩) (Kd.R_far (p := ⟨gb663, 1, none⟩) (Kd.R_far (p := ⟨gb663, 0, none⟩) (Kd.R_types HO661.out BK663.out (by decide)) (fun _ hk => hk.2) (.slice Ao19 t653.length co19)) (fun _ hk => hk.2) (.slice Ao22 t656.length co22)) (fun _ hk => hk.2) (.slice Ao23 t659.length co23)) (fun _ h_ => h_.1))) : P_ := h_
theorem impl_CommonSorts.a12 {P_ : Prop} (h_ : P_ := by (with_reducible repeat (first | apply Kd.R_alloc | apply Kd.R_drewN | apply Kd.R_drew)); exact (Kd.R_mono (Kd.R_far (p := ⟨gb663, 2, none⟩) (Kd.R_far (p := ⟨gb663, 1, none⟩) (Kd.R_far (p := ⟨gb663, 0, none⟩) (Kd.R_types HO655.out BK663.out (by decide)) (fun _ hk => hk.2) (.slice Ao33 t653.length co33)) (fun _ hk => hk.2) (.slice Ao36 t656.length co36)) (fun _ hk => hk.2) (.slice Ao37 t659.length co37)) (fun _ h_ => h_.1))) : P_ := h_
theorem impl_CommonSorts.a13 {P_ : Prop} (h_ : P_ := by (with_reducible repeat (first | apply Kd.R_alloc | apply Kd.R_drewN | apply Kd.R_drew)); exact (Kd.R_mono (Kd.R_far (p := ⟨gb663, 2, none⟩) (Kd.R_far (p := ⟨gb663, 1, none⟩) (Kd.R_far (p := ⟨gb663, 0, none⟩) (Kd.R_types HO658.out BK663.out (by decide)) (fun _ hk => hk.2) (.slice Ao33 t653.length co33)) (fun _ hk => hk.2) (.slice Ao36 t656.length co36)) (fun _ hk => hk.2) (.slice Ao37 t659.length co37)) (fun _ h_ => h_.1))) : P_ := h_
theorem impl_CommonSorts.a14 {P_ : Prop} (h_ : P_ := by (with_reducible repeat (first | apply Kd.R_alloc | apply Kd.R_drewN | apply Kd.R_drew)); exact (Kd.R_mono (Kd.R_far (p := ⟨gb663, 2, none⟩) (Kd.R_far (p := ⟨gb663, 1, none⟩) (Kd.R_far (p := ⟨gb663, 0, none⟩) (Kd.R_types HO661.out BK663.out (by decide)) (fun _ hk => hk.2) (.slice Ao33 t653.length co33)) (fun _ hk => hk.2) (.slice Ao36 t656.length co36)) (fun _ hk => hk.2) (.slice Ao37 t659.length co37)) (fun _ h_ => h_.1))) : P_ := h_
theorem impl_CommonSorts.a15 {P_ : Prop} (h_ : P_ := by (with_reducible repeat (first | apply Kd.R_alloc | apply Kd.R_drewN | apply Kd.R_drew)); exact (Kd.R_mono (Kd.R_far (p := ⟨gb663, 2, none⟩) (Kd.R_far (p := ⟨gb663, 1, none⟩) (Kd.R_far (p := ⟨gb663, 0, none⟩) (Kd.R_types HO655.out BK663.out (by decide)) (fun _ hk => hk.2) (.slice Ao45 t653.length co45)) (fun _ hk => hk.2) (.slice Ao48 t656.length co48)) (fun _ hk => hk.2) (.slice Ao49 t659.length co49)) (fun _ h_ => h_.1))) : P_ := h_
theorem impl_CommonSorts.a16 {P_ : Prop} (h_ : P_ := by (with_reducible repeat (first | apply Kd.R_alloc | apply Kd.R_drewN | apply Kd.R_drew)); exact (Kd.R_mono (Kd.R_far (p := ⟨gb663, 2, none⟩) (Kd.R_far (p := ⟨gb663, 1, none⟩) (Kd.R_far (p := ⟨gb663, 0, none⟩) (Kd.R_types HO658.out BK663.out (by decide)) (fun _ hk => hk.2) (.slice Ao45 t653.length co45)) (fun _ hk => hk.2) (.slice Ao48 t656.length co48)) (fun _ hk => hk.2) (.slice Ao49 t659.length co49)) (fun _ h_ => h_.1))) : P_ := h_
theorem impl_CommonSorts.a17 {P_ : Prop} (h_ : P_ := by (with_reducible repeat (first | apply Kd.R_alloc | apply Kd.R_drewN | apply Kd.R_drew)); exact (Kd.R_mono (Kd.R_far (p := ⟨gb663, 2, none⟩) (Kd.R_far (p := ⟨gb663, 1, none⟩) (Kd.R_far (p := ⟨gb663, 0, none⟩) (Kd.R_types HO661.out BK663.out (by decide)) (fun _ hk => hk.2) (.slice Ao45 t653.length co45)) (fun _ hk => hk.2) (.slice Ao48 t656.length co48)) (fun _ hk => hk.2) (.slice Ao49 t659.length co49)) (fun _ h_ => h_.1))) : P_ := h_
def impl_CommonSorts.f (k : Nat) (l0_0 : List ByteArray) (l0_1 : List (S52)) (a1 : Int) (a2 : Int) : Option (Int) := (impl_newOrder.f k l0_0 l0_1).bind fun bt653 => (if bt653.2.2.2 = true then ((impl_order_has.f bt653.1 bt653.2.1 bt653.2.2.1 a1).bind fun t664 => (if t664 = true then ((impl_order_has.f bt653.1 bt653.2.1 bt653.2.2.1 a2).bind fun t665 => (if t665 = true then (if 0 ≤ a1 then (if a1 < (bt653.2.1.length : Int) then (if 0 ≤ a2 then (if a2 < (bt653.2.1.length : Int) then ((impl_order_extreme.f k bt653.1 bt653.2.1 bt653.2.2.1 (Go.bits .and .i64 (rd bt653.2.1 a1) (rd bt653.2.1 a2)) bt653.1).bind fun t668 => (some t668)) else (none)) else (none)) else (none)) else (none)) else (some 0))) else (some 0))) else (some 0))
def impl_CommonSorts.T4 : Bool × List (List Nat × List Nat) := (true, [([], []), ([], []), ([1], [1]), ([], []), ([2, 3], [2, 3]), ([4], [4]), ([], []), ([6], [6]), ([], []), ([7, 8], [7, 8]), ([9], [9]), ([5, 10], [5, 10]), ([], []), ([12], [12]), ([0, 11, 13], [0, 11, 13]), ([14, 14, 0, 1, 2, 3, 4, 5, 6, 7, 8, 9, 10, 11, 12, 13, 14], [14])])
def impl_CommonSorts.B4 : List Nat := [0, 0, 2, 0, 14, 30, 0, 64, 0, 448, 960, 2046, 0, 4096, 16383, 32767]
theorem impl_CommonSorts.tab4 : rtab .any (opsOf Try.f32 4) = impl_CommonSorts.T4 := by kernel_rfl
theorem impl_CommonSorts.bits4 : waitsOk impl_CommonSorts.T4.2 impl_CommonSorts.B4 = true := by kernel_rfl
set_option maxHeartbeats 8000000 in
set_option maxRecDepth 100000 in
theorem impl_CommonSorts.calls (k : Nat) (A0_0 : Option Addr) (c0_0 : Nat) (l0_0 : List ByteArray) (A0_1 : Option Addr) (c0_1 : Nat) (l0_1 : List (S52)) (a1 : Int) (a2 : Int) (r : Int) (w : World) (hr0_0 : Kd.C Kd.string w A0_0 l0_0.length l0_0) (hc0_0 : l0_0.length ≤ c0_0) (hr0_1 : Kd.C k52 w A0_1 l0_1.length l0_1) (hc0_1 : l0_1.length ≤ c0_1) (h : impl_CommonSorts.f k l0_0 l0_1 a1 a2 = some r) :
  Calls Try.prog 32 #[.agg #[.slice A0_0 l0_0.length c0_0, .slice A0_1 l0_1.length c0_1], .int .i64 a1, .int .i64 a2] w fun e w' => e = .returned (.int .i64 r) ∧ Below w.heap.size w w' := by
 have hu30 := Try.underlying30
 have hu64 := Try.underlying64
 have HR0_0 := Aside0.mk hr0_0
 have HC0_0 := Aside0.mk hc0_0
 clear hr0_0 hc0_0
 have HR0_1 := Aside0.mk hr0_1
 have HC0_1 := Aside0.mk hc0_1
 clear hr0_1 hc0_1
 have HB := Aside0.mk (Below.refl w.heap.size w)
 have H : ((impl_newOrder.f k l0_0 l0_1).bind fun bt653 => (if bt653.2.2.2 = true then ((impl_order_has.f bt653.1 bt653.2.1 bt653.2.2.1 a1).bind fun t664 => (if t664 = true then ((impl_order_has.f bt653.1 bt653.2.1 bt653.2.2.1 a2).bind fun t665 => (if t665 = true then (if 0 ≤ a1 then (if a1 < (bt653.2.1.length : Int) then (if 0 ≤ a2 then (if a2 < (bt653.2.1.length : Int) then ((impl_order_extreme.f k bt653.1 bt653.2.1 bt653.2.2.1 (Go.bits .and .i64 (rd bt653.2.1 a1) (rd bt653.2.1 a2)) bt653.1).bind fun t668 => (some t668)) else (none)) else (none)) else (none)) else (none)) else (some 0))) else (some 0))) else (some 0))) = some r := h
 clear h
 replace H := Option.bind_eq_some_iff.mp H
 obtain ⟨⟨t653, t656, t659, t662⟩, A40, H⟩ := H
 replace H : (if t662 = true then ((impl_order_has.f t653 t656 t659 a1).bind fun t664 => (if t664 = true then ((impl_order_has.f t653 t656 t659 a2).bind fun t665 => (if t665 = true then (if 0 ≤ a1 then (if a1 < (t656.length : Int) then (if 0 ≤ a2 then (if a2 < (t656.length : Int) then ((impl_order_extreme.f k t653 t656 t659 (Go.bits .and .i64 (rd t656 a1) (rd t656 a2)) t653).bind fun t668 => (some t668)) else (none)) else (none)) else (none)) else (none)) else (some 0))) else (some 0))) else (some 0)) = some r := H
 have A4 := Aside0.mk A40
 clear A40
 by_cases c5 : t662 = true
 ·subst c5
  have H1 : ((impl_order_has.f t653 t656 t659 a1).bind fun t664 => (if t664 = true then ((impl_order_has.f t653 t656 t659 a2).bind fun t665 => (if t665 = true then (if 0 ≤ a1 then (if a1 < (t656.length : Int) then (if 0 ≤ a2 then (if a2 < (t656.length : Int) then ((impl_order_extreme.f k t653 t656 t659 (Go.bits .and .i64 (rd t656 a1) (rd t656 a2)) t653).bind fun t668 => (some t668)) else (none)) else (none)) else (none)) else (none)) else (some 0))) else (some 0))) = some r := by rw [if_pos rfl] at H; exact H
  clear H
  have H := H1
  clear H1
  replace H := Option.bind_eq_some_iff.mp H
  obtain ⟨t664, A60, H⟩ := H
  replace H : (if t664 = true then ((impl_order_has.f t653 t656 t659 a2).bind fun t665 => (if t665 = true then (if 0 ≤ a1 then (if a1 < (t656.length : Int) then (if 0 ≤ a2 then (if a2 < (t656.length : Int) then ((impl_order_extreme.f k t653 t656 t659 (Go.bits .and .i64 (rd t656 a1) (rd t656 a2)) t653).bind fun t668 => (some t668)) else (none)) else (none)) else (none)) else (none)) else (some 0))) else (some 0)) = some r := H
  have A6 := Aside0.mk A60
  clear A60
  by_cases c7 : t664 = true
  ·subst c7
   have H1 : ((impl_order_has.f t653 t656 t659 a2).bind fun t665 => (if t665 = true then (if 0 ≤ a1 then (if a1 < (t656.length : Int) then (if 0 ≤ a2 then (if a2 < (t656.length : Int) then ((impl_order_extreme.f k t653 t656 t659 (Go.bits .and .i64 (rd t656 a1) (rd t656 a2)) t653).bind fun t668 => (some t668)) else (none)) else (none)) else (none)) else (none)) else (some 0))) = some r := by rw [if_pos rfl] at H; exact H
   clear H
   have H := H1
   clear H1
   replace H := Option.bind_eq_some_iff.mp H
   obtain ⟨t665, A80, H⟩ := H
   replace H : (if t665 = true then (if 0 ≤ a1 then (if a1 < (t656.length : Int) then (if 0 ≤ a2 then (if a2 < (t656.length : Int) then ((impl_order_extreme.f k t653 t656 t659 (Go.bits .and .i64 (rd t656 a1) (rd t656 a2)) t653).bind fun t668 => (some t668)) else (none)) else (none)) else (none)) else (none)) else (some 0)) = some r := H
   have A8 := Aside0.mk A80
   clear A80
   by_cases c9 : t665 = true
   ·subst c9
    have H1 : (if 0 ≤ a1 then (if a1 < (t656.length : Int) then (if 0 ≤ a2 then (if a2 < (t656.length : Int) then ((impl_order_extreme.f k t653 t656 t659 (Go.bits .and .i64 (rd t656 a1) (rd t656 a2)) t653).bind fun t668 => (some t668)) else (none)) else (none)) else (none)) else (none)) = some r := by rw [if_pos rfl] at H; exact H
    clear H
    have H := H1
    clear H1
    by_cases c10 : 0 ≤ a1
    ·rw [if_pos c10] at H
     have c10b0 : decide (0 ≤ a1) = true := decide_eq_true c10
     clear c10
     by_cases c11 : a1 < (t656.length : Int)
     ·rw [if_pos c11] at H
      have c11b0 : decide (a1 < (t656.length : Int)) = true := decide_eq_true c11
      clear c11
      by_cases c12 : 0 ≤ a2
      ·rw [if_pos c12] at H
       have c12b0 : decide (0 ≤ a2) = true := decide_eq_true c12
       clear c12
       by_cases c13 : a2 < (t656.length : Int)
       ·rw [if_pos c13] at H
        have c13b0 : decide (a2 < (t656.length : Int)) = true := decide_eq_true c13
        clear c13
        replace H := Option.bind_eq_some_iff.mp H
        obtain ⟨t668, A140, H⟩ := H
        replace H : (some t668) = some r := H
        have A14 := Aside0.mk A140
        clear A140
        obtain rfl := Option.some.inj H
        go_enter Try.func32, Try.ntmps32
        try go_wp2_with (first | ((with_reducible refine gate_dst (N := 3) rfl ?_); refine box_event ?hg (N := 3) ?hd (cs := #[.slice A0_0 l0_0.length c0_0, .slice A0_1 l0_1.length c0_1]) (t := 30) ?hr ?_; (case hd => rfl); (case hg => rfl); (case hr => first | (go_simp; done) | (go_simp; rfl)); intro gb652 hg w15 hbox hb; have n0_ := Aside0.mk (below_step impl_CommonSorts.a3 hb); have n1_ := Aside0.mk (hbox); have n2_ := Aside0.mk ((by rw [hg]; exact (below_size impl_CommonSorts.a3) : w.heap.size ≤ gb652)); have n3_ := Aside0.mk ((by rw [hg]; exact (below_size impl_CommonSorts.a3) : w.heap.size ≤ gb652)); clear HB; have HB := n0_; have BK652 := n1_; have GW652 := n2_; have GE652 := n3_; clear n0_ n1_ n2_ n3_; clear hb hbox hg; have hcz16_0 : w15.cell? ⟨gb652, 0, none⟩ = some (.slice A0_0 l0_0.length c0_0) := (blk_cell BK652.out 0).trans rfl; have hcz16_1 : w15.cell? ⟨gb652, 1, none⟩ = some (.slice A0_1 l0_1.length c0_1) := (blk_cell BK652.out 1).trans rfl; have hfz16_0 := blk_frozen BK652.out 0; have hfz16_1 := blk_frozen BK652.out 1) | ((with_reducible refine gate_callee (f := 52) rfl ?_); refine goesL_ (some 11) rfl rfl Try.func52 (by kernel_rfl) rfl #[.agg #[.slice A0_0 l0_0.length c0_0, .slice A0_1 l0_1.length c0_1]] rfl impl_CommonSorts.a8 ?_; (with_reducible refine (impl_newOrder.calls k _ _ l0_0 _ _ l0_1 t653 t656 t659 true _ ?side1 ?side2 ?side3 ?side4 A4.out).mono ?_); (case side1 => repeat (first | exact (Kd.C_below HR0_0.out HB.out) | (with_reducible refine Kd.C_alloc ?_ _) | (with_reducible refine Kd.C_drewN ?_ _) | (with_reducible refine Kd.C_drew ?_))); (case side2 => exact HC0_0.out); (case side3 => repeat (first | exact (Kd.C_below HR0_1.out HB.out) | (with_reducible refine Kd.C_alloc ?_ _) | (with_reducible refine Kd.C_drewN ?_ _) | (with_reducible refine Kd.C_drew ?_))); (case side4 => exact HC0_1.out); rintro e w17 ⟨v654, v657, v660, rfl, ho0, ho1, ho2, hb⟩; refine ⟨_, rfl, ?_⟩; have n0_ := Aside0.mk (Kd.R_lower ho0 (below_size impl_CommonSorts.a0)); have n1_ := Aside0.mk (Kd.R_lower ho1 (below_size impl_CommonSorts.a0)); have n2_ := Aside0.mk (Kd.R_lower ho2 (below_size impl_CommonSorts.a0)); have n3_ := Aside0.mk (blk_below (g := gb652) (o := .cells #[.slice A0_0 l0_0.length c0_0, .slice A0_1 l0_1.length c0_1] 30 (0, 0)) impl_CommonSorts.a1 hb); have n4_ := Aside0.mk (below_step impl_CommonSorts.a0 hb); clear BK652; clear HB; have HO655 := n0_; have HO658 := n1_; have HO661 := n2_; have BK652 := n3_; have HB := n4_; clear n0_ n1_ n2_ n3_ n4_; (try clear hb); (try clear hb2); (try clear hk); (try clear hi); (try clear ho0); (try clear ho1); (try clear ho2)) | ((with_reducible refine gate_dst (N := 7) rfl ?_); refine box_event ?hg (N := 7) ?hd (cs := #[.slice none 0 0, .slice none 0 0, .slice none 0 0]) (t := 64) ?hr ?_; (case hd => rfl); (case hg => rfl); (case hr => first | (go_simp; done) | (go_simp; rfl)); intro gb663 hg w18 hbox hb; have n0_ := Aside0.mk (Kd.R_below impl_CommonSorts.a5 hb); have n1_ := Aside0.mk (Kd.R_below impl_CommonSorts.a6 hb); have n2_ := Aside0.mk (Kd.R_below impl_CommonSorts.a7 hb); have n3_ := Aside0.mk (blk_below (g := gb652) (o := .cells #[.slice A0_0 l0_0.length c0_0, .slice A0_1 l0_1.length c0_1] 30 (0, 0)) impl_CommonSorts.a1 hb); have n4_ := Aside0.mk (below_step impl_CommonSorts.a0 hb); have n5_ := Aside0.mk (hbox); have n6_ := Aside0.mk ((by rw [hg]; exact (below_size impl_CommonSorts.a0) : w.heap.size ≤ gb663)); have n7_ := Aside0.mk ((by rw [hg]; exact (below_size impl_CommonSorts.a0) : w.heap.size ≤ gb663)); have n8_ := Aside0.mk ((by rw [hg]; exact Nat.ne_of_lt (blk_lt (g := gb652) (o := .cells #[.slice A0_0 l0_0.length c0_0, .slice A0_1 l0_1.length c0_1] 30 (0, 0)) impl_CommonSorts.a1) : gb652 ≠ gb663)); have n9_ := Aside0.mk ((by rw [hg]; exact Nat.ne_of_gt (blk_lt (g := gb652) (o := .cells #[.slice A0_0 l0_0.length c0_0, .slice A0_1 l0_1.length c0_1] 30 (0, 0)) impl_CommonSorts.a1) : gb663 ≠ gb652)); clear HO655; clear HO658; clear HO661; clear BK652; clear HB; have HO655 := n0_; have HO658 := n1_; have HO661 := n2_; have BK652 := n3_; have HB := n4_; have BK663 := n5_; have GW663 := n6_; have GE663 := n7_; have NB652_663 := n8_; have NB663_652 := n9_; clear n0_ n1_ n2_ n3_ n4_ n5_ n6_ n7_ n8_ n9_; clear hb hbox hg; obtain ⟨Ao19, co19, eo19⟩ := Kd.R_slice HO655.out; subst eo19; have hnb20 := NB663_652.out; have hnc20 := NB652_663.out; have hcz21_0 : w18.cell? ⟨gb663, 0, none⟩ = some (.slice none 0 0) := (blk_cell BK663.out 0).trans rfl; have hcz21_1 : w18.cell? ⟨gb663, 1, none⟩ = some (.slice none 0 0) := (blk_cell BK663.out 1).trans rfl; have hcz21_2 : w18.cell? ⟨gb663, 2, none⟩ = some (.slice none 0 0) := (blk_cell BK663.out 2).trans rfl; have hfz21_0 := blk_frozen BK663.out 0; have hfz21_1 := blk_frozen BK663.out 1; have hfz21_2 := blk_frozen BK663.out 2; obtain ⟨Ao22, co22, eo22⟩ := Kd.R_slice HO658.out; subst eo22; obtain ⟨Ao23, co23, eo23⟩ := Kd.R_slice HO661.out; subst eo23) | (go_at_call 53; (with_reducible refine (impl_order_has.calls _ _ t653 _ _ t656 _ _ t659 a1 true _ ?side1 ?side2 ?side3 ?side4 ?side5 ?side6 A6.out).mono ?_); (case side1 => refine (Kd.R_reads' (e := 3) (base := w.heap.size) (ok := fun k_ => (some k_ ≠ (.slice Ao22 t656.length co22 : Value).ownBlock ∧ some k_ ≠ (.slice Ao23 t659.length co23 : Value).ownBlock)) (n := t653.length) (c := co19) ?_).2.2; exact impl_CommonSorts.a9); (case side2 => exact (Kd.R_reads' HO655.out).2.1); (case side3 => refine (Kd.R_reads' (e := 3) (base := w.heap.size) (ok := fun k_ => (some k_ ≠ (.slice Ao19 t653.length co19 : Value).ownBlock ∧ some k_ ≠ (.slice Ao23 t659.length co23 : Value).ownBlock)) (n := t656.length) (c := co22) ?_).2.2; exact impl_CommonSorts.a10); (case side4 => exact (Kd.R_reads' HO658.out).2.1); (case side5 => refine (Kd.R_reads' (e := 3) (base := w.heap.size) (ok := fun k_ => (some k_ ≠ (.slice Ao19 t653.length co19 : Value).ownBlock ∧ some k_ ≠ (.slice Ao22 t656.length co22 : Value).ownBlock)) (n := t659.length) (c := co23) ?_).2.2; exact impl_CommonSorts.a11); (case side6 => exact (Kd.R_reads' HO661.out).2.1); rintro e w24 ⟨rfl, hb⟩; have n0_ := Aside0.mk (Kd.R_below impl_CommonSorts.a9 hb); have n1_ := Aside0.mk (Kd.R_below impl_CommonSorts.a10 hb); have n2_ := Aside0.mk (Kd.R_below impl_CommonSorts.a11 hb); have n3_ := Aside0.mk (blk_below (g := gb652) (o := .cells #[.slice A0_0 l0_0.length c0_0, .slice A0_1 l0_1.length c0_1] 30 (0, 0)) impl_CommonSorts.a4 hb); have n4_ := Aside0.mk (blk_below (g := gb663) (o := .cells #[.slice Ao19 t653.length co19, .slice Ao22 t656.length co22, .slice Ao23 t659.length co23] 64 (0, 0)) (by (with_reducible repeat (first | refine blk_drewN ?_ _ | refine blk_drew ?_ | refine blk_alloc ?_ _)); refine blk_put (cs := #[.slice Ao19 t653.length co19, .slice Ao22 t656.length co22, .slice none 0 0]) ?_ 2 _ rfl; (with_reducible repeat (first | refine blk_drewN ?_ _ | refine blk_drew ?_ | refine blk_alloc ?_ _)); refine blk_put (cs := #[.slice Ao19 t653.length co19, .slice none 0 0, .slice none 0 0]) ?_ 1 _ rfl; (with_reducible repeat (first | refine blk_drewN ?_ _ | refine blk_drew ?_ | refine blk_alloc ?_ _)); refine blk_put (cs := #[.slice none 0 0, .slice none 0 0, .slice none 0 0]) ?_ 0 _ rfl; (with_reducible repeat (first | refine blk_drewN ?_ _ | refine blk_drew ?_ | refine blk_alloc ?_ _)); exact BK663.out) hb); have n5_ := Aside0.mk (below_step impl_CommonSorts.a2 hb); clear HO655; clear HO658; clear HO661; clear BK652; clear BK663; clear HB; have HO655 := n0_; have HO658 := n1_; have HO661 := n2_; have BK652 := n3_; have BK663 := n4_; have HB := n5_; clear n0_ n1_ n2_ n3_ n4_ n5_; (try clear hb); (try clear hb2); (try clear hk); (try clear hi); have hcz25_0 : w24.cell? ⟨gb663, 0, none⟩ = some (.slice Ao19 t653.length co19) := (blk_cell BK663.out 0).trans rfl; have hcz25_1 : w24.cell? ⟨gb663, 1, none⟩ = some (.slice Ao22 t656.length co22) := (blk_cell BK663.out 1).trans rfl; have hcz25_2 : w24.cell? ⟨gb663, 2, none⟩ = some (.slice Ao23 t659.length co23) := (blk_cell BK663.out 2).trans rfl; have hfz25_0 := blk_frozen BK663.out 0; have hfz25_1 := blk_frozen BK663.out 1; have hfz25_2 := blk_frozen BK663.out 2) | (go_at_call 53; (with_reducible refine (impl_order_has.calls _ _ t653 _ _ t656 _ _ t659 a2 true _ ?side1 ?side2 ?side3 ?side4 ?side5 ?side6 A8.out).mono ?_); (case side1 => repeat (first | exact (Kd.R_reads' HO655.out).2.2 | (with_reducible refine Kd.C_alloc ?_ _) | (with_reducible refine Kd.C_drewN ?_ _) | (with_reducible refine Kd.C_drew ?_))); (case side2 => exact (Kd.R_reads' HO655.out).2.1); (case side3 => repeat (first | exact (Kd.R_reads' HO658.out).2.2 | (with_reducible refine Kd.C_alloc ?_ _) | (with_reducible refine Kd.C_drewN ?_ _) | (with_reducible refine Kd.C_drew ?_))); (case side4 => exact (Kd.R_reads' HO658.out).2.1); (case side5 => repeat (first | exact (Kd.R_reads' HO661.out).2.2 | (with_reducible refine Kd.C_alloc ?_ _) | (with_reducible refine Kd.C_drewN ?_ _) | (with_reducible refine Kd.C_drew ?_))); (case side6 => exact (Kd.R_reads' HO661.out).2.1); rintro e w26 ⟨rfl, hb⟩; have n0_ := Aside0.mk (Kd.R_below impl_CommonSorts.a5 hb); have n1_ := Aside0.mk (Kd.R_below impl_CommonSorts.a6 hb); have n2_ := Aside0.mk (Kd.R_below impl_CommonSorts.a7 hb); have n3_ := Aside0.mk (blk_below (g := gb652) (o := .cells #[.slice A0_0 l0_0.length c0_0, .slice A0_1 l0_1.length c0_1] 30 (0, 0)) impl_CommonSorts.a1 hb); have n4_ := Aside0.mk (blk_below (g := gb663) (o := .cells #[.slice Ao19 t653.length co19, .slice Ao22 t656.length co22, .slice Ao23 t659.length co23] 64 (0, 0)) (by (with_reducible repeat (first | refine blk_drewN ?_ _ | refine blk_drew ?_ | refine blk_alloc ?_ _)); exact BK663.out) hb); have n5_ := Aside0.mk (below_step impl_CommonSorts.a2 hb); clear HO655; clear HO658; clear HO661; clear BK652; clear BK663; clear HB; have HO655 := n0_; have HO658 := n1_; have HO661 := n2_; have BK652 := n3_; have BK663 := n4_; have HB := n5_; clear n0_ n1_ n2_ n3_ n4_ n5_; (try clear hb); (try clear hb2); (try clear hk); (try clear hi)))
        have n0_ := Aside0.mk (Kd.R_drew HO655.out)
        have n1_ := Aside0.mk (Kd.R_drew HO658.out)
        have n2_ := Aside0.mk (Kd.R_drew HO661.out)
        have n3_ := Aside0.mk (blk_drew BK652.out)
        have n4_ := Aside0.mk (blk_drew BK663.out)
        have n5_ := Aside0.mk (below_drew1 HB.out)
        clear HO655
        clear HO658
        clear HO661
        clear BK652
        clear BK663
        clear HB
        have HO655 := n0_
        have HO658 := n1_
        have HO661 := n2_
        have BK652 := n3_
        have BK663 := n4_
        have HB := n5_
        clear n0_ n1_ n2_ n3_ n4_ n5_
        have p666 : 0 ≤ (a1 : Int) := of_decide_eq_true (by first | (with_reducible assumption) | assumption)
        have q666 : a1 < (t656.length : Int) := of_decide_eq_true (by first | (with_reducible assumption) | assumption)
        obtain ⟨ad666, e666, hx666_0⟩ := Kd.at_int (Kd.R_reads' HO658.out).2.2 a1 p666 q666
        cases e666
        replace p666 := eq_true p666
        replace q666 := eq_true q666
        have p667 : 0 ≤ (a2 : Int) := of_decide_eq_true (by first | (with_reducible assumption) | assumption)
        have q667 : a2 < (t656.length : Int) := of_decide_eq_true (by first | (with_reducible assumption) | assumption)
        obtain ⟨ad667, e667, hx667_0⟩ := Kd.at_int (Kd.R_reads' HO658.out).2.2 a2 p667 q667
        obtain rfl : ad666 = ad667 := (by injection e667)
        replace p667 := eq_true p667
        replace q667 := eq_true q667
        refine start_ (n := 16) (S := fun w' => w'.cell? ⟨gb663, 0, none⟩ = some (.slice Ao19 t653.length co19) ∧ w'.cell? ⟨gb663, 1, none⟩ = some (.slice (some ad666) t656.length co22) ∧ w'.cell? ⟨gb663, 2, none⟩ = some (.slice Ao23 t659.length co23) ∧ w'.cell? (ad666.add (a1).toNat) = some (.int .i64 (rd t656 a1)) ∧ w'.cell? (ad666.add (a2).toNat) = some (.int .i64 (rd t656 a2))) (ds := []) #[false, false, false, false, false, false, false, false, false, false, false, false, false, false, false, false] (by kernel_rfl) rfl rfl ⟨(blk_cell BK663.out 0).trans rfl, (blk_cell BK663.out 1).trans rfl, (blk_cell BK663.out 2).trans rfl, hx666_0, hx667_0⟩ (fun hHeld => ?_); refine with_tabW impl_CommonSorts.tab4 impl_CommonSorts.bits4 (fun HT_ HW_ => ?_)
        generalize w26.drew = w27 at HO655 HO658 HO661 BK652 BK663 HB hx666_0 hx667_0 hHeld ⊢
        refine pureS 1 29 HT_ rfl rfl ?_
        refine pureS 3 31 HT_ rfl rfl ?_
        refine pureS 6 34 HT_ rfl rfl ?_
        refine pureS 8 36 HT_ rfl rfl ?_
        refine pureS 12 40 HT_ rfl rfl ?_
        refine takeS 0 28 HT_ HW_ rfl rfl hHeld ?_ (by rintro w' ⟨s0, s1, s2, s3, s4⟩; go_simp; with_reducible rfl)
        refine takeS 2 30 HT_ HW_ rfl rfl hHeld ?_ (by rintro w' ⟨s0, s1, s2, s3, s4⟩; go_simp; with_reducible rfl)
        refine pureS 4 32 HT_ rfl rfl ?_
        refine takeS 5 33 HT_ HW_ rfl rfl hHeld ?_ (by rintro w' ⟨s0, s1, s2, s3, s4⟩; go_simp; with_reducible rfl)
        refine takeS 7 35 HT_ HW_ rfl rfl hHeld ?_ (by rintro w' ⟨s0, s1, s2, s3, s4⟩; go_simp; with_reducible rfl)
        refine pureS 9 37 HT_ rfl rfl ?_
        refine takeS 10 38 HT_ HW_ rfl rfl hHeld ?_ (by rintro w' ⟨s0, s1, s2, s3, s4⟩; go_simp; with_reducible rfl)
        refine pureS 11 39 HT_ rfl rfl ?_
        refine takeS 13 41 HT_ HW_ rfl rfl hHeld ?_ (by rintro w' ⟨s0, s1, s2, s3, s4⟩; go_simp; with_reducible rfl)
        refine one_ (i := 14) (N := some 42) #[true, true, true, true, true, true, true, true, true, true, true, true, true, true, true, false] rfl rfl (one_of HT_.out (by kernel_rfl)) (by decide) (fun K hK => ?_)
        refine goes_ Try.func58 (by kernel_rfl) rfl #[.agg #[.slice Ao19 t653.length co19, .slice (some ad666) t656.length co22, .slice Ao23 t659.length co23], .int .i64 (Go.bits .and .i64 (rd t656 a1) (rd t656 a2)), .slice Ao19 t653.length co19] (by rfl) rfl rfl impl_CommonSorts.a8 ?_
        with_reducible refine (impl_order_extreme.calls k _ _ t653 _ _ t656 _ _ t659 (Go.bits .and .i64 (rd t656 a1) (rd t656 a2)) _ _ t653 t668 _ ?side1 ?side2 ?side3 ?side4 ?side5 ?side6 ?side7 ?side8 A14.out).mono ?_
        (case side1 => repeat (first | exact (Kd.R_reads' HO655.out).2.2 | (with_reducible refine Kd.C_alloc ?_ _) | (with_reducible refine Kd.C_drewN ?_ _) | (with_reducible refine Kd.C_drew ?_)))
        (case side2 => exact (Kd.R_reads' HO655.out).2.1)
        (case side3 => repeat (first | exact (Kd.R_reads' HO658.out).2.2 | (with_reducible refine Kd.C_alloc ?_ _) | (with_reducible refine Kd.C_drewN ?_ _) | (with_reducible refine Kd.C_drew ?_)))
        (case side4 => exact (Kd.R_reads' HO658.out).2.1)
        (case side5 => repeat (first | exact (Kd.R_reads' HO661.out).2.2 | (with_reducible refine Kd.C_alloc ?_ _) | (with_reducible refine Kd.C_drewN ?_ _) | (with_reducible refine Kd.C_drew ?_)))
        (case side6 => exact (Kd.R_reads' HO661.out).2.1)
        (case side7 => repeat (first | exact (Kd.R_reads' HO655.out).2.2 | (with_reducible refine Kd.C_alloc ?_ _) | (with_reducible refine Kd.C_drewN ?_ _) | (with_reducible refine Kd.C_drew ?_)))
        (case side8 => exact (Kd.R_reads' HO655.out).2.1)
        rintro e w28 ⟨rfl, hb⟩
        have HS3_ := (hb.cell (World.block_lt_of_cell? _ _ (hHeld.2.2.2.1))).trans (hHeld.2.2.2.1)
        have HS4_ := (hb.cell (World.block_lt_of_cell? _ _ (hHeld.2.2.2.2))).trans (hHeld.2.2.2.2)
        refine ⟨_, rfl, ?_⟩
        have n0_ := Aside0.mk (Kd.R_below impl_CommonSorts.a5 hb)
        have n1_ := Aside0.mk (Kd.R_below impl_CommonSorts.a6 hb)
        have n2_ := Aside0.mk (Kd.R_below impl_CommonSorts.a7 hb)
        have n3_ := Aside0.mk (blk_below (g := gb652) (o := .cells #[.slice A0_0 l0_0.length c0_0, .slice A0_1 l0_1.length c0_1] 30 (0, 0)) impl_CommonSorts.a1 hb)
        have n4_ := Aside0.mk (blk_below (g := gb663) (o := .cells #[.slice Ao19 t653.length co19, .slice (some ad666) t656.length co22, .slice Ao23 t659.length co23] 64 (0, 0)) (by (with_reducible repeat (first | refine blk_drewN ?_ _ | refine blk_drew ?_ | refine blk_alloc ?_ _)); exact BK663.out) hb)
        have n5_ := Aside0.mk (below_step impl_CommonSorts.a2 hb)
        clear HO655
        clear HO658
        clear HO661
        clear BK652
        clear BK663
        clear HB
        have HO655 := n0_
        have HO658 := n1_
        have HO661 := n2_
        have BK652 := n3_
        have BK663 := n4_
        have HB := n5_
        clear n0_ n1_ n2_ n3_ n4_ n5_
        (try clear hb)
        (try clear hb2)
        (try clear hk)
        (try clear hi)
        refine hK.out _ _ ⟨(blk_cell BK663.out 0).trans rfl, (blk_cell BK663.out 1).trans rfl, (blk_cell BK663.out 2).trans rfl, HS3_, HS4_⟩ (fun hHeld => ?_)
        clear hK K
        refine norm_ (a' := ?_) ?_ ?_
        rotate_left
        ·show Act.put _ (some 42) _ = _
         simp only [Act.put, List.setIfInBounds_toArray, List.set_cons_zero, List.set_cons_succ, i64_w, i32_w]
         rfl
        refine pureS 15 6 HT_ rfl rfl ?_
        refine done_ (done_of HT_.out (by kernel_rfl)) ?_
        try go_wp2
        go_ret
        exact ⟨by first | rfl | (simp [errW_none, errW_some] <;> rfl) | (simp [*, errW_none, errW_some] <;> rfl), impl_CommonSorts.a2⟩
       ·rw [if_neg c13] at H
        exact absurd H (by simp)
      ·rw [if_neg c12] at H
       exact absurd H (by simp)
     ·rw [if_neg c11] at H
      exact absurd H (by simp)
    ·rw [if_neg c10] at H
     exact absurd H (by simp)
   ·replace c9 := Bool.eq_false_iff.mpr c9
    subst c9
    have H1 : (some 0) = some r := by rw [if_neg (show ¬ (false = true) by decide)] at H; exact H
    clear H
    have H := H1
    clear H1
    obtain rfl := Option.some.inj H
    go_enter Try.func32, Try.ntmps32
    go_wp2_with (first | ((with_reducible refine gate_dst (N := 3) rfl ?_); refine box_event ?hg (N := 3) ?hd (cs := #[.slice A0_0 l0_0.length c0_0, .slice A0_1 l0_1.length c0_1]) (t := 30) ?hr ?_; (case hd => rfl); (case hg => rfl); (case hr => first | (go_simp; done) | (go_simp; rfl)); intro gb652 hg w29 hbox hb; have n0_ := Aside0.mk (below_step impl_CommonSorts.a3 hb); have n1_ := Aside0.mk (hbox); have n2_ := Aside0.mk ((by rw [hg]; exact (below_size impl_CommonSorts.a3) : w.heap.size ≤ gb652)); have n3_ := Aside0.mk ((by rw [hg]; exact (below_size impl_CommonSorts.a3) : w.heap.size ≤ gb652)); clear HB; have HB := n0_; have BK652 := n1_; have GW652 := n2_; have GE652 := n3_; clear n0_ n1_ n2_ n3_; clear hb hbox hg; have hcz30_0 : w29.cell? ⟨gb652, 0, none⟩ = some (.slice A0_0 l0_0.length c0_0) := (blk_cell BK652.out 0).trans rfl; have hcz30_1 : w29.cell? ⟨gb652, 1, none⟩ = some (.slice A0_1 l0_1.length c0_1) := (blk_cell BK652.out 1).trans rfl; have hfz30_0 := blk_frozen BK652.out 0; have hfz30_1 := blk_frozen BK652.out 1) | ((with_reducible refine gate_callee (f := 52) rfl ?_); refine goesL_ (some 11) rfl rfl Try.func52 (by kernel_rfl) rfl #[.agg #[.slice A0_0 l0_0.length c0_0, .slice A0_1 l0_1.length c0_1]] rfl impl_CommonSorts.a8 ?_; (with_reducible refine (impl_newOrder.calls k _ _ l0_0 _ _ l0_1 t653 t656 t659 true _ ?side1 ?side2 ?side3 ?side4 A4.out).mono ?_); (case side1 => repeat (first | exact (Kd.C_below HR0_0.out HB.out) | (with_reducible refine Kd.C_alloc ?_ _) | (with_reducible refine Kd.C_drewN ?_ _) | (with_reducible refine Kd.C_drew ?_))); (case side2 => exact HC0_0.out); (case side3 => repeat (first | exact (Kd.C_below HR0_1.out HB.out) | (with_reducible refine Kd.C_alloc ?_ _) | (with_reducible refine Kd.C_drewN ?_ _) | (with_reducible refine Kd.C_drew ?_))); (case side4 => exact HC0_1.out); rintro e w31 ⟨v654, v657, v660, rfl, ho0, ho1, ho2, hb⟩; refine ⟨_, rfl, ?_⟩; have n0_ := Aside0.mk (Kd.R_lower ho0 (below_size impl_CommonSorts.a0)); have n1_ := Aside0.mk (Kd.R_lower ho1 (below_size impl_CommonSorts.a0)); have n2_ := Aside0.mk (Kd.R_lower ho2 (below_size impl_CommonSorts.a0)); have n3_ := Aside0.mk (blk_below (g := gb652) (o := .cells #[.slice A0_0 l0_0.length c0_0, .slice A0_1 l0_1.length c0_1] 30 (0, 0)) impl_CommonSorts.a1 hb); have n4_ := Aside0.mk (below_step impl_CommonSorts.a0 hb); clear BK652; clear HB; have HO655 := n0_; have HO658 := n1_; have HO661 := n2_; have BK652 := n3_; have HB := n4_; clear n0_ n1_ n2_ n3_ n4_; (try clear hb); (try clear hb2); (try clear hk); (try clear hi); (try clear ho0); (try clear ho1); (try clear ho2)) | ((with_reducible refine gate_dst (N := 7) rfl ?_); refine box_event ?hg (N := 7) ?hd (cs := #[.slice none 0 0, .slice none 0 0, .slice none 0 0]) (t := 64) ?hr ?_; (case hd => rfl); (case hg => rfl); (case hr => first | (go_simp; done) | (go_simp; rfl)); intro gb663 hg w32 hbox hb; have n0_ := Aside0.mk (Kd.R_below impl_CommonSorts.a5 hb); have n1_ := Aside0.mk (Kd.R_below impl_CommonSorts.a6 hb); have n2_ := Aside0.mk (Kd.R_below impl_CommonSorts.a7 hb); have n3_ := Aside0.mk (blk_below (g := gb652) (o := .cells #[.slice A0_0 l0_0.length c0_0, .slice A0_1 l0_1.length c0_1] 30 (0, 0)) impl_CommonSorts.a1 hb); have n4_ := Aside0.mk (below_step impl_CommonSorts.a0 hb); have n5_ := Aside0.mk (hbox); have n6_ := Aside0.mk ((by rw [hg]; exact (below_size impl_CommonSorts.a0) : w.heap.size ≤ gb663)); have n7_ := Aside0.mk ((by rw [hg]; exact (below_size impl_CommonSorts.a0) : w.heap.size ≤ gb663)); have n8_ := Aside0.mk ((by rw [hg]; exact Nat.ne_of_lt (blk_lt (g := gb652) (o := .cells #[.slice A0_0 l0_0.length c0_0, .slice A0_1 l0_1.length c0_1] 30 (0, 0)) impl_CommonSorts.a1) : gb652 ≠ gb663)); have n9_ := Aside0.mk ((by rw [hg]; exact Nat.ne_of_gt (blk_lt (g := gb652) (o := .cells #[.slice A0_0 l0_0.length c0_0, .slice A0_1 l0_1.length c0_1] 30 (0, 0)) impl_CommonSorts.a1) : gb663 ≠ gb652)); clear HO655; clear HO658; clear HO661; clear BK652; clear HB; have HO655 := n0_; have HO658 := n1_; have HO661 := n2_; have BK652 := n3_; have HB := n4_; have BK663 := n5_; have GW663 := n6_; have GE663 := n7_; have NB652_663 := n8_; have NB663_652 := n9_; clear n0_ n1_ n2_ n3_ n4_ n5_ n6_ n7_ n8_ n9_; clear hb hbox hg; obtain ⟨Ao33, co33, eo33⟩ := Kd.R_slice HO655.out; subst eo33; have hnb34 := NB663_652.out; have hnc34 := NB652_663.out; have hcz35_0 : w32.cell? ⟨gb663, 0, none⟩ = some (.slice none 0 0) := (blk_cell BK663.out 0).trans rfl; have hcz35_1 : w32.cell? ⟨gb663, 1, none⟩ = some (.slice none 0 0) := (blk_cell BK663.out 1).trans rfl; have hcz35_2 : w32.cell? ⟨gb663, 2, none⟩ = some (.slice none 0 0) := (blk_cell BK663.out 2).trans rfl; have hfz35_0 := blk_frozen BK663.out 0; have hfz35_1 := blk_frozen BK663.out 1; have hfz35_2 := blk_frozen BK663.out 2; obtain ⟨Ao36, co36, eo36⟩ := Kd.R_slice HO658.out; subst eo36; obtain ⟨Ao37, co37, eo37⟩ := Kd.R_slice HO661.out; subst eo37) | (go_at_call 53; (with_reducible refine (impl_order_has.calls _ _ t653 _ _ t656 _ _ t659 a1 true _ ?side1 ?side2 ?side3 ?side4 ?side5 ?side6 A6.out).mono ?_); (case side1 => refine (Kd.R_reads' (e := 3) (base := w.heap.size) (ok := fun k_ => (some k_ ≠ (.slice Ao36 t656.length co36 : Value).ownBlock ∧ some k_ ≠ (.slice Ao37 t659.length co37 : Value).ownBlock)) (n := t653.length) (c := co33) ?_).2.2; exact impl_CommonSorts.a12); (case side2 => exact (Kd.R_reads' HO655.out).2.1); (case side3 => refine (Kd.R_reads' (e := 3) (base := w.heap.size) (ok := fun k_ => (some k_ ≠ (.slice Ao33 t653.length co33 : Value).ownBlock ∧ some k_ ≠ (.slice Ao37 t659.length co37 : Value).ownBlock)) (n := t656.length) (c := co36) ?_).2.2; exact impl_CommonSorts.a13); (case side4 => exact (Kd.R_reads' HO658.out).2.1); (case side5 => refine (Kd.R_reads' (e := 3) (base := w.heap.size) (ok := fun k_ => (some k_ ≠ (.slice Ao33 t653.length co33 : Value).ownBlock ∧ some k_ ≠ (.slice Ao36 t656.length co36 : Value).ownBlock)) (n := t659.length) (c := co37) ?_).2.2; exact impl_CommonSorts.a14); (case side6 => exact (Kd.R_reads' HO661.out).2.1); rintro e w38 ⟨rfl, hb⟩; have n0_ := Aside0.mk (Kd.R_below impl_CommonSorts.a12 hb); have n1_ := Aside0.mk (Kd.R_below impl_CommonSorts.a13 hb); have n2_ := Aside0.mk (Kd.R_below impl_CommonSorts.a14 hb); have n3_ := Aside0.mk (blk_below (g := gb652) (o := .cells #[.slice A0_0 l0_0.length c0_0, .slice A0_1 l0_1.length c0_1] 30 (0, 0)) impl_CommonSorts.a4 hb); have n4_ := Aside0.mk (blk_below (g := gb663) (o := .cells #[.slice Ao33 t653.length co33, .slice Ao36 t656.length co36, .slice Ao37 t659.length co37] 64 (0, 0)) (by (with_reducible repeat (first | refine blk_drewN ?_ _ | refine blk_drew ?_ | refine blk_alloc ?_ _)); refine blk_put (cs := #[.slice Ao33 t653.length co33, .slice Ao36 t656.length co36, .slice none 0 0]) ?_ 2 _ rfl; (with_reducible repeat (first | refine blk_drewN ?_ _ | refine blk_drew ?_ | refine blk_alloc ?_ _)); refine blk_put (cs := #[.slice Ao33 t653.length co33, .slice none 0 0, .slice none 0 0]) ?_ 1 _ rfl; (with_reducible repeat (first | refine blk_drewN ?_ _ | refine blk_drew ?_ | refine blk_alloc ?_ _)); refine blk_put (cs := #[.slice none 0 0, .slice none 0 0, .slice none 0 0]) ?_ 0 _ rfl; (with_reducible repeat (first | refine blk_drewN ?_ _ | refine blk_drew ?_ | refine blk_alloc ?_ _)); exact BK663.out) hb); have n5_ := Aside0.mk (below_step impl_CommonSorts.a2 hb); clear HO655; clear HO658; clear HO661; clear BK652; clear BK663; clear HB; have HO655 := n0_; have HO658 := n1_; have HO661 := n2_; have BK652 := n3_; have BK663 := n4_; have HB := n5_; clear n0_ n1_ n2_ n3_ n4_ n5_; (try clear hb); (try clear hb2); (try clear hk); (try clear hi); have hcz39_0 : w38.cell? ⟨gb663, 0, none⟩ = some (.slice Ao33 t653.length co33) := (blk_cell BK663.out 0).trans rfl; have hcz39_1 : w38.cell? ⟨gb663, 1, none⟩ = some (.slice Ao36 t656.length co36) := (blk_cell BK663.out 1).trans rfl; have hcz39_2 : w38.cell? ⟨gb663, 2, none⟩ = some (.slice Ao37 t659.length co37) := (blk_cell BK663.out 2).trans rfl; have hfz39_0 := blk_frozen BK663.out 0; have hfz39_1 := blk_frozen BK663.out 1; have hfz39_2 := blk_frozen BK663.out 2) | (go_at_call 53; (with_reducible refine (impl_order_has.calls _ _ t653 _ _ t656 _ _ t659 a2 false _ ?side1 ?side2 ?side3 ?side4 ?side5 ?side6 A8.out).mono ?_); (case side1 => repeat (first | exact (Kd.R_reads' HO655.out).2.2 | (with_reducible refine Kd.C_alloc ?_ _) | (with_reducible refine Kd.C_drewN ?_ _) | (with_reducible refine Kd.C_drew ?_))); (case side2 => exact (Kd.R_reads' HO655.out).2.1); (case side3 => repeat (first | exact (Kd.R_reads' HO658.out).2.2 | (with_reducible refine Kd.C_alloc ?_ _) | (with_reducible refine Kd.C_drewN ?_ _) | (with_reducible refine Kd.C_drew ?_))); (case side4 => exact (Kd.R_reads' HO658.out).2.1); (case side5 => repeat (first | exact (Kd.R_reads' HO661.out).2.2 | (with_reducible refine Kd.C_alloc ?_ _) | (with_reducible refine Kd.C_drewN ?_ _) | (with_reducible refine Kd.C_drew ?_))); (case side6 => exact (Kd.R_reads' HO661.out).2.1); rintro e w40 ⟨rfl, hb⟩; have n0_ := Aside0.mk (Kd.R_below impl_CommonSorts.a5 hb); have n1_ := Aside0.mk (Kd.R_below impl_CommonSorts.a6 hb); have n2_ := Aside0.mk (Kd.R_below impl_CommonSorts.a7 hb); have n3_ := Aside0.mk (blk_below (g := gb652) (o := .cells #[.slice A0_0 l0_0.length c0_0, .slice A0_1 l0_1.length c0_1] 30 (0, 0)) impl_CommonSorts.a1 hb); have n4_ := Aside0.mk (blk_below (g := gb663) (o := .cells #[.slice Ao33 t653.length co33, .slice Ao36 t656.length co36, .slice Ao37 t659.length co37] 64 (0, 0)) (by (with_reducible repeat (first | refine blk_drewN ?_ _ | refine blk_drew ?_ | refine blk_alloc ?_ _)); exact BK663.out) hb); have n5_ := Aside0.mk (below_step impl_CommonSorts.a2 hb); clear HO655; clear HO658; clear HO661; clear BK652; clear BK663; clear HB; have HO655 := n0_; have HO658 := n1_; have HO661 := n2_; have BK652 := n3_; have BK663 := n4_; have HB := n5_; clear n0_ n1_ n2_ n3_ n4_ n5_; (try clear hb); (try clear hb2); (try clear hk); (try clear hi)))
    go_ret
    exact ⟨by first | rfl | (simp [errW_none, errW_some] <;> rfl) | (simp [*, errW_none, errW_some] <;> rfl), impl_CommonSorts.a2⟩
  ·replace c7 := Bool.eq_false_iff.mpr c7
   subst c7
   have H1 : (some 0) = some r := by rw [if_neg (show ¬ (false = true) by decide)] at H; exact H
   clear H
   have H := H1
   clear H1
   obtain rfl := Option.some.inj H
   go_enter Try.func32, Try.ntmps32
   go_wp2_with (first | ((with_reducible refine gate_dst (N := 3) rfl ?_); refine box_event ?hg (N := 3) ?hd (cs := #[.slice A0_0 l0_0.length c0_0, .slice A0_1 l0_1.length c0_1]) (t := 30) ?hr ?_; (case hd => rfl); (case hg => rfl); (case hr => first | (go_simp; done) | (go_simp; rfl)); intro gb652 hg w41 hbox hb; have n0_ := Aside0.mk (below_step impl_CommonSorts.a3 hb); have n1_ := Aside0.mk (hbox); have n2_ := Aside0.mk ((by rw [hg]; exact (below_size impl_CommonSorts.a3) : w.heap.size ≤ gb652)); have n3_ := Aside0.mk ((by rw [hg]; exact (below_size impl_CommonSorts.a3) : w.heap.size ≤ gb652)); clear HB; have HB := n0_; have BK652 := n1_; have GW652 := n2_; have GE652 := n3_; clear n0_ n1_ n2_ n3_; clear hb hbox hg; have hcz42_0 : w41.cell? ⟨gb652, 0, none⟩ = some (.slice A0_0 l0_0.length c0_0) := (blk_cell BK652.out 0).trans rfl; have hcz42_1 : w41.cell? ⟨gb652, 1, none⟩ = some (.slice A0_1 l0_1.length c0_1) := (blk_cell BK652.out 1).trans rfl; have hfz42_0 := blk_frozen BK652.out 0; have hfz42_1 := blk_frozen BK652.out 1) | ((with_reducible refine gate_callee (f := 52) rfl ?_); refine goesL_ (some 11) rfl rfl Try.func52 (by kernel_rfl) rfl #[.agg #[.slice A0_0 l0_0.length c0_0, .slice A0_1 l0_1.length c0_1]] rfl impl_CommonSorts.a8 ?_; (with_reducible refine (impl_newOrder.calls k _ _ l0_0 _ _ l0_1 t653 t656 t659 true _ ?side1 ?side2 ?side3 ?side4 A4.out).mono ?_); (case side1 => repeat (first | exact (Kd.C_below HR0_0.out HB.out) | (with_reducible refine Kd.C_alloc ?_ _) | (with_reducible refine Kd.C_drewN ?_ _) | (with_reducible refine Kd.C_drew ?_))); (case side2 => exact HC0_0.out); (case side3 => repeat (first | exact (Kd.C_below HR0_1.out HB.out) | (with_reducible refine Kd.C_alloc ?_ _) | (with_reducible refine Kd.C_drewN ?_ _) | (with_reducible refine Kd.C_drew ?_))); (case side4 => exact HC0_1.out); rintro e w43 ⟨v654, v657, v660, rfl, ho0, ho1, ho2, hb⟩; refine ⟨_, rfl, ?_⟩; have n0_ := Aside0.mk (Kd.R_lower ho0 (below_size impl_CommonSorts.a0)); have n1_ := Aside0.mk (Kd.R_lower ho1 (below_size impl_CommonSorts.a0)); have n2_ := Aside0.mk (Kd.R_lower ho2 (below_size impl_CommonSorts.a0)); have n3_ := Aside0.mk (blk_below (g := gb652) (o := .cells #[.slice A0_0 l0_0.length c0_0, .slice A0_1 l0_1.length c0_1] 30 (0, 0)) impl_CommonSorts.a1 hb); have n4_ := Aside0.mk (below_step impl_CommonSorts.a0 hb); clear BK652; clear HB; have HO655 := n0_; have HO658 := n1_; have HO661 := n2_; have BK652 := n3_; have HB := n4_; clear n0_ n1_ n2_ n3_ n4_; (try clear hb); (try clear hb2); (try clear hk); (try clear hi); (try clear ho0); (try clear ho1); (try clear ho2)) | ((with_reducible refine gate_dst (N := 7) rfl ?_); refine box_event ?hg (N := 7) ?hd (cs := #[.slice none 0 0, .slice none 0 0, .slice none 0 0]) (t := 64) ?hr ?_; (case hd => rfl); (case hg => rfl); (case hr => first | (go_simp; done) | (go_simp; rfl)); intro gb663 hg w44 hbox hb; have n0_ := Aside0.mk (Kd.R_below impl_CommonSorts.a5 hb); have n1_ := Aside0.mk (Kd.R_below impl_CommonSorts.a6 hb); have n2_ := Aside0.mk (Kd.R_below impl_CommonSorts.a7 hb); have n3_ := Aside0.mk (blk_below (g := gb652) (o := .cells #[.slice A0_0 l0_0.length c0_0, .slice A0_1 l0_1.length c0_1] 30 (0, 0)) impl_CommonSorts.a1 hb); have n4_ := Aside0.mk (below_step impl_CommonSorts.a0 hb); have n5_ := Aside0.mk (hbox); have n6_ := Aside0.mk ((by rw [hg]; exact (below_size impl_CommonSorts.a0) : w.heap.size ≤ gb663)); have n7_ := Aside0.mk ((by rw [hg]; exact (below_size impl_CommonSorts.a0) : w.heap.size ≤ gb663)); have n8_ := Aside0.mk ((by rw [hg]; exact Nat.ne_of_lt (blk_lt (g := gb652) (o := .cells #[.slice A0_0 l0_0.length c0_0, .slice A0_1 l0_1.length c0_1] 30 (0, 0)) impl_CommonSorts.a1) : gb652 ≠ gb663)); have n9_ := Aside0.mk ((by rw [hg]; exact Nat.ne_of_gt (blk_lt (g := gb652) (o := .cells #[.slice A0_0 l0_0.length c0_0, .slice A0_1 l0_1.length c0_1] 30 (0, 0)) impl_CommonSorts.a1) : gb663 ≠ gb652)); clear HO655; clear HO658; clear HO661; clear BK652; clear HB; have HO655 := n0_; have HO658 := n1_; have HO661 := n2_; have BK652 := n3_; have HB := n4_; have BK663 := n5_; have GW663 := n6_; have GE663 := n7_; have NB652_663 := n8_; have NB663_652 := n9_; clear n0_ n1_ n2_ n3_ n4_ n5_ n6_ n7_ n8_ n9_; clear hb hbox hg; obtain ⟨Ao45, co45, eo45⟩ := Kd.R_slice HO655.out; subst eo45; have hnb46 := NB663_652.out; have hnc46 := NB652_663.out; have hcz47_0 : w44.cell? ⟨gb663, 0, none⟩ = some (.slice none 0 0) := (blk_cell BK663.out 0).trans rfl; have hcz47_1 : w44.cell? ⟨gb663, 1, none⟩ = some (.slice none 0 0) := (blk_cell BK663.out 1).trans rfl; have hcz47_2 : w44.cell? ⟨gb663, 2, none⟩ = some (.slice none 0 0) := (blk_cell BK663.out 2).trans rfl; have hfz47_0 := blk_frozen BK663.out 0; have hfz47_1 := blk_frozen BK663.out 1; have hfz47_2 := blk_frozen BK663.out 2; obtain ⟨Ao48, co48, eo48⟩ := Kd.R_slice HO658.out; subst eo48; obtain ⟨Ao49, co49, eo49⟩ := Kd.R_slice HO661.out; subst eo49) | (go_at_call 53; (with_reducible refine (impl_order_has.calls _ _ t653 _ _ t656 _ _ t659 a1 false _ ?side1 ?side2 ?side3 ?side4 ?side5 ?side6 A6.out).mono ?_); (case side1 => refine (Kd.R_reads' (e := 3) (base := w.heap.size) (ok := fun k_ => (some k_ ≠ (.slice Ao48 t656.length co48 : Value).ownBlock ∧ some k_ ≠ (.slice Ao49 t659.length co49 : Value).ownBlock)) (n := t653.length) (c := co45) ?_).2.2; exact impl_CommonSorts.a15); (case side2 => exact (Kd.R_reads' HO655.out).2.1); (case side3 => refine (Kd.R_reads' (e := 3) (base := w.heap.size) (ok := fun k_ => (some k_ ≠ (.slice Ao45 t653.length co45 : Value).ownBlock ∧ some k_ ≠ (.slice Ao49 t659.length co49 : Value).ownBlock)) (n := t656.length) (c := co48) ?_).2.2; exact impl_CommonSorts.a16); (case side4 => exact (Kd.R_reads' HO658.out).2.1); (case side5 => refine (Kd.R_reads' (e := 3) (base := w.heap.size) (ok := fun k_ => (some k_ ≠ (.slice Ao45 t653.length co45 : Value).ownBlock ∧ some k_ ≠ (.slice Ao48 t656.length co48 : Value).ownBlock)) (n := t659.length) (c := co49) ?_).2.2; exact impl_CommonSorts.a17); (case side6 => exact (Kd.R_reads' HO661.out).2.1); rintro e w50 ⟨rfl, hb⟩; have n0_ := Aside0.mk (Kd.R_below impl_CommonSorts.a15 hb); have n1_ := Aside0.mk (Kd.R_below impl_CommonSorts.a16 hb); have n2_ := Aside0.mk (Kd.R_below impl_CommonSorts.a17 hb); have n3_ := Aside0.mk (blk_below (g := gb652) (o := .cells #[.slice A0_0 l0_0.length c0_0, .slice A0_1 l0_1.length c0_1] 30 (0, 0)) impl_CommonSorts.a4 hb); have n4_ := Aside0.mk (blk_below (g := gb663) (o := .cells #[.slice Ao45 t653.length co45, .slice Ao48 t656.length co48, .slice Ao49 t659.length co49] 64 (0, 0)) (by (with_reducible repeat (first | refine blk_drewN ?_ _ | refine blk_drew ?_ | refine blk_alloc ?_ _)); refine blk_put (cs := #[.slice Ao45 t653.length co45, .slice Ao48 t656.length co48, .slice none 0 0]) ?_ 2 _ rfl; (with_reducible repeat (first | refine blk_drewN ?_ _ | refine blk_drew ?_ | refine blk_alloc ?_ _)); refine blk_put (cs := #[.slice Ao45 t653.length co45, .slice none 0 0, .slice none 0 0]) ?_ 1 _ rfl; (with_reducible repeat (first | refine blk_drewN ?_ _ | refine blk_drew ?_ | refine blk_alloc ?_ _)); refine blk_put (cs := #[.slice none 0 0, .slice none 0 0, .slice none 0 0]) ?_ 0 _ rfl; (with_reducible repeat (first | refine blk_drewN ?_ _ | refine blk_drew ?_ | refine blk_alloc ?_ _)); exact BK663.out) hb); have n5_ := Aside0.mk (below_step impl_CommonSorts.a2 hb); clear HO655; clear HO658; clear HO661; clear BK652; clear BK663; clear HB; have HO655 := n0_; have HO658 := n1_; have HO661 := n2_; have BK652 := n3_; have BK663 := n4_; have HB := n5_; clear n0_ n1_ n2_ n3_ n4_ n5_; (try clear hb); (try clear hb2); (try clear hk); (try clear hi)))
   go_ret
   exact ⟨by first | rfl | (simp [errW_none, errW_some] <;> rfl) | (simp [*, errW_none, errW_some] <;> rfl), impl_CommonSorts.a2⟩
 ·replace c5 := Bool.eq_false_iff.mpr c5
  subst c5
  have H1 : (some 0) = some r := by rw [if_neg (show ¬ (false = true) by decide)] at H; exact H
  clear H
  have H := H1
  clear H1
  obtain rfl := Option.some.inj H
  go_enter Try.func32, Try.ntmps32
  go_wp2_with (first | ((with_reducible refine gate_dst (N := 3) rfl ?_); refine box_event ?hg (N := 3) ?hd (cs := #[.slice A0_0 l0_0.length c0_0, .slice A0_1 l0_1.length c0_1]) (t := 30) ?hr ?_; (case hd => rfl); (case hg => rfl); (case hr => first | (go_simp; done) | (go_simp; rfl)); intro gb652 hg w51 hbox hb; have n0_ := Aside0.mk (below_step impl_CommonSorts.a3 hb); have n1_ := Aside0.mk (hbox); have n2_ := Aside0.mk ((by rw [hg]; exact (below_size impl_CommonSorts.a3) : w.heap.size ≤ gb652)); have n3_ := Aside0.mk ((by rw [hg]; exact (below_size impl_CommonSorts.a3) : w.heap.size ≤ gb652)); clear HB; have HB := n0_; have BK652 := n1_; have GW652 := n2_; have GE652 := n3_; clear n0_ n1_ n2_ n3_; clear hb hbox hg; have hcz52_0 : w51.cell? ⟨gb652, 0, none⟩ = some (.slice A0_0 l0_0.length c0_0) := (blk_cell BK652.out 0).trans rfl; have hcz52_1 : w51.cell? ⟨gb652, 1, none⟩ = some (.slice A0_1 l0_1.length c0_1) := (blk_cell BK652.out 1).trans rfl; have hfz52_0 := blk_frozen BK652.out 0; have hfz52_1 := blk_frozen BK652.out 1) | ((with_reducible refine gate_callee (f := 52) rfl ?_); refine goesL_ (some 11) rfl rfl Try.func52 (by kernel_rfl) rfl #[.agg #[.slice A0_0 l0_0.length c0_0, .slice A0_1 l0_1.length c0_1]] rfl impl_CommonSorts.a8 ?_; (with_reducible refine (impl_newOrder.calls k _ _ l0_0 _ _ l0_1 t653 t656 t659 false _ ?side1 ?side2 ?side3 ?side4 A4.out).mono ?_); (case side1 => repeat (first | exact (Kd.C_below HR0_0.out HB.out) | (with_reducible refine Kd.C_alloc ?_ _) | (with_reducible refine Kd.C_drewN ?_ _) | (with_reducible refine Kd.C_drew ?_))); (case side2 => exact HC0_0.out); (case side3 => repeat (first | exact (Kd.C_below HR0_1.out HB.out) | (with_reducible refine Kd.C_alloc ?_ _) | (with_reducible refine Kd.C_drewN ?_ _) | (with_reducible refine Kd.C_drew ?_))); (case side4 => exact HC0_1.out); rintro e w53 ⟨v654, v657, v660, rfl, ho0, ho1, ho2, hb⟩; refine ⟨_, rfl, ?_⟩; have n0_ := Aside0.mk (Kd.R_lower ho0 (below_size impl_CommonSorts.a0)); have n1_ := Aside0.mk (Kd.R_lower ho1 (below_size impl_CommonSorts.a0)); have n2_ := Aside0.mk (Kd.R_lower ho2 (below_size impl_CommonSorts.a0)); have n3_ := Aside0.mk (blk_below (g := gb652) (o := .cells #[.slice A0_0 l0_0.length c0_0, .slice A0_1 l0_1.length c0_1] 30 (0, 0)) impl_CommonSorts.a1 hb); have n4_ := Aside0.mk (below_step impl_CommonSorts.a0 hb); clear BK652; clear HB; have HO655 := n0_; have HO658 := n1_; have HO661 := n2_; have BK652 := n3_; have HB := n4_; clear n0_ n1_ n2_ n3_ n4_; (try clear hb); (try clear hb2); (try clear hk); (try clear hi); (try clear ho0); (try clear ho1); (try clear ho2)) | ((with_reducible refine gate_dst (N := 7) rfl ?_); refine box_event ?hg (N := 7) ?hd (cs := #[.slice none 0 0, .slice none 0 0, .slice none 0 0]) (t := 64) ?hr ?_; (case hd => rfl); (case hg => rfl); (case hr => first | (go_simp; done) | (go_simp; rfl)); intro gb663 hg w54 hbox hb; have n0_ := Aside0.mk (Kd.R_below impl_CommonSorts.a5 hb); have n1_ := Aside0.mk (Kd.R_below impl_CommonSorts.a6 hb); have n2_ := Aside0.mk (Kd.R_below impl_CommonSorts.a7 hb); have n3_ := Aside0.mk (blk_below (g := gb652) (o := .cells #[.slice A0_0 l0_0.length c0_0, .slice A0_1 l0_1.length c0_1] 30 (0, 0)) impl_CommonSorts.a1 hb); have n4_ := Aside0.mk (below_step impl_CommonSorts.a0 hb); have n5_ := Aside0.mk (hbox); have n6_ := Aside0.mk ((by rw [hg]; exact (below_size impl_CommonSorts.a0) : w.heap.size ≤ gb663)); have n7_ := Aside0.mk ((by rw [hg]; exact (below_size impl_CommonSorts.a0) : w.heap.size ≤ gb663)); have n8_ := Aside0.mk ((by rw [hg]; exact Nat.ne_of_lt (blk_lt (g := gb652) (o := .cells #[.slice A0_0 l0_0.length c0_0, .slice A0_1 l0_1.length c0_1] 30 (0, 0)) impl_CommonSorts.a1) : gb652 ≠ gb663)); have n9_ := Aside0.mk ((by rw [hg]; exact Nat.ne_of_gt (blk_lt (g := gb652) (o := .cells #[.slice A0_0 l0_0.length c0_0, .slice A0_1 l0_1.length c0_1] 30 (0, 0)) impl_CommonSorts.a1) : gb663 ≠ gb652)); clear HO655; clear HO658; clear HO661; clear BK652; clear HB; have HO655 := n0_; have HO658 := n1_; have HO661 := n2_; have BK652 := n3_; have HB := n4_; have BK663 := n5_; have GW663 := n6_; have GE663 := n7_; have NB652_663 := n8_; have NB663_652 := n9_; clear n0_ n1_ n2_ n3_ n4_ n5_ n6_ n7_ n8_ n9_; clear hb hbox hg; obtain ⟨Ao55, co55, eo55⟩ := Kd.R_slice HO655.out; subst eo55; have hnb56 := NB663_652.out; have hnc56 := NB652_663.out; have hcz57_0 : w54.cell? ⟨gb663, 0, none⟩ = some (.slice none 0 0) := (blk_cell BK663.out 0).trans rfl; have hcz57_1 : w54.cell? ⟨gb663, 1, none⟩ = some (.slice none 0 0) := (blk_cell BK663.out 1).trans rfl; have hcz57_2 : w54.cell? ⟨gb663, 2, none⟩ = some (.slice none 0 0) := (blk_cell BK663.out 2).trans rfl; have hfz57_0 := blk_frozen BK663.out 0; have hfz57_1 := blk_frozen BK663.out 1; have hfz57_2 := blk_frozen BK663.out 2; obtain ⟨Ao58, co58, eo58⟩ := Kd.R_slice HO658.out; subst eo58; obtain ⟨Ao59, co59, eo59⟩ := Kd.R_slice HO661.out; subst eo59))
  go_ret
  exact ⟨by first | rfl | (simp [errW_none, errW_some] <;> rfl) | (simp [*, errW_none, errW_some] <;> rfl), impl_CommonSorts.a2⟩

/-! ### laws_FnExactCommonSorts: function 10 -/
theorem laws_FnExactCommonSorts.a0 {P_ : Prop} (h_ : P_ := by repeat (first | (with_reducible first | exact HB.out | apply below_alloc | apply pw_below_drewN | apply below_drew1 | refine below_set ?_ GE669.out) | exact HB.out)) : P_ := h_
theorem laws_FnExactCommonSorts.a1 {P_ : Prop} (h_ : P_ := by (with_reducible repeat (first | refine blk_drewN ?_ _ | refine blk_drew ?_ | refine blk_alloc ?_ _)); exact BK669.out) : P_ := h_
theorem laws_FnExactCommonSorts.a2 {P_ : Prop} (h_ : P_ := by (try simp only [List.map_toArray, List.map_cons, List.map_nil]); first | done | rfl | (simp only [List.length_drop, List.length_take]; rfl)) : P_ := h_
theorem laws_FnExactCommonSorts.a3 {P_ : Prop} (h_ : P_ := by repeat (first | (with_reducible first | exact HB.out | apply below_alloc | apply pw_below_drewN | apply below_drew1 | refine below_set ?_ GE669.out | refine below_set ?_ GE684.out) | exact HB.out)) : P_ := h_
theorem laws_FnExactCommonSorts.a4 {P_ : Prop} (h_ : P_ := by (with_reducible repeat (first | apply Kd.R_alloc | apply Kd.R_drewN | apply Kd.R_drew)); exact HO673.out) : P_ := h_
theorem laws_FnExactCommonSorts.a5 {P_ : Prop} (h_ : P_ := by (with_reducible repeat (first | apply Kd.R_alloc | apply Kd.R_drewN | apply Kd.R_drew)); exact HO676.out) : P_ := h_
theorem laws_FnExactCommonSorts.a6 {P_ : Prop} (h_ : P_ := by repeat (first | (with_reducible first | exact HB.out | apply below_alloc | apply pw_below_drewN | apply below_drew1) | exact HB.out)) : P_ := h_
theorem laws_FnExactCommonSorts.a7 {P_ : Prop} (h_ : P_ := by (with_reducible repeat (first | apply Kd.R_alloc | apply Kd.R_drewN | apply Kd.R_drew)); exact HO680.out) : P_ := h_
theorem laws_FnExactCommonSorts.a8 {P_ : Prop} (h_ : P_ := by (with_reducible repeat (first | apply Kd.R_alloc | apply Kd.R_drewN | apply Kd.R_drew)); exact HO683.out) : P_ := h_
theorem laws_FnExactCommonSorts.a9 {P_ : Prop} (h_ : P_ := by (with_reducible repeat (first | refine blk_drewN ?_ _ | refine blk_drew ?_ | refine blk_alloc ?_ _)); refine blk_far ?_ NB669_684.out _; (with_reducible repeat (first | refine blk_drewN ?_ _ | refine blk_drew ?_ | refine blk_alloc ?_ _)); refine blk_far ?_ NB669_684.out _; (with_reducible repeat (first | refine blk_drewN ?_ _ | refine blk_drew ?_ | refine blk_alloc ?_ _)); exact BK669.out) : P_ := h_
def laws_FnExactCommonSorts.f (k : Nat) (l0_0 : List ByteArray) (l0_1 : List (S73)) (a1 : Int) (a2 : Int) : Option (Bool) := (laws_szSorts.f k l0_0 l0_1 1048576).bind fun t670 => (if t670 < 0 then (some true) else ((laws_toSorts.f k l0_0 l0_1).bind fun bt671 => ((spec_CommonSorts.f k bt671.1 bt671.2 a1 a2).bind fun t677 => ((laws_toSorts.f k l0_0 l0_1).bind fun bt678 => ((impl_CommonSorts.f k bt678.1 bt678.2 a1 a2).bind fun t685 => (if t685 = t677 then ((laws_toSorts.f k l0_0 l0_1).bind fun bt686 => ((laws_eqSorts.f k bt678.1 bt678.2 bt686.1 bt686.2).bind fun t692 => (if t692 = true then (some true) else (some false)))) else (some false)))))))
set_option maxHeartbeats 8000000 in
set_option maxRecDepth 100000 in
theorem laws_FnExactCommonSorts.calls (k : Nat) (A0_0 : Option Addr) (c0_0 : Nat) (l0_0 : List ByteArray) (A0_1 : Option Addr) (c0_1 : Nat) (l0_1 : List (S73)) (a1 : Int) (a2 : Int) (r : Bool) (w : World) (hr0_0 : Kd.C Kd.string w A0_0 l0_0.length l0_0) (hc0_0 : l0_0.length ≤ c0_0) (hr0_1 : Kd.C k73 w A0_1 l0_1.length l0_1) (hc0_1 : l0_1.length ≤ c0_1) (h : laws_FnExactCommonSorts.f k l0_0 l0_1 a1 a2 = some r) :
  Calls Try.prog 10 #[.agg #[.slice A0_0 l0_0.length c0_0, .slice A0_1 l0_1.length c0_1], .int .i64 a1, .int .i64 a2] w fun e w' => e = .returned (.bool r) ∧ Below w.heap.size w w' := by
 have hu25 := Try.underlying25
 have hu30 := Try.underlying30
 have HR0_0 := Aside0.mk hr0_0
 have HC0_0 := Aside0.mk hc0_0
 clear hr0_0 hc0_0
 have HR0_1 := Aside0.mk hr0_1
 have HC0_1 := Aside0.mk hc0_1
 clear hr0_1 hc0_1
 have HB := Aside0.mk (Below.refl w.heap.size w)
 have H : ((laws_szSorts.f k l0_0 l0_1 1048576).bind fun t670 => (if t670 < 0 then (some true) else ((laws_toSorts.f k l0_0 l0_1).bind fun bt671 => ((spec_CommonSorts.f k bt671.1 bt671.2 a1 a2).bind fun t677 => ((laws_toSorts.f k l0_0 l0_1).bind fun bt678 => ((impl_CommonSorts.f k bt678.1 bt678.2 a1 a2).bind fun t685 => (if t685 = t677 then ((laws_toSorts.f k l0_0 l0_1).bind fun bt686 => ((laws_eqSorts.f k bt678.1 bt678.2 bt686.1 bt686.2).bind fun t692 => (if t692 = true then (some true) else (some false)))) else (some false)))))))) = some r := h
 clear h
 replace H := Option.bind_eq_some_iff.mp H
 obtain ⟨t670, A40, H⟩ := H
 replace H : (if t670 < 0 then (some true) else ((laws_toSorts.f k l0_0 l0_1).bind fun bt671 => ((spec_CommonSorts.f k bt671.1 bt671.2 a1 a2).bind fun t677 => ((laws_toSorts.f k l0_0 l0_1).bind fun bt678 => ((impl_CommonSorts.f k bt678.1 bt678.2 a1 a2).bind fun t685 => (if t685 = t677 then ((laws_toSorts.f k l0_0 l0_1).bind fun bt686 => ((laws_eqSorts.f k bt678.1 bt678.2 bt686.1 bt686.2).bind fun t692 => (if t692 = true then (some true) else (some false)))) else (some false))))))) = some r := H
 have A4 := Aside0.mk A40
 clear A40
 by_cases c5 : t670 < 0
 ·rw [if_pos c5] at H
  have c5b0 : decide (t670 < 0) = true := decide_eq_true c5
  clear c5
  obtain rfl := Option.some.inj H
  go_enter Try.func10, Try.ntmps10
  go_wp2_with (first | ((with_reducible refine gate_dst (N := 3) rfl ?_); refine box_event ?hg (N := 3) ?hd (cs := #[.slice A0_0 l0_0.length c0_0, .slice A0_1 l0_1.length c0_1]) (t := 25) ?hr ?_; (case hd => rfl); (case hg => rfl); (case hr => first | (go_simp; done) | (go_simp; rfl)); intro gb669 hg w6 hbox hb; have n0_ := Aside0.mk (below_step laws_FnExactCommonSorts.a6 hb); have n1_ := Aside0.mk (hbox); have n2_ := Aside0.mk ((by rw [hg]; exact (below_size laws_FnExactCommonSorts.a6) : w.heap.size ≤ gb669)); have n3_ := Aside0.mk ((by rw [hg]; exact (below_size laws_FnExactCommonSorts.a6) : w.heap.size ≤ gb669)); clear HB; have HB := n0_; have BK669 := n1_; have GW669 := n2_; have GE669 := n3_; clear n0_ n1_ n2_ n3_; clear hb hbox hg; have hcz7_0 : w6.cell? ⟨gb669, 0, none⟩ = some (.slice A0_0 l0_0.length c0_0) := (blk_cell BK669.out 0).trans rfl; have hcz7_1 : w6.cell? ⟨gb669, 1, none⟩ = some (.slice A0_1 l0_1.length c0_1) := (blk_cell BK669.out 1).trans rfl; have hfz7_0 := blk_frozen BK669.out 0; have hfz7_1 := blk_frozen BK669.out 1) | ((with_reducible refine gate_callee (f := 12) rfl ?_); refine goesL_ (some 13) rfl rfl Try.func12 (by kernel_rfl) rfl #[.agg #[.slice A0_0 l0_0.length c0_0, .slice A0_1 l0_1.length c0_1], .int .i64 1048576] rfl laws_FnExactCommonSorts.a2 ?_; (with_reducible refine (laws_szSorts.calls k _ _ l0_0 _ _ l0_1 1048576 t670 _ ?side1 ?side2 ?side3 ?side4 A4.out).mono ?_); (case side1 => repeat (first | exact (Kd.C_below HR0_0.out HB.out) | (with_reducible refine Kd.C_alloc ?_ _) | (with_reducible refine Kd.C_drewN ?_ _) | (with_reducible refine Kd.C_drew ?_))); (case side2 => exact HC0_0.out); (case side3 => repeat (first | exact (Kd.C_below HR0_1.out HB.out) | (with_reducible refine Kd.C_alloc ?_ _) | (with_reducible refine Kd.C_drewN ?_ _) | (with_reducible refine Kd.C_drew ?_))); (case side4 => exact HC0_1.out); rintro e w8 ⟨rfl, hb⟩; refine ⟨_, rfl, ?_⟩; have n0_ := Aside0.mk (blk_below (g := gb669) (o := .cells #[.slice A0_0 l0_0.length c0_0, .slice A0_1 l0_1.length c0_1] 25 (0, 0)) laws_FnExactCommonSorts.a1 hb); have n1_ := Aside0.mk (below_step laws_FnExactCommonSorts.a0 hb); clear BK669; clear HB; have BK669 := n0_; have HB := n1_; clear n0_ n1_; (try clear hb); (try clear hb2); (try clear hk); (try clear hi)))
  go_ret
  exact ⟨by first | rfl | (simp [errW_none, errW_some] <;> rfl) | (simp [*, errW_none, errW_some] <;> rfl), laws_FnExactCommonSorts.a0⟩
 ·rw [if_neg c5] at H
  have c5b0 : decide (t670 < 0) = false := decide_eq_false c5
  clear c5
  replace H := Option.bind_eq_some_iff.mp H
  obtain ⟨⟨t671, t674⟩, A90, H⟩ := H
  replace H : ((spec_CommonSorts.f k t671 t674 a1 a2).bind fun t677 => ((laws_toSorts.f k l0_0 l0_1).bind fun bt678 => ((impl_CommonSorts.f k bt678.1 bt678.2 a1 a2).bind fun t685 => (if t685 = t677 then ((laws_toSorts.f k l0_0 l0_1).bind fun bt686 => ((laws_eqSorts.f k bt678.1 bt678.2 bt686.1 bt686.2).bind fun t692 => (if t692 = true then (some true) else (some false)))) else (some false))))) = some r := H
  have A9 := Aside0.mk A90
  clear A90
  replace H := Option.bind_eq_some_iff.mp H
  obtain ⟨t677, A100, H⟩ := H
  replace H : ((laws_toSorts.f k l0_0 l0_1).bind fun bt678 => ((impl_CommonSorts.f k bt678.1 bt678.2 a1 a2).bind fun t685 => (if t685 = t677 then ((laws_toSorts.f k l0_0 l0_1).bind fun bt686 => ((laws_eqSorts.f k bt678.1 bt678.2 bt686.1 bt686.2).bind fun t692 => (if t692 = true then (some true) else (some false)))) else (some false)))) = some r := H
  have A10 := Aside0.mk A100
  clear A100
  replace H := Option.bind_eq_some_iff.mp H
  obtain ⟨⟨t678, t681⟩, A110, H⟩ := H
  replace H : ((impl_CommonSorts.f k t678 t681 a1 a2).bind fun t685 => (if t685 = t677 then ((laws_toSorts.f k l0_0 l0_1).bind fun bt686 => ((laws_eqSorts.f k t678 t681 bt686.1 bt686.2).bind fun t692 => (if t692 = true then (some true) else (some false)))) else (some false))) = some r := H
  have A11 := Aside0.mk A110
  clear A110
  replace H := Option.bind_eq_some_iff.mp H
  obtain ⟨t685, A120, H⟩ := H
  replace H : (if t685 = t677 then ((laws_toSorts.f k l0_0 l0_1).bind fun bt686 => ((laws_eqSorts.f k t678 t681 bt686.1 bt686.2).bind fun t692 => (if t692 = true then (some true) else (some false)))) else (some false)) = some r := H
  have A12 := Aside0.mk A120
  clear A120
  by_cases c13 : t685 = t677
  ·rw [if_pos c13] at H
   have c13b0 : (t685 == t677) = true := beq_iff_eq.mpr c13
   have c13b1 : (t685 != t677) = false := bne_eq_false_iff_eq.mpr c13
   clear c13
   replace H := Option.bind_eq_some_iff.mp H
   obtain ⟨⟨t686, t689⟩, A140, H⟩ := H
   replace H : ((laws_eqSorts.f k t678 t681 t686 t689).bind fun t692 => (if t692 = true then (some true) else (some false))) = some r := H
   have A14 := Aside0.mk A140
   clear A140
   replace H := Option.bind_eq_some_iff.mp H
   obtain ⟨t692, A150, H⟩ := H
   replace H : (if t692 = true then (some true) else (some false)) = some r := H
   have A15 := Aside0.mk A150
   clear A150
   by_cases c16 : t692 = true
   ·subst c16
    have H1 : (some true) = some r := by rw [if_pos rfl] at H; exact H
    clear H
    have H := H1
    clear H1
    obtain rfl := Option.some.inj H
    go_enter Try.func10, Try.ntmps10
    try go_wp2_with (first | ((with_reducible refine gate_dst (N := 3) rfl ?_); refine box_event ?hg (N := 3) ?hd (cs := #[.slice A0_0 l0_0.length c0_0, .slice A0_1 l0_1.length c0_1]) (t := 25) ?hr ?_; (case hd => rfl); (case hg => rfl); (case hr => first | (go_simp; done) | (go_simp; rfl)); intro gb669 hg w17 hbox hb; have n0_ := Aside0.mk (below_step laws_FnExactCommonSorts.a6 hb); have n1_ := Aside0.mk (hbox); have n2_ := Aside0.mk ((by rw [hg]; exact (below_size laws_FnExactCommonSorts.a6) : w.heap.size ≤ gb669)); have n3_ := Aside0.mk ((by rw [hg]; exact (below_size laws_FnExactCommonSorts.a6) : w.heap.size ≤ gb669)); clear HB; have HB := n0_; have BK669 := n1_; have GW669 := n2_; have GE669 := n3_; clear n0_ n1_ n2_ n3_; clear hb hbox hg; have hcz18_0 : w17.cell? ⟨gb669, 0, none⟩ = some (.slice A0_0 l0_0.length c0_0) := (blk_cell BK669.out 0).trans rfl; have hcz18_1 : w17.cell? ⟨gb669, 1, none⟩ = some (.slice A0_1 l0_1.length c0_1) := (blk_cell BK669.out 1).trans rfl; have hfz18_0 := blk_frozen BK669.out 0; have hfz18_1 := blk_frozen BK669.out 1) | ((with_reducible refine gate_callee (f := 12) rfl ?_); refine goesL_ (some 13) rfl rfl Try.func12 (by kernel_rfl) rfl #[.agg #[.slice A0_0 l0_0.length c0_0, .slice A0_1 l0_1.length c0_1], .int .i64 1048576] rfl laws_FnExactCommonSorts.a2 ?_; (with_reducible refine (laws_szSorts.calls k _ _ l0_0 _ _ l0_1 1048576 t670 _ ?side1 ?side2 ?side3 ?side4 A4.out).mono ?_); (case side1 => repeat (first | exact (Kd.C_below HR0_0.out HB.out) | (with_reducible refine Kd.C_alloc ?_ _) | (with_reducible refine Kd.C_drewN ?_ _) | (with_reducible refine Kd.C_drew ?_))); (case side2 => exact HC0_0.out); (case side3 => repeat (first | exact (Kd.C_below HR0_1.out HB.out) | (with_reducible refine Kd.C_alloc ?_ _) | (with_reducible refine Kd.C_drewN ?_ _) | (with_reducible refine Kd.C_drew ?_))); (case side4 => exact HC0_1.out); rintro e w19 ⟨rfl, hb⟩; refine ⟨_, rfl, ?_⟩; have n0_ := Aside0.mk (blk_below (g := gb669) (o := .cells #[.slice A0_0 l0_0.length c0_0, .slice A0_1 l0_1.length c0_1] 25 (0, 0)) laws_FnExactCommonSorts.a1 hb); have n1_ := Aside0.mk (below_step laws_FnExactCommonSorts.a0 hb); clear BK669; clear HB; have BK669 := n0_; have HB := n1_; clear n0_ n1_; (try clear hb); (try clear hb2); (try clear hk); (try clear hi); have hcz20_0 : w19.cell? ⟨gb669, 0, none⟩ = some (.slice A0_0 l0_0.length c0_0) := (blk_cell BK669.out 0).trans rfl; have hcz20_1 : w19.cell? ⟨gb669, 1, none⟩ = some (.slice A0_1 l0_1.length c0_1) := (blk_cell BK669.out 1).trans rfl; have hfz20_0 := blk_frozen BK669.out 0; have hfz20_1 := blk_frozen BK669.out 1) | ((with_reducible refine gate_callee (f := 14) rfl ?_); refine goesL_ (some 17) rfl rfl Try.func14 (by kernel_rfl) rfl #[.agg #[.slice A0_0 l0_0.length c0_0, .slice A0_1 l0_1.length c0_1]] rfl laws_FnExactCommonSorts.a2 ?_; (with_reducible refine (laws_toSorts.calls k _ _ l0_0 _ _ l0_1 t671 t674 _ ?side1 ?side2 ?side3 ?side4 A9.out).mono ?_); (case side1 => repeat (first | exact (Kd.C_below HR0_0.out HB.out) | (with_reducible refine Kd.C_alloc ?_ _) | (with_reducible refine Kd.C_drewN ?_ _) | (with_reducible refine Kd.C_drew ?_))); (case side2 => exact HC0_0.out); (case side3 => repeat (first | exact (Kd.C_below HR0_1.out HB.out) | (with_reducible refine Kd.C_alloc ?_ _) | (with_reducible refine Kd.C_drewN ?_ _) | (with_reducible refine Kd.C_drew ?_))); (case side4 => exact HC0_1.out); rintro e w21 ⟨v672, v675, rfl, ho0, ho1, hb⟩; refine ⟨_, rfl, ?_⟩; have n0_ := Aside0.mk (Kd.R_lower ho0 (below_size laws_FnExactCommonSorts.a0)); have n1_ := Aside0.mk (Kd.R_lower ho1 (below_size laws_FnExactCommonSorts.a0)); have n2_ := Aside0.mk (blk_below (g := gb669) (o := .cells #[.slice A0_0 l0_0.length c0_0, .slice A0_1 l0_1.length c0_1] 25 (0, 0)) laws_FnExactCommonSorts.a1 hb); have n3_ := Aside0.mk (below_step laws_FnExactCommonSorts.a0 hb); clear BK669; clear HB; have HO673 := n0_; have HO676 := n1_; have BK669 := n2_; have HB := n3_; clear n0_ n1_ n2_ n3_; (try clear hb); (try clear hb2); (try clear hk); (try clear hi); (try clear ho0); (try clear ho1); obtain ⟨Ao22, co22, eo22⟩ := Kd.R_slice HO673.out; subst eo22; obtain ⟨Ao23, co23, eo23⟩ := Kd.R_slice HO676.out; subst eo23) | ((with_reducible refine gate_callee (f := 31) rfl ?_); refine goesL_ (some 20) rfl rfl Try.func31 (by kernel_rfl) rfl #[.agg #[.slice Ao22 t671.length co22, .slice Ao23 t674.length co23], .int .i64 a1, .int .i64 a2] rfl laws_FnExactCommonSorts.a2 ?_; (with_reducible refine (spec_CommonSorts.calls k _ _ t671 _ _ t674 a1 a2 t677 _ ?side1 ?side2 ?side3 ?side4 A10.out).mono ?_); (case side1 => repeat (first | exact (Kd.R_reads' HO673.out).2.2 | (with_reducible refine Kd.C_alloc ?_ _) | (with_reducible refine Kd.C_drewN ?_ _) | (with_reducible refine Kd.C_drew ?_))); (case side2 => exact (Kd.R_reads' HO673.out).2.1); (case side3 => repeat (first | exact (Kd.R_reads' HO676.out).2.2 | (with_reducible refine Kd.C_alloc ?_ _) | (with_reducible refine Kd.C_drewN ?_ _) | (with_reducible refine Kd.C_drew ?_))); (case side4 => exact (Kd.R_reads' HO676.out).2.1); rintro e w24 ⟨rfl, hb⟩; refine ⟨_, rfl, ?_⟩; have n0_ := Aside0.mk (Kd.R_below laws_FnExactCommonSorts.a4 hb); have n1_ := Aside0.mk (Kd.R_below laws_FnExactCommonSorts.a5 hb); have n2_ := Aside0.mk (blk_below (g := gb669) (o := .cells #[.slice A0_0 l0_0.length c0_0, .slice A0_1 l0_1.length c0_1] 25 (0, 0)) laws_FnExactCommonSorts.a1 hb); have n3_ := Aside0.mk (below_step laws_FnExactCommonSorts.a0 hb); clear HO673; clear HO676; clear BK669; clear HB; have HO673 := n0_; have HO676 := n1_; have BK669 := n2_; have HB := n3_; clear n0_ n1_ n2_ n3_; (try clear hb); (try clear hb2); (try clear hk); (try clear hi); have hcz25_0 : w24.cell? ⟨gb669, 0, none⟩ = some (.slice A0_0 l0_0.length c0_0) := (blk_cell BK669.out 0).trans rfl; have hcz25_1 : w24.cell? ⟨gb669, 1, none⟩ = some (.slice A0_1 l0_1.length c0_1) := (blk_cell BK669.out 1).trans rfl; have hfz25_0 := blk_frozen BK669.out 0; have hfz25_1 := blk_frozen BK669.out 1) | ((with_reducible refine gate_callee (f := 14) rfl ?_); refine goesL_ (some 22) rfl rfl Try.func14 (by kernel_rfl) rfl #[.agg #[.slice A0_0 l0_0.length c0_0, .slice A0_1 l0_1.length c0_1]] rfl laws_FnExactCommonSorts.a2 ?_; (with_reducible refine (laws_toSorts.calls k _ _ l0_0 _ _ l0_1 t678 t681 _ ?side1 ?side2 ?side3 ?side4 A11.out).mono ?_); (case side1 => repeat (first | exact (Kd.C_below HR0_0.out HB.out) | (with_reducible refine Kd.C_alloc ?_ _) | (with_reducible refine Kd.C_drewN ?_ _) | (with_reducible refine Kd.C_drew ?_))); (case side2 => exact HC0_0.out); (case side3 => repeat (first | exact (Kd.C_below HR0_1.out HB.out) | (with_reducible refine Kd.C_alloc ?_ _) | (with_reducible refine Kd.C_drewN ?_ _) | (with_reducible refine Kd.C_drew ?_))); (case side4 => exact HC0_1.out); rintro e w26 ⟨v679, v682, rfl, ho0, ho1, hb⟩; refine ⟨_, rfl, ?_⟩; have n0_ := Aside0.mk (Kd.R_elder' laws_FnExactCommonSorts.a4 (Kd.R_base ho0) hb); have n1_ := Aside0.mk (Kd.R_elder' laws_FnExactCommonSorts.a5 (Kd.R_base ho1) hb); have n2_ := Aside0.mk (Kd.R_lower (Kd.R_new' ho0 (Kd.R_lt laws_FnExactCommonSorts.a4)) (below_size laws_FnExactCommonSorts.a0)); have n3_ := Aside0.mk (Kd.R_lower (Kd.R_new' ho1 (Kd.R_lt laws_FnExactCommonSorts.a5)) (below_size laws_FnExactCommonSorts.a0)); have n4_ := Aside0.mk (blk_below (g := gb669) (o := .cells #[.slice A0_0 l0_0.length c0_0, .slice A0_1 l0_1.length c0_1] 25 (0, 0)) laws_FnExactCommonSorts.a1 hb); have n5_ := Aside0.mk (below_step laws_FnExactCommonSorts.a0 hb); clear HO673; clear HO676; clear BK669; clear HB; have HO673 := n0_; have HO676 := n1_; have HO680 := n2_; have HO683 := n3_; have BK669 := n4_; have HB := n5_; clear n0_ n1_ n2_ n3_ n4_ n5_; (try clear hb); (try clear hb2); (try clear hk); (try clear hi); (try clear ho0); (try clear ho1)) | ((with_reducible refine gate_dst (N := 9) rfl ?_); refine box_event ?hg (N := 9) ?hd (cs := #[.slice none 0 0, .slice none 0 0]) (t := 30) ?hr ?_; (case hd => rfl); (case hg => rfl); (case hr => first | (go_simp; done) | (go_simp; rfl)); intro gb684 hg w27 hbox hb; have n0_ := Aside0.mk (Kd.R_below laws_FnExactCommonSorts.a4 hb); have n1_ := Aside0.mk (Kd.R_below laws_FnExactCommonSorts.a5 hb); have n2_ := Aside0.mk (Kd.R_below laws_FnExactCommonSorts.a7 hb); have n3_ := Aside0.mk (Kd.R_below laws_FnExactCommonSorts.a8 hb); have n4_ := Aside0.mk (blk_below (g := gb669) (o := .cells #[.slice A0_0 l0_0.length c0_0, .slice A0_1 l0_1.length c0_1] 25 (0, 0)) laws_FnExactCommonSorts.a1 hb); have n5_ := Aside0.mk (below_step laws_FnExactCommonSorts.a0 hb); have n6_ := Aside0.mk (hbox); have n7_ := Aside0.mk ((by rw [hg]; exact (below_size laws_FnExactCommonSorts.a0) : w.heap.size ≤ gb684)); have n8_ := Aside0.mk ((by rw [hg]; exact (below_size laws_FnExactCommonSorts.a0) : w.heap.size ≤ gb684)); have n9_ := Aside0.mk ((by rw [hg]; exact Nat.ne_of_lt (blk_lt (g := gb669) (o := .cells #[.slice A0_0 l0_0.length c0_0, .slice A0_1 l0_1.length c0_1] 25 (0, 0)) laws_FnExactCommonSorts.a1) : gb669 ≠ gb684)); have n10_ := Aside0.mk ((by rw [hg]; exact Nat.ne_of_gt (blk_lt (g := gb669) (o := .cells #[.slice A0_0 l0_0.length c0_0, .slice A0_1 l0_1.length c0_1] 25 (0, 0)) laws_FnExactCommonSorts.a1) : gb684 ≠ gb669)); clear HO673; clear HO676; clear HO680; clear HO683; clear BK669; clear HB; have HO673 := n0_; have HO676 := n1_; have HO680 := n2_; have HO683 := n3_; have BK669 := n4_; have HB := n5_; have BK684 := n6_; have GW684 := n7_; have GE684 := n8_; have NB669_684 := n9_; have NB684_669 := n10_; clear n0_ n1_ n2_ n3_ n4_ n5_ n6_ n7_ n8_ n9_ n10_; clear hb hbox hg; obtain ⟨Ao28, co28, eo28⟩ := Kd.R_slice HO680.out; subst eo28; have hnb29 := NB684_669.out; have hnc29 := NB669_684.out; have hcz30_0 : w27.cell? ⟨gb684, 0, none⟩ = some (.slice none 0 0) := (blk_cell BK684.out 0).trans rfl; have hcz30_1 : w27.cell? ⟨gb684, 1, none⟩ = some (.slice none 0 0) := (blk_cell BK684.out 1).trans rfl; have hfz30_0 := blk_frozen BK684.out 0; have hfz30_1 := blk_frozen BK684.out 1; obtain ⟨Ao31, co31, eo31⟩ := Kd.R_slice HO683.out; subst eo31) | ((with_reducible refine gate_callee (f := 32) rfl ?_); refine goesL_ (some 26) rfl rfl Try.func32 (by kernel_rfl) rfl #[.agg #[.slice Ao28 t678.length co28, .slice Ao31 t681.length co31], .int .i64 a1, .int .i64 a2] rfl laws_FnExactCommonSorts.a2 ?_; (with_reducible refine (impl_CommonSorts.calls k _ _ t678 _ _ t681 a1 a2 t685 _ ?side1 ?side2 ?side3 ?side4 A12.out).mono ?_); (case side1 => refine (Kd.R_reads' (e := 9) (base := w.heap.size) (ok := fun k_ => (True ∧ some k_ ≠ (.slice Ao22 t671.length co22 : Value).ownBlock)) (n := t678.length) (c := co28) ?_).2.2; exact (by (with_reducible repeat (first | apply Kd.R_alloc | apply Kd.R_drewN | apply Kd.R_drew)); exact (Kd.R_mono (Kd.R_far (p := ⟨gb684, 1, none⟩) (Kd.R_far (p := ⟨gb684, 0, none⟩) (Kd.R_types HO680.out BK684.out (by decide)) (fun _ hk => hk.2) (.slice Ao28 t678.length co28)) (fun _ hk => hk.2) (.slice Ao31 t681.length co31)) (fun _ h_ => h_.1)))); (case side2 => exact (Kd.R_reads' HO680.out).2.1); (case side3 => refine (Kd.R_reads' (e := 52) (base := w.heap.size) (ok := fun k_ => (True ∧ some k_ ≠ (.slice Ao23 t674.length co23 : Value).ownBlock)) (n := t681.length) (c := co31) ?_).2.2; exact (by (with_reducible repeat (first | apply Kd.R_alloc | apply Kd.R_drewN | apply Kd.R_drew)); exact (Kd.R_mono (Kd.R_far (p := ⟨gb684, 1, none⟩) (Kd.R_far (p := ⟨gb684, 0, none⟩) (Kd.R_types HO683.out BK684.out (by decide)) (fun _ hk => hk.2) (.slice Ao28 t678.length co28)) (fun _ hk => hk.2) (.slice Ao31 t681.length co31)) (fun _ h_ => h_.1)))); (case side4 => exact (Kd.R_reads' HO683.out).2.1); rintro e w32 ⟨rfl, hb⟩; refine ⟨_, rfl, ?_⟩; have n0_ := Aside0.mk (Kd.R_below (by (with_reducible repeat (first | apply Kd.R_alloc | apply Kd.R_drewN | apply Kd.R_drew)); exact (Kd.R_mono (Kd.R_far (p := ⟨gb684, 1, none⟩) (Kd.R_far (p := ⟨gb684, 0, none⟩) (Kd.R_types HO673.out BK684.out (by decide)) (fun _ hk => hk.2) (.slice Ao28 t678.length co28)) (fun _ hk => hk.2) (.slice Ao31 t681.length co31)) (fun _ h_ => h_.1))) hb); have n1_ := Aside0.mk (Kd.R_below (by (with_reducible repeat (first | apply Kd.R_alloc | apply Kd.R_drewN | apply Kd.R_drew)); exact (Kd.R_mono (Kd.R_far (p := ⟨gb684, 1, none⟩) (Kd.R_far (p := ⟨gb684, 0, none⟩) (Kd.R_types HO676.out BK684.out (by decide)) (fun _ hk => hk.2) (.slice Ao28 t678.length co28)) (fun _ hk => hk.2) (.slice Ao31 t681.length co31)) (fun _ h_ => h_.1))) hb); have n2_ := Aside0.mk (Kd.R_below (by (with_reducible repeat (first | apply Kd.R_alloc | apply Kd.R_drewN | apply Kd.R_drew)); exact (Kd.R_mono (Kd.R_far (p := ⟨gb684, 1, none⟩) (Kd.R_far (p := ⟨gb684, 0, none⟩) (Kd.R_types HO680.out BK684.out (by decide)) (fun _ hk => hk.2) (.slice Ao28 t678.length co28)) (fun _ hk => hk.2) (.slice Ao31 t681.length co31)) (fun _ h_ => h_.1))) hb); have n3_ := Aside0.mk (Kd.R_below (by (with_reducible repeat (first | apply Kd.R_alloc | apply Kd.R_drewN | apply Kd.R_drew)); exact (Kd.R_mono (Kd.R_far (p := ⟨gb684, 1, none⟩) (Kd.R_far (p := ⟨gb684, 0, none⟩) (Kd.R_types HO683.out BK684.out (by decide)) (fun _ hk => hk.2) (.slice Ao28 t678.length co28)) (fun _ hk => hk.2) (.slice Ao31 t681.length co31)) (fun _ h_ => h_.1))) hb); have n4_ := Aside0.mk (blk_below (g := gb669) (o := .cells #[.slice A0_0 l0_0.length c0_0, .slice A0_1 l0_1.length c0_1] 25 (0, 0)) laws_FnExactCommonSorts.a9 hb); have n5_ := Aside0.mk (blk_below (g := gb684) (o := .cells #[.slice Ao28 t678.length co28, .slice Ao31 t681.length co31] 30 (0, 0)) (by (with_reducible repeat (first | refine blk_drewN ?_ _ | refine blk_drew ?_ | refine blk_alloc ?_ _)); refine blk_put (cs := #[.slice Ao28 t678.length co28, .slice none 0 0]) ?_ 1 _ rfl; (with_reducible repeat (first | refine blk_drewN ?_ _ | refine blk_drew ?_ | refine blk_alloc ?_ _)); refine blk_put (cs := #[.slice none 0 0, .slice none 0 0]) ?_ 0 _ rfl; (with_reducible repeat (first | refine blk_drewN ?_ _ | refine blk_drew ?_ | refine blk_alloc ?_ _)); exact BK684.out) hb); have n6_ := Aside0.mk (below_step laws_FnExactCommonSorts.a3 hb); clear HO673; clear HO676; clear HO680; clear HO683; clear BK669; clear BK684; clear HB; have HO673 := n0_; have HO676 := n1_; have HO680 := n2_; have HO683 := n3_; have BK669 := n4_; have BK684 := n5_; have HB := n6_; clear n0_ n1_ n2_ n3_ n4_ n5_ n6_; (try clear hb); (try clear hb2); (try clear hk); (try clear hi)))
    have n0_ := Aside0.mk (Kd.R_drew HO673.out)
    have n1_ := Aside0.mk (Kd.R_drew HO676.out)
    have n2_ := Aside0.mk (Kd.R_drew HO680.out)
    have n3_ := Aside0.mk (Kd.R_drew HO683.out)
    have n4_ := Aside0.mk (blk_drew BK669.out)
    have n5_ := Aside0.mk (blk_drew BK684.out)
    have n6_ := Aside0.mk (below_drew1 HB.out)
    clear HO673
    clear HO676
    clear HO680
    clear HO683
    clear BK669
    clear BK684
    clear HB
    have HO673 := n0_
    have HO676 := n1_
    have HO680 := n2_
    have HO683 := n3_
    have BK669 := n4_
    have BK684 := n5_
    have HB := n6_
    clear n0_ n1_ n2_ n3_ n4_ n5_ n6_
    refine start_ (n := 5) (S := fun w' => w'.cell? ⟨gb684, 0, none⟩ = some (.slice Ao28 t678.length co28) ∧ w'.cell? ⟨gb684, 1, none⟩ = some (.slice Ao31 t681.length co31) ∧ w'.cell? ⟨gb669, 0, none⟩ = some (.slice A0_0 l0_0.length c0_0) ∧ w'.cell? ⟨gb669, 1, none⟩ = some (.slice A0_1 l0_1.length c0_1)) (ds := []) #[false, false, false, false, false] (by kernel_rfl) rfl rfl ⟨(blk_cell BK684.out 0).trans rfl, (blk_cell BK684.out 1).trans rfl, (blk_cell BK669.out 0).trans rfl, (blk_cell BK669.out 1).trans rfl⟩ (fun hHeld => ?_)
    generalize w32.drew = w33 at HO673 HO676 HO680 HO683 BK669 BK684 HB hHeld ⊢
    refine take_ (i := 0) (N := some 30) (v := ?_) (a' := ?_) #[true, false, false, false, false] rfl rfl (by kernel_rfl) (fun _ _ _ h => h) (Or.inl ⟨by rfl, ?_⟩) hHeld ?_ ?_
    rotate_left
    ·rintro w' ⟨s0, s1, s2, s3⟩
     go_simp
     with_reducible rfl
    rotate_left
    ·simp only [Act.put, List.setIfInBounds_toArray, List.set_cons_zero, List.set_cons_succ, i64_w, i32_w]
     rfl
    refine take_ (i := 1) (N := some 31) (v := ?_) (a' := ?_) #[true, true, false, false, false] rfl rfl (by kernel_rfl) (fun _ _ _ h => h) (Or.inl ⟨by rfl, ?_⟩) hHeld ?_ ?_
    rotate_left
    ·rintro w' ⟨s0, s1, s2, s3⟩
     go_simp
     with_reducible rfl
    rotate_left
    ·simp only [Act.put, List.setIfInBounds_toArray, List.set_cons_zero, List.set_cons_succ, i64_w, i32_w]
     rfl
    refine one_ (i := 2) (N := some 32) #[true, true, true, false, false] rfl rfl (by kernel_rfl) (by decide) (fun K hK => ?_)
    refine goes_ Try.func14 (by kernel_rfl) rfl #[.agg #[.slice A0_0 l0_0.length c0_0, .slice A0_1 l0_1.length c0_1]] (by rfl) rfl rfl laws_FnExactCommonSorts.a2 ?_
    with_reducible refine (laws_toSorts.calls k _ _ l0_0 _ _ l0_1 t686 t689 _ ?side1 ?side2 ?side3 ?side4 A14.out).mono ?_
    (case side1 => repeat (first | exact (Kd.C_below HR0_0.out HB.out) | (with_reducible refine Kd.C_alloc ?_ _) | (with_reducible refine Kd.C_drewN ?_ _) | (with_reducible refine Kd.C_drew ?_)))
    (case side2 => exact HC0_0.out)
    (case side3 => repeat (first | exact (Kd.C_below HR0_1.out HB.out) | (with_reducible refine Kd.C_alloc ?_ _) | (with_reducible refine Kd.C_drewN ?_ _) | (with_reducible refine Kd.C_drew ?_)))
    (case side4 => exact HC0_1.out)
    rintro e w34 ⟨v687, v690, rfl, ho0, ho1, hb⟩
    refine ⟨_, rfl, ?_⟩
    have n0_ := Aside0.mk (Kd.R_elder' laws_FnExactCommonSorts.a4 (Kd.R_base ho0) hb)
    have n1_ := Aside0.mk (Kd.R_elder' laws_FnExactCommonSorts.a5 (Kd.R_base ho1) hb)
    have n2_ := Aside0.mk (Kd.R_elder' laws_FnExactCommonSorts.a7 (Kd.R_base ho0) hb)
    have n3_ := Aside0.mk (Kd.R_elder' laws_FnExactCommonSorts.a8 (Kd.R_base ho1) hb)
    have n4_ := Aside0.mk (Kd.R_lower (Kd.R_new' (Kd.R_new' ho0 (Kd.R_lt laws_FnExactCommonSorts.a4)) (Kd.R_lt laws_FnExactCommonSorts.a7)) (below_size laws_FnExactCommonSorts.a3))
    have n5_ := Aside0.mk (Kd.R_lower (Kd.R_new' (Kd.R_new' ho1 (Kd.R_lt laws_FnExactCommonSorts.a5)) (Kd.R_lt laws_FnExactCommonSorts.a8)) (below_size laws_FnExactCommonSorts.a3))
    have n6_ := Aside0.mk (blk_below (g := gb669) (o := .cells #[.slice A0_0 l0_0.length c0_0, .slice A0_1 l0_1.length c0_1] 25 (0, 0)) laws_FnExactCommonSorts.a1 hb)
    have n7_ := Aside0.mk (blk_below (g := gb684) (o := .cells #[.slice Ao28 t678.length co28, .slice Ao31 t681.length co31] 30 (0, 0)) (by (with_reducible repeat (first | refine blk_drewN ?_ _ | refine blk_drew ?_ | refine blk_alloc ?_ _)); exact BK684.out) hb)
    have n8_ := Aside0.mk (below_step laws_FnExactCommonSorts.a3 hb)
    clear HO673
    clear HO676
    clear HO680
    clear HO683
    clear BK669
    clear BK684
    clear HB
    have HO673 := n0_
    have HO676 := n1_
    have HO680 := n2_
    have HO683 := n3_
    have HO688 := n4_
    have HO691 := n5_
    have BK669 := n6_
    have BK684 := n7_
    have HB := n8_
    clear n0_ n1_ n2_ n3_ n4_ n5_ n6_ n7_ n8_
    (try clear hb)
    (try clear hb2)
    (try clear hk)
    (try clear hi)
    (try clear ho0)
    (try clear ho1)
    obtain ⟨Ao35, co35, eo35⟩ := Kd.R_slice HO688.out
    (first | subst eo35 | (injection eo35 with f1_ f2_ f3_; have f4_ := f1_.symm; have f5_ := f3_.symm; clear f1_ f2_ f3_; subst f4_; subst f5_))
    obtain ⟨Ao36, co36, eo36⟩ := Kd.R_slice HO691.out
    (first | subst eo36 | (injection eo36 with f1_ f2_ f3_; have f4_ := f1_.symm; have f5_ := f3_.symm; clear f1_ f2_ f3_; subst f4_; subst f5_))
    refine hK.out _ _ ⟨(blk_cell BK684.out 0).trans rfl, (blk_cell BK684.out 1).trans rfl, (blk_cell BK669.out 0).trans rfl, (blk_cell BK669.out 1).trans rfl⟩ (fun hHeld => ?_)
    clear hK K
    refine norm_ (a' := ?_) ?_ ?_
    rotate_left
    ·show Act.put _ (some 32) _ = _
     simp only [Act.put, List.setIfInBounds_toArray, List.set_cons_zero, List.set_cons_succ, i64_w, i32_w]
     rfl
    refine one_ (i := 3) (N := some 33) #[true, true, true, true, false] rfl rfl (by kernel_rfl) (by decide) (fun K hK => ?_)
    refine goes_ Try.func16 (by kernel_rfl) rfl #[.agg #[.slice Ao28 t678.length co28, .slice Ao31 t681.length co31], .agg #[.slice Ao35 t686.length co35, .slice Ao36 t689.length co36]] (by rfl) rfl rfl laws_FnExactCommonSorts.a2 ?_
    with_reducible refine (laws_eqSorts.calls k _ _ t678 _ _ t681 _ _ t686 _ _ t689 true _ ?side1 ?side2 ?side3 ?side4 ?side5 ?side6 ?side7 ?side8 A15.out).mono ?_
    (case side1 => repeat (first | exact (Kd.R_reads' HO680.out).2.2 | (with_reducible refine Kd.C_alloc ?_ _) | (with_reducible refine Kd.C_drewN ?_ _) | (with_reducible refine Kd.C_drew ?_)))
    (case side2 => exact (Kd.R_reads' HO680.out).2.1)
    (case side3 => repeat (first | exact (Kd.R_reads' HO683.out).2.2 | (with_reducible refine Kd.C_alloc ?_ _) | (with_reducible refine Kd.C_drewN ?_ _) | (with_reducible refine Kd.C_drew ?_)))
    (case side4 => exact (Kd.R_reads' HO683.out).2.1)
    (case side5 => repeat (first | exact (Kd.R_reads' HO688.out).2.2 | (with_reducible refine Kd.C_alloc ?_ _) | (with_reducible refine Kd.C_drewN ?_ _) | (with_reducible refine Kd.C_drew ?_)))
    (case side6 => exact (Kd.R_reads' HO688.out).2.1)
    (case side7 => repeat (first | exact (Kd.R_reads' HO691.out).2.2 | (with_reducible refine Kd.C_alloc ?_ _) | (with_reducible refine Kd.C_drewN ?_ _) | (with_reducible refine Kd.C_drew ?_)))
    (case side8 => exact (Kd.R_reads' HO691.out).2.1)
    rintro e w37 ⟨rfl, hb⟩
    refine ⟨_, rfl, ?_⟩
    have n0_ := Aside0.mk (Kd.R_below laws_FnExactCommonSorts.a4 hb)
    have n1_ := Aside0.mk (Kd.R_below laws_FnExactCommonSorts.a5 hb)
    have n2_ := Aside0.mk (Kd.R_below laws_FnExactCommonSorts.a7 hb)
    have n3_ := Aside0.mk (Kd.R_below laws_FnExactCommonSorts.a8 hb)
    have n4_ := Aside0.mk (Kd.R_below (by (with_reducible repeat (first | apply Kd.R_alloc | apply Kd.R_drewN | apply Kd.R_drew)); exact HO688.out) hb)
    have n5_ := Aside0.mk (Kd.R_below (by (with_reducible repeat (first | apply Kd.R_alloc | apply Kd.R_drewN | apply Kd.R_drew)); exact HO691.out) hb)
    have n6_ := Aside0.mk (blk_below (g := gb669) (o := .cells #[.slice A0_0 l0_0.length c0_0, .slice A0_1 l0_1.length c0_1] 25 (0, 0)) laws_FnExactCommonSorts.a1 hb)
    have n7_ := Aside0.mk (blk_below (g := gb684) (o := .cells #[.slice Ao28 t678.length co28, .slice Ao31 t681.length co31] 30 (0, 0)) (by (with_reducible repeat (first | refine blk_drewN ?_ _ | refine blk_drew ?_ | refine blk_alloc ?_ _)); exact BK684.out) hb)
    have n8_ := Aside0.mk (below_step laws_FnExactCommonSorts.a3 hb)
    clear HO673
    clear HO676
    clear HO680
    clear HO683
    clear HO688
    clear HO691
    clear BK669
    clear BK684
    clear HB
    have HO673 := n0_
    have HO676 := n1_
    have HO680 := n2_
    have HO683 := n3_
    have HO688 := n4_
    have HO691 := n5_
    have BK669 := n6_
    have BK684 := n7_
    have HB := n8_
    clear n0_ n1_ n2_ n3_ n4_ n5_ n6_ n7_ n8_
    (try clear hb)
    (try clear hb2)
    (try clear hk)
    (try clear hi)
    refine hK.out _ _ ⟨(blk_cell BK684.out 0).trans rfl, (blk_cell BK684.out 1).trans rfl, (blk_cell BK669.out 0).trans rfl, (blk_cell BK669.out 1).trans rfl⟩ (fun hHeld => ?_)
    clear hK K
    refine norm_ (a' := ?_) ?_ ?_
    rotate_left
    ·show Act.put _ (some 33) _ = _
     simp only [Act.put, List.setIfInBounds_toArray, List.set_cons_zero, List.set_cons_succ, i64_w, i32_w]
     rfl
    refine pure_ (i := 4) (N := some 34) (v := ?_) (a' := ?_) #[true, true, true, true, true] rfl rfl (by kernel_rfl) (fun _ _ _ h => h) (Or.inl ⟨by rfl, ?_⟩) ?_ ?_
    rotate_left
    ·intro w'
     go_simp
     with_reducible rfl
    rotate_left
    ·simp only [Act.put, List.setIfInBounds_toArray, List.set_cons_zero, List.set_cons_succ, i64_w, i32_w]
     rfl
    refine done_ (by kernel_rfl) ?_
    try go_wp2
    go_ret
    exact ⟨by first | rfl | (simp [errW_none, errW_some] <;> rfl) | (simp [*, errW_none, errW_some] <;> rfl), laws_FnExactCommonSorts.a3⟩
   ·replace c16 := Bool.eq_false_iff.mpr c16
    subst c16
    have H1 : (some false) = some r := by rw [if_neg (show ¬ (false = true) by decide)] at H; exact H
    clear H
    have H := H1
    clear H1
    obtain rfl := Option.some.inj H
    go_enter Try.func10, Try.ntmps10
    try go_wp2_with (first | ((with_reducible refine gate_dst (N := 3) rfl ?_); refine box_event ?hg (N := 3) ?hd (cs := #[.slice A0_0 l0_0.length c0_0, .slice A0_1 l0_1.length c0_1]) (t := 25) ?hr ?_; (case hd => rfl); (case hg => rfl); (case hr => first | (go_simp; done) | (go_simp; rfl)); intro gb669 hg w38 hbox hb; have n0_ := Aside0.mk (below_step laws_FnExactCommonSorts.a6 hb); have n1_ := Aside0.mk (hbox); have n2_ := Aside0.mk ((by rw [hg]; exact (below_size laws_FnExactCommonSorts.a6) : w.heap.size ≤ gb669)); have n3_ := Aside0.mk ((by rw [hg]; exact (below_size laws_FnExactCommonSorts.a6) : w.heap.size ≤ gb669)); clear HB; have HB := n0_; have BK669 := n1_; have GW669 := n2_; have GE669 := n3_; clear n0_ n1_ n2_ n3_; clear hb hbox hg; have hcz39_0 : w38.cell? ⟨gb669, 0, none⟩ = some (.slice A0_0 l0_0.length c0_0) := (blk_cell BK669.out 0).trans rfl; have hcz39_1 : w38.cell? ⟨gb669, 1, none⟩ = some (.slice A0_1 l0_1.length c0_1) := (blk_cell BK669.out 1).trans rfl; have hfz39_0 := blk_frozen BK669.out 0; have hfz39_1 := blk_frozen BK669.out 1) | ((with_reducible refine gate_callee (f := 12) rfl ?_); refine goesL_ (some 13) rfl rfl Try.func12 (by kernel_rfl) rfl #[.agg #[.slice A0_0 l0_0.length c0_0, .slice A0_1 l0_1.length c0_1], .int .i64 1048576] rfl laws_FnExactCommonSorts.a2 ?_; (with_reducible refine (laws_szSorts.calls k _ _ l0_0 _ _ l0_1 1048576 t670 _ ?side1 ?side2 ?side3 ?side4 A4.out).mono ?_); (case side1 => repeat (first | exact (Kd.C_below HR0_0.out HB.out) | (with_reducible refine Kd.C_alloc ?_ _) | (with_reducible refine Kd.C_drewN ?_ _) | (with_reducible refine Kd.C_drew ?_))); (case side2 => exact HC0_0.out); (case side3 => repeat (first | exact (Kd.C_below HR0_1.out HB.out) | (with_reducible refine Kd.C_alloc ?_ _) | (with_reducible refine Kd.C_drewN ?_ _) | (with_reducible refine Kd.C_drew ?_))); (case side4 => exact HC0_1.out); rintro e w40 ⟨rfl, hb⟩; refine ⟨_, rfl, ?_⟩; have n0_ := Aside0.mk (blk_below (g := gb669) (o := .cells #[.slice A0_0 l0_0.length c0_0, .slice A0_1 l0_1.length c0_1] 25 (0, 0)) laws_FnExactCommonSorts.a1 hb); have n1_ := Aside0.mk (below_step laws_FnExactCommonSorts.a0 hb); clear BK669; clear HB; have BK669 := n0_; have HB := n1_; clear n0_ n1_; (try clear hb); (try clear hb2); (try clear hk); (try clear hi); have hcz41_0 : w40.cell? ⟨gb669, 0, none⟩ = some (.slice A0_0 l0_0.length c0_0) := (blk_cell BK669.out 0).trans rfl; have hcz41_1 : w40.cell? ⟨gb669, 1, none⟩ = some (.slice A0_1 l0_1.length c0_1) := (blk_cell BK669.out 1).trans rfl; have hfz41_0 := blk_frozen BK669.out 0; have hfz41_1 := blk_frozen BK669.out 1) | ((with_reducible refine gate_callee (f := 14) rfl ?_); refine goesL_ (some 17) rfl rfl Try.func14 (by kernel_rfl) rfl #[.agg #[.slice A0_0 l0_0.length c0_0, .slice A0_1 l0_1.length c0_1]] rfl laws_FnExactCommonSorts.a2 ?_; (with_reducible refine (laws_toSorts.calls k _ _ l0_0 _ _ l0_1 t671 t674 _ ?side1 ?side2 ?side3 ?side4 A9.out).mono ?_); (case side1 => repeat (first | exact (Kd.C_below HR0_0.out HB.out) | (with_reducible refine Kd.C_alloc ?_ _) | (with_reducible refine Kd.C_drewN ?_ _) | (with_reducible refine Kd.C_drew ?_))); (case side2 => exact HC0_0.out); (case side3 => repeat (first | exact (Kd.C_below HR0_1.out HB.out) | (with_reducible refine Kd.C_alloc ?_ _) | (with_reducible refine Kd.C_drewN ?_ _) | (with_reducible refine Kd.C_drew ?_))); (case side4 => exact HC0_1.out); rintro e w42 ⟨v672, v675, rfl, ho0, ho1, hb⟩; refine ⟨_, rfl, ?_⟩; have n0_ := Aside0.mk (Kd.R_lower ho0 (below_size laws_FnExactCommonSorts.a0)); have n1_ := Aside0.mk (Kd.R_lower ho1 (below_size laws_FnExactCommonSorts.a0)); have n2_ := Aside0.mk (blk_below (g := gb669) (o := .cells #[.slice A0_0 l0_0.length c0_0, .slice A0_1 l0_1.length c0_1] 25 (0, 0)) laws_FnExactCommonSorts.a1 hb); have n3_ := Aside0.mk (below_step laws_FnExactCommonSorts.a0 hb); clear BK669; clear HB; have HO673 := n0_; have HO676 := n1_; have BK669 := n2_; have HB := n3_; clear n0_ n1_ n2_ n3_; (try clear hb); (try clear hb2); (try clear hk); (try clear hi); (try clear ho0); (try clear ho1); obtain ⟨Ao43, co43, eo43⟩ := Kd.R_slice HO673.out; subst eo43; obtain ⟨Ao44, co44, eo44⟩ := Kd.R_slice HO676.out; subst eo44) | ((with_reducible refine gate_callee (f := 31) rfl ?_); refine goesL_ (some 20) rfl rfl Try.func31 (by kernel_rfl) rfl #[.agg #[.slice Ao43 t671.length co43, .slice Ao44 t674.length co44], .int .i64 a1, .int .i64 a2] rfl laws_FnExactCommonSorts.a2 ?_; (with_reducible refine (spec_CommonSorts.calls k _ _ t671 _ _ t674 a1 a2 t677 _ ?side1 ?side2 ?side3 ?side4 A10.out).mono ?_); (case side1 => repeat (first | exact (Kd.R_reads' HO673.out).2.2 | (with_reducible refine Kd.C_alloc ?_ _) | (with_reducible refine Kd.C_drewN ?_ _) | (with_reducible refine Kd.C_drew ?_))); (case side2 => exact (Kd.R_reads' HO673.out).2.1); (case side3 => repeat (first | exact (Kd.R_reads' HO676.out).2.2 | (with_reducible refine Kd.C_alloc ?_ _) | (with_reducible refine Kd.C_drewN ?_ _) | (with_reducible refine Kd.C_drew ?_))); (case side4 => exact (Kd.R_reads' HO676.out).2.1); rintro e w45 ⟨rfl, hb⟩; refine ⟨_, rfl, ?_⟩; have n0_ := Aside0.mk (Kd.R_below laws_FnExactCommonSorts.a4 hb); have n1_ := Aside0.mk (Kd.R_below laws_FnExactCommonSorts.a5 hb); have n2_ := Aside0.mk (blk_below (g := gb669) (o := .cells #[.slice A0_0 l0_0.length c0_0, .slice A0_1 l0_1.length c0_1] 25 (0, 0)) laws_FnExactCommonSorts.a1 hb); have n3_ := Aside0.mk (below_step laws_FnExactCommonSorts.a0 hb); clear HO673; clear HO676; clear BK669; clear HB; have HO673 := n0_; have HO676 := n1_; have BK669 := n2_; have HB := n3_; clear n0_ n1_ n2_ n3_; (try clear hb); (try clear hb2); (try clear hk); (try clear hi); have hcz46_0 : w45.cell? ⟨gb669, 0, none⟩ = some (.slice A0_0 l0_0.length c0_0) := (blk_cell BK669.out 0).trans rfl; have hcz46_1 : w45.cell? ⟨gb669, 1, none⟩ = some (.slice A0_1 l0_1.length c0_1) := (blk_cell BK669.out 1).trans rfl; have hfz46_0 := blk_frozen BK669.out 0; have hfz46_1 := blk_frozen BK669.out 1) | ((with_reducible refine gate_callee (f := 14) rfl ?_); refine goesL_ (some 22) rfl rfl Try.func14 (by kernel_rfl) rfl #[.agg #[.slice A0_0 l0_0.length c0_0, .slice A0_1 l0_1.length c0_1]] rfl laws_FnExactCommonSorts.a2 ?_; (with_reducible refine (laws_toSorts.calls k _ _ l0_0 _ _ l0_1 t678 t681 _ ?side1 ?side2 ?side3 ?side4 A11.out).mono ?_); (case side1 => repeat (first | exact (Kd.C_below HR0_0.out HB.out) | (with_reducible refine Kd.C_alloc ?_ _) | (with_reducible refine Kd.C_drewN ?_ _) | (with_reducible refine Kd.C_drew ?_))); (case side2 => exact HC0_0.out); (case side3 => repeat (first | exact (Kd.C_below HR0_1.out HB.out) | (with_reducible refine Kd.C_alloc ?_ _) | (with_reducible refine Kd.C_drewN ?_ _) | (with_reducible refine Kd.C_drew ?_))); (case side4 => exact HC0_1.out); rintro e w47 ⟨v679, v682, rfl, ho0, ho1, hb⟩; refine ⟨_, rfl, ?_⟩; have n0_ := Aside0.mk (Kd.R_elder' laws_FnExactCommonSorts.a4 (Kd.R_base ho0) hb); have n1_ := Aside0.mk (Kd.R_elder' laws_FnExactCommonSorts.a5 (Kd.R_base ho1) hb); have n2_ := Aside0.mk (Kd.R_lower (Kd.R_new' ho0 (Kd.R_lt laws_FnExactCommonSorts.a4)) (below_size laws_FnExactCommonSorts.a0)); have n3_ := Aside0.mk (Kd.R_lower (Kd.R_new' ho1 (Kd.R_lt laws_FnExactCommonSorts.a5)) (below_size laws_FnExactCommonSorts.a0)); have n4_ := Aside0.mk (blk_below (g := gb669) (o := .cells #[.slice A0_0 l0_0.length c0_0, .slice A0_1 l0_1.length c0_1] 25 (0, 0)) laws_FnExactCommonSorts.a1 hb); have n5_ := Aside0.mk (below_step laws_FnExactCommonSorts.a0 hb); clear HO673; clear HO676; clear BK669; clear HB; have HO673 := n0_; have HO676 := n1_; have HO680 := n2_; have HO683 := n3_; have BK669 := n4_; have HB := n5_; clear n0_ n1_ n2_ n3_ n4_ n5_; (try clear hb); (try clear hb2); (try clear hk); (try clear hi); (try clear ho0); (try clear ho1)) | ((with_reducible refine gate_dst (N := 9) rfl ?_); refine box_event ?hg (N := 9) ?hd (cs := #[.slice none 0 0, .slice none 0 0]) (t := 30) ?hr ?_; (case hd => rfl); (case hg => rfl); (case hr => first | (go_simp; done) | (go_simp; rfl)); intro gb684 hg w48 hbox hb; have n0_ := Aside0.mk (Kd.R_below laws_FnExactCommonSorts.a4 hb); have n1_ := Aside0.mk (Kd.R_below laws_FnExactCommonSorts.a5 hb); have n2_ := Aside0.mk (Kd.R_below laws_FnExactCommonSorts.a7 hb); have n3_ := Aside0.mk (Kd.R_below laws_FnExactCommonSorts.a8 hb); have n4_ := Aside0.mk (blk_below (g := gb669) (o := .cells #[.slice A0_0 l0_0.length c0_0, .slice A0_1 l0_1.length c0_1] 25 (0, 0)) laws_FnExactCommonSorts.a1 hb); have n5_ := Aside0.mk (below_step laws_FnExactCommonSorts.a0 hb); have n6_ := Aside0.mk (hbox); have n7_ := Aside0.mk ((by rw [hg]; exact (below_size laws_FnExactCommonSorts.a0) : w.heap.size ≤ gb684)); have n8_ := Aside0.mk ((by rw [hg]; exact (below_size laws_FnExactCommonSorts.a0) : w.heap.size ≤ gb684)); have n9_ := Aside0.mk ((by rw [hg]; exact Nat.ne_of_lt (blk_lt (g := gb669) (o := .cells #[.slice A0_0 l0_0.length c0_0, .slice A0_1 l0_1.length c0_1] 25 (0, 0)) laws_FnExactCommonSorts.a1) : gb669 ≠ gb684)); have n10_ := Aside0.mk ((by rw [hg]; exact Nat.ne_of_gt (blk_lt (g := gb669) (o := .cells #[.slice A0_0 l0_0.length c0_0, .slice A0_1 l0_1.length c0_1] 25 (0, 0)) laws_FnExactCommonSorts.a1) : gb684 ≠ gb669)); clear HO673; clear HO676; clear HO680; clear HO683; clear BK669; clear HB; have HO673 := n0_; have HO676 := n1_; have HO680 := n2_; have HO683 := n3_; have BK669 := n4_; have HB := n5_; have BK684 := n6_; have GW684 := n7_; have GE684 := n8_; have NB669_684 := n9_; have NB684_669 := n10_; clear n0_ n1_ n2_ n3_ n4_ n5_ n6_ n7_ n8_ n9_ n10_; clear hb hbox hg; obtain ⟨Ao49, co49, eo49⟩ := Kd.R_slice HO680.out; subst eo49; have hnb50 := NB684_669.out; have hnc50 := NB669_684.out; have hcz51_0 : w48.cell? ⟨gb684, 0, none⟩ = some (.slice none 0 0) := (blk_cell BK684.out 0).trans rfl; have hcz51_1 : w48.cell? ⟨gb684, 1, none⟩ = some (.slice none 0 0) := (blk_cell BK684.out 1).trans rfl; have hfz51_0 := blk_frozen BK684.out 0; have hfz51_1 := blk_frozen BK684.out 1; obtain ⟨Ao52, co52, eo52⟩ := Kd.R_slice HO683.out; subst eo52) | ((with_reducible refine gate_callee (f := 32) rfl ?_); refine goesL_ (some 26) rfl rfl Try.func32 (by kernel_rfl) rfl #[.agg #[.slice Ao49 t678.length co49, .slice Ao52 t681.length co52], .int .i64 a1, .int .i64 a2] rfl laws_FnExactCommonSorts.a2 ?_; (with_reducible refine (impl_CommonSorts.calls k _ _ t678 _ _ t681 a1 a2 t685 _ ?side1 ?side2 ?side3 ?side4 A12.out).mono ?_); (case side1 => refine (Kd.R_reads' (e := 9) (base := w.heap.size) (ok := fun k_ => (True ∧ some k_ ≠ (.slice Ao43 t671.length co43 : Value).ownBlock)) (n := t678.length) (c := co49) ?_).2.2; exact (by (with_reducible repeat (first | apply Kd.R_alloc | apply Kd.R_drewN | apply Kd.R_drew)); exact (Kd.R_mono (Kd.R_far (p := ⟨gb684, 1, none⟩) (Kd.R_far (p := ⟨gb684, 0, none⟩) (Kd.R_types HO680.out BK684.out (by decide)) (fun _ hk => hk.2) (.slice Ao49 t678.length co49)) (fun _ hk => hk.2) (.slice Ao52 t681.length co52)) (fun _ h_ => h_.1)))); (case side2 => exact (Kd.R_reads' HO680.out).2.1); (case side3 => refine (Kd.R_reads' (e := 52) (base := w.heap.size) (ok := fun k_ => (True ∧ some k_ ≠ (.slice Ao44 t674.length co44 : Value).ownBlock)) (n := t681.length) (c := co52) ?_).2.2; exact (by (with_reducible repeat (first | apply Kd.R_alloc | apply Kd.R_drewN | apply Kd.R_drew)); exact (Kd.R_mono (Kd.R_far (p := ⟨gb684, 1, none⟩) (Kd.R_far (p := ⟨gb684, 0, none⟩) (Kd.R_types HO683.out BK684.out (by decide)) (fun _ hk => hk.2) (.slice Ao49 t678.length co49)) (fun _ hk => hk.2) (.slice Ao52 t681.length co52)) (fun _ h_ => h_.1)))); (case side4 => exact (Kd.R_reads' HO683.out).2.1); rintro e w53 ⟨rfl, hb⟩; refine ⟨_, rfl, ?_⟩; have n0_ := Aside0.mk (Kd.R_below (by (with_reducible repeat (first | apply Kd.R_alloc | apply Kd.R_drewN | apply Kd.R_drew)); exact (Kd.R_mono (Kd.R_far (p := ⟨gb684, 1, none⟩) (Kd.R_far (p := ⟨gb684, 0, none⟩) (Kd.R_types HO673.out BK684.out (by decide)) (fun _ hk => hk.2) (.slice Ao49 t678.length co49)) (fun _ hk => hk.2) (.slice Ao52 t681.length co52)) (fun _ h_ => h_.1))) hb); have n1_ := Aside0.mk (Kd.R_below (by (with_reducible repeat (first | apply Kd.R_alloc | apply Kd.R_drewN | apply Kd.R_drew)); exact (Kd.R_mono (Kd.R_far (p := ⟨gb684, 1, none⟩) (Kd.R_far (p := ⟨gb684, 0, none⟩) (Kd.R_types HO676.out BK684.out (by decide)) (fun _ hk => hk.2) (.slice Ao49 t678.length co49)) (fun _ hk => hk.2) (.slice Ao52 t681.length co52)) (fun _ h_ => h_.1))) hb); have n2_ := Aside0.mk (Kd.R_below (by (with_reducible repeat (first | apply Kd.R_alloc | apply Kd.R_drewN | apply Kd.R_drew)); exact (Kd.R_mono (Kd.R_far (p := ⟨gb684, 1, none⟩) (Kd.R_far (p := ⟨gb684, 0, none⟩) (Kd.R_types HO680.out BK684.out (by decide)) (fun _ hk => hk.2) (.slice Ao49 t678.length co49)) (fun _ hk => hk.2) (.slice Ao52 t681.length co52)) (fun _ h_ => h_.1))) hb); have n3_ := Aside0.mk (Kd.R_below (by (with_reducible repeat (first | apply Kd.R_alloc | apply Kd.R_drewN | apply Kd.R_drew)); exact (Kd.R_mono (Kd.R_far (p := ⟨gb684, 1, none⟩) (Kd.R_far (p := ⟨gb684, 0, none⟩) (Kd.R_types HO683.out BK684.out (by decide)) (fun _ hk => hk.2) (.slice Ao49 t678.length co49)) (fun _ hk => hk.2) (.slice Ao52 t681.length co52)) (fun _ h_ => h_.1))) hb); have n4_ := Aside0.mk (blk_below (g := gb669) (o := .cells #[.slice A0_0 l0_0.length c0_0, .slice A0_1 l0_1.length c0_1] 25 (0, 0)) laws_FnExactCommonSorts.a9 hb); have n5_ := Aside0.mk (blk_below (g := gb684) (o := .cells #[.slice Ao49 t678.length co49, .slice Ao52 t681.length co52] 30 (0, 0)) (by (with_reducible repeat (first | refine blk_drewN ?_ _ | refine blk_drew ?_ | refine blk_alloc ?_ _)); refine blk_put (cs := #[.slice Ao49 t678.length co49, .slice none 0 0]) ?_ 1 _ rfl; (with_reducible repeat (first | refine blk_drewN ?_ _ | refine blk_drew ?_ | refine blk_alloc ?_ _)); refine blk_put (cs := #[.slice none 0 0, .slice none 0 0]) ?_ 0 _ rfl; (with_reducible repeat (first | refine blk_drewN ?_ _ | refine blk_drew ?_ | refine blk_alloc ?_ _)); exact BK684.out) hb); have n6_ := Aside0.mk (below_step laws_FnExactCommonSorts.a3 hb); clear HO673; clear HO676; clear HO680; clear HO683; clear BK669; clear BK684; clear HB; have HO673 := n0_; have HO676 := n1_; have HO680 := n2_; have HO683 := n3_; have BK669 := n4_; have BK684 := n5_; have HB := n6_; clear n0_ n1_ n2_ n3_ n4_ n5_ n6_; (try clear hb); (try clear hb2); (try clear hk); (try clear hi)))
    have n0_ := Aside0.mk (Kd.R_drew HO673.out)
    have n1_ := Aside0.mk (Kd.R_drew HO676.out)
    have n2_ := Aside0.mk (Kd.R_drew HO680.out)
    have n3_ := Aside0.mk (Kd.R_drew HO683.out)
    have n4_ := Aside0.mk (blk_drew BK669.out)
    have n5_ := Aside0.mk (blk_drew BK684.out)
    have n6_ := Aside0.mk (below_drew1 HB.out)
    clear HO673
    clear HO676
    clear HO680
    clear HO683
    clear BK669
    clear BK684
    clear HB
    have HO673 := n0_
    have HO676 := n1_
    have HO680 := n2_
    have HO683 := n3_
    have BK669 := n4_
    have BK684 := n5_
    have HB := n6_
    clear n0_ n1_ n2_ n3_ n4_ n5_ n6_
    refine start_ (n := 5) (S := fun w' => w'.cell? ⟨gb684, 0, none⟩ = some (.slice Ao49 t678.length co49) ∧ w'.cell? ⟨gb684, 1, none⟩ = some (.slice Ao52 t681.length co52) ∧ w'.cell? ⟨gb669, 0, none⟩ = some (.slice A0_0 l0_0.length c0_0) ∧ w'.cell? ⟨gb669, 1, none⟩ = some (.slice A0_1 l0_1.length c0_1)) (ds := []) #[false, false, false, false, false] (by kernel_rfl) rfl rfl ⟨(blk_cell BK684.out 0).trans rfl, (blk_cell BK684.out 1).trans rfl, (blk_cell BK669.out 0).trans rfl, (blk_cell BK669.out 1).trans rfl⟩ (fun hHeld => ?_)
    generalize w53.drew = w54 at HO673 HO676 HO680 HO683 BK669 BK684 HB hHeld ⊢
    refine take_ (i := 0) (N := some 30) (v := ?_) (a' := ?_) #[true, false, false, false, false] rfl rfl (by kernel_rfl) (fun _ _ _ h => h) (Or.inl ⟨by rfl, ?_⟩) hHeld ?_ ?_
    rotate_left
    ·rintro w' ⟨s0, s1, s2, s3⟩
     go_simp
     with_reducible rfl
    rotate_left
    ·simp only [Act.put, List.setIfInBounds_toArray, List.set_cons_zero, List.set_cons_succ, i64_w, i32_w]
     rfl
    refine take_ (i := 1) (N := some 31) (v := ?_) (a' := ?_) #[true, true, false, false, false] rfl rfl (by kernel_rfl) (fun _ _ _ h => h) (Or.inl ⟨by rfl, ?_⟩) hHeld ?_ ?_
    rotate_left
    ·rintro w' ⟨s0, s1, s2, s3⟩
     go_simp
     with_reducible rfl
    rotate_left
    ·simp only [Act.put, List.setIfInBounds_toArray, List.set_cons_zero, List.set_cons_succ, i64_w, i32_w]
     rfl
    refine one_ (i := 2) (N := some 32) #[true, true, true, false, false] rfl rfl (by kernel_rfl) (by decide) (fun K hK => ?_)
    refine goes_ Try.func14 (by kernel_rfl) rfl #[.agg #[.slice A0_0 l0_0.length c0_0, .slice A0_1 l0_1.length c0_1]] (by rfl) rfl rfl laws_FnExactCommonSorts.a2 ?_
    with_reducible refine (laws_toSorts.calls k _ _ l0_0 _ _ l0_1 t686 t689 _ ?side1 ?side2 ?side3 ?side4 A14.out).mono ?_
    (case side1 => repeat (first | exact (Kd.C_below HR0_0.out HB.out) | (with_reducible refine Kd.C_alloc ?_ _) | (with_reducible refine Kd.C_drewN ?_ _) | (with_reducible refine Kd.C_drew ?_)))
    (case side2 => exact HC0_0.out)
    (case side3 => repeat (first | exact (Kd.C_below HR0_1.out HB.out) | (with_reducible refine Kd.C_alloc ?_ _) | (with_reducible refine Kd.C_drewN ?_ _) | (with_reducible refine Kd.C_drew ?_)))
    (case side4 => exact HC0_1.out)
    rintro e w55 ⟨v687, v690, rfl, ho0, ho1, hb⟩
    refine ⟨_, rfl, ?_⟩
    have n0_ := Aside0.mk (Kd.R_elder' laws_FnExactCommonSorts.a4 (Kd.R_base ho0) hb)
    have n1_ := Aside0.mk (Kd.R_elder' laws_FnExactCommonSorts.a5 (Kd.R_base ho1) hb)
    have n2_ := Aside0.mk (Kd.R_elder' laws_FnExactCommonSorts.a7 (Kd.R_base ho0) hb)
    have n3_ := Aside0.mk (Kd.R_elder' laws_FnExactCommonSorts.a8 (Kd.R_base ho1) hb)
    have n4_ := Aside0.mk (Kd.R_lower (Kd.R_new' (Kd.R_new' ho0 (Kd.R_lt laws_FnExactCommonSorts.a4)) (Kd.R_lt laws_FnExactCommonSorts.a7)) (below_size laws_FnExactCommonSorts.a3))
    have n5_ := Aside0.mk (Kd.R_lower (Kd.R_new' (Kd.R_new' ho1 (Kd.R_lt laws_FnExactCommonSorts.a5)) (Kd.R_lt laws_FnExactCommonSorts.a8)) (below_size laws_FnExactCommonSorts.a3))
    have n6_ := Aside0.mk (blk_below (g := gb669) (o := .cells #[.slice A0_0 l0_0.length c0_0, .slice A0_1 l0_1.length c0_1] 25 (0, 0)) laws_FnExactCommonSorts.a1 hb)
    have n7_ := Aside0.mk (blk_below (g := gb684) (o := .cells #[.slice Ao49 t678.length co49, .slice Ao52 t681.length co52] 30 (0, 0)) (by (with_reducible repeat (first | refine blk_drewN ?_ _ | refine blk_drew ?_ | refine blk_alloc ?_ _)); exact BK684.out) hb)
    have n8_ := Aside0.mk (below_step laws_FnExactCommonSorts.a3 hb)
    clear HO673
    clear HO676
    clear HO680
    clear HO683
    clear BK669
    clear BK684
    clear HB
    have HO673 := n0_
    have HO676 := n1_
    have HO680 := n2_
    have HO683 := n3_
    have HO688 := n4_
    have HO691 := n5_
    have BK669 := n6_
    have BK684 := n7_
    have HB := n8_
    clear n0_ n1_ n2_ n3_ n4_ n5_ n6_ n7_ n8_
    (try clear hb)
    (try clear hb2)
    (try clear hk)
    (try clear hi)
    (try clear ho0)
    (try clear ho1)
    obtain ⟨Ao56, co56, eo56⟩ := Kd.R_slice HO688.out
    (first | subst eo56 | (injection eo56 with f1_ f2_ f3_; have f4_ := f1_.symm; have f5_ := f3_.symm; clear f1_ f2_ f3_; subst f4_; subst f5_))
    obtain ⟨Ao57, co57, eo57⟩ := Kd.R_slice HO691.out
    (first | subst eo57 | (injection eo57 with f1_ f2_ f3_; have f4_ := f1_.symm; have f5_ := f3_.symm; clear f1_ f2_ f3_; subst f4_; subst f5_))
    refine hK.out _ _ ⟨(blk_cell BK684.out 0).trans rfl, (blk_cell BK684.out 1).trans rfl, (blk_cell BK669.out 0).trans rfl, (blk_cell BK669.out 1).trans rfl⟩ (fun hHeld => ?_)
    clear hK K
    refine norm_ (a' := ?_) ?_ ?_
    rotate_left
    ·show Act.put _ (some 32) _ = _
     simp only [Act.put, List.setIfInBounds_toArray, List.set_cons_zero, List.set_cons_succ, i64_w, i32_w]
     rfl
    refine one_ (i := 3) (N := some 33) #[true, true, true, true, false] rfl rfl (by kernel_rfl) (by decide) (fun K hK => ?_)
    refine goes_ Try.func16 (by kernel_rfl) rfl #[.agg #[.slice Ao49 t678.length co49, .slice Ao52 t681.length co52], .agg #[.slice Ao56 t686.length co56, .slice Ao57 t689.length co57]] (by rfl) rfl rfl laws_FnExactCommonSorts.a2 ?_
    with_reducible refine (laws_eqSorts.calls k _ _ t678 _ _ t681 _ _ t686 _ _ t689 false _ ?side1 ?side2 ?side3 ?side4 ?side5 ?side6 ?side7 ?side8 A15.out).mono ?_
    (case side1 => repeat (first | exact (Kd.R_reads' HO680.out).2.2 | (with_reducible refine Kd.C_alloc ?_ _) | (with_reducible refine Kd.C_drewN ?_ _) | (with_reducible refine Kd.C_drew ?_)))
    (case side2 => exact (Kd.R_reads' HO680.out).2.1)
    (case side3 => repeat (first | exact (Kd.R_reads' HO683.out).2.2 | (with_reducible refine Kd.C_alloc ?_ _) | (with_reducible refine Kd.C_drewN ?_ _) | (with_reducible refine Kd.C_drew ?_)))
    (case side4 => exact (Kd.R_reads' HO683.out).2.1)
    (case side5 => repeat (first | exact (Kd.R_reads' HO688.out).2.2 | (with_reducible refine Kd.C_alloc ?_ _) | (with_reducible refine Kd.C_drewN ?_ _) | (with_reducible refine Kd.C_drew ?_)))
    (case side6 => exact (Kd.R_reads' HO688.out).2.1)
    (case side7 => repeat (first | exact (Kd.R_reads' HO691.out).2.2 | (with_reducible refine Kd.C_alloc ?_ _) | (with_reducible refine Kd.C_drewN ?_ _) | (with_reducible refine Kd.C_drew ?_)))
    (case side8 => exact (Kd.R_reads' HO691.out).2.1)
    rintro e w58 ⟨rfl, hb⟩
    refine ⟨_, rfl, ?_⟩
    have n0_ := Aside0.mk (Kd.R_below laws_FnExactCommonSorts.a4 hb)
    have n1_ := Aside0.mk (Kd.R_below laws_FnExactCommonSorts.a5 hb)
    have n2_ := Aside0.mk (Kd.R_below laws_FnExactCommonSorts.a7 hb)
    have n3_ := Aside0.mk (Kd.R_below laws_FnExactCommonSorts.a8 hb)
    have n4_ := Aside0.mk (Kd.R_below (by (with_reducible repeat (first | apply Kd.R_alloc | apply Kd.R_drewN | apply Kd.R_drew)); exact HO688.out) hb)
    have n5_ := Aside0.mk (Kd.R_below (by (with_reducible repeat (first | apply Kd.R_alloc | apply Kd.R_drewN | apply Kd.R_drew)); exact HO691.out) hb)
    have n6_ := Aside0.mk (blk_below (g := gb669) (o := .cells #[.slice A0_0 l0_0.length c0_0, .slice A0_1 l0_1.length c0_1] 25 (0, 0)) laws_FnExactCommonSorts.a1 hb)
    have n7_ := Aside0.mk (blk_below (g := gb684) (o := .cells #[.slice Ao49 t678.length co49, .slice Ao52 t681.length co52] 30 (0, 0)) (by (with_reducible repeat (first | refine blk_drewN ?_ _ | refine blk_drew ?_ | refine blk_alloc ?_ _)); exact BK684.out) hb)
    have n8_ := Aside0.mk (below_step laws_FnExactCommonSorts.a3 hb)
    clear HO673
    clear HO676
    clear HO680
    clear HO683
    clear HO688
    clear HO691
    clear BK669
    clear BK684
    clear HB
    have HO673 := n0_
    have HO676 := n1_
    have HO680 := n2_
    have HO683 := n3_
    have HO688 := n4_
    have HO691 := n5_
    have BK669 := n6_
    have BK684 := n7_
    have HB := n8_
    clear n0_ n1_ n2_ n3_ n4_ n5_ n6_ n7_ n8_
    (try clear hb)
    (try clear hb2)
    (try clear hk)
    (try clear hi)
    refine hK.out _ _ ⟨(blk_cell BK684.out 0).trans rfl, (blk_cell BK684.out 1).trans rfl, (blk_cell BK669.out 0).trans rfl, (blk_cell BK669.out 1).trans rfl⟩ (fun hHeld => ?_)
    clear hK K
    refine norm_ (a' := ?_) ?_ ?_
    rotate_left
    ·show Act.put _ (some 33) _ = _
     simp only [Act.put, List.setIfInBounds_toArray, List.set_cons_zero, List.set_cons_succ, i64_w, i32_w]
     rfl
    refine pure_ (i := 4) (N := some 34) (v := ?_) (a' := ?_) #[true, true, true, true, true] rfl rfl (by kernel_rfl) (fun _ _ _ h => h) (Or.inl ⟨by rfl, ?_⟩) ?_ ?_
    rotate_left
    ·intro w'
     go_simp
     with_reducible rfl
    rotate_left
    ·simp only [Act.put, List.setIfInBounds_toArray, List.set_cons_zero, List.set_cons_succ, i64_w, i32_w]
     rfl
    refine done_ (by kernel_rfl) ?_
    try go_wp2
    go_ret
    exact ⟨by first | rfl | (simp [errW_none, errW_some] <;> rfl) | (simp [*, errW_none, errW_some] <;> rfl), laws_FnExactCommonSorts.a3⟩
  ·rw [if_neg c13] at H
   have c13b0 : (t685 == t677) = false := beq_eq_false_iff_ne.mpr c13
   have c13b1 : (t685 != t677) = true := bne_iff_ne.mpr c13
   obtain rfl := Option.some.inj H
   go_enter Try.func10, Try.ntmps10
   go_wp2_with (first | ((with_reducible refine gate_dst (N := 3) rfl ?_); refine box_event ?hg (N := 3) ?hd (cs := #[.slice A0_0 l0_0.length c0_0, .slice A0_1 l0_1.length c0_1]) (t := 25) ?hr ?_; (case hd => rfl); (case hg => rfl); (case hr => first | (go_simp; done) | (go_simp; rfl)); intro gb669 hg w59 hbox hb; have n0_ := Aside0.mk (below_step laws_FnExactCommonSorts.a6 hb); have n1_ := Aside0.mk (hbox); have n2_ := Aside0.mk ((by rw [hg]; exact (below_size laws_FnExactCommonSorts.a6) : w.heap.size ≤ gb669)); have n3_ := Aside0.mk ((by rw [hg]; exact (below_size laws_FnExactCommonSorts.a6) : w.heap.size ≤ gb669)); clear HB; have HB := n0_; have BK669 := n1_; have GW669 := n2_; have GE669 := n3_; clear n0_ n1_ n2_ n3_; clear hb hbox hg; have hcz60_0 : w59.cell? ⟨gb669, 0, none⟩ = some (.slice A0_0 l0_0.length c0_0) := (blk_cell BK669.out 0).trans rfl; have hcz60_1 : w59.cell? ⟨gb669, 1, none⟩ = some (.slice A0_1 l0_1.length c0_1) := (blk_cell BK669.out 1).trans rfl; have hfz60_0 := blk_frozen BK669.out 0; have hfz60_1 := blk_frozen BK669.out 1) | ((with_reducible refine gate_callee (f := 12) rfl ?_); refine goesL_ (some 13) rfl rfl Try.func12 (by kernel_rfl) rfl #[.agg #[.slice A0_0 l0_0.length c0_0, .slice A0_1 l0_1.length c0_1], .int .i64 1048576] rfl laws_FnExactCommonSorts.a2 ?_; (with_reducible refine (laws_szSorts.calls k _ _ l0_0 _ _ l0_1 1048576 t670 _ ?side1 ?side2 ?side3 ?side4 A4.out).mono ?_); (case side1 => repeat (first | exact (Kd.C_below HR0_0.out HB.out) | (with_reducible refine Kd.C_alloc ?_ _) | (with_reducible refine Kd.C_drewN ?_ _) | (with_reducible refine Kd.C_drew ?_))); (case side2 => exact HC0_0.out); (case side3 => repeat (first | exact (Kd.C_below HR0_1.out HB.out) | (with_reducible refine Kd.C_alloc ?_ _) | (with_reducible refine Kd.C_drewN ?_ _) | (with_reducible refine Kd.C_drew ?_))); (case side4 => exact HC0_1.out); rintro e w61 ⟨rfl, hb⟩; refine ⟨_, rfl, ?_⟩; have n0_ := Aside0.mk (blk_below (g := gb669) (o := .cells #[.slice A0_0 l0_0.length c0_0, .slice A0_1 l0_1.length c0_1] 25 (0, 0)) laws_FnExactCommonSorts.a1 hb); have n1_ := Aside0.mk (below_step laws_FnExactCommonSorts.a0 hb); clear BK669; clear HB; have BK669 := n0_; have HB := n1_; clear n0_ n1_; (try clear hb); (try clear hb2); (try clear hk); (try clear hi); have hcz62_0 : w61.cell? ⟨gb669, 0, none⟩ = some (.slice A0_0 l0_0.length c0_0) := (blk_cell BK669.out 0).trans rfl; have hcz62_1 : w61.cell? ⟨gb669, 1, none⟩ = some (.slice A0_1 l0_1.length c0_1) := (blk_cell BK669.out 1).trans rfl; have hfz62_0 := blk_frozen BK669.out 0; have hfz62_1 := blk_frozen BK669.out 1) | ((with_reducible refine gate_callee (f := 14) rfl ?_); refine goesL_ (some 17) rfl rfl Try.func14 (by kernel_rfl) rfl #[.agg #[.slice A0_0 l0_0.length c0_0, .slice A0_1 l0_1.length c0_1]] rfl laws_FnExactCommonSorts.a2 ?_; (with_reducible refine (laws_toSorts.calls k _ _ l0_0 _ _ l0_1 t671 t674 _ ?side1 ?side2 ?side3 ?side4 A9.out).mono ?_); (case side1 => repeat (first | exact (Kd.C_below HR0_0.out HB.out) | (with_reducible refine Kd.C_alloc ?_ _) | (with_reducible refine Kd.C_drewN ?_ _) | (with_reducible refine Kd.C_drew ?_))); (case side2 => exact HC0_0.out); (case side3 => repeat (first | exact (Kd.C_below HR0_1.out HB.out) | (with_reducible refine Kd.C_alloc ?_ _) | (with_reducible refine Kd.C_drewN ?_ _) | (with_reducible refine Kd.C_drew ?_))); (case side4 => exact HC0_1.out); rintro e w63 ⟨v672, v675, rfl, ho0, ho1, hb⟩; refine ⟨_, rfl, ?_⟩; have n0_ := Aside0.mk (Kd.R_lower ho0 (below_size laws_FnExactCommonSorts.a0)); have n1_ := Aside0.mk (Kd.R_lower ho1 (below_size laws_FnExactCommonSorts.a0)); have n2_ := Aside0.mk (blk_below (g := gb669) (o := .cells #[.slice A0_0 l0_0.length c0_0, .slice A0_1 l0_1.length c0_1] 25 (0, 0)) laws_FnExactCommonSorts.a1 hb); have n3_ := Aside0.mk (below_step laws_FnExactCommonSorts.a0 hb); clear BK669; clear HB; have HO673 := n0_; have HO676 := n1_; have BK669 := n2_; have HB := n3_; clear n0_ n1_ n2_ n3_; (try clear hb); (try clear hb2); (try clear hk); (try clear hi); (try clear ho0); (try clear ho1); obtain ⟨Ao64, co64, eo64⟩ := Kd.R_slice HO673.out; subst eo64; obtain ⟨Ao65, co65, eo65⟩ := Kd.R_slice HO676.out; subst eo65) | ((with_reducible refine gate_callee (f := 31) rfl ?_); refine goesL_ (some 20) rfl rfl Try.func31 (by kernel_rfl) rfl #[.agg #[.slice Ao64 t671.length co64, .slice Ao65 t674.length co65], .int .i64 a1, .int .i64 a2] rfl laws_FnExactCommonSorts.a2 ?_; (with_reducible refine (spec_CommonSorts.calls k _ _ t671 _ _ t674 a1 a2 t677 _ ?side1 ?side2 ?side3 ?side4 A10.out).mono ?_); (case side1 => repeat (first | exact (Kd.R_reads' HO673.out).2.2 | (with_reducible refine Kd.C_alloc ?_ _) | (with_reducible refine Kd.C_drewN ?_ _) | (with_reducible refine Kd.C_drew ?_))); (case side2 => exact (Kd.R_reads' HO673.out).2.1); (case side3 => repeat (first | exact (Kd.R_reads' HO676.out).2.2 | (with_reducible refine Kd.C_alloc ?_ _) | (with_reducible refine Kd.C_drewN ?_ _) | (with_reducible refine Kd.C_drew ?_))); (case side4 => exact (Kd.R_reads' HO676.out).2.1); rintro e w66 ⟨rfl, hb⟩; refine ⟨_, rfl, ?_⟩; have n0_ := Aside0.mk (Kd.R_below laws_FnExactCommonSorts.a4 hb); have n1_ := Aside0.mk (Kd.R_below laws_FnExactCommonSorts.a5 hb); have n2_ := Aside0.mk (blk_below (g := gb669) (o := .cells #[.slice A0_0 l0_0.length c0_0, .slice A0_1 l0_1.length c0_1] 25 (0, 0)) laws_FnExactCommonSorts.a1 hb); have n3_ := Aside0.mk (below_step laws_FnExactCommonSorts.a0 hb); clear HO673; clear HO676; clear BK669; clear HB; have HO673 := n0_; have HO676 := n1_; have BK669 := n2_; have HB := n3_; clear n0_ n1_ n2_ n3_; (try clear hb); (try clear hb2); (try clear hk); (try clear hi); have hcz67_0 : w66.cell? ⟨gb669, 0, none⟩ = some (.slice A0_0 l0_0.length c0_0) := (blk_cell BK669.out 0).trans rfl; have hcz67_1 : w66.cell? ⟨gb669, 1, none⟩ = some (.slice A0_1 l0_1.length c0_1) := (blk_cell BK669.out 1).trans rfl; have hfz67_0 := blk_frozen BK669.out 0; have hfz67_1 := blk_frozen BK669.out 1) | ((with_reducible refine gate_callee (f := 14) rfl ?_); refine goesL_ (some 22) rfl rfl Try.func14 (by kernel_rfl) rfl #[.agg #[.slice A0_0 l0_0.length c0_0, .slice A0_1 l0_1.length c0_1]] rfl laws_FnExactCommonSorts.a2 ?_; (with_reducible refine (laws_toSorts.calls k _ _ l0_0 _ _ l0_1 t678 t681 _ ?side1 ?side2 ?side3 ?side4 A11.out).mono ?_); (case side1 => repeat (first | exact (Kd.C_below HR0_0.out HB.out) | (with_reducible refine Kd.C_alloc ?_ _) | (with_reducible refine Kd.C_drewN ?_ _) | (with_reducible refine Kd.C_drew ?_))); (case side2 => exact HC0_0.out); (case side3 => repeat (first | exact (Kd.C_below HR0_1.out HB.out) | (with_reducible refine Kd.C_alloc ?_ _) | (with_reducible refine Kd.C_drewN ?_ _) | (with_reducible refine Kd.C_drew ?_))); (case side4 => exact HC0_1.out); rintro e w68 ⟨v679, v682, rfl, ho0, ho1, hb⟩; refine ⟨_, rfl, ?_⟩; have n0_ := Aside0.mk (Kd.R_elder' laws_FnExactCommonSorts.a4 (Kd.R_base ho0) hb); have n1_ := Aside0.mk (Kd.R_elder' laws_FnExactCommonSorts.a5 (Kd.R_base ho1) hb); have n2_ := Aside0.mk (Kd.R_lower (Kd.R_new' ho0 (Kd.R_lt laws_FnExactCommonSorts.a4)) (below_size laws_FnExactCommonSorts.a0)); have n3_ := Aside0.mk (Kd.R_lower (Kd.R_new' ho1 (Kd.R_lt laws_FnExactCommonSorts.a5)) (below_size laws_FnExactCommonSorts.a0)); have n4_ := Aside0.mk (blk_below (g := gb669) (o := .cells #[.slice A0_0 l0_0.length c0_0, .slice A0_1 l0_1.length c0_1] 25 (0, 0)) laws_FnExactCommonSorts.a1 hb); have n5_ := Aside0.mk (below_step laws_FnExactCommonSorts.a0 hb); clear HO673; clear HO676; clear BK669; clear HB; have HO673 := n0_; have HO676 := n1_; have HO680 := n2_; have HO683 := n3_; have BK669 := n4_; have HB := n5_; clear n0_ n1_ n2_ n3_ n4_ n5_; (try clear hb); (try clear hb2); (try clear hk); (try clear hi); (try clear ho0); (try clear ho1)) | ((with_reducible refine gate_dst (N := 9) rfl ?_); refine box_event ?hg (N := 9) ?hd (cs := #[.slice none 0 0, .slice none 0 0]) (t := 30) ?hr ?_; (case hd => rfl); (case hg => rfl); (case hr => first | (go_simp; done) | (go_simp; rfl)); intro gb684 hg w69 hbox hb; have n0_ := Aside0.mk (Kd.R_below laws_FnExactCommonSorts.a4 hb); have n1_ := Aside0.mk (Kd.R_below laws_FnExactCommonSorts.a5 hb); have n2_ := Aside0.mk (Kd.R_below laws_FnExactCommonSorts.a7 hb); have n3_ := Aside0.mk (Kd.R_below laws_FnExactCommonSorts.a8 hb); have n4_ := Aside0.mk (blk_below (g := gb669) (o := .cells #[.slice A0_0 l0_0.length c0_0, .slice A0_1 l0_1.length c0_1] 25 (0, 0)) laws_FnExactCommonSorts.a1 hb); have n5_ := Aside0.mk (below_step laws_FnExactCommonSorts.a0 hb); have n6_ := Aside0.mk (hbox); have n7_ := Aside0.mk ((by rw [hg]; exact (below_size laws_FnExactCommonSorts.a0) : w.heap.size ≤ gb684)); have n8_ := Aside0.mk ((by rw [hg]; exact (below_size laws_FnExactCommonSorts.a0) : w.heap.size ≤ gb684)); have n9_ := Aside0.mk ((by rw [hg]; exact Nat.ne_of_lt (blk_lt (g := gb669) (o := .cells #[.slice A0_0 l0_0.length c0_0, .slice A0_1 l0_1.length c0_1] 25 (0, 0)) laws_FnExactCommonSorts.a1) : gb669 ≠ gb684)); have n10_ := Aside0.mk ((by rw [hg]; exact Nat.ne_of_gt (blk_lt (g := gb669) (o := .cells #[.slice A0_0 l0_0.length c0_0, .slice A0_1 l0_1.length c0_1] 25 (0, 0)) laws_FnExactCommonSorts.a1) : gb684 ≠ gb669)); clear HO673; clear HO676; clear HO680; clear HO683; clear BK669; clear HB; have HO673 := n0_; have HO676 := n1_; have HO680 := n2_; have HO683 := n3_; have BK669 := n4_; have HB := n5_; have BK684 := n6_; have GW684 := n7_; have GE684 := n8_; have NB669_684 := n9_; have NB684_669 := n10_; clear n0_ n1_ n2_ n3_ n4_ n5_ n6_ n7_ n8_ n9_ n10_; clear hb hbox hg; obtain ⟨Ao70, co70, eo70⟩ := Kd.R_slice HO680.out; subst eo70; have hnb71 := NB684_669.out; have hnc71 := NB669_684.out; have hcz72_0 : w69.cell? ⟨gb684, 0, none⟩ = some (.slice none 0 0) := (blk_cell BK684.out 0).trans rfl; have hcz72_1 : w69.cell? ⟨gb684, 1, none⟩ = some (.slice none 0 0) := (blk_cell BK684.out 1).trans rfl; have hfz72_0 := blk_frozen BK684.out 0; have hfz72_1 := blk_frozen BK684.out 1; obtain ⟨Ao73, co73, eo73⟩ := Kd.R_slice HO683.out; subst eo73) | ((with_reducible refine gate_callee (f := 32) rfl ?_); refine goesL_ (some 26) rfl rfl Try.func32 (by kernel_rfl) rfl #[.agg #[.slice Ao70 t678.length co70, .slice Ao73 t681.length co73], .int .i64 a1, .int .i64 a2] rfl laws_FnExactCommonSorts.a2 ?_; (with_reducible refine (impl_CommonSorts.calls k _ _ t678 _ _ t681 a1 a2 t685 _ ?side1 ?side2 ?side3 ?side4 A12.out).mono ?_); (case side1 => refine (Kd.R_reads' (e := 9) (base := w.heap.size) (ok := fun k_ => (True ∧ some k_ ≠ (.slice Ao64 t671.length co64 : Value).ownBlock)) (n := t678.length) (c := co70) ?_).2.2; exact (by (with_reducible repeat (first | apply Kd.R_alloc | apply Kd.R_drewN | apply Kd.R_drew)); exact (Kd.R_mono (Kd.R_far (p := ⟨gb684, 1, none⟩) (Kd.R_far (p := ⟨gb684, 0, none⟩) (Kd.R_types HO680.out BK684.out (by decide)) (fun _ hk => hk.2) (.slice Ao70 t678.length co70)) (fun _ hk => hk.2) (.slice Ao73 t681.length co73)) (fun _ h_ => h_.1)))); (case side2 => exact (Kd.R_reads' HO680.out).2.1); (case side3 => refine (Kd.R_reads' (e := 52) (base := w.heap.size) (ok := fun k_ => (True ∧ some k_ ≠ (.slice Ao65 t674.length co65 : Value).ownBlock)) (n := t681.length) (c := co73) ?_).2.2; exact (by (with_reducible repeat (first | apply Kd.R_alloc | apply Kd.R_drewN | apply Kd.R_drew)); exact (Kd.R_mono (Kd.R_far (p := ⟨gb684, 1, none⟩) (Kd.R_far (p := ⟨gb684, 0, none⟩) (Kd.R_types HO683.out BK684.out (by decide)) (fun _ hk => hk.2) (.slice Ao70 t678.length co70)) (fun _ hk => hk.2) (.slice Ao73 t681.length co73)) (fun _ h_ => h_.1)))); (case side4 => exact (Kd.R_reads' HO683.out).2.1); rintro e w74 ⟨rfl, hb⟩; refine ⟨_, rfl, ?_⟩; have n0_ := Aside0.mk (Kd.R_below (by (with_reducible repeat (first | apply Kd.R_alloc | apply Kd.R_drewN | apply Kd.R_drew)); exact (Kd.R_mono (Kd.R_far (p := ⟨gb684, 1, none⟩) (Kd.R_far (p := ⟨gb684, 0, none⟩) (Kd.R_types HO673.out BK684.out (by decide)) (fun _ hk => hk.2) (.slice Ao70 t678.length co70)) (fun _ hk => hk.2) (.slice Ao73 t681.length co73)) (fun _ h_ => h_.1))) hb); have n1_ := Aside0.mk (Kd.R_below (by (with_reducible repeat (first | apply Kd.R_alloc | apply Kd.R_drewN | apply Kd.R_drew)); exact (Kd.R_mono (Kd.R_far (p := ⟨gb684, 1, none⟩) (Kd.R_far (p := ⟨gb684, 0, none⟩) (Kd.R_types HO676.out BK684.out (by decide)) (fun _ hk => hk.2) (.slice Ao70 t678.length co70)) (fun _ hk => hk.2) (.slice Ao73 t681.length co73)) (fun _ h_ => h_.1))) hb); have n2_ := Aside0.mk (Kd.R_below (by (with_reducible repeat (first | apply Kd.R_alloc | apply Kd.R_drewN | apply Kd.R_drew)); exact (Kd.R_mono (Kd.R_far (p := ⟨gb684, 1, none⟩) (Kd.R_far (p := ⟨gb684, 0, none⟩) (Kd.R_types HO680.out BK684.out (by decide)) (fun _ hk => hk.2) (.slice Ao70 t678.length co70)) (fun _ hk => hk.2) (.slice Ao73 t681.length co73)) (fun _ h_ => h_.1))) hb); have n3_ := Aside0.mk (Kd.R_below (by (with_reducible repeat (first | apply Kd.R_alloc | apply Kd.R_drewN | apply Kd.R_drew)); exact (Kd.R_mono (Kd.R_far (p := ⟨gb684, 1, none⟩) (Kd.R_far (p := ⟨gb684, 0, none⟩) (Kd.R_types HO683.out BK684.out (by decide)) (fun _ hk => hk.2) (.slice Ao70 t678.length co70)) (fun _ hk => hk.2) (.slice Ao73 t681.length co73)) (fun _ h_ => h_.1))) hb); have n4_ := Aside0.mk (blk_below (g := gb669) (o := .cells #[.slice A0_0 l0_0.length c0_0, .slice A0_1 l0_1.length c0_1] 25 (0, 0)) laws_FnExactCommonSorts.a9 hb); have n5_ := Aside0.mk (blk_below (g := gb684) (o := .cells #[.slice Ao70 t678.length co70, .slice Ao73 t681.length co73] 30 (0, 0)) (by (with_reducible repeat (first | refine blk_drewN ?_ _ | refine blk_drew ?_ | refine blk_alloc ?_ _)); refine blk_put (cs := #[.slice Ao70 t678.length co70, .slice none 0 0]) ?_ 1 _ rfl; (with_reducible repeat (first | refine blk_drewN ?_ _ | refine blk_drew ?_ | refine blk_alloc ?_ _)); refine blk_put (cs := #[.slice none 0 0, .slice none 0 0]) ?_ 0 _ rfl; (with_reducible repeat (first | refine blk_drewN ?_ _ | refine blk_drew ?_ | refine blk_alloc ?_ _)); exact BK684.out) hb); have n6_ := Aside0.mk (below_step laws_FnExactCommonSorts.a3 hb); clear HO673; clear HO676; clear HO680; clear HO683; clear BK669; clear BK684; clear HB; have HO673 := n0_; have HO676 := n1_; have HO680 := n2_; have HO683 := n3_; have BK669 := n4_; have BK684 := n5_; have HB := n6_; clear n0_ n1_ n2_ n3_ n4_ n5_ n6_; (try clear hb); (try clear hb2); (try clear hk); (try clear hi)))
   go_ret
   exact ⟨by first | rfl | (simp [errW_none, errW_some] <;> rfl) | (simp [*, errW_none, errW_some] <;> rfl), laws_FnExactCommonSorts.a3⟩

/-! ### spec_l1PickInt: function 69 -/
/-! ### spec_l2Draw: function 60 -/
end Go.Proofs.Ytlpkicbmcpmemaa.Q

