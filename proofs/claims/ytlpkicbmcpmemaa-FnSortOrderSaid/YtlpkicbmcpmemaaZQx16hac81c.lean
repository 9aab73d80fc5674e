/- Functions of the program as plain Lean functions, and that the calls come to what they say. -/
import Derived.Test.YtlpkicbmcpmemaaZQx0h88023
import Derived.Test.YtlpkicbmcpmemaaZQx4h5dde5
import Derived.Test.YtlpkicbmcpmemaaZQx7h5b2c5
import Derived.Test.YtlpkicbmcpmemaaZQx9hd2e7a
import Derived.Test.YtlpkicbmcpmemaaZQx12hebece
import Derived.Test.YtlpkicbmcpmemaaZQx15h946de
import Derived.Test.YtlpkicbmcpmemaaZShorth695fd
namespace Go.Proofs.Ytlpkicbmcpmemaa.Q
open Go.RowKit Go.Proofs.YtlpkicbmcpmemaaW.PrintWords Go.Proofs.YtlpkicbmcpmemaaW.PrintLast Go.Proofs.YtlpkicbmcpmemaaW.PrintMore
attribute [local go_sem] max2_int min2_int max_two min_two max_three min_three max_four min_four   -- for this text's walks alone
set_option linter.unusedVariables false
set_option linter.unusedSimpArgs false

/-! ### laws_FnSortOrder: function 4 -/
theorem laws_FnSortOrder.a0 {P_ : Prop} (h_ : P_ := by repeat (first | (with_reducible first | exact HB.out | apply below_alloc | apply pw_below_drewN | apply below_drew1 | refine below_set ?_ GE413.out) | exact HB.out)) : P_ := h_
theorem laws_FnSortOrder.a1 {P_ : Prop} (h_ : P_ := by (try simp only [List.map_toArray, List.map_cons, List.map_nil]); first | done | rfl | (simp only [List.length_drop, List.length_take]; rfl)) : P_ := h_
theorem laws_FnSortOrder.a2 {P_ : Prop} (h_ : P_ := by (with_reducible repeat (first | refine blk_drewN ?_ _ | refine blk_drew ?_ | refine blk_alloc ?_ _)); exact BK413.out) : P_ := h_
theorem laws_FnSortOrder.a3 {P_ : Prop} (h_ : P_ := by (with_reducible repeat (first | apply Kd.R_alloc | apply Kd.R_drewN | apply Kd.R_drew)); exact HO_414000.out) : P_ := h_
theorem laws_FnSortOrder.a4 {P_ : Prop} (h_ : P_ := by (with_reducible repeat (first | apply Kd.R_alloc | apply Kd.R_drewN | apply Kd.R_drew)); exact HO_414001.out) : P_ := h_
theorem laws_FnSortOrder.a5 {P_ : Prop} (h_ : P_ := by repeat (first | (with_reducible first | exact HB.out | apply below_alloc | apply pw_below_drewN | apply below_drew1) | exact HB.out)) : P_ := h_
theorem laws_FnSortOrder.a6 {P_ : Prop} (h_ : P_ := by (with_reducible repeat (first | apply Kd.R_alloc | apply Kd.R_drewN | apply Kd.R_drew)); exact HO408.out) : P_ := h_
theorem laws_FnSortOrder.a7 {P_ : Prop} (h_ : P_ := by (with_reducible repeat (first | apply Kd.R_alloc | apply Kd.R_drewN | apply Kd.R_drew)); exact HO411.out) : P_ := h_
theorem laws_FnSortOrder.a8 {P_ : Prop} (h_ : P_ := by rintro w' ⟨s0, s1⟩; go_simp; with_reducible rfl) : P_ := h_
theorem laws_FnSortOrder.a9 {P_ : Prop} (h_ : P_ := by kernel_rfl) : P_ := h_
theorem laws_FnSortOrder.a10 {P_ : Prop} (h_ : P_ := by first | rfl | (simp [errW_none, errW_some] <;> rfl) | (simp [*, errW_none, errW_some] <;> rfl)) : P_ := h_
mutual
def laws_FnSortOrder.j0 : Nat → Int → Int → Bool → List ByteArray → List (S52) → Option (Bool)
 | 0, _, _, _, _, _ => none
 | k + 1, x4, x5, x36, x414000, x414001 => if x36 = true then (if x5 = 0 then ((impl_BelowSort.f k x414000 x414001 x4).bind fun t418 => (if t418 = 0 then ((impl_KindOfSort.f k x414000 x414001 x4).bind fun t419 => (some (t419 == (-1)))) else (some false))) else (some false)) else (laws_FnSortOrder.l0 k x4 x5 0 x414000 x414001)
def laws_FnSortOrder.l0 : Nat → Int → Int → Int → List ByteArray → List (S52) → Option (Bool)
 | 0, _, _, _, _, _ => none
 | k + 1, x4, x5, x6, x414000, x414001 => if x6 < (x414000.length : Int) then ((laws_member.f x5 x6).bind fun t421 => ((impl_BelowSort.f k x414000 x414001 x6).bind fun t422 => ((laws_member.f t422 x4).bind fun t423 => (if (t421 != t423) = true then (some false) else (if t421 = true then ((impl_AboveSort.f k x414000 x414001 x6).bind fun t424 => ((impl_IsSubset.f t424 x5).bind fun t425 => (if t425 = true then ((impl_KindOfSort.f k x414000 x414001 x6).bind fun t426 => ((impl_KindOfSort.f k x414000 x414001 x4).bind fun t427 => (if t426 = t427 then (if x6 = x4 then (laws_FnSortOrder.l0 k x4 x5 (wrap64 (x6 + 1)) x414000 x414001) else ((impl_AboveSort.f k x414000 x414001 x6).bind fun t428 => ((laws_member.f t428 x4).bind fun t429 => (if t429 = true then (some false) else (laws_FnSortOrder.l0 k x4 x5 (wrap64 (x6 + 1)) x414000 x414001))))) else (some false)))) else (some false)))) else (laws_FnSortOrder.l0 k x4 x5 (wrap64 (x6 + 1)) x414000 x414001)))))) else ((laws_member.f x5 x4).bind fun t420 => (some t420))
end
def laws_FnSortOrder.f (k : Nat) (l0 : List Int) : Option (Bool) := (laws_big.f l0).bind fun t405 => (if t405 = true then (some true) else ((spec_DrawAboveSort.f k l0).bind fun bt406 => ((impl_IsSorts.f k bt406.1 bt406.2.1).bind fun t414 => ((spec_IsSorts.f k bt406.1 bt406.2.1).bind fun t415 => (if (t414 != t415) = true then (some false) else ((impl_AboveSort.f k bt406.1 bt406.2.1 bt406.2.2).bind fun t416 => ((spec_IsSorts.f k bt406.1 bt406.2.1).bind fun t417 => (if t417 = true then (if bt406.2.2 < 0 then (laws_FnSortOrder.j0 k bt406.2.2 t416 true bt406.1 bt406.2.1) else (laws_FnSortOrder.j0 k bt406.2.2 t416 (decide (bt406.2.2 ≥ (bt406.1.length : Int))) bt406.1 bt406.2.1)) else (laws_FnSortOrder.j0 k bt406.2.2 t416 true bt406.1 bt406.2.1)))))))))
def laws_FnSortOrder.T13 : Bool × List (List Nat × List Nat) := (true, [([], []), ([], []), ([], []), ([1, 2], [1, 2]), ([], []), ([3, 4, 3], [3, 4]), ([0, 5], [0, 5]), ([6, 5], [6]), ([7], [7]), ([8, 7, 7], [7, 8]), ([9], [9]), ([9], [9]), ([10, 11, 9, 9], [9, 10, 11]), ([9], [9]), ([12, 13, 12, 9], [9, 12, 13]), ([14, 9], [9, 14]), ([15, 14, 9], [9, 15]), ([16], [16]), ([16], [16]), ([17, 18, 16, 16], [16, 17, 18]), ([16], [16]), ([16], [16]), ([20, 21, 19, 16], [16, 20, 21]), ([19, 22, 16], [16, 19, 22]), ([16, 23, 9], [9, 16, 23]), ([9, 24, 7], [7, 9, 24]), ([7, 25], [7, 25]), ([26, 22], [26]), ([27], [27]), ([28, 27, 27], [27, 28]), ([29], [29]), ([29], [29]), ([30, 31, 29], [29, 30, 31]), ([29, 32, 27], [27, 29, 32]), ([33, 29, 27], [27, 33]), ([34], [34]), ([34], [34]), ([35, 36, 34, 34], [34, 35, 36]), ([34], [34]), ([37, 38, 37, 34], [34, 37, 38]), ([34, 39, 27], [27, 34, 39]), ([27, 40], [27, 40])])
def laws_FnSortOrder.B13 : List Nat := [0, 0, 0, 6, 0, 30, 63, 127, 255, 511, 1023, 1023, 4095, 1023, 16383, 32767, 65535, 131071, 131071, 524287, 131071, 131071, 4194303, 8388607, 16777215, 33554431, 67108863, 134217727, 268435455, 536870911, 1073741823, 1073741823, 4294967295, 8589934591, 17179869183, 34359738367, 34359738367, 137438953471, 34359738367, 549755813887, 1099511627775, 2199023255551]
theorem laws_FnSortOrder.tab13 : rtab .any (opsOf Try.f4 13) = laws_FnSortOrder.T13 := by kernel_rfl
theorem laws_FnSortOrder.bits13 : waitsOk laws_FnSortOrder.T13.2 laws_FnSortOrder.B13 = true := by kernel_rfl
set_option maxHeartbeats 8000000 in
set_option maxRecDepth 100000 in
theorem laws_FnSortOrder.calls (k : Nat) (A0 : Option Addr) (c0 : Nat) (l0 : List Int) (r : Bool) (w : World) (hr0 : Kd.C (Kd.int .u8) w A0 l0.length l0) (hc0 : l0.length ≤ c0) (h : laws_FnSortOrder.f k l0 = some r) :
  Calls Try.prog 4 #[.slice A0 l0.length c0] w fun e w' => e = .returned (.bool r) ∧ Below w.heap.size w w' := by
 have hu30 := Try.underlying30
 have HR0 := Aside0.mk hr0
 have HC0 := Aside0.mk hc0
 clear hr0 hc0
 have HB := Aside0.mk (Below.refl w.heap.size w)
 have H : ((laws_big.f l0).bind fun t405 => (if t405 = true then (some true) else ((spec_DrawAboveSort.f k l0).bind fun bt406 => ((impl_IsSorts.f k bt406.1 bt406.2.1).bind fun t414 => ((spec_IsSorts.f k bt406.1 bt406.2.1).bind fun t415 => (if (t414 != t415) = true then (some false) else ((impl_AboveSort.f k bt406.1 bt406.2.1 bt406.2.2).bind fun t416 => ((spec_IsSorts.f k bt406.1 bt406.2.1).bind fun t417 => (if t417 = true then (if bt406.2.2 < 0 then (laws_FnSortOrder.j0 k bt406.2.2 t416 true bt406.1 bt406.2.1) else (laws_FnSortOrder.j0 k bt406.2.2 t416 (decide (bt406.2.2 ≥ (bt406.1.length : Int))) bt406.1 bt406.2.1)) else (laws_FnSortOrder.j0 k bt406.2.2 t416 true bt406.1 bt406.2.1)))))))))) = some r := h
 clear h
 replace H := Option.bind_eq_some_iff.mp H
 obtain ⟨t405, A20, H⟩ := H
 replace H : (if t405 = true then (some true) else ((spec_DrawAboveSort.f k l0).bind fun bt406 => ((impl_IsSorts.f k bt406.1 bt406.2.1).bind fun t414 => ((spec_IsSorts.f k bt406.1 bt406.2.1).bind fun t415 => (if (t414 != t415) = true then (some false) else ((impl_AboveSort.f k bt406.1 bt406.2.1 bt406.2.2).bind fun t416 => ((spec_IsSorts.f k bt406.1 bt406.2.1).bind fun t417 => (if t417 = true then (if bt406.2.2 < 0 then (laws_FnSortOrder.j0 k bt406.2.2 t416 true bt406.1 bt406.2.1) else (laws_FnSortOrder.j0 k bt406.2.2 t416 (decide (bt406.2.2 ≥ (bt406.1.length : Int))) bt406.1 bt406.2.1)) else (laws_FnSortOrder.j0 k bt406.2.2 t416 true bt406.1 bt406.2.1))))))))) = some r := H
 have A2 := Aside0.mk A20
 clear A20
 by_cases c3 : t405 = true
 ·subst c3
  have H1 : (some true) = some r := by rw [if_pos rfl] at H; exact H
  clear H
  have H := H1
  clear H1
  obtain rfl := Option.some.inj H
  go_enter Try.func4, Try.ntmps4
  go_wp2_with (first | ((with_reducible refine gate_callee (f := 17) rfl ?_); refine goesL_ (some 9) rfl rfl Try.func17 laws_FnSortOrder.a9 rfl #[.slice A0 l0.length c0] rfl laws_FnSortOrder.a1 ?_; (with_reducible refine (laws_big.calls _ _ l0 true _ ?side1 ?side2 A2.out).mono ?_); (case side1 => repeat (first | exact HR0.out | (with_reducible refine Kd.C_alloc ?_ _) | (with_reducible refine Kd.C_drewN ?_ _) | (with_reducible refine Kd.C_drew ?_))); (case side2 => exact HC0.out); rintro e w' ⟨rfl, ⟨nd, rfl⟩⟩; refine ⟨_, rfl, ?_⟩))
  go_ret
  exact ⟨laws_FnSortOrder.a10, laws_FnSortOrder.a5⟩
 ·replace c3 := Bool.eq_false_iff.mpr c3
  subst c3
  have H1 : ((spec_DrawAboveSort.f k l0).bind fun bt406 => ((impl_IsSorts.f k bt406.1 bt406.2.1).bind fun t414 => ((spec_IsSorts.f k bt406.1 bt406.2.1).bind fun t415 => (if (t414 != t415) = true then (some false) else ((impl_AboveSort.f k bt406.1 bt406.2.1 bt406.2.2).bind fun t416 => ((spec_IsSorts.f k bt406.1 bt406.2.1).bind fun t417 => (if t417 = true then (if bt406.2.2 < 0 then (laws_FnSortOrder.j0 k bt406.2.2 t416 true bt406.1 bt406.2.1) else (laws_FnSortOrder.j0 k bt406.2.2 t416 (decide (bt406.2.2 ≥ (bt406.1.length : Int))) bt406.1 bt406.2.1)) else (laws_FnSortOrder.j0 k bt406.2.2 t416 true bt406.1 bt406.2.1)))))))) = some r := by rw [if_neg (show ¬ (false = true) by decide)] at H; exact H
  clear H
  have H := H1
  clear H1
  replace H := Option.bind_eq_some_iff.mp H
  obtain ⟨⟨t406, t409, t412⟩, A40, H⟩ := H
  replace H : ((impl_IsSorts.f k t406 t409).bind fun t414 => ((spec_IsSorts.f k t406 t409).bind fun t415 => (if (t414 != t415) = true then (some false) else ((impl_AboveSort.f k t406 t409 t412).bind fun t416 => ((spec_IsSorts.f k t406 t409).bind fun t417 => (if t417 = true then (if t412 < 0 then (laws_FnSortOrder.j0 k t412 t416 true t406 t409) else (laws_FnSortOrder.j0 k t412 t416 (decide (t412 ≥ (t406.length : Int))) t406 t409)) else (laws_FnSortOrder.j0 k t412 t416 true t406 t409))))))) = some r := H
  have A4 := Aside0.mk A40
  clear A40
  replace H := Option.bind_eq_some_iff.mp H
  obtain ⟨t414, A50, H⟩ := H
  replace H : ((spec_IsSorts.f k t406 t409).bind fun t415 => (if (t414 != t415) = true then (some false) else ((impl_AboveSort.f k t406 t409 t412).bind fun t416 => ((spec_IsSorts.f k t406 t409).bind fun t417 => (if t417 = true then (if t412 < 0 then (laws_FnSortOrder.j0 k t412 t416 true t406 t409) else (laws_FnSortOrder.j0 k t412 t416 (decide (t412 ≥ (t406.length : Int))) t406 t409)) else (laws_FnSortOrder.j0 k t412 t416 true t406 t409)))))) = some r := H
  have A5 := Aside0.mk A50
  clear A50
  replace H := Option.bind_eq_some_iff.mp H
  obtain ⟨t415, A60, H⟩ := H
  replace H : (if (t414 != t415) = true then (some false) else ((impl_AboveSort.f k t406 t409 t412).bind fun t416 => ((spec_IsSorts.f k t406 t409).bind fun t417 => (if t417 = true then (if t412 < 0 then (laws_FnSortOrder.j0 k t412 t416 true t406 t409) else (laws_FnSortOrder.j0 k t412 t416 (decide (t412 ≥ (t406.length : Int))) t406 t409)) else (laws_FnSortOrder.j0 k t412 t416 true t406 t409))))) = some r := H
  have A6 := Aside0.mk A60
  clear A60
  by_cases c7 : (t414 != t415) = true
  ·rw [if_pos c7] at H
   have c7b0 : (t414 != t415) = true := c7
   (try (have c7b1 : decide (t414 = t415) = false := by simpa using c7))
   (try (have c7b2 : (t414 == t415) = false := by simpa using c7))
   (try (have c7b3 : ¬ (t414 = t415) := by simpa using c7))
   clear c7
   obtain rfl := Option.some.inj H
   go_enter Try.func4, Try.ntmps4
   try go_wp2_with (first | ((with_reducible refine gate_callee (f := 17) rfl ?_); refine goesL_ (some 9) rfl rfl Try.func17 laws_FnSortOrder.a9 rfl #[.slice A0 l0.length c0] rfl laws_FnSortOrder.a1 ?_; (with_reducible refine (laws_big.calls _ _ l0 false _ ?side1 ?side2 A2.out).mono ?_); (case side1 => repeat (first | exact HR0.out | (with_reducible refine Kd.C_alloc ?_ _) | (with_reducible refine Kd.C_drewN ?_ _) | (with_reducible refine Kd.C_drew ?_))); (case side2 => exact HC0.out); rintro e w' ⟨rfl, ⟨nd, rfl⟩⟩; refine ⟨_, rfl, ?_⟩) | ((with_reducible refine gate_callee (f := 18) rfl ?_); refine goesL_ (some 12) rfl rfl Try.func18 laws_FnSortOrder.a9 rfl #[.slice A0 l0.length c0] rfl laws_FnSortOrder.a1 ?_; (with_reducible refine (spec_DrawAboveSort.calls k _ _ l0 t406 t409 t412 _ ?side1 ?side2 A4.out).mono ?_); (case side1 => repeat (first | exact HR0.out | (with_reducible refine Kd.C_alloc ?_ _) | (with_reducible refine Kd.C_drewN ?_ _) | (with_reducible refine Kd.C_drew ?_))); (case side2 => exact HC0.out); rintro e w8 ⟨v407, v410, rfl, ho0, ho1, hb⟩; refine ⟨_, rfl, ?_⟩; have n0_ := Aside0.mk (Kd.R_lower ho0 (below_size laws_FnSortOrder.a5)); have n1_ := Aside0.mk (Kd.R_lower ho1 (below_size laws_FnSortOrder.a5)); have n2_ := Aside0.mk (below_step laws_FnSortOrder.a5 hb); clear HB; have HO408 := n0_; have HO411 := n1_; have HB := n2_; clear n0_ n1_ n2_; (try clear hb); (try clear hb2); (try clear hk); (try clear hi); (try clear ho0); (try clear ho1)) | ((with_reducible refine gate_dst (N := 3) rfl ?_); (try (refine gate_guard (by rfl) ?_; dsimp only)); refine box_event ?hg (N := 3) ?hd (cs := #[.slice none 0 0, .slice none 0 0]) (t := 30) ?hr ?_; (case hd => rfl); (case hg => rfl); (case hr => first | (go_simp; done) | (go_simp; rfl)); intro gb413 hg w9 hbox hb; have n0_ := Aside0.mk (Kd.R_below laws_FnSortOrder.a6 hb); have n1_ := Aside0.mk (Kd.R_below laws_FnSortOrder.a7 hb); have n2_ := Aside0.mk (below_step laws_FnSortOrder.a5 hb); have n3_ := Aside0.mk (hbox); have n4_ := Aside0.mk ((by rw [hg]; exact (below_size laws_FnSortOrder.a5) : w.heap.size ≤ gb413)); have n5_ := Aside0.mk ((by rw [hg]; exact (below_size laws_FnSortOrder.a5) : w.heap.size ≤ gb413)); clear HO408; clear HO411; clear HB; have HO408 := n0_; have HO411 := n1_; have HB := n2_; have BK413 := n3_; have GW413 := n4_; have GE413 := n5_; clear n0_ n1_ n2_ n3_ n4_ n5_; clear hb hbox hg; obtain ⟨Ao10, co10, eo10⟩ := Kd.R_slice HO408.out; subst eo10; have hcz11_0 : w9.cell? ⟨gb413, 0, none⟩ = some (.slice none 0 0) := (blk_cell BK413.out 0).trans rfl; have hcz11_1 : w9.cell? ⟨gb413, 1, none⟩ = some (.slice none 0 0) := (blk_cell BK413.out 1).trans rfl; have hfz11_0 := blk_frozen BK413.out 0; have hfz11_1 := blk_frozen BK413.out 1; obtain ⟨Ao12, co12, eo12⟩ := Kd.R_slice HO411.out; subst eo12))
   have n0_ : Aside0 (Kd.R Kd.string 9 ((w9.setCell ⟨gb413, 0, none⟩ (.slice Ao10 t406.length co10)).setCell ⟨gb413, 1, none⟩ (.slice Ao12 t409.length co12)) w.heap.size (fun _ => True) (.slice Ao10 t406.length co10) t406) := ⟨by (with_reducible repeat (first | apply Kd.R_alloc | apply Kd.R_drewN | apply Kd.R_drew)); exact Kd.R_mono (Kd.R_far (p := ⟨gb413, 1, none⟩) (Kd.R_far (p := ⟨gb413, 0, none⟩) (Kd.R_types HO408.out BK413.out (by decide)) (fun _ hk => hk.2) (.slice Ao10 t406.length co10)) (fun _ hk => hk.2) (.slice Ao12 t409.length co12)) (fun _ hk => trivial)⟩
   have n1_ : Aside0 (Kd.R k52 52 ((w9.setCell ⟨gb413, 0, none⟩ (.slice Ao10 t406.length co10)).setCell ⟨gb413, 1, none⟩ (.slice Ao12 t409.length co12)) w.heap.size (fun _ => True) (.slice Ao12 t409.length co12) t409) := ⟨by (with_reducible repeat (first | apply Kd.R_alloc | apply Kd.R_drewN | apply Kd.R_drew)); exact Kd.R_mono (Kd.R_far (p := ⟨gb413, 1, none⟩) (Kd.R_far (p := ⟨gb413, 0, none⟩) (Kd.R_types HO411.out BK413.out (by decide)) (fun _ hk => hk.2) (.slice Ao10 t406.length co10)) (fun _ hk => hk.2) (.slice Ao12 t409.length co12)) (fun _ hk => trivial)⟩
   have n2_ : Aside0 (((w9.setCell ⟨gb413, 0, none⟩ (.slice Ao10 t406.length co10)).setCell ⟨gb413, 1, none⟩ (.slice Ao12 t409.length co12)).heap[gb413]? = some (.cells #[.slice Ao10 t406.length co10, .slice Ao12 t409.length co12] 30 (0, 0))) := ⟨by (with_reducible repeat (first | refine blk_drewN ?_ _ | refine blk_drew ?_ | refine blk_alloc ?_ _)); refine blk_put (cs := #[.slice Ao10 t406.length co10, .slice none 0 0]) ?_ 1 _ rfl; (with_reducible repeat (first | refine blk_drewN ?_ _ | refine blk_drew ?_ | refine blk_alloc ?_ _)); refine blk_put (cs := #[.slice none 0 0, .slice none 0 0]) ?_ 0 _ rfl; (with_reducible repeat (first | refine blk_drewN ?_ _ | refine blk_drew ?_ | refine blk_alloc ?_ _)); exact BK413.out⟩
   have n3_ : Aside0 (Below w.heap.size w ((w9.setCell ⟨gb413, 0, none⟩ (.slice Ao10 t406.length co10)).setCell ⟨gb413, 1, none⟩ (.slice Ao12 t409.length co12))) := ⟨laws_FnSortOrder.a0⟩
   (try clear HO408)
   (try clear HO411)
   (try clear BK413)
   (try clear HB)
   generalize ((w9.setCell ⟨gb413, 0, none⟩ (.slice Ao10 t406.length co10)).setCell ⟨gb413, 1, none⟩ (.slice Ao12 t409.length co12)) = w13 at n0_ n1_ n2_ n3_ ⊢
   have HO408 := n0_
   have HO411 := n1_
   have BK413 := n2_
   have HB := n3_
   clear n0_ n1_ n2_ n3_
   have n0_ := Aside0.mk (Kd.R_drew HO408.out)
   have n1_ := Aside0.mk (Kd.R_drew HO411.out)
   have n2_ := Aside0.mk (blk_drew BK413.out)
   have n3_ := Aside0.mk (below_drew1 HB.out)
   clear HO408
   clear HO411
   clear BK413
   clear HB
   have HO408 := n0_
   have HO411 := n1_
   have BK413 := n2_
   have HB := n3_
   clear n0_ n1_ n2_ n3_
   refine start_ (n := 5) (S := fun w' => w'.cell? ⟨gb413, 0, none⟩ = some (.slice Ao10 t406.length co10) ∧ w'.cell? ⟨gb413, 1, none⟩ = some (.slice Ao12 t409.length co12)) (ds := []) #[false, false, false, false, false] laws_FnSortOrder.a9 rfl rfl ⟨(blk_cell BK413.out 0).trans rfl, (blk_cell BK413.out 1).trans rfl⟩ (fun hHeld => ?_)
   generalize w13.drew = w14 at HO408 HO411 BK413 HB hHeld ⊢
   refine take_ (i := 0) (N := some 15) (v := ?_) (a' := ?_) #[true, false, false, false, false] rfl rfl laws_FnSortOrder.a9 (fun _ _ _ h => h) (Or.inl ⟨by rfl, ?_⟩) hHeld ?_ ?_
   rotate_left
   ·rintro w' ⟨s0, s1⟩
    go_simp
    with_reducible rfl
   rotate_left
   ·simp only [Act.put, List.setIfInBounds_toArray, List.set_cons_zero, List.set_cons_succ, i64_w, i32_w]
    rfl
   refine take_ (i := 2) (N := some 17) (v := ?_) (a' := ?_) #[true, false, true, false, false] rfl rfl laws_FnSortOrder.a9 (fun _ _ _ h => h) (Or.inl ⟨by rfl, ?_⟩) hHeld ?_ ?_
   rotate_left
   ·rintro w' ⟨s0, s1⟩
    go_simp
    with_reducible rfl
   rotate_left
   ·simp only [Act.put, List.setIfInBounds_toArray, List.set_cons_zero, List.set_cons_succ, i64_w, i32_w]
    rfl
   refine one_ (i := 1) (N := some 16) #[true, true, true, false, false] rfl rfl laws_FnSortOrder.a9 (by decide) (fun K hK => ?_)
   refine goes_ Try.func15 laws_FnSortOrder.a9 rfl #[.agg #[.slice Ao10 t406.length co10, .slice Ao12 t409.length co12]] (by rfl) rfl rfl laws_FnSortOrder.a1 ?_
   with_reducible refine (impl_IsSorts.calls k _ _ t406 _ _ t409 t414 _ ?side1 ?side2 ?side3 ?side4 A5.out).mono ?_
   (case side1 => repeat (first | exact (Kd.R_reads' HO408.out).2.2 | (with_reducible refine Kd.C_alloc ?_ _) | (with_reducible refine Kd.C_drewN ?_ _) | (with_reducible refine Kd.C_drew ?_)))
   (case side2 => exact (Kd.R_reads' HO408.out).2.1)
   (case side3 => repeat (first | exact (Kd.R_reads' HO411.out).2.2 | (with_reducible refine Kd.C_alloc ?_ _) | (with_reducible refine Kd.C_drewN ?_ _) | (with_reducible refine Kd.C_drew ?_)))
   (case side4 => exact (Kd.R_reads' HO411.out).2.1)
   rintro e w15 ⟨rfl, hb⟩
   refine ⟨_, rfl, ?_⟩
   have n0_ := Aside0.mk (Kd.R_below laws_FnSortOrder.a6 hb)
   have n1_ := Aside0.mk (Kd.R_below laws_FnSortOrder.a7 hb)
   have n2_ := Aside0.mk (blk_below (g := gb413) (o := .cells #[.slice Ao10 t406.length co10, .slice Ao12 t409.length co12] 30 (0, 0)) laws_FnSortOrder.a2 hb)
   have n3_ := Aside0.mk (below_step laws_FnSortOrder.a0 hb)
   clear HO408
   clear HO411
   clear BK413
   clear HB
   have HO408 := n0_
   have HO411 := n1_
   have BK413 := n2_
   have HB := n3_
   clear n0_ n1_ n2_ n3_
   (try clear hb)
   (try clear hb2)
   (try clear hk)
   (try clear hi)
   refine hK.out _ _ ⟨(blk_cell BK413.out 0).trans rfl, (blk_cell BK413.out 1).trans rfl⟩ (fun hHeld => ?_)
   clear hK K
   refine norm_ (a' := ?_) ?_ ?_
   rotate_left
   ·show Act.put _ (some 16) _ = _
    simp only [Act.put, List.setIfInBounds_toArray, List.set_cons_zero, List.set_cons_succ, i64_w, i32_w]
    rfl
   refine one_ (i := 3) (N := some 18) #[true, true, true, true, false] rfl rfl laws_FnSortOrder.a9 (by decide) (fun K hK => ?_)
   refine goes_ Try.func13 laws_FnSortOrder.a9 rfl #[.agg #[.slice Ao10 t406.length co10, .slice Ao12 t409.length co12]] (by rfl) rfl rfl laws_FnSortOrder.a1 ?_
   with_reducible refine (spec_IsSorts.calls k _ _ t406 _ _ t409 t415 _ ?side1 ?side2 ?side3 ?side4 A6.out).mono ?_
   (case side1 => repeat (first | exact (Kd.R_reads' HO408.out).2.2 | (with_reducible refine Kd.C_alloc ?_ _) | (with_reducible refine Kd.C_drewN ?_ _) | (with_reducible refine Kd.C_drew ?_)))
   (case side2 => exact (Kd.R_reads' HO408.out).2.1)
   (case side3 => repeat (first | exact (Kd.R_reads' HO411.out).2.2 | (with_reducible refine Kd.C_alloc ?_ _) | (with_reducible refine Kd.C_drewN ?_ _) | (with_reducible refine Kd.C_drew ?_)))
   (case side4 => exact (Kd.R_reads' HO411.out).2.1)
   rintro e w16 ⟨rfl, hb⟩
   refine ⟨_, rfl, ?_⟩
   have n0_ := Aside0.mk (Kd.R_below laws_FnSortOrder.a6 hb)
   have n1_ := Aside0.mk (Kd.R_below laws_FnSortOrder.a7 hb)
   have n2_ := Aside0.mk (blk_below (g := gb413) (o := .cells #[.slice Ao10 t406.length co10, .slice Ao12 t409.length co12] 30 (0, 0)) laws_FnSortOrder.a2 hb)
   have n3_ := Aside0.mk (below_step laws_FnSortOrder.a0 hb)
   clear HO408
   clear HO411
   clear BK413
   clear HB
   have HO408 := n0_
   have HO411 := n1_
   have BK413 := n2_
   have HB := n3_
   clear n0_ n1_ n2_ n3_
   (try clear hb)
   (try clear hb2)
   (try clear hk)
   (try clear hi)
   refine hK.out _ _ ⟨(blk_cell BK413.out 0).trans rfl, (blk_cell BK413.out 1).trans rfl⟩ (fun hHeld => ?_)
   clear hK K
   refine norm_ (a' := ?_) ?_ ?_
   rotate_left
   ·show Act.put _ (some 18) _ = _
    simp only [Act.put, List.setIfInBounds_toArray, List.set_cons_zero, List.set_cons_succ, i64_w, i32_w]
    rfl
   refine pure_ (i := 4) (N := some 19) (v := ?_) (a' := ?_) #[true, true, true, true, true] rfl rfl laws_FnSortOrder.a9 (fun _ _ _ h => h) (Or.inl ⟨by rfl, ?_⟩) ?_ ?_
   rotate_left
   ·intro w'
    go_simp
    with_reducible rfl
   rotate_left
   ·simp only [Act.put, List.setIfInBounds_toArray, List.set_cons_zero, List.set_cons_succ, i64_w, i32_w]
    rfl
   refine done_ laws_FnSortOrder.a9 ?_
   try go_wp2
   go_ret
   exact ⟨laws_FnSortOrder.a10, laws_FnSortOrder.a0⟩
  ·rw [if_neg c7] at H
   have c7b0 : (t414 != t415) = false := by simpa using c7
   (try (have c7b1 : decide (t414 = t415) = true := by simpa using c7))
   (try (have c7b2 : (t414 == t415) = true := by simpa using c7))
   clear c7
   replace H := Option.bind_eq_some_iff.mp H
   obtain ⟨t416, A170, H⟩ := H
   replace H : ((spec_IsSorts.f k t406 t409).bind fun t417 => (if t417 = true then (if t412 < 0 then (laws_FnSortOrder.j0 k t412 t416 true t406 t409) else (laws_FnSortOrder.j0 k t412 t416 (decide (t412 ≥ (t406.length : Int))) t406 t409)) else (laws_FnSortOrder.j0 k t412 t416 true t406 t409))) = some r := H
   have A17 := Aside0.mk A170
   clear A170
   have HC18 := Aside0.mk H
   clear H
   go_enter Try.func4, Try.ntmps4
   try go_wp2_with (first | ((with_reducible refine gate_callee (f := 17) rfl ?_); refine goesL_ (some 9) rfl rfl Try.func17 laws_FnSortOrder.a9 rfl #[.slice A0 l0.length c0] rfl laws_FnSortOrder.a1 ?_; (with_reducible refine (laws_big.calls _ _ l0 false _ ?side1 ?side2 A2.out).mono ?_); (case side1 => repeat (first | exact HR0.out | (with_reducible refine Kd.C_alloc ?_ _) | (with_reducible refine Kd.C_drewN ?_ _) | (with_reducible refine Kd.C_drew ?_))); (case side2 => exact HC0.out); rintro e w' ⟨rfl, ⟨nd, rfl⟩⟩; refine ⟨_, rfl, ?_⟩) | ((with_reducible refine gate_callee (f := 18) rfl ?_); refine goesL_ (some 12) rfl rfl Try.func18 laws_FnSortOrder.a9 rfl #[.slice A0 l0.length c0] rfl laws_FnSortOrder.a1 ?_; (with_reducible refine (spec_DrawAboveSort.calls k _ _ l0 t406 t409 t412 _ ?side1 ?side2 A4.out).mono ?_); (case side1 => repeat (first | exact HR0.out | (with_reducible refine Kd.C_alloc ?_ _) | (with_reducible refine Kd.C_drewN ?_ _) | (with_reducible refine Kd.C_drew ?_))); (case side2 => exact HC0.out); rintro e w19 ⟨v407, v410, rfl, ho0, ho1, hb⟩; refine ⟨_, rfl, ?_⟩; have n0_ := Aside0.mk (Kd.R_lower ho0 (below_size laws_FnSortOrder.a5)); have n1_ := Aside0.mk (Kd.R_lower ho1 (below_size laws_FnSortOrder.a5)); have n2_ := Aside0.mk (below_step laws_FnSortOrder.a5 hb); clear HB; have HO408 := n0_; have HO411 := n1_; have HB := n2_; clear n0_ n1_ n2_; (try clear hb); (try clear hb2); (try clear hk); (try clear hi); (try clear ho0); (try clear ho1)) | ((with_reducible refine gate_dst (N := 3) rfl ?_); (try (refine gate_guard (by rfl) ?_; dsimp only)); refine box_event ?hg (N := 3) ?hd (cs := #[.slice none 0 0, .slice none 0 0]) (t := 30) ?hr ?_; (case hd => rfl); (case hg => rfl); (case hr => first | (go_simp; done) | (go_simp; rfl)); intro gb413 hg w20 hbox hb; have n0_ := Aside0.mk (Kd.R_below laws_FnSortOrder.a6 hb); have n1_ := Aside0.mk (Kd.R_below laws_FnSortOrder.a7 hb); have n2_ := Aside0.mk (below_step laws_FnSortOrder.a5 hb); have n3_ := Aside0.mk (hbox); have n4_ := Aside0.mk ((by rw [hg]; exact (below_size laws_FnSortOrder.a5) : w.heap.size ≤ gb413)); have n5_ := Aside0.mk ((by rw [hg]; exact (below_size laws_FnSortOrder.a5) : w.heap.size ≤ gb413)); clear HO408; clear HO411; clear HB; have HO408 := n0_; have HO411 := n1_; have HB := n2_; have BK413 := n3_; have GW413 := n4_; have GE413 := n5_; clear n0_ n1_ n2_ n3_ n4_ n5_; clear hb hbox hg; obtain ⟨Ao21, co21, eo21⟩ := Kd.R_slice HO408.out; subst eo21; have hcz22_0 : w20.cell? ⟨gb413, 0, none⟩ = some (.slice none 0 0) := (blk_cell BK413.out 0).trans rfl; have hcz22_1 : w20.cell? ⟨gb413, 1, none⟩ = some (.slice none 0 0) := (blk_cell BK413.out 1).trans rfl; have hfz22_0 := blk_frozen BK413.out 0; have hfz22_1 := blk_frozen BK413.out 1; obtain ⟨Ao23, co23, eo23⟩ := Kd.R_slice HO411.out; subst eo23))
   have n0_ : Aside0 (Kd.R Kd.string 9 ((w20.setCell ⟨gb413, 0, none⟩ (.slice Ao21 t406.length co21)).setCell ⟨gb413, 1, none⟩ (.slice Ao23 t409.length co23)) w.heap.size (fun _ => True) (.slice Ao21 t406.length co21) t406) := ⟨by (with_reducible repeat (first | apply Kd.R_alloc | apply Kd.R_drewN | apply Kd.R_drew)); exact Kd.R_mono (Kd.R_far (p := ⟨gb413, 1, none⟩) (Kd.R_far (p := ⟨gb413, 0, none⟩) (Kd.R_types HO408.out BK413.out (by decide)) (fun _ hk => hk.2) (.slice Ao21 t406.length co21)) (fun _ hk => hk.2) (.slice Ao23 t409.length co23)) (fun _ hk => trivial)⟩
   have n1_ : Aside0 (Kd.R k52 52 ((w20.setCell ⟨gb413, 0, none⟩ (.slice Ao21 t406.length co21)).setCell ⟨gb413, 1, none⟩ (.slice Ao23 t409.length co23)) w.heap.size (fun _ => True) (.slice Ao23 t409.length co23) t409) := ⟨by (with_reducible repeat (first | apply Kd.R_alloc | apply Kd.R_drewN | apply Kd.R_drew)); exact Kd.R_mono (Kd.R_far (p := ⟨gb413, 1, none⟩) (Kd.R_far (p := ⟨gb413, 0, none⟩) (Kd.R_types HO411.out BK413.out (by decide)) (fun _ hk => hk.2) (.slice Ao21 t406.length co21)) (fun _ hk => hk.2) (.slice Ao23 t409.length co23)) (fun _ hk => trivial)⟩
   have n2_ : Aside0 (((w20.setCell ⟨gb413, 0, none⟩ (.slice Ao21 t406.length co21)).setCell ⟨gb413, 1, none⟩ (.slice Ao23 t409.length co23)).heap[gb413]? = some (.cells #[.slice Ao21 t406.length co21, .slice Ao23 t409.length co23] 30 (0, 0))) := ⟨by (with_reducible repeat (first | refine blk_drewN ?_ _ | refine blk_drew ?_ | refine blk_alloc ?_ _)); refine blk_put (cs := #[.slice Ao21 t406.length co21, .slice none 0 0]) ?_ 1 _ rfl; (with_reducible repeat (first | refine blk_drewN ?_ _ | refine blk_drew ?_ | refine blk_alloc ?_ _)); refine blk_put (cs := #[.slice none 0 0, .slice none 0 0]) ?_ 0 _ rfl; (with_reducible repeat (first | refine blk_drewN ?_ _ | refine blk_drew ?_ | refine blk_alloc ?_ _)); exact BK413.out⟩
   have n3_ : Aside0 (Below w.heap.size w ((w20.setCell ⟨gb413, 0, none⟩ (.slice Ao21 t406.length co21)).setCell ⟨gb413, 1, none⟩ (.slice Ao23 t409.length co23))) := ⟨laws_FnSortOrder.a0⟩
   (try clear HO408)
   (try clear HO411)
   (try clear BK413)
   (try clear HB)
   generalize ((w20.setCell ⟨gb413, 0, none⟩ (.slice Ao21 t406.length co21)).setCell ⟨gb413, 1, none⟩ (.slice Ao23 t409.length co23)) = w24 at n0_ n1_ n2_ n3_ ⊢
   have HO408 := n0_
   have HO411 := n1_
   have BK413 := n2_
   have HB := n3_
   clear n0_ n1_ n2_ n3_
   have n0_ := Aside0.mk (Kd.R_drew HO408.out)
   have n1_ := Aside0.mk (Kd.R_drew HO411.out)
   have n2_ := Aside0.mk (blk_drew BK413.out)
   have n3_ := Aside0.mk (below_drew1 HB.out)
   clear HO408
   clear HO411
   clear BK413
   clear HB
   have HO408 := n0_
   have HO411 := n1_
   have BK413 := n2_
   have HB := n3_
   clear n0_ n1_ n2_ n3_
   refine start_ (n := 5) (S := fun w' => w'.cell? ⟨gb413, 0, none⟩ = some (.slice Ao21 t406.length co21) ∧ w'.cell? ⟨gb413, 1, none⟩ = some (.slice Ao23 t409.length co23)) (ds := []) #[false, false, false, false, false] laws_FnSortOrder.a9 rfl rfl ⟨(blk_cell BK413.out 0).trans rfl, (blk_cell BK413.out 1).trans rfl⟩ (fun hHeld => ?_)
   generalize w24.drew = w25 at HO408 HO411 BK413 HB hHeld ⊢
   refine take_ (i := 0) (N := some 15) (v := ?_) (a' := ?_) #[true, false, false, false, false] rfl rfl laws_FnSortOrder.a9 (fun _ _ _ h => h) (Or.inl ⟨by rfl, ?_⟩) hHeld ?_ ?_
   rotate_left
   ·rintro w' ⟨s0, s1⟩
    go_simp
    with_reducible rfl
   rotate_left
   ·simp only [Act.put, List.setIfInBounds_toArray, List.set_cons_zero, List.set_cons_succ, i64_w, i32_w]
    rfl
   refine take_ (i := 2) (N := some 17) (v := ?_) (a' := ?_) #[true, false, true, false, false] rfl rfl laws_FnSortOrder.a9 (fun _ _ _ h => h) (Or.inl ⟨by rfl, ?_⟩) hHeld ?_ ?_
   rotate_left
   ·rintro w' ⟨s0, s1⟩
    go_simp
    with_reducible rfl
   rotate_left
   ·simp only [Act.put, List.setIfInBounds_toArray, List.set_cons_zero, List.set_cons_succ, i64_w, i32_w]
    rfl
   refine one_ (i := 1) (N := some 16) #[true, true, true, false, false] rfl rfl laws_FnSortOrder.a9 (by decide) (fun K hK => ?_)
   refine goes_ Try.func15 laws_FnSortOrder.a9 rfl #[.agg #[.slice Ao21 t406.length co21, .slice Ao23 t409.length co23]] (by rfl) rfl rfl laws_FnSortOrder.a1 ?_
   with_reducible refine (impl_IsSorts.calls k _ _ t406 _ _ t409 t414 _ ?side1 ?side2 ?side3 ?side4 A5.out).mono ?_
   (case side1 => repeat (first | exact (Kd.R_reads' HO408.out).2.2 | (with_reducible refine Kd.C_alloc ?_ _) | (with_reducible refine Kd.C_drewN ?_ _) | (with_reducible refine Kd.C_drew ?_)))
   (case side2 => exact (Kd.R_reads' HO408.out).2.1)
   (case side3 => repeat (first | exact (Kd.R_reads' HO411.out).2.2 | (with_reducible refine Kd.C_alloc ?_ _) | (with_reducible refine Kd.C_drewN ?_ _) | (with_reducible refine Kd.C_drew ?_)))
   (case side4 => exact (Kd.R_reads' HO411.out).2.1)
   rintro e w26 ⟨rfl, hb⟩
   refine ⟨_, rfl, ?_⟩
   have n0_ := Aside0.mk (Kd.R_below laws_FnSortOrder.a6 hb)
   have n1_ := Aside0.mk (Kd.R_below laws_FnSortOrder.a7 hb)
   have n2_ := Aside0.mk (blk_below (g := gb413) (o := .cells #[.slice Ao21 t406.length co21, .slice Ao23 t409.length co23] 30 (0, 0)) laws_FnSortOrder.a2 hb)
   have n3_ := Aside0.mk (below_step laws_FnSortOrder.a0 hb)
   clear HO408
   clear HO411
   clear BK413
   clear HB
   have HO408 := n0_
   have HO411 := n1_
   have BK413 := n2_
   have HB := n3_
   clear n0_ n1_ n2_ n3_
   (try clear hb)
   (try clear hb2)
   (try clear hk)
   (try clear hi)
   refine hK.out _ _ ⟨(blk_cell BK413.out 0).trans rfl, (blk_cell BK413.out 1).trans rfl⟩ (fun hHeld => ?_)
   clear hK K
   refine norm_ (a' := ?_) ?_ ?_
   rotate_left
   ·show Act.put _ (some 16) _ = _
    simp only [Act.put, List.setIfInBounds_toArray, List.set_cons_zero, List.set_cons_succ, i64_w, i32_w]
    rfl
   refine one_ (i := 3) (N := some 18) #[true, true, true, true, false] rfl rfl laws_FnSortOrder.a9 (by decide) (fun K hK => ?_)
   refine goes_ Try.func13 laws_FnSortOrder.a9 rfl #[.agg #[.slice Ao21 t406.length co21, .slice Ao23 t409.length co23]] (by rfl) rfl rfl laws_FnSortOrder.a1 ?_
   with_reducible refine (spec_IsSorts.calls k _ _ t406 _ _ t409 t415 _ ?side1 ?side2 ?side3 ?side4 A6.out).mono ?_
   (case side1 => repeat (first | exact (Kd.R_reads' HO408.out).2.2 | (with_reducible refine Kd.C_alloc ?_ _) | (with_reducible refine Kd.C_drewN ?_ _) | (with_reducible refine Kd.C_drew ?_)))
   (case side2 => exact (Kd.R_reads' HO408.out).2.1)
   (case side3 => repeat (first | exact (Kd.R_reads' HO411.out).2.2 | (with_reducible refine Kd.C_alloc ?_ _) | (with_reducible refine Kd.C_drewN ?_ _) | (with_reducible refine Kd.C_drew ?_)))
   (case side4 => exact (Kd.R_reads' HO411.out).2.1)
   rintro e w27 ⟨rfl, hb⟩
   refine ⟨_, rfl, ?_⟩
   have n0_ := Aside0.mk (Kd.R_below laws_FnSortOrder.a6 hb)
   have n1_ := Aside0.mk (Kd.R_below laws_FnSortOrder.a7 hb)
   have n2_ := Aside0.mk (blk_below (g := gb413) (o := .cells #[.slice Ao21 t406.length co21, .slice Ao23 t409.length co23] 30 (0, 0)) laws_FnSortOrder.a2 hb)
   have n3_ := Aside0.mk (below_step laws_FnSortOrder.a0 hb)
   clear HO408
   clear HO411
   clear BK413
   clear HB
   have HO408 := n0_
   have HO411 := n1_
   have BK413 := n2_
   have HB := n3_
   clear n0_ n1_ n2_ n3_
   (try clear hb)
   (try clear hb2)
   (try clear hk)
   (try clear hi)
   refine hK.out _ _ ⟨(blk_cell BK413.out 0).trans rfl, (blk_cell BK413.out 1).trans rfl⟩ (fun hHeld => ?_)
   clear hK K
   refine norm_ (a' := ?_) ?_ ?_
   rotate_left
   ·show Act.put _ (some 18) _ = _
    simp only [Act.put, List.setIfInBounds_toArray, List.set_cons_zero, List.set_cons_succ, i64_w, i32_w]
    rfl
   refine pure_ (i := 4) (N := some 19) (v := ?_) (a' := ?_) #[true, true, true, true, true] rfl rfl laws_FnSortOrder.a9 (fun _ _ _ h => h) (Or.inl ⟨by rfl, ?_⟩) ?_ ?_
   rotate_left
   ·intro w'
    go_simp
    with_reducible rfl
   rotate_left
   ·simp only [Act.put, List.setIfInBounds_toArray, List.set_cons_zero, List.set_cons_succ, i64_w, i32_w]
    rfl
   refine done_ laws_FnSortOrder.a9 ?_
   have hcz28_0 : w27.cell? ⟨gb413, 0, none⟩ = some (.slice Ao21 t406.length co21) := (blk_cell BK413.out 0).trans rfl
   have hcz28_1 : w27.cell? ⟨gb413, 1, none⟩ = some (.slice Ao23 t409.length co23) := (blk_cell BK413.out 1).trans rfl
   have hfz28_0 := blk_frozen BK413.out 0
   have hfz28_1 := blk_frozen BK413.out 1
   go_upto_region 7 with (first | ((with_reducible refine gate_callee (f := 19) rfl ?_); refine goesL_ (some 22) rfl rfl Try.func19 laws_FnSortOrder.a9 rfl #[.agg #[.slice Ao21 t406.length co21, .slice Ao23 t409.length co23], .int .i64 t412] rfl laws_FnSortOrder.a1 ?_; (with_reducible refine (impl_AboveSort.calls k _ _ t406 _ _ t409 t412 t416 _ ?side1 ?side2 ?side3 ?side4 A17.out).mono ?_); (case side1 => repeat (first | exact (Kd.R_reads' HO408.out).2.2 | (with_reducible refine Kd.C_alloc ?_ _) | (with_reducible refine Kd.C_drewN ?_ _) | (with_reducible refine Kd.C_drew ?_))); (case side2 => exact (Kd.R_reads' HO408.out).2.1); (case side3 => repeat (first | exact (Kd.R_reads' HO411.out).2.2 | (with_reducible refine Kd.C_alloc ?_ _) | (with_reducible refine Kd.C_drewN ?_ _) | (with_reducible refine Kd.C_drew ?_))); (case side4 => exact (Kd.R_reads' HO411.out).2.1); rintro e w29 ⟨rfl, hb⟩; refine ⟨_, rfl, ?_⟩; have n0_ := Aside0.mk (Kd.R_below laws_FnSortOrder.a6 hb); have n1_ := Aside0.mk (Kd.R_below laws_FnSortOrder.a7 hb); have n2_ := Aside0.mk (blk_below (g := gb413) (o := .cells #[.slice Ao21 t406.length co21, .slice Ao23 t409.length co23] 30 (0, 0)) laws_FnSortOrder.a2 hb); have n3_ := Aside0.mk (below_step laws_FnSortOrder.a0 hb); clear HO408; clear HO411; clear BK413; clear HB; have HO408 := n0_; have HO411 := n1_; have BK413 := n2_; have HB := n3_; clear n0_ n1_ n2_ n3_; (try clear hb); (try clear hb2); (try clear hk); (try clear hi)))
   (try simp only [Act.put, List.setIfInBounds_toArray, List.set_cons_zero, List.set_cons_succ])
   go_cut [36] (fun v36 wc => ∃ (kq : Nat) (x36_17 : Bool), v36 = .bool x36_17 ∧ Aside0 (laws_FnSortOrder.j0 kq t412 t416 x36_17 t406 t409 = some r) ∧ Aside0 (kq ≤ k) ∧ Aside0 (Kd.R Kd.string 9 wc w.heap.size (fun _ => True) (.slice Ao21 t406.length co21) t406) ∧ Aside0 (Kd.R k52 52 wc w.heap.size (fun _ => True) (.slice Ao23 t409.length co23) t409) ∧ Aside0 (wc.heap[gb413]? = some (.cells #[(.slice Ao21 t406.length co21), (.slice Ao23 t409.length co23)] 30 (0, 0))) ∧ Aside0 (Below w.heap.size w wc))
   case first =>
    have H := HC18.out
    clear HC18
    replace H := Option.bind_eq_some_iff.mp H
    obtain ⟨t417, A300, H⟩ := H
    replace H : (if t417 = true then (if t412 < 0 then (laws_FnSortOrder.j0 k t412 t416 true t406 t409) else (laws_FnSortOrder.j0 k t412 t416 (decide (t412 ≥ (t406.length : Int))) t406 t409)) else (laws_FnSortOrder.j0 k t412 t416 true t406 t409)) = some r := H
    have A30 := Aside0.mk A300
    clear A300
    by_cases c31 : t417 = true
    ·subst c31
     have H1 : (if t412 < 0 then (laws_FnSortOrder.j0 k t412 t416 true t406 t409) else (laws_FnSortOrder.j0 k t412 t416 (decide (t412 ≥ (t406.length : Int))) t406 t409)) = some r := by rw [if_pos rfl] at H; exact H
     clear H
     have H := H1
     clear H1
     by_cases c32 : t412 < 0
     ·rw [if_pos c32] at H
      have c32b0 : decide (t412 < 0) = true := decide_eq_true c32
      clear c32
      (first | rw [c32b0] | (simp only [i64_w, i32_w]; rw [c32b0]) | skip)
      have H' := Aside0.mk H
      clear H
      have hcz33_0 : w29.cell? ⟨gb413, 0, none⟩ = some (.slice Ao21 t406.length co21) := (blk_cell BK413.out 0).trans rfl
      have hcz33_1 : w29.cell? ⟨gb413, 1, none⟩ = some (.slice Ao23 t409.length co23) := (blk_cell BK413.out 1).trans rfl
      have hfz33_0 := blk_frozen BK413.out 0
      have hfz33_1 := blk_frozen BK413.out 1
      go_wp2_with (first | ((with_reducible refine gate_callee (f := 13) rfl ?_); refine goesL_ (some 24) rfl rfl Try.func13 laws_FnSortOrder.a9 rfl #[.agg #[.slice Ao21 t406.length co21, .slice Ao23 t409.length co23]] rfl laws_FnSortOrder.a1 ?_; (with_reducible refine (spec_IsSorts.calls k _ _ t406 _ _ t409 true _ ?side1 ?side2 ?side3 ?side4 A30.out).mono ?_); (case side1 => repeat (first | exact (Kd.R_reads' HO408.out).2.2 | (with_reducible refine Kd.C_alloc ?_ _) | (with_reducible refine Kd.C_drewN ?_ _) | (with_reducible refine Kd.C_drew ?_))); (case side2 => exact (Kd.R_reads' HO408.out).2.1); (case side3 => repeat (first | exact (Kd.R_reads' HO411.out).2.2 | (with_reducible refine Kd.C_alloc ?_ _) | (with_reducible refine Kd.C_drewN ?_ _) | (with_reducible refine Kd.C_drew ?_))); (case side4 => exact (Kd.R_reads' HO411.out).2.1); rintro e w34 ⟨rfl, hb⟩; refine ⟨_, rfl, ?_⟩; have n0_ := Aside0.mk (Kd.R_below laws_FnSortOrder.a6 hb); have n1_ := Aside0.mk (Kd.R_below laws_FnSortOrder.a7 hb); have n2_ := Aside0.mk (blk_below (g := gb413) (o := .cells #[.slice Ao21 t406.length co21, .slice Ao23 t409.length co23] 30 (0, 0)) laws_FnSortOrder.a2 hb); have n3_ := Aside0.mk (below_step laws_FnSortOrder.a0 hb); clear HO408; clear HO411; clear BK413; clear HB; have HO408 := n0_; have HO411 := n1_; have BK413 := n2_; have HB := n3_; clear n0_ n1_ n2_ n3_; (try clear hb); (try clear hb2); (try clear hk); (try clear hi)))
      go_meet
      case rel => exact ⟨_, (true), (by first | rfl | (simp; done) | (simp [*]; done)), H', ⟨by first | omega | exact Nat.le_refl _⟩, ⟨laws_FnSortOrder.a6⟩, ⟨laws_FnSortOrder.a7⟩, ⟨laws_FnSortOrder.a2⟩, ⟨laws_FnSortOrder.a0⟩⟩
     ·rw [if_neg c32] at H
      have c32b0 : decide (t412 < 0) = false := decide_eq_false c32
      clear c32
      (first | rw [c32b0] | (simp only [i64_w, i32_w]; rw [c32b0]) | skip)
      have H' := Aside0.mk H
      clear H
      have hcz35_0 : w29.cell? ⟨gb413, 0, none⟩ = some (.slice Ao21 t406.length co21) := (blk_cell BK413.out 0).trans rfl
      have hcz35_1 : w29.cell? ⟨gb413, 1, none⟩ = some (.slice Ao23 t409.length co23) := (blk_cell BK413.out 1).trans rfl
      have hfz35_0 := blk_frozen BK413.out 0
      have hfz35_1 := blk_frozen BK413.out 1
      go_wp2_with (first | ((with_reducible refine gate_callee (f := 13) rfl ?_); refine goesL_ (some 24) rfl rfl Try.func13 laws_FnSortOrder.a9 rfl #[.agg #[.slice Ao21 t406.length co21, .slice Ao23 t409.length co23]] rfl laws_FnSortOrder.a1 ?_; (with_reducible refine (spec_IsSorts.calls k _ _ t406 _ _ t409 true _ ?side1 ?side2 ?side3 ?side4 A30.out).mono ?_); (case side1 => repeat (first | exact (Kd.R_reads' HO408.out).2.2 | (with_reducible refine Kd.C_alloc ?_ _) | (with_reducible refine Kd.C_drewN ?_ _) | (with_reducible refine Kd.C_drew ?_))); (case side2 => exact (Kd.R_reads' HO408.out).2.1); (case side3 => repeat (first | exact (Kd.R_reads' HO411.out).2.2 | (with_reducible refine Kd.C_alloc ?_ _) | (with_reducible refine Kd.C_drewN ?_ _) | (with_reducible refine Kd.C_drew ?_))); (case side4 => exact (Kd.R_reads' HO411.out).2.1); rintro e w36 ⟨rfl, hb⟩; refine ⟨_, rfl, ?_⟩; have n0_ := Aside0.mk (Kd.R_below laws_FnSortOrder.a6 hb); have n1_ := Aside0.mk (Kd.R_below laws_FnSortOrder.a7 hb); have n2_ := Aside0.mk (blk_below (g := gb413) (o := .cells #[.slice Ao21 t406.length co21, .slice Ao23 t409.length co23] 30 (0, 0)) laws_FnSortOrder.a2 hb); have n3_ := Aside0.mk (below_step laws_FnSortOrder.a0 hb); clear HO408; clear HO411; clear BK413; clear HB; have HO408 := n0_; have HO411 := n1_; have BK413 := n2_; have HB := n3_; clear n0_ n1_ n2_ n3_; (try clear hb); (try clear hb2); (try clear hk); (try clear hi); have hcz37_0 : w36.cell? ⟨gb413, 0, none⟩ = some (.slice Ao21 t406.length co21) := (blk_cell BK413.out 0).trans rfl; have hcz37_1 : w36.cell? ⟨gb413, 1, none⟩ = some (.slice Ao23 t409.length co23) := (blk_cell BK413.out 1).trans rfl; have hfz37_0 := blk_frozen BK413.out 0; have hfz37_1 := blk_frozen BK413.out 1))
      go_meet
      case rel => exact ⟨_, (decide (t412 ≥ (t406.length : Int))), (by first | rfl | (simp; done) | (simp [*]; done)), H', ⟨by first | omega | exact Nat.le_refl _⟩, ⟨laws_FnSortOrder.a6⟩, ⟨laws_FnSortOrder.a7⟩, ⟨laws_FnSortOrder.a2⟩, ⟨laws_FnSortOrder.a0⟩⟩
    ·replace c31 := Bool.eq_false_iff.mpr c31
     subst c31
     have H1 : (laws_FnSortOrder.j0 k t412 t416 true t406 t409) = some r := by rw [if_neg (show ¬ (false = true) by decide)] at H; exact H
     clear H
     have H := H1
     clear H1
     have H' := Aside0.mk H
     clear H
     have hcz38_0 : w29.cell? ⟨gb413, 0, none⟩ = some (.slice Ao21 t406.length co21) := (blk_cell BK413.out 0).trans rfl
     have hcz38_1 : w29.cell? ⟨gb413, 1, none⟩ = some (.slice Ao23 t409.length co23) := (blk_cell BK413.out 1).trans rfl
     have hfz38_0 := blk_frozen BK413.out 0
     have hfz38_1 := blk_frozen BK413.out 1
     go_wp2_with (first | ((with_reducible refine gate_callee (f := 13) rfl ?_); refine goesL_ (some 24) rfl rfl Try.func13 laws_FnSortOrder.a9 rfl #[.agg #[.slice Ao21 t406.length co21, .slice Ao23 t409.length co23]] rfl laws_FnSortOrder.a1 ?_; (with_reducible refine (spec_IsSorts.calls k _ _ t406 _ _ t409 false _ ?side1 ?side2 ?side3 ?side4 A30.out).mono ?_); (case side1 => repeat (first | exact (Kd.R_reads' HO408.out).2.2 | (with_reducible refine Kd.C_alloc ?_ _) | (with_reducible refine Kd.C_drewN ?_ _) | (with_reducible refine Kd.C_drew ?_))); (case side2 => exact (Kd.R_reads' HO408.out).2.1); (case side3 => repeat (first | exact (Kd.R_reads' HO411.out).2.2 | (with_reducible refine Kd.C_alloc ?_ _) | (with_reducible refine Kd.C_drewN ?_ _) | (with_reducible refine Kd.C_drew ?_))); (case side4 => exact (Kd.R_reads' HO411.out).2.1); rintro e w39 ⟨rfl, hb⟩; refine ⟨_, rfl, ?_⟩; have n0_ := Aside0.mk (Kd.R_below laws_FnSortOrder.a6 hb); have n1_ := Aside0.mk (Kd.R_below laws_FnSortOrder.a7 hb); have n2_ := Aside0.mk (blk_below (g := gb413) (o := .cells #[.slice Ao21 t406.length co21, .slice Ao23 t409.length co23] 30 (0, 0)) laws_FnSortOrder.a2 hb); have n3_ := Aside0.mk (below_step laws_FnSortOrder.a0 hb); clear HO408; clear HO411; clear BK413; clear HB; have HO408 := n0_; have HO411 := n1_; have BK413 := n2_; have HB := n3_; clear n0_ n1_ n2_ n3_; (try clear hb); (try clear hb2); (try clear hk); (try clear hi)))
     go_meet
     case rel => exact ⟨_, (true), (by first | rfl | (simp; done) | (simp [*]; done)), H', ⟨by first | omega | exact Nat.le_refl _⟩, ⟨laws_FnSortOrder.a6⟩, ⟨laws_FnSortOrder.a7⟩, ⟨laws_FnSortOrder.a2⟩, ⟨laws_FnSortOrder.a0⟩⟩
   case rest =>
    clear HC18
    try clear c1
    try clear p2
    try clear c3
    try clear c4
    try clear c7
    try clear c7b0
    try clear c7b1
    try clear c7b2
    try clear c13
    try clear c15
    try clear c17
    try clear c18
    try clear c19
    try clear c31
    try clear c32
    try clear c32b0
    try clear hcz11_0
    try clear hcz11_1
    try clear hcz22_0
    try clear hcz22_1
    try clear hcz28_0
    try clear hcz28_1
    try clear hcz33_0
    try clear hcz33_1
    try clear hcz35_0
    try clear hcz35_1
    try clear hcz37_0
    try clear hcz37_1
    try clear hcz38_0
    try clear hcz38_1
    try clear hfz11_0
    try clear hfz11_1
    try clear hfz22_0
    try clear hfz22_1
    try clear hfz28_0
    try clear hfz28_1
    try clear hfz33_0
    try clear hfz33_1
    try clear hfz35_0
    try clear hfz35_1
    try clear hfz37_0
    try clear hfz37_1
    try clear hfz38_0
    try clear hfz38_1
    obtain ⟨kq, x36_17, rfl, HA, HJ17, HO_414000, HO_414001, BK413, HB⟩ := hcut
    cases kq with
    | zero => exact absurd HA.out (by simp [laws_FnSortOrder.j0])
    | succ kj17 =>
     have H := HA.out
     clear HA
     simp only [laws_FnSortOrder.j0] at H
     by_cases c40 : x36_17 = true
     ·subst c40
      have H1 : (if t416 = 0 then ((impl_BelowSort.f kj17 t406 t409 t412).bind fun t418 => (if t418 = 0 then ((impl_KindOfSort.f kj17 t406 t409 t412).bind fun t419 => (some (t419 == (-1)))) else (some false))) else (some false)) = some r := by rw [if_pos rfl] at H; exact H
      clear H
      have H := H1
      clear H1
      by_cases c41 : t416 = 0
      ·rw [if_pos c41] at H
       have c41b0 : (t416 == 0) = true := beq_iff_eq.mpr c41
       have c41b1 : (t416 != 0) = false := bne_eq_false_iff_eq.mpr c41
       clear c41
       replace H := Option.bind_eq_some_iff.mp H
       obtain ⟨t418, A420, H⟩ := H
       replace H : (if t418 = 0 then ((impl_KindOfSort.f kj17 t406 t409 t412).bind fun t419 => (some (t419 == (-1)))) else (some false)) = some r := H
       have A42 := Aside0.mk A420
       clear A420
       by_cases c43 : t418 = 0
       ·rw [if_pos c43] at H
        have c43b0 : (t418 == 0) = true := beq_iff_eq.mpr c43
        have c43b1 : (t418 != 0) = false := bne_eq_false_iff_eq.mpr c43
        clear c43
        replace H := Option.bind_eq_some_iff.mp H
        obtain ⟨t419, A440, H⟩ := H
        replace H : (some (t419 == (-1))) = some r := H
        have A44 := Aside0.mk A440
        clear A440
        obtain rfl := Option.some.inj H
        have hcz45_0 : wc.cell? ⟨gb413, 0, none⟩ = some (.slice Ao21 t406.length co21) := (blk_cell BK413.out 0).trans rfl
        have hcz45_1 : wc.cell? ⟨gb413, 1, none⟩ = some (.slice Ao23 t409.length co23) := (blk_cell BK413.out 1).trans rfl
        have hfz45_0 := blk_frozen BK413.out 0
        have hfz45_1 := blk_frozen BK413.out 1
        go_wp2_with (first | (go_at_call 20; (with_reducible refine (impl_BelowSort.calls kj17 _ _ t406 _ _ t409 t412 t418 _ ?side1 ?side2 ?side3 ?side4 A42.out).mono ?_); (case side1 => repeat (first | exact (Kd.R_reads' HO_414000.out).2.2 | (with_reducible refine Kd.C_alloc ?_ _) | (with_reducible refine Kd.C_drewN ?_ _) | (with_reducible refine Kd.C_drew ?_))); (case side2 => exact (Kd.R_reads' HO_414000.out).2.1); (case side3 => repeat (first | exact (Kd.R_reads' HO_414001.out).2.2 | (with_reducible refine Kd.C_alloc ?_ _) | (with_reducible refine Kd.C_drewN ?_ _) | (with_reducible refine Kd.C_drew ?_))); (case side4 => exact (Kd.R_reads' HO_414001.out).2.1); rintro e w46 ⟨rfl, hb⟩; have n0_ := Aside0.mk (Kd.R_below laws_FnSortOrder.a3 hb); have n1_ := Aside0.mk (Kd.R_below laws_FnSortOrder.a4 hb); have n2_ := Aside0.mk (blk_below (g := gb413) (o := .cells #[.slice Ao21 t406.length co21, .slice Ao23 t409.length co23] 30 (0, 0)) laws_FnSortOrder.a2 hb); have n3_ := Aside0.mk (below_step laws_FnSortOrder.a0 hb); clear HO_414000; clear HO_414001; clear BK413; clear HB; have HO_414000 := n0_; have HO_414001 := n1_; have BK413 := n2_; have HB := n3_; clear n0_ n1_ n2_ n3_; (try clear hb); (try clear hb2); (try clear hk); (try clear hi); have hcz47_0 : w46.cell? ⟨gb413, 0, none⟩ = some (.slice Ao21 t406.length co21) := (blk_cell BK413.out 0).trans rfl; have hcz47_1 : w46.cell? ⟨gb413, 1, none⟩ = some (.slice Ao23 t409.length co23) := (blk_cell BK413.out 1).trans rfl; have hfz47_0 := blk_frozen BK413.out 0; have hfz47_1 := blk_frozen BK413.out 1) | (go_at_call 21; (with_reducible refine (impl_KindOfSort.calls kj17 _ _ t406 _ _ t409 t412 t419 _ ?side1 ?side2 ?side3 ?side4 A44.out).mono ?_); (case side1 => repeat (first | exact (Kd.R_reads' HO_414000.out).2.2 | (with_reducible refine Kd.C_alloc ?_ _) | (with_reducible refine Kd.C_drewN ?_ _) | (with_reducible refine Kd.C_drew ?_))); (case side2 => exact (Kd.R_reads' HO_414000.out).2.1); (case side3 => repeat (first | exact (Kd.R_reads' HO_414001.out).2.2 | (with_reducible refine Kd.C_alloc ?_ _) | (with_reducible refine Kd.C_drewN ?_ _) | (with_reducible refine Kd.C_drew ?_))); (case side4 => exact (Kd.R_reads' HO_414001.out).2.1); rintro e w48 ⟨rfl, hb⟩; have n0_ := Aside0.mk (Kd.R_below laws_FnSortOrder.a3 hb); have n1_ := Aside0.mk (Kd.R_below laws_FnSortOrder.a4 hb); have n2_ := Aside0.mk (blk_below (g := gb413) (o := .cells #[.slice Ao21 t406.length co21, .slice Ao23 t409.length co23] 30 (0, 0)) laws_FnSortOrder.a2 hb); have n3_ := Aside0.mk (below_step laws_FnSortOrder.a0 hb); clear HO_414000; clear HO_414001; clear BK413; clear HB; have HO_414000 := n0_; have HO_414001 := n1_; have BK413 := n2_; have HB := n3_; clear n0_ n1_ n2_ n3_; (try clear hb); (try clear hb2); (try clear hk); (try clear hi)))
        go_ret
        exact ⟨laws_FnSortOrder.a10, laws_FnSortOrder.a0⟩
       ·rw [if_neg c43] at H
        have c43b0 : (t418 == 0) = false := beq_eq_false_iff_ne.mpr c43
        have c43b1 : (t418 != 0) = true := bne_iff_ne.mpr c43
        obtain rfl := Option.some.inj H
        have hcz49_0 : wc.cell? ⟨gb413, 0, none⟩ = some (.slice Ao21 t406.length co21) := (blk_cell BK413.out 0).trans rfl
        have hcz49_1 : wc.cell? ⟨gb413, 1, none⟩ = some (.slice Ao23 t409.length co23) := (blk_cell BK413.out 1).trans rfl
        have hfz49_0 := blk_frozen BK413.out 0
        have hfz49_1 := blk_frozen BK413.out 1
        go_wp2_with (first | (go_at_call 20; (with_reducible refine (impl_BelowSort.calls kj17 _ _ t406 _ _ t409 t412 t418 _ ?side1 ?side2 ?side3 ?side4 A42.out).mono ?_); (case side1 => repeat (first | exact (Kd.R_reads' HO_414000.out).2.2 | (with_reducible refine Kd.C_alloc ?_ _) | (with_reducible refine Kd.C_drewN ?_ _) | (with_reducible refine Kd.C_drew ?_))); (case side2 => exact (Kd.R_reads' HO_414000.out).2.1); (case side3 => repeat (first | exact (Kd.R_reads' HO_414001.out).2.2 | (with_reducible refine Kd.C_alloc ?_ _) | (with_reducible refine Kd.C_drewN ?_ _) | (with_reducible refine Kd.C_drew ?_))); (case side4 => exact (Kd.R_reads' HO_414001.out).2.1); rintro e w50 ⟨rfl, hb⟩; have n0_ := Aside0.mk (Kd.R_below laws_FnSortOrder.a3 hb); have n1_ := Aside0.mk (Kd.R_below laws_FnSortOrder.a4 hb); have n2_ := Aside0.mk (blk_below (g := gb413) (o := .cells #[.slice Ao21 t406.length co21, .slice Ao23 t409.length co23] 30 (0, 0)) laws_FnSortOrder.a2 hb); have n3_ := Aside0.mk (below_step laws_FnSortOrder.a0 hb); clear HO_414000; clear HO_414001; clear BK413; clear HB; have HO_414000 := n0_; have HO_414001 := n1_; have BK413 := n2_; have HB := n3_; clear n0_ n1_ n2_ n3_; (try clear hb); (try clear hb2); (try clear hk); (try clear hi)))
        go_ret
        exact ⟨laws_FnSortOrder.a10, laws_FnSortOrder.a0⟩
      ·rw [if_neg c41] at H
       have c41b0 : (t416 == 0) = false := beq_eq_false_iff_ne.mpr c41
       have c41b1 : (t416 != 0) = true := bne_iff_ne.mpr c41
       obtain rfl := Option.some.inj H
       go_wp2
       go_ret
       exact ⟨laws_FnSortOrder.a10, laws_FnSortOrder.a0⟩
     ·replace c40 := Bool.eq_false_iff.mpr c40
      subst c40
      have H1 : (laws_FnSortOrder.l0 kj17 t412 t416 0 t406 t409) = some r := by rw [if_neg (show ¬ (false = true) by decide)] at H; exact H
      clear H
      have H := H1
      clear H1
      have H' := Aside0.mk H
      clear H
      go_wp2
      go_loopg [6] kj17 (fun kq v6 w' => ∃ (x6_2 : Int), v6 = .int .i64 x6_2 ∧ Aside0 (laws_FnSortOrder.l0 kq t412 t416 x6_2 t406 t409 = some r) ∧ Aside0 (kq ≤ kj17) ∧ Aside0 (Kd.R Kd.string 9 w' w.heap.size (fun _ => True) (.slice Ao21 t406.length co21) t406) ∧ Aside0 (Kd.R k52 52 w' w.heap.size (fun _ => True) (.slice Ao23 t409.length co23) t409) ∧ Aside0 (w'.heap[gb413]? = some (.cells #[(.slice Ao21 t406.length co21), (.slice Ao23 t409.length co23)] 30 (0, 0))) ∧ Aside0 (Below w.heap.size w w'))
      case atStart => exact ⟨(0), (by first | rfl | (simp; done) | (simp [*]; done)), H', ⟨Nat.le_refl _⟩, ⟨laws_FnSortOrder.a3⟩, ⟨laws_FnSortOrder.a4⟩, ⟨laws_FnSortOrder.a2⟩, ⟨laws_FnSortOrder.a0⟩⟩
      case round =>
       clear H'
       try clear c1
       try clear p2
       try clear c3
       try clear c4
       try clear c7
       try clear c7b0
       try clear c7b1
       try clear c7b2
       try clear c13
       try clear c15
       try clear c17
       try clear c18
       try clear c19
       try clear c31
       try clear c32
       try clear c32b0
       try clear c40
       try clear c41
       try clear c41b0
       try clear c41b1
       try clear c43
       try clear c43b0
       try clear c43b1
       try clear hcz11_0
       try clear hcz11_1
       try clear hcz22_0
       try clear hcz22_1
       try clear hcz28_0
       try clear hcz28_1
       try clear hcz33_0
       try clear hcz33_1
       try clear hcz35_0
       try clear hcz35_1
       try clear hcz37_0
       try clear hcz37_1
       try clear hcz38_0
       try clear hcz38_1
       try clear hcz45_0
       try clear hcz45_1
       try clear hcz47_0
       try clear hcz47_1
       try clear hcz49_0
       try clear hcz49_1
       try clear hfz11_0
       try clear hfz11_1
       try clear hfz22_0
       try clear hfz22_1
       try clear hfz28_0
       try clear hfz28_1
       try clear hfz33_0
       try clear hfz33_1
       try clear hfz35_0
       try clear hfz35_1
       try clear hfz37_0
       try clear hfz37_1
       try clear hfz38_0
       try clear hfz38_1
       try clear hfz45_0
       try clear hfz45_1
       try clear hfz47_0
       try clear hfz47_1
       try clear hfz49_0
       try clear hfz49_1
       try clear p2
       obtain ⟨x6_2, rfl, HA, HK2, HO_414000, HO_414001, BK413, HB⟩ := hrel
       cases gk with
       | zero => exact absurd HA.out (by simp [laws_FnSortOrder.l0])
       | succ k2 =>
        have H := HA.out
        clear HA
        simp only [laws_FnSortOrder.l0] at H
        by_cases c51 : x6_2 < (t406.length : Int)
        ·rw [if_pos c51] at H
         have c51b0 : decide (x6_2 < (t406.length : Int)) = true := decide_eq_true c51
         clear c51
         replace H := Option.bind_eq_some_iff.mp H
         obtain ⟨t421, A520, H⟩ := H
         replace H : ((impl_BelowSort.f k2 t406 t409 x6_2).bind fun t422 => ((laws_member.f t422 t412).bind fun t423 => (if (t421 != t423) = true then (some false) else (if t421 = true then ((impl_AboveSort.f k2 t406 t409 x6_2).bind fun t424 => ((impl_IsSubset.f t424 t416).bind fun t425 => (if t425 = true then ((impl_KindOfSort.f k2 t406 t409 x6_2).bind fun t426 => ((impl_KindOfSort.f k2 t406 t409 t412).bind fun t427 => (if t426 = t427 then (if x6_2 = t412 then (laws_FnSortOrder.l0 k2 t412 t416 (wrap64 (x6_2 + 1)) t406 t409) else ((impl_AboveSort.f k2 t406 t409 x6_2).bind fun t428 => ((laws_member.f t428 t412).bind fun t429 => (if t429 = true then (some false) else (laws_FnSortOrder.l0 k2 t412 t416 (wrap64 (x6_2 + 1)) t406 t409))))) else (some false)))) else (some false)))) else (laws_FnSortOrder.l0 k2 t412 t416 (wrap64 (x6_2 + 1)) t406 t409))))) = some r := H
         have A52 := Aside0.mk A520
         clear A520
         replace H := Option.bind_eq_some_iff.mp H
         obtain ⟨t422, A530, H⟩ := H
         replace H : ((laws_member.f t422 t412).bind fun t423 => (if (t421 != t423) = true then (some false) else (if t421 = true then ((impl_AboveSort.f k2 t406 t409 x6_2).bind fun t424 => ((impl_IsSubset.f t424 t416).bind fun t425 => (if t425 = true then ((impl_KindOfSort.f k2 t406 t409 x6_2).bind fun t426 => ((impl_KindOfSort.f k2 t406 t409 t412).bind fun t427 => (if t426 = t427 then (if x6_2 = t412 then (laws_FnSortOrder.l0 k2 t412 t416 (wrap64 (x6_2 + 1)) t406 t409) else ((impl_AboveSort.f k2 t406 t409 x6_2).bind fun t428 => ((laws_member.f t428 t412).bind fun t429 => (if t429 = true then (some false) else (laws_FnSortOrder.l0 k2 t412 t416 (wrap64 (x6_2 + 1)) t406 t409))))) else (some false)))) else (some false)))) else (laws_FnSortOrder.l0 k2 t412 t416 (wrap64 (x6_2 + 1)) t406 t409)))) = some r := H
         have A53 := Aside0.mk A530
         clear A530
         replace H := Option.bind_eq_some_iff.mp H
         obtain ⟨t423, A540, H⟩ := H
         replace H : (if (t421 != t423) = true then (some false) else (if t421 = true then ((impl_AboveSort.f k2 t406 t409 x6_2).bind fun t424 => ((impl_IsSubset.f t424 t416).bind fun t425 => (if t425 = true then ((impl_KindOfSort.f k2 t406 t409 x6_2).bind fun t426 => ((impl_KindOfSort.f k2 t406 t409 t412).bind fun t427 => (if t426 = t427 then (if x6_2 = t412 then (laws_FnSortOrder.l0 k2 t412 t416 (wrap64 (x6_2 + 1)) t406 t409) else ((impl_AboveSort.f k2 t406 t409 x6_2).bind fun t428 => ((laws_member.f t428 t412).bind fun t429 => (if t429 = true then (some false) else (laws_FnSortOrder.l0 k2 t412 t416 (wrap64 (x6_2 + 1)) t406 t409))))) else (some false)))) else (some false)))) else (laws_FnSortOrder.l0 k2 t412 t416 (wrap64 (x6_2 + 1)) t406 t409))) = some r := H
         have A54 := Aside0.mk A540
         clear A540
         by_cases c55 : (t421 != t423) = true
         ·rw [if_pos c55] at H
          have c55b0 : (t421 != t423) = true := c55
          (try (have c55b1 : decide (t421 = t423) = false := by simpa using c55))
          (try (have c55b2 : (t421 == t423) = false := by simpa using c55))
          (try (have c55b3 : ¬ (t421 = t423) := by simpa using c55))
          clear c55
          obtain rfl := Option.some.inj H
          have hcz56_0 : wr.cell? ⟨gb413, 0, none⟩ = some (.slice Ao21 t406.length co21) := (blk_cell BK413.out 0).trans rfl
          have hcz56_1 : wr.cell? ⟨gb413, 1, none⟩ = some (.slice Ao23 t409.length co23) := (blk_cell BK413.out 1).trans rfl
          have hfz56_0 := blk_frozen BK413.out 0
          have hfz56_1 := blk_frozen BK413.out 1
          try go_wp2_with (first | ((with_reducible refine gate_callee (f := 22) rfl ?_); refine goesL_ (some 60) rfl rfl Try.func22 laws_FnSortOrder.a9 rfl #[.int .i64 t416, .int .i64 x6_2] rfl laws_FnSortOrder.a1 ?_; (with_reducible refine (laws_member.calls t416 x6_2 t421 _ A52.out).mono ?_); rintro e w' ⟨rfl, ⟨nd, rfl⟩⟩; refine ⟨_, rfl, ?_⟩))
          (try (rw [drewN_self wr]; generalize hq_ : World.drewN wr _ = wr; have n0_ : Aside0 (Kd.R Kd.string 9 wr w.heap.size (fun _ => True) (.slice Ao21 t406.length co21) t406) := ⟨by rw [← hq_]; exact laws_FnSortOrder.a3⟩; have n1_ : Aside0 (Kd.R k52 52 wr w.heap.size (fun _ => True) (.slice Ao23 t409.length co23) t409) := ⟨by rw [← hq_]; exact laws_FnSortOrder.a4⟩; have n2_ : Aside0 (wr.heap[gb413]? = some (.cells #[.slice Ao21 t406.length co21, .slice Ao23 t409.length co23] 30 (0, 0))) := ⟨by rw [← hq_]; exact laws_FnSortOrder.a2⟩; have n3_ : Aside0 (Below w.heap.size w wr) := ⟨by rw [← hq_]; exact laws_FnSortOrder.a0⟩; clear HO_414000 HO_414001 BK413 HB hq_; have HO_414000 := n0_; have HO_414001 := n1_; have BK413 := n2_; have HB := n3_; clear n0_ n1_ n2_ n3_))
          have n0_ := Aside0.mk (Kd.R_drew HO_414000.out)
          have n1_ := Aside0.mk (Kd.R_drew HO_414001.out)
          have n2_ := Aside0.mk (blk_drew BK413.out)
          have n3_ := Aside0.mk (below_drew1 HB.out)
          clear HO_414000
          clear HO_414001
          clear BK413
          clear HB
          have HO_414000 := n0_
          have HO_414001 := n1_
          have BK413 := n2_
          have HB := n3_
          clear n0_ n1_ n2_ n3_
          refine start_ (n := 42) (S := fun w' => w'.cell? ⟨gb413, 0, none⟩ = some (.slice Ao21 t406.length co21) ∧ w'.cell? ⟨gb413, 1, none⟩ = some (.slice Ao23 t409.length co23)) (ds := []) #[false, false, false, false, false, false, false, false, false, false, false, false, false, false, false, false, false, false, false, false, false, false, false, false, false, false, false, false, false, false, false, false, false, false, false, false, false, false, false, false, false, false] laws_FnSortOrder.a9 rfl rfl ⟨(blk_cell BK413.out 0).trans rfl, (blk_cell BK413.out 1).trans rfl⟩ (fun hHeld => ?_); refine with_tabW laws_FnSortOrder.tab13 laws_FnSortOrder.bits13 (fun HT_ HW_ => ?_)
          generalize wr.drew = w57 at HO_414000 HO_414001 BK413 HB hHeld ⊢
          refine pureS 0 61 HT_ rfl rfl ?_
          refine pureS 2 63 HT_ rfl rfl ?_
          refine pureS 4 65 HT_ rfl rfl ?_
          refine takeS 1 62 HT_ HW_ rfl rfl hHeld ?_ laws_FnSortOrder.a8
          refine one_ (i := 3) (N := some 64) #[true, true, true, true, true, false, false, false, false, false, false, false, false, false, false, false, false, false, false, false, false, false, false, false, false, false, false, false, false, false, false, false, false, false, false, false, false, false, false, false, false, false] rfl rfl (one_of HT_.out laws_FnSortOrder.a9) (by decide) (fun K hK => ?_)
          refine goes_ Try.func20 laws_FnSortOrder.a9 rfl #[.agg #[.slice Ao21 t406.length co21, .slice Ao23 t409.length co23], .int .i64 x6_2] (by rfl) rfl rfl laws_FnSortOrder.a1 ?_
          with_reducible refine (impl_BelowSort.calls k2 _ _ t406 _ _ t409 x6_2 t422 _ ?side1 ?side2 ?side3 ?side4 A53.out).mono ?_
          (case side1 => repeat (first | exact (Kd.R_reads' HO_414000.out).2.2 | (with_reducible refine Kd.C_alloc ?_ _) | (with_reducible refine Kd.C_drewN ?_ _) | (with_reducible refine Kd.C_drew ?_)))
          (case side2 => exact (Kd.R_reads' HO_414000.out).2.1)
          (case side3 => repeat (first | exact (Kd.R_reads' HO_414001.out).2.2 | (with_reducible refine Kd.C_alloc ?_ _) | (with_reducible refine Kd.C_drewN ?_ _) | (with_reducible refine Kd.C_drew ?_)))
          (case side4 => exact (Kd.R_reads' HO_414001.out).2.1)
          rintro e w58 ⟨rfl, hb⟩
          refine ⟨_, rfl, ?_⟩
          have n0_ := Aside0.mk (Kd.R_below laws_FnSortOrder.a3 hb)
          have n1_ := Aside0.mk (Kd.R_below laws_FnSortOrder.a4 hb)
          have n2_ := Aside0.mk (blk_below (g := gb413) (o := .cells #[.slice Ao21 t406.length co21, .slice Ao23 t409.length co23] 30 (0, 0)) laws_FnSortOrder.a2 hb)
          have n3_ := Aside0.mk (below_step laws_FnSortOrder.a0 hb)
          clear HO_414000
          clear HO_414001
          clear BK413
          clear HB
          have HO_414000 := n0_
          have HO_414001 := n1_
          have BK413 := n2_
          have HB := n3_
          clear n0_ n1_ n2_ n3_
          (try clear hb)
          (try clear hb2)
          (try clear hk)
          (try clear hi)
          refine hK.out _ _ ⟨(blk_cell BK413.out 0).trans rfl, (blk_cell BK413.out 1).trans rfl⟩ (fun hHeld => ?_)
          clear hK K
          refine norm_ (a' := ?_) ?_ ?_
          rotate_left
          ·show Act.put _ (some 64) _ = _
           simp only [Act.put, List.setIfInBounds_toArray, List.set_cons_zero, List.set_cons_succ, i64_w, i32_w]
           rfl
          refine one_ (i := 5) (N := some 66) #[true, true, true, true, true, true, false, false, false, false, false, false, false, false, false, false, false, false, false, false, false, false, false, false, false, false, false, false, false, false, false, false, false, false, false, false, false, false, false, false, false, false] rfl rfl (one_of HT_.out laws_FnSortOrder.a9) (by decide) (fun K hK => ?_)
          refine goes_ Try.func22 laws_FnSortOrder.a9 rfl #[.int .i64 t422, .int .i64 t412] (by rfl) rfl rfl laws_FnSortOrder.a1 ?_
          with_reducible refine (laws_member.calls t422 t412 t423 _ A54.out).mono ?_
          rintro e w' ⟨rfl, ⟨nd, rfl⟩⟩
          refine ⟨_, rfl, ?_⟩
          refine hK.out _ _ ⟨(blk_cell BK413.out 0).trans rfl, (blk_cell BK413.out 1).trans rfl⟩ (fun hHeld => ?_)
          clear hK K
          refine norm_ (a' := ?_) ?_ ?_
          rotate_left
          ·show Act.put _ (some 66) _ = _
           simp only [Act.put, List.setIfInBounds_toArray, List.set_cons_zero, List.set_cons_succ, i64_w, i32_w]
           rfl
          refine pureS 6 67 HT_ rfl rfl ?_
          refine pureS 7 68 HT_ rfl rfl ?_
          refine undS 8 69 HT_ rfl rfl ?_
          refine undS 9 70 HT_ rfl rfl ?_
          refine undS 10 71 HT_ rfl rfl ?_
          refine undS 11 72 HT_ rfl rfl ?_
          refine undS 12 73 HT_ rfl rfl ?_
          refine undS 13 74 HT_ rfl rfl ?_
          refine undS 14 75 HT_ rfl rfl ?_
          refine undS 15 76 HT_ rfl rfl ?_
          refine undS 16 77 HT_ rfl rfl ?_
          refine undS 17 78 HT_ rfl rfl ?_
          refine undS 18 79 HT_ rfl rfl ?_
          refine undS 19 80 HT_ rfl rfl ?_
          refine undS 20 81 HT_ rfl rfl ?_
          refine undS 21 82 HT_ rfl rfl ?_
          refine undS 22 83 HT_ rfl rfl ?_
          refine undS 23 84 HT_ rfl rfl ?_
          refine undS 24 85 HT_ rfl rfl ?_
          refine undS 25 86 HT_ rfl rfl ?_
          refine pureS 26 87 HT_ rfl rfl ?_
          refine pureS 27 88 HT_ rfl rfl ?_
          refine undS 28 89 HT_ rfl rfl ?_
          refine undS 29 90 HT_ rfl rfl ?_
          refine undS 30 91 HT_ rfl rfl ?_
          refine undS 31 92 HT_ rfl rfl ?_
          refine undS 32 93 HT_ rfl rfl ?_
          refine undS 33 94 HT_ rfl rfl ?_
          refine undS 34 95 HT_ rfl rfl ?_
          refine undS 35 96 HT_ rfl rfl ?_
          refine undS 36 97 HT_ rfl rfl ?_
          refine undS 37 98 HT_ rfl rfl ?_
          refine undS 38 99 HT_ rfl rfl ?_
          refine undS 39 100 HT_ rfl rfl ?_
          refine undS 40 101 HT_ rfl rfl ?_
          refine pureS 41 102 HT_ rfl rfl ?_
          refine done_ (done_of HT_.out laws_FnSortOrder.a9) ?_
          try go_wp2
          go_ret
          exact ⟨laws_FnSortOrder.a10, laws_FnSortOrder.a0⟩
         ·rw [if_neg c55] at H
          have c55b0 : (t421 != t423) = false := by simpa using c55
          (try (have c55b1 : decide (t421 = t423) = true := by simpa using c55))
          (try (have c55b2 : (t421 == t423) = true := by simpa using c55))
          clear c55
          by_cases c59 : t421 = true
          ·subst c59
           have H1 : ((impl_AboveSort.f k2 t406 t409 x6_2).bind fun t424 => ((impl_IsSubset.f t424 t416).bind fun t425 => (if t425 = true then ((impl_KindOfSort.f k2 t406 t409 x6_2).bind fun t426 => ((impl_KindOfSort.f k2 t406 t409 t412).bind fun t427 => (if t426 = t427 then (if x6_2 = t412 then (laws_FnSortOrder.l0 k2 t412 t416 (wrap64 (x6_2 + 1)) t406 t409) else ((impl_AboveSort.f k2 t406 t409 x6_2).bind fun t428 => ((laws_member.f t428 t412).bind fun t429 => (if t429 = true then (some false) else (laws_FnSortOrder.l0 k2 t412 t416 (wrap64 (x6_2 + 1)) t406 t409))))) else (some false)))) else (some false)))) = some r := by rw [if_pos rfl] at H; exact H
           clear H
           have H := H1
           clear H1
           replace H := Option.bind_eq_some_iff.mp H
           obtain ⟨t424, A600, H⟩ := H
           replace H : ((impl_IsSubset.f t424 t416).bind fun t425 => (if t425 = true then ((impl_KindOfSort.f k2 t406 t409 x6_2).bind fun t426 => ((impl_KindOfSort.f k2 t406 t409 t412).bind fun t427 => (if t426 = t427 then (if x6_2 = t412 then (laws_FnSortOrder.l0 k2 t412 t416 (wrap64 (x6_2 + 1)) t406 t409) else ((impl_AboveSort.f k2 t406 t409 x6_2).bind fun t428 => ((laws_member.f t428 t412).bind fun t429 => (if t429 = true then (some false) else (laws_FnSortOrder.l0 k2 t412 t416 (wrap64 (x6_2 + 1)) t406 t409))))) else (some false)))) else (some false))) = some r := H
           have A60 := Aside0.mk A600
           clear A600
           replace H := Option.bind_eq_some_iff.mp H
           obtain ⟨t425, A610, H⟩ := H
           replace H : (if t425 = true then ((impl_KindOfSort.f k2 t406 t409 x6_2).bind fun t426 => ((impl_KindOfSort.f k2 t406 t409 t412).bind fun t427 => (if t426 = t427 then (if x6_2 = t412 then (laws_FnSortOrder.l0 k2 t412 t416 (wrap64 (x6_2 + 1)) t406 t409) else ((impl_AboveSort.f k2 t406 t409 x6_2).bind fun t428 => ((laws_member.f t428 t412).bind fun t429 => (if t429 = true then (some false) else (laws_FnSortOrder.l0 k2 t412 t416 (wrap64 (x6_2 + 1)) t406 t409))))) else (some false)))) else (some false)) = some r := H
           have A61 := Aside0.mk A610
           clear A610
           by_cases c62 : t425 = true
           ·subst c62
            have H1 : ((impl_KindOfSort.f k2 t406 t409 x6_2).bind fun t426 => ((impl_KindOfSort.f k2 t406 t409 t412).bind fun t427 => (if t426 = t427 then (if x6_2 = t412 then (laws_FnSortOrder.l0 k2 t412 t416 (wrap64 (x6_2 + 1)) t406 t409) else ((impl_AboveSort.f k2 t406 t409 x6_2).bind fun t428 => ((laws_member.f t428 t412).bind fun t429 => (if t429 = true then (some false) else (laws_FnSortOrder.l0 k2 t412 t416 (wrap64 (x6_2 + 1)) t406 t409))))) else (some false)))) = some r := by rw [if_pos rfl] at H; exact H
            clear H
            have H := H1
            clear H1
            replace H := Option.bind_eq_some_iff.mp H
            obtain ⟨t426, A630, H⟩ := H
            replace H : ((impl_KindOfSort.f k2 t406 t409 t412).bind fun t427 => (if t426 = t427 then (if x6_2 = t412 then (laws_FnSortOrder.l0 k2 t412 t416 (wrap64 (x6_2 + 1)) t406 t409) else ((impl_AboveSort.f k2 t406 t409 x6_2).bind fun t428 => ((laws_member.f t428 t412).bind fun t429 => (if t429 = true then (some false) else (laws_FnSortOrder.l0 k2 t412 t416 (wrap64 (x6_2 + 1)) t406 t409))))) else (some false))) = some r := H
            have A63 := Aside0.mk A630
            clear A630
            replace H := Option.bind_eq_some_iff.mp H
            obtain ⟨t427, A640, H⟩ := H
            replace H : (if t426 = t427 then (if x6_2 = t412 then (laws_FnSortOrder.l0 k2 t412 t416 (wrap64 (x6_2 + 1)) t406 t409) else ((impl_AboveSort.f k2 t406 t409 x6_2).bind fun t428 => ((laws_member.f t428 t412).bind fun t429 => (if t429 = true then (some false) else (laws_FnSortOrder.l0 k2 t412 t416 (wrap64 (x6_2 + 1)) t406 t409))))) else (some false)) = some r := H
            have A64 := Aside0.mk A640
            clear A640
            by_cases c65 : t426 = t427
            ·rw [if_pos c65] at H
             have c65b0 : (t426 == t427) = true := beq_iff_eq.mpr c65
             have c65b1 : (t426 != t427) = false := bne_eq_false_iff_eq.mpr c65
             clear c65
             by_cases c66 : x6_2 = t412
             ·rw [if_pos c66] at H
              have c66b0 : (x6_2 == t412) = true := beq_iff_eq.mpr c66
              have c66b1 : (x6_2 != t412) = false := bne_eq_false_iff_eq.mpr c66
              clear c66
              have H' := Aside0.mk H
              clear H
              have hcz67_0 : wr.cell? ⟨gb413, 0, none⟩ = some (.slice Ao21 t406.length co21) := (blk_cell BK413.out 0).trans rfl
              have hcz67_1 : wr.cell? ⟨gb413, 1, none⟩ = some (.slice Ao23 t409.length co23) := (blk_cell BK413.out 1).trans rfl
              have hfz67_0 := blk_frozen BK413.out 0
              have hfz67_1 := blk_frozen BK413.out 1
              try go_wp2_with (first | ((with_reducible refine gate_callee (f := 22) rfl ?_); refine goesL_ (some 60) rfl rfl Try.func22 laws_FnSortOrder.a9 rfl #[.int .i64 t416, .int .i64 x6_2] rfl laws_FnSortOrder.a1 ?_; (with_reducible refine (laws_member.calls t416 x6_2 true _ A52.out).mono ?_); rintro e w' ⟨rfl, ⟨nd, rfl⟩⟩; refine ⟨_, rfl, ?_⟩))
              (try (rw [drewN_self wr]; generalize hq_ : World.drewN wr _ = wr; have n0_ : Aside0 (Kd.R Kd.string 9 wr w.heap.size (fun _ => True) (.slice Ao21 t406.length co21) t406) := ⟨by rw [← hq_]; exact laws_FnSortOrder.a3⟩; have n1_ : Aside0 (Kd.R k52 52 wr w.heap.size (fun _ => True) (.slice Ao23 t409.length co23) t409) := ⟨by rw [← hq_]; exact laws_FnSortOrder.a4⟩; have n2_ : Aside0 (wr.heap[gb413]? = some (.cells #[.slice Ao21 t406.length co21, .slice Ao23 t409.length co23] 30 (0, 0))) := ⟨by rw [← hq_]; exact laws_FnSortOrder.a2⟩; have n3_ : Aside0 (Below w.heap.size w wr) := ⟨by rw [← hq_]; exact laws_FnSortOrder.a0⟩; clear HO_414000 HO_414001 BK413 HB hq_; have HO_414000 := n0_; have HO_414001 := n1_; have BK413 := n2_; have HB := n3_; clear n0_ n1_ n2_ n3_))
              have n0_ := Aside0.mk (Kd.R_drew HO_414000.out)
              have n1_ := Aside0.mk (Kd.R_drew HO_414001.out)
              have n2_ := Aside0.mk (blk_drew BK413.out)
              have n3_ := Aside0.mk (below_drew1 HB.out)
              clear HO_414000
              clear HO_414001
              clear BK413
              clear HB
              have HO_414000 := n0_
              have HO_414001 := n1_
              have BK413 := n2_
              have HB := n3_
              clear n0_ n1_ n2_ n3_
              refine start_ (n := 42) (S := fun w' => w'.cell? ⟨gb413, 0, none⟩ = some (.slice Ao21 t406.length co21) ∧ w'.cell? ⟨gb413, 1, none⟩ = some (.slice Ao23 t409.length co23)) (ds := []) #[false, false, false, false, false, false, false, false, false, false, false, false, false, false, false, false, false, false, false, false, false, false, false, false, false, false, false, false, false, false, false, false, false, false, false, false, false, false, false, false, false, false] laws_FnSortOrder.a9 rfl rfl ⟨(blk_cell BK413.out 0).trans rfl, (blk_cell BK413.out 1).trans rfl⟩ (fun hHeld => ?_); refine with_tabW laws_FnSortOrder.tab13 laws_FnSortOrder.bits13 (fun HT_ HW_ => ?_)
              generalize wr.drew = w68 at HO_414000 HO_414001 BK413 HB hHeld ⊢
              refine pureS 0 61 HT_ rfl rfl ?_
              refine pureS 2 63 HT_ rfl rfl ?_
              refine pureS 4 65 HT_ rfl rfl ?_
              refine takeS 1 62 HT_ HW_ rfl rfl hHeld ?_ laws_FnSortOrder.a8
              refine one_ (i := 3) (N := some 64) #[true, true, true, true, true, false, false, false, false, false, false, false, false, false, false, false, false, false, false, false, false, false, false, false, false, false, false, false, false, false, false, false, false, false, false, false, false, false, false, false, false, false] rfl rfl (one_of HT_.out laws_FnSortOrder.a9) (by decide) (fun K hK => ?_)
              refine goes_ Try.func20 laws_FnSortOrder.a9 rfl #[.agg #[.slice Ao21 t406.length co21, .slice Ao23 t409.length co23], .int .i64 x6_2] (by rfl) rfl rfl laws_FnSortOrder.a1 ?_
              with_reducible refine (impl_BelowSort.calls k2 _ _ t406 _ _ t409 x6_2 t422 _ ?side1 ?side2 ?side3 ?side4 A53.out).mono ?_
              (case side1 => repeat (first | exact (Kd.R_reads' HO_414000.out).2.2 | (with_reducible refine Kd.C_alloc ?_ _) | (with_reducible refine Kd.C_drewN ?_ _) | (with_reducible refine Kd.C_drew ?_)))
              (case side2 => exact (Kd.R_reads' HO_414000.out).2.1)
              (case side3 => repeat (first | exact (Kd.R_reads' HO_414001.out).2.2 | (with_reducible refine Kd.C_alloc ?_ _) | (with_reducible refine Kd.C_drewN ?_ _) | (with_reducible refine Kd.C_drew ?_)))
              (case side4 => exact (Kd.R_reads' HO_414001.out).2.1)
              rintro e w69 ⟨rfl, hb⟩
              refine ⟨_, rfl, ?_⟩
              have n0_ := Aside0.mk (Kd.R_below laws_FnSortOrder.a3 hb)
              have n1_ := Aside0.mk (Kd.R_below laws_FnSortOrder.a4 hb)
              have n2_ := Aside0.mk (blk_below (g := gb413) (o := .cells #[.slice Ao21 t406.length co21, .slice Ao23 t409.length co23] 30 (0, 0)) laws_FnSortOrder.a2 hb)
              have n3_ := Aside0.mk (below_step laws_FnSortOrder.a0 hb)
              clear HO_414000
              clear HO_414001
              clear BK413
              clear HB
              have HO_414000 := n0_
              have HO_414001 := n1_
              have BK413 := n2_
              have HB := n3_
              clear n0_ n1_ n2_ n3_
              (try clear hb)
              (try clear hb2)
              (try clear hk)
              (try clear hi)
              refine hK.out _ _ ⟨(blk_cell BK413.out 0).trans rfl, (blk_cell BK413.out 1).trans rfl⟩ (fun hHeld => ?_)
              clear hK K
              refine norm_ (a' := ?_) ?_ ?_
              rotate_left
              ·show Act.put _ (some 64) _ = _
               simp only [Act.put, List.setIfInBounds_toArray, List.set_cons_zero, List.set_cons_succ, i64_w, i32_w]
               rfl
              refine one_ (i := 5) (N := some 66) #[true, true, true, true, true, true, false, false, false, false, false, false, false, false, false, false, false, false, false, false, false, false, false, false, false, false, false, false, false, false, false, false, false, false, false, false, false, false, false, false, false, false] rfl rfl (one_of HT_.out laws_FnSortOrder.a9) (by decide) (fun K hK => ?_)
              refine goes_ Try.func22 laws_FnSortOrder.a9 rfl #[.int .i64 t422, .int .i64 t412] (by rfl) rfl rfl laws_FnSortOrder.a1 ?_
              with_reducible refine (laws_member.calls t422 t412 t423 _ A54.out).mono ?_
              rintro e w' ⟨rfl, ⟨nd, rfl⟩⟩
              refine ⟨_, rfl, ?_⟩
              refine hK.out _ _ ⟨(blk_cell BK413.out 0).trans rfl, (blk_cell BK413.out 1).trans rfl⟩ (fun hHeld => ?_)
              clear hK K
              refine norm_ (a' := ?_) ?_ ?_
              rotate_left
              ·show Act.put _ (some 66) _ = _
               simp only [Act.put, List.setIfInBounds_toArray, List.set_cons_zero, List.set_cons_succ, i64_w, i32_w]
               rfl
              refine pureS 6 67 HT_ rfl rfl ?_
              refine pureS 7 68 HT_ rfl rfl ?_
              refine pureS 8 69 HT_ rfl rfl ?_
              refine pureS 9 70 HT_ rfl rfl ?_
              refine pureS 11 72 HT_ rfl rfl ?_
              refine pureS 13 74 HT_ rfl rfl ?_
              refine takeS 10 71 HT_ HW_ rfl rfl hHeld ?_ laws_FnSortOrder.a8
              refine one_ (i := 12) (N := some 73) #[true, true, true, true, true, true, true, true, true, true, true, true, true, true, false, false, false, false, false, false, false, false, false, false, false, false, false, false, false, false, false, false, false, false, false, false, false, false, false, false, false, false] rfl rfl (one_of HT_.out laws_FnSortOrder.a9) (by decide) (fun K hK => ?_)
              refine goes_ Try.func19 laws_FnSortOrder.a9 rfl #[.agg #[.slice Ao21 t406.length co21, .slice Ao23 t409.length co23], .int .i64 x6_2] (by rfl) rfl rfl laws_FnSortOrder.a1 ?_
              with_reducible refine (impl_AboveSort.calls k2 _ _ t406 _ _ t409 x6_2 t424 _ ?side1 ?side2 ?side3 ?side4 A60.out).mono ?_
              (case side1 => repeat (first | exact (Kd.R_reads' HO_414000.out).2.2 | (with_reducible refine Kd.C_alloc ?_ _) | (with_reducible refine Kd.C_drewN ?_ _) | (with_reducible refine Kd.C_drew ?_)))
              (case side2 => exact (Kd.R_reads' HO_414000.out).2.1)
              (case side3 => repeat (first | exact (Kd.R_reads' HO_414001.out).2.2 | (with_reducible refine Kd.C_alloc ?_ _) | (with_reducible refine Kd.C_drewN ?_ _) | (with_reducible refine Kd.C_drew ?_)))
              (case side4 => exact (Kd.R_reads' HO_414001.out).2.1)
              rintro e w70 ⟨rfl, hb⟩
              refine ⟨_, rfl, ?_⟩
              have n0_ := Aside0.mk (Kd.R_below laws_FnSortOrder.a3 hb)
              have n1_ := Aside0.mk (Kd.R_below laws_FnSortOrder.a4 hb)
              have n2_ := Aside0.mk (blk_below (g := gb413) (o := .cells #[.slice Ao21 t406.length co21, .slice Ao23 t409.length co23] 30 (0, 0)) laws_FnSortOrder.a2 hb)
              have n3_ := Aside0.mk (below_step laws_FnSortOrder.a0 hb)
              clear HO_414000
              clear HO_414001
              clear BK413
              clear HB
              have HO_414000 := n0_
              have HO_414001 := n1_
              have BK413 := n2_
              have HB := n3_
              clear n0_ n1_ n2_ n3_
              (try clear hb)
              (try clear hb2)
              (try clear hk)
              (try clear hi)
              refine hK.out _ _ ⟨(blk_cell BK413.out 0).trans rfl, (blk_cell BK413.out 1).trans rfl⟩ (fun hHeld => ?_)
              clear hK K
              refine norm_ (a' := ?_) ?_ ?_
              rotate_left
              ·show Act.put _ (some 73) _ = _
               simp only [Act.put, List.setIfInBounds_toArray, List.set_cons_zero, List.set_cons_succ, i64_w, i32_w]
               rfl
              refine one_ (i := 14) (N := some 75) #[true, true, true, true, true, true, true, true, true, true, true, true, true, true, true, false, false, false, false, false, false, false, false, false, false, false, false, false, false, false, false, false, false, false, false, false, false, false, false, false, false, false] rfl rfl (one_of HT_.out laws_FnSortOrder.a9) (by decide) (fun K hK => ?_)
              refine goes_ Try.func23 laws_FnSortOrder.a9 rfl #[.int .i64 t424, .int .i64 t416] (by rfl) rfl rfl laws_FnSortOrder.a1 ?_
              with_reducible refine (impl_IsSubset.calls t424 t416 true _ A61.out).mono ?_
              rintro e w' ⟨rfl, ⟨nd, rfl⟩⟩
              refine ⟨_, rfl, ?_⟩
              refine hK.out _ _ ⟨(blk_cell BK413.out 0).trans rfl, (blk_cell BK413.out 1).trans rfl⟩ (fun hHeld => ?_)
              clear hK K
              refine norm_ (a' := ?_) ?_ ?_
              rotate_left
              ·show Act.put _ (some 75) _ = _
               simp only [Act.put, List.setIfInBounds_toArray, List.set_cons_zero, List.set_cons_succ, i64_w, i32_w]
               rfl
              refine pureS 15 76 HT_ rfl rfl ?_
              refine pureS 16 77 HT_ rfl rfl ?_
              refine pureS 18 79 HT_ rfl rfl ?_
              refine pureS 21 82 HT_ rfl rfl ?_
              refine takeS 17 78 HT_ HW_ rfl rfl hHeld ?_ laws_FnSortOrder.a8
              refine takeS 20 81 HT_ HW_ rfl rfl hHeld ?_ laws_FnSortOrder.a8
              refine one_ (i := 19) (N := some 80) #[true, true, true, true, true, true, true, true, true, true, true, true, true, true, true, true, true, true, true, true, true, true, false, false, false, false, false, false, false, false, false, false, false, false, false, false, false, false, false, false, false, false] rfl rfl (one_of HT_.out laws_FnSortOrder.a9) (by decide) (fun K hK => ?_)
              refine goes_ Try.func21 laws_FnSortOrder.a9 rfl #[.agg #[.slice Ao21 t406.length co21, .slice Ao23 t409.length co23], .int .i64 x6_2] (by rfl) rfl rfl laws_FnSortOrder.a1 ?_
              with_reducible refine (impl_KindOfSort.calls k2 _ _ t406 _ _ t409 x6_2 t426 _ ?side1 ?side2 ?side3 ?side4 A63.out).mono ?_
              (case side1 => repeat (first | exact (Kd.R_reads' HO_414000.out).2.2 | (with_reducible refine Kd.C_alloc ?_ _) | (with_reducible refine Kd.C_drewN ?_ _) | (with_reducible refine Kd.C_drew ?_)))
              (case side2 => exact (Kd.R_reads' HO_414000.out).2.1)
              (case side3 => repeat (first | exact (Kd.R_reads' HO_414001.out).2.2 | (with_reducible refine Kd.C_alloc ?_ _) | (with_reducible refine Kd.C_drewN ?_ _) | (with_reducible refine Kd.C_drew ?_)))
              (case side4 => exact (Kd.R_reads' HO_414001.out).2.1)
              rintro e w71 ⟨rfl, hb⟩
              refine ⟨_, rfl, ?_⟩
              have n0_ := Aside0.mk (Kd.R_below laws_FnSortOrder.a3 hb)
              have n1_ := Aside0.mk (Kd.R_below laws_FnSortOrder.a4 hb)
              have n2_ := Aside0.mk (blk_below (g := gb413) (o := .cells #[.slice Ao21 t406.length co21, .slice Ao23 t409.length co23] 30 (0, 0)) laws_FnSortOrder.a2 hb)
              have n3_ := Aside0.mk (below_step laws_FnSortOrder.a0 hb)
              clear HO_414000
              clear HO_414001
              clear BK413
              clear HB
              have HO_414000 := n0_
              have HO_414001 := n1_
              have BK413 := n2_
              have HB := n3_
              clear n0_ n1_ n2_ n3_
              (try clear hb)
              (try clear hb2)
              (try clear hk)
              (try clear hi)
              refine hK.out _ _ ⟨(blk_cell BK413.out 0).trans rfl, (blk_cell BK413.out 1).trans rfl⟩ (fun hHeld => ?_)
              clear hK K
              refine norm_ (a' := ?_) ?_ ?_
              rotate_left
              ·show Act.put _ (some 80) _ = _
               simp only [Act.put, List.setIfInBounds_toArray, List.set_cons_zero, List.set_cons_succ, i64_w, i32_w]
               rfl
              refine one_ (i := 22) (N := some 83) #[true, true, true, true, true, true, true, true, true, true, true, true, true, true, true, true, true, true, true, true, true, true, true, false, false, false, false, false, false, false, false, false, false, false, false, false, false, false, false, false, false, false] rfl rfl (one_of HT_.out laws_FnSortOrder.a9) (by decide) (fun K hK => ?_)
              refine goes_ Try.func21 laws_FnSortOrder.a9 rfl #[.agg #[.slice Ao21 t406.length co21, .slice Ao23 t409.length co23], .int .i64 t412] (by rfl) rfl rfl laws_FnSortOrder.a1 ?_
              with_reducible refine (impl_KindOfSort.calls k2 _ _ t406 _ _ t409 t412 t427 _ ?side1 ?side2 ?side3 ?side4 A64.out).mono ?_
              (case side1 => repeat (first | exact (Kd.R_reads' HO_414000.out).2.2 | (with_reducible refine Kd.C_alloc ?_ _) | (with_reducible refine Kd.C_drewN ?_ _) | (with_reducible refine Kd.C_drew ?_)))
              (case side2 => exact (Kd.R_reads' HO_414000.out).2.1)
              (case side3 => repeat (first | exact (Kd.R_reads' HO_414001.out).2.2 | (with_reducible refine Kd.C_alloc ?_ _) | (with_reducible refine Kd.C_drewN ?_ _) | (with_reducible refine Kd.C_drew ?_)))
              (case side4 => exact (Kd.R_reads' HO_414001.out).2.1)
              rintro e w72 ⟨rfl, hb⟩
              refine ⟨_, rfl, ?_⟩
              have n0_ := Aside0.mk (Kd.R_below laws_FnSortOrder.a3 hb)
              have n1_ := Aside0.mk (Kd.R_below laws_FnSortOrder.a4 hb)
              have n2_ := Aside0.mk (blk_below (g := gb413) (o := .cells #[.slice Ao21 t406.length co21, .slice Ao23 t409.length co23] 30 (0, 0)) laws_FnSortOrder.a2 hb)
              have n3_ := Aside0.mk (below_step laws_FnSortOrder.a0 hb)
              clear HO_414000
              clear HO_414001
              clear BK413
              clear HB
              have HO_414000 := n0_
              have HO_414001 := n1_
              have BK413 := n2_
              have HB := n3_
              clear n0_ n1_ n2_ n3_
              (try clear hb)
              (try clear hb2)
              (try clear hk)
              (try clear hi)
              refine hK.out _ _ ⟨(blk_cell BK413.out 0).trans rfl, (blk_cell BK413.out 1).trans rfl⟩ (fun hHeld => ?_)
              clear hK K
              refine norm_ (a' := ?_) ?_ ?_
              rotate_left
              ·show Act.put _ (some 83) _ = _
               simp only [Act.put, List.setIfInBounds_toArray, List.set_cons_zero, List.set_cons_succ, i64_w, i32_w]
               rfl
              refine pureS 23 84 HT_ rfl rfl ?_
              refine pureS 24 85 HT_ rfl rfl ?_
              refine pureS 25 86 HT_ rfl rfl ?_
              refine pureS 26 87 HT_ rfl rfl ?_
              refine pureS 27 88 HT_ rfl rfl ?_
              refine pureS 28 89 HT_ rfl rfl ?_
              refine pureS 29 90 HT_ rfl rfl ?_
              refine pureS 30 91 HT_ rfl rfl ?_
              refine pureS 31 92 HT_ rfl rfl ?_
              refine pureS 32 93 HT_ rfl rfl ?_
              refine pureS 33 94 HT_ rfl rfl ?_
              refine pureS 34 95 HT_ rfl rfl ?_
              refine undS 35 96 HT_ rfl rfl ?_
              refine undS 36 97 HT_ rfl rfl ?_
              refine undS 37 98 HT_ rfl rfl ?_
              refine undS 38 99 HT_ rfl rfl ?_
              refine undS 39 100 HT_ rfl rfl ?_
              refine pureS 40 101 HT_ rfl rfl ?_
              refine pureS 41 102 HT_ rfl rfl ?_
              refine done_ (done_of HT_.out laws_FnSortOrder.a9) ?_
              try go_wp2
              go_roundg k2
              case measure => have := HJ17.out; have := HK2.out; omega
              case rel => exact ⟨(wrap64 (x6_2 + 1)), (by first | rfl | (simp; done) | (simp [*]; done)), H', ⟨by have := HJ17.out; have := HK2.out; omega⟩, ⟨laws_FnSortOrder.a3⟩, ⟨laws_FnSortOrder.a4⟩, ⟨laws_FnSortOrder.a2⟩, ⟨laws_FnSortOrder.a0⟩⟩
             ·rw [if_neg c66] at H
              have c66b0 : (x6_2 == t412) = false := beq_eq_false_iff_ne.mpr c66
              have c66b1 : (x6_2 != t412) = true := bne_iff_ne.mpr c66
              replace H := Option.bind_eq_some_iff.mp H
              obtain ⟨t428, A730, H⟩ := H
              replace H : ((laws_member.f t428 t412).bind fun t429 => (if t429 = true then (some false) else (laws_FnSortOrder.l0 k2 t412 t416 (wrap64 (x6_2 + 1)) t406 t409))) = some r := H
              have A73 := Aside0.mk A730
              clear A730
              replace H := Option.bind_eq_some_iff.mp H
              obtain ⟨t429, A740, H⟩ := H
              replace H : (if t429 = true then (some false) else (laws_FnSortOrder.l0 k2 t412 t416 (wrap64 (x6_2 + 1)) t406 t409)) = some r := H
              have A74 := Aside0.mk A740
              clear A740
              by_cases c75 : t429 = true
              ·subst c75
               have H1 : (some false) = some r := by rw [if_pos rfl] at H; exact H
               clear H
               have H := H1
               clear H1
               obtain rfl := Option.some.inj H
               have hcz76_0 : wr.cell? ⟨gb413, 0, none⟩ = some (.slice Ao21 t406.length co21) := (blk_cell BK413.out 0).trans rfl
               have hcz76_1 : wr.cell? ⟨gb413, 1, none⟩ = some (.slice Ao23 t409.length co23) := (blk_cell BK413.out 1).trans rfl
               have hfz76_0 := blk_frozen BK413.out 0
               have hfz76_1 := blk_frozen BK413.out 1
               try go_wp2_with (first | ((with_reducible refine gate_callee (f := 22) rfl ?_); refine goesL_ (some 60) rfl rfl Try.func22 laws_FnSortOrder.a9 rfl #[.int .i64 t416, .int .i64 x6_2] rfl laws_FnSortOrder.a1 ?_; (with_reducible refine (laws_member.calls t416 x6_2 true _ A52.out).mono ?_); rintro e w' ⟨rfl, ⟨nd, rfl⟩⟩; refine ⟨_, rfl, ?_⟩))
               (try (rw [drewN_self wr]; generalize hq_ : World.drewN wr _ = wr; have n0_ : Aside0 (Kd.R Kd.string 9 wr w.heap.size (fun _ => True) (.slice Ao21 t406.length co21) t406) := ⟨by rw [← hq_]; exact laws_FnSortOrder.a3⟩; have n1_ : Aside0 (Kd.R k52 52 wr w.heap.size (fun _ => True) (.slice Ao23 t409.length co23) t409) := ⟨by rw [← hq_]; exact laws_FnSortOrder.a4⟩; have n2_ : Aside0 (wr.heap[gb413]? = some (.cells #[.slice Ao21 t406.length co21, .slice Ao23 t409.length co23] 30 (0, 0))) := ⟨by rw [← hq_]; exact laws_FnSortOrder.a2⟩; have n3_ : Aside0 (Below w.heap.size w wr) := ⟨by rw [← hq_]; exact laws_FnSortOrder.a0⟩; clear HO_414000 HO_414001 BK413 HB hq_; have HO_414000 := n0_; have HO_414001 := n1_; have BK413 := n2_; have HB := n3_; clear n0_ n1_ n2_ n3_))
               have n0_ := Aside0.mk (Kd.R_drew HO_414000.out)
               have n1_ := Aside0.mk (Kd.R_drew HO_414001.out)
               have n2_ := Aside0.mk (blk_drew BK413.out)
               have n3_ := Aside0.mk (below_drew1 HB.out)
               clear HO_414000
               clear HO_414001
               clear BK413
               clear HB
               have HO_414000 := n0_
               have HO_414001 := n1_
               have BK413 := n2_
               have HB := n3_
               clear n0_ n1_ n2_ n3_
               refine start_ (n := 42) (S := fun w' => w'.cell? ⟨gb413, 0, none⟩ = some (.slice Ao21 t406.length co21) ∧ w'.cell? ⟨gb413, 1, none⟩ = some (.slice Ao23 t409.length co23)) (ds := []) #[false, false, false, false, false, false, false, false, false, false, false, false, false, false, false, false, false, false, false, false, false, false, false, false, false, false, false, false, false, false, false, false, false, false, false, false, false, false, false, false, false, false] laws_FnSortOrder.a9 rfl rfl ⟨(blk_cell BK413.out 0).trans rfl, (blk_cell BK413.out 1).trans rfl⟩ (fun hHeld => ?_); refine with_tabW laws_FnSortOrder.tab13 laws_FnSortOrder.bits13 (fun HT_ HW_ => ?_)
               generalize wr.drew = w77 at HO_414000 HO_414001 BK413 HB hHeld ⊢
               refine pureS 0 61 HT_ rfl rfl ?_
               refine pureS 2 63 HT_ rfl rfl ?_
               refine pureS 4 65 HT_ rfl rfl ?_
               refine takeS 1 62 HT_ HW_ rfl rfl hHeld ?_ laws_FnSortOrder.a8
               refine one_ (i := 3) (N := some 64) #[true, true, true, true, true, false, false, false, false, false, false, false, false, false, false, false, false, false, false, false, false, false, false, false, false, false, false, false, false, false, false, false, false, false, false, false, false, false, false, false, false, false] rfl rfl (one_of HT_.out laws_FnSortOrder.a9) (by decide) (fun K hK => ?_)
               refine goes_ Try.func20 laws_FnSortOrder.a9 rfl #[.agg #[.slice Ao21 t406.length co21, .slice Ao23 t409.length co23], .int .i64 x6_2] (by rfl) rfl rfl laws_FnSortOrder.a1 ?_
               with_reducible refine (impl_BelowSort.calls k2 _ _ t406 _ _ t409 x6_2 t422 _ ?side1 ?side2 ?side3 ?side4 A53.out).mono ?_
               (case side1 => repeat (first | exact (Kd.R_reads' HO_414000.out).2.2 | (with_reducible refine Kd.C_alloc ?_ _) | (with_reducible refine Kd.C_drewN ?_ _) | (with_reducible refine Kd.C_drew ?_)))
               (case side2 => exact (Kd.R_reads' HO_414000.out).2.1)
               (case side3 => repeat (first | exact (Kd.R_reads' HO_414001.out).2.2 | (with_reducible refine Kd.C_alloc ?_ _) | (with_reducible refine Kd.C_drewN ?_ _) | (with_reducible refine Kd.C_drew ?_)))
               (case side4 => exact (Kd.R_reads' HO_414001.out).2.1)
               rintro e w78 ⟨rfl, hb⟩
               refine ⟨_, rfl, ?_⟩
               have n0_ := Aside0.mk (Kd.R_below laws_FnSortOrder.a3 hb)
               have n1_ := Aside0.mk (Kd.R_below laws_FnSortOrder.a4 hb)
               have n2_ := Aside0.mk (blk_below (g := gb413) (o := .cells #[.slice Ao21 t406.length co21, .slice Ao23 t409.length co23] 30 (0, 0)) laws_FnSortOrder.a2 hb)
               have n3_ := Aside0.mk (below_step laws_FnSortOrder.a0 hb)
               clear HO_414000
               clear HO_414001
               clear BK413
               clear HB
               have HO_414000 := n0_
               have HO_414001 := n1_
               have BK413 := n2_
               have HB := n3_
               clear n0_ n1_ n2_ n3_
               (try clear hb)
               (try clear hb2)
               (try clear hk)
               (try clear hi)
               refine hK.out _ _ ⟨(blk_cell BK413.out 0).trans rfl, (blk_cell BK413.out 1).trans rfl⟩ (fun hHeld => ?_)
               clear hK K
               refine norm_ (a' := ?_) ?_ ?_
               rotate_left
               ·show Act.put _ (some 64) _ = _
                simp only [Act.put, List.setIfInBounds_toArray, List.set_cons_zero, List.set_cons_succ, i64_w, i32_w]
                rfl
               refine one_ (i := 5) (N := some 66) #[true, true, true, true, true, true, false, false, false, false, false, false, false, false, false, false, false, false, false, false, false, false, false, false, false, false, false, false, false, false, false, false, false, false, false, false, false, false, false, false, false, false] rfl rfl (one_of HT_.out laws_FnSortOrder.a9) (by decide) (fun K hK => ?_)
               refine goes_ Try.func22 laws_FnSortOrder.a9 rfl #[.int .i64 t422, .int .i64 t412] (by rfl) rfl rfl laws_FnSortOrder.a1 ?_
               with_reducible refine (laws_member.calls t422 t412 t423 _ A54.out).mono ?_
               rintro e w' ⟨rfl, ⟨nd, rfl⟩⟩
               refine ⟨_, rfl, ?_⟩
               refine hK.out _ _ ⟨(blk_cell BK413.out 0).trans rfl, (blk_cell BK413.out 1).trans rfl⟩ (fun hHeld => ?_)
               clear hK K
               refine norm_ (a' := ?_) ?_ ?_
               rotate_left
               ·show Act.put _ (some 66) _ = _
                simp only [Act.put, List.setIfInBounds_toArray, List.set_cons_zero, List.set_cons_succ, i64_w, i32_w]
                rfl
               refine pureS 6 67 HT_ rfl rfl ?_
               refine pureS 7 68 HT_ rfl rfl ?_
               refine pureS 8 69 HT_ rfl rfl ?_
               refine pureS 9 70 HT_ rfl rfl ?_
               refine pureS 11 72 HT_ rfl rfl ?_
               refine pureS 13 74 HT_ rfl rfl ?_
               refine takeS 10 71 HT_ HW_ rfl rfl hHeld ?_ laws_FnSortOrder.a8
               refine one_ (i := 12) (N := some 73) #[true, true, true, true, true, true, true, true, true, true, true, true, true, true, false, false, false, false, false, false, false, false, false, false, false, false, false, false, false, false, false, false, false, false, false, false, false, false, false, false, false, false] rfl rfl (one_of HT_.out laws_FnSortOrder.a9) (by decide) (fun K hK => ?_)
               refine goes_ Try.func19 laws_FnSortOrder.a9 rfl #[.agg #[.slice Ao21 t406.length co21, .slice Ao23 t409.length co23], .int .i64 x6_2] (by rfl) rfl rfl laws_FnSortOrder.a1 ?_
               with_reducible refine (impl_AboveSort.calls k2 _ _ t406 _ _ t409 x6_2 t424 _ ?side1 ?side2 ?side3 ?side4 A60.out).mono ?_
               (case side1 => repeat (first | exact (Kd.R_reads' HO_414000.out).2.2 | (with_reducible refine Kd.C_alloc ?_ _) | (with_reducible refine Kd.C_drewN ?_ _) | (with_reducible refine Kd.C_drew ?_)))
               (case side2 => exact (Kd.R_reads' HO_414000.out).2.1)
               (case side3 => repeat (first | exact (Kd.R_reads' HO_414001.out).2.2 | (with_reducible refine Kd.C_alloc ?_ _) | (with_reducible refine Kd.C_drewN ?_ _) | (with_reducible refine Kd.C_drew ?_)))
               (case side4 => exact (Kd.R_reads' HO_414001.out).2.1)
               rintro e w79 ⟨rfl, hb⟩
               refine ⟨_, rfl, ?_⟩
               have n0_ := Aside0.mk (Kd.R_below laws_FnSortOrder.a3 hb)
               have n1_ := Aside0.mk (Kd.R_below laws_FnSortOrder.a4 hb)
               have n2_ := Aside0.mk (blk_below (g := gb413) (o := .cells #[.slice Ao21 t406.length co21, .slice Ao23 t409.length co23] 30 (0, 0)) laws_FnSortOrder.a2 hb)
               have n3_ := Aside0.mk (below_step laws_FnSortOrder.a0 hb)
               clear HO_414000
               clear HO_414001
               clear BK413
               clear HB
               have HO_414000 := n0_
               have HO_414001 := n1_
               have BK413 := n2_
               have HB := n3_
               clear n0_ n1_ n2_ n3_
               (try clear hb)
               (try clear hb2)
               (try clear hk)
               (try clear hi)
               refine hK.out _ _ ⟨(blk_cell BK413.out 0).trans rfl, (blk_cell BK413.out 1).trans rfl⟩ (fun hHeld => ?_)
               clear hK K
               refine norm_ (a' := ?_) ?_ ?_
               rotate_left
               ·show Act.put _ (some 73) _ = _
                simp only [Act.put, List.setIfInBounds_toArray, List.set_cons_zero, List.set_cons_succ, i64_w, i32_w]
                rfl
               refine one_ (i := 14) (N := some 75) #[true, true, true, true, true, true, true, true, true, true, true, true, true, true, true, false, false, false, false, false, false, false, false, false, false, false, false, false, false, false, false, false, false, false, false, false, false, false, false, false, false, false] rfl rfl (one_of HT_.out laws_FnSortOrder.a9) (by decide) (fun K hK => ?_)
               refine goes_ Try.func23 laws_FnSortOrder.a9 rfl #[.int .i64 t424, .int .i64 t416] (by rfl) rfl rfl laws_FnSortOrder.a1 ?_
               with_reducible refine (impl_IsSubset.calls t424 t416 true _ A61.out).mono ?_
               rintro e w' ⟨rfl, ⟨nd, rfl⟩⟩
               refine ⟨_, rfl, ?_⟩
               refine hK.out _ _ ⟨(blk_cell BK413.out 0).trans rfl, (blk_cell BK413.out 1).trans rfl⟩ (fun hHeld => ?_)
               clear hK K
               refine norm_ (a' := ?_) ?_ ?_
               rotate_left
               ·show Act.put _ (some 75) _ = _
                simp only [Act.put, List.setIfInBounds_toArray, List.set_cons_zero, List.set_cons_succ, i64_w, i32_w]
                rfl
               refine pureS 15 76 HT_ rfl rfl ?_
               refine pureS 16 77 HT_ rfl rfl ?_
               refine pureS 18 79 HT_ rfl rfl ?_
               refine pureS 21 82 HT_ rfl rfl ?_
               refine takeS 17 78 HT_ HW_ rfl rfl hHeld ?_ laws_FnSortOrder.a8
               refine takeS 20 81 HT_ HW_ rfl rfl hHeld ?_ laws_FnSortOrder.a8
               refine one_ (i := 19) (N := some 80) #[true, true, true, true, true, true, true, true, true, true, true, true, true, true, true, true, true, true, true, true, true, true, false, false, false, false, false, false, false, false, false, false, false, false, false, false, false, false, false, false, false, false] rfl rfl (one_of HT_.out laws_FnSortOrder.a9) (by decide) (fun K hK => ?_)
               refine goes_ Try.func21 laws_FnSortOrder.a9 rfl #[.agg #[.slice Ao21 t406.length co21, .slice Ao23 t409.length co23], .int .i64 x6_2] (by rfl) rfl rfl laws_FnSortOrder.a1 ?_
               with_reducible refine (impl_KindOfSort.calls k2 _ _ t406 _ _ t409 x6_2 t426 _ ?side1 ?side2 ?side3 ?side4 A63.out).mono ?_
               (case side1 => repeat (first | exact (Kd.R_reads' HO_414000.out).2.2 | (with_reducible refine Kd.C_alloc ?_ _) | (with_reducible refine Kd.C_drewN ?_ _) | (with_reducible refine Kd.C_drew ?_)))
               (case side2 => exact (Kd.R_reads' HO_414000.out).2.1)
               (case side3 => repeat (first | exact (Kd.R_reads' HO_414001.out).2.2 | (with_reducible refine Kd.C_alloc ?_ _) | (with_reducible refine Kd.C_drewN ?_ _) | (with_reducible refine Kd.C_drew ?_)))
               (case side4 => exact (Kd.R_reads' HO_414001.out).2.1)
               rintro e w80 ⟨rfl, hb⟩
               refine ⟨_, rfl, ?_⟩
               have n0_ := Aside0.mk (Kd.R_below laws_FnSortOrder.a3 hb)
               have n1_ := Aside0.mk (Kd.R_below laws_FnSortOrder.a4 hb)
               have n2_ := Aside0.mk (blk_below (g := gb413) (o := .cells #[.slice Ao21 t406.length co21, .slice Ao23 t409.length co23] 30 (0, 0)) laws_FnSortOrder.a2 hb)
               have n3_ := Aside0.mk (below_step laws_FnSortOrder.a0 hb)
               clear HO_414000
               clear HO_414001
               clear BK413
               clear HB
               have HO_414000 := n0_
               have HO_414001 := n1_
               have BK413 := n2_
               have HB := n3_
               clear n0_ n1_ n2_ n3_
               (try clear hb)
               (try clear hb2)
               (try clear hk)
               (try clear hi)
               refine hK.out _ _ ⟨(blk_cell BK413.out 0).trans rfl, (blk_cell BK413.out 1).trans rfl⟩ (fun hHeld => ?_)
               clear hK K
               refine norm_ (a' := ?_) ?_ ?_
               rotate_left
               ·show Act.put _ (some 80) _ = _
                simp only [Act.put, List.setIfInBounds_toArray, List.set_cons_zero, List.set_cons_succ, i64_w, i32_w]
                rfl
               refine one_ (i := 22) (N := some 83) #[true, true, true, true, true, true, true, true, true, true, true, true, true, true, true, true, true, true, true, true, true, true, true, false, false, false, false, false, false, false, false, false, false, false, false, false, false, false, false, false, false, false] rfl rfl (one_of HT_.out laws_FnSortOrder.a9) (by decide) (fun K hK => ?_)
               refine goes_ Try.func21 laws_FnSortOrder.a9 rfl #[.agg #[.slice Ao21 t406.length co21, .slice Ao23 t409.length co23], .int .i64 t412] (by rfl) rfl rfl laws_FnSortOrder.a1 ?_
               with_reducible refine (impl_KindOfSort.calls k2 _ _ t406 _ _ t409 t412 t427 _ ?side1 ?side2 ?side3 ?side4 A64.out).mono ?_
               (case side1 => repeat (first | exact (Kd.R_reads' HO_414000.out).2.2 | (with_reducible refine Kd.C_alloc ?_ _) | (with_reducible refine Kd.C_drewN ?_ _) | (with_reducible refine Kd.C_drew ?_)))
               (case side2 => exact (Kd.R_reads' HO_414000.out).2.1)
               (case side3 => repeat (first | exact (Kd.R_reads' HO_414001.out).2.2 | (with_reducible refine Kd.C_alloc ?_ _) | (with_reducible refine Kd.C_drewN ?_ _) | (with_reducible refine Kd.C_drew ?_)))
               (case side4 => exact (Kd.R_reads' HO_414001.out).2.1)
               rintro e w81 ⟨rfl, hb⟩
               refine ⟨_, rfl, ?_⟩
               have n0_ := Aside0.mk (Kd.R_below laws_FnSortOrder.a3 hb)
               have n1_ := Aside0.mk (Kd.R_below laws_FnSortOrder.a4 hb)
               have n2_ := Aside0.mk (blk_below (g := gb413) (o := .cells #[.slice Ao21 t406.length co21, .slice Ao23 t409.length co23] 30 (0, 0)) laws_FnSortOrder.a2 hb)
               have n3_ := Aside0.mk (below_step laws_FnSortOrder.a0 hb)
               clear HO_414000
               clear HO_414001
               clear BK413
               clear HB
               have HO_414000 := n0_
               have HO_414001 := n1_
               have BK413 := n2_
               have HB := n3_
               clear n0_ n1_ n2_ n3_
               (try clear hb)
               (try clear hb2)
               (try clear hk)
               (try clear hi)
               refine hK.out _ _ ⟨(blk_cell BK413.out 0).trans rfl, (blk_cell BK413.out 1).trans rfl⟩ (fun hHeld => ?_)
               clear hK K
               refine norm_ (a' := ?_) ?_ ?_
               rotate_left
               ·show Act.put _ (some 83) _ = _
                simp only [Act.put, List.setIfInBounds_toArray, List.set_cons_zero, List.set_cons_succ, i64_w, i32_w]
                rfl
               refine pureS 23 84 HT_ rfl rfl ?_
               refine pureS 24 85 HT_ rfl rfl ?_
               refine pureS 25 86 HT_ rfl rfl ?_
               refine pureS 26 87 HT_ rfl rfl ?_
               refine pureS 27 88 HT_ rfl rfl ?_
               refine pureS 28 89 HT_ rfl rfl ?_
               refine pureS 29 90 HT_ rfl rfl ?_
               refine pureS 30 91 HT_ rfl rfl ?_
               refine pureS 31 92 HT_ rfl rfl ?_
               refine pureS 32 93 HT_ rfl rfl ?_
               refine pureS 33 94 HT_ rfl rfl ?_
               refine pureS 34 95 HT_ rfl rfl ?_
               refine pureS 36 97 HT_ rfl rfl ?_
               refine pureS 38 99 HT_ rfl rfl ?_
               refine takeS 35 96 HT_ HW_ rfl rfl hHeld ?_ laws_FnSortOrder.a8
               refine one_ (i := 37) (N := some 98) #[true, true, true, true, true, true, true, true, true, true, true, true, true, true, true, true, true, true, true, true, true, true, true, true, true, true, true, true, true, true, true, true, true, true, true, true, true, true, true, false, false, false] rfl rfl (one_of HT_.out laws_FnSortOrder.a9) (by decide) (fun K hK => ?_)
               refine goes_ Try.func19 laws_FnSortOrder.a9 rfl #[.agg #[.slice Ao21 t406.length co21, .slice Ao23 t409.length co23], .int .i64 x6_2] (by rfl) rfl rfl laws_FnSortOrder.a1 ?_
               with_reducible refine (impl_AboveSort.calls k2 _ _ t406 _ _ t409 x6_2 t428 _ ?side1 ?side2 ?side3 ?side4 A73.out).mono ?_
               (case side1 => repeat (first | exact (Kd.R_reads' HO_414000.out).2.2 | (with_reducible refine Kd.C_alloc ?_ _) | (with_reducible refine Kd.C_drewN ?_ _) | (with_reducible refine Kd.C_drew ?_)))
               (case side2 => exact (Kd.R_reads' HO_414000.out).2.1)
               (case side3 => repeat (first | exact (Kd.R_reads' HO_414001.out).2.2 | (with_reducible refine Kd.C_alloc ?_ _) | (with_reducible refine Kd.C_drewN ?_ _) | (with_reducible refine Kd.C_drew ?_)))
               (case side4 => exact (Kd.R_reads' HO_414001.out).2.1)
               rintro e w82 ⟨rfl, hb⟩
               refine ⟨_, rfl, ?_⟩
               have n0_ := Aside0.mk (Kd.R_below laws_FnSortOrder.a3 hb)
               have n1_ := Aside0.mk (Kd.R_below laws_FnSortOrder.a4 hb)
               have n2_ := Aside0.mk (blk_below (g := gb413) (o := .cells #[.slice Ao21 t406.length co21, .slice Ao23 t409.length co23] 30 (0, 0)) laws_FnSortOrder.a2 hb)
               have n3_ := Aside0.mk (below_step laws_FnSortOrder.a0 hb)
               clear HO_414000
               clear HO_414001
               clear BK413
               clear HB
               have HO_414000 := n0_
               have HO_414001 := n1_
               have BK413 := n2_
               have HB := n3_
               clear n0_ n1_ n2_ n3_
               (try clear hb)
               (try clear hb2)
               (try clear hk)
               (try clear hi)
               refine hK.out _ _ ⟨(blk_cell BK413.out 0).trans rfl, (blk_cell BK413.out 1).trans rfl⟩ (fun hHeld => ?_)
               clear hK K
               refine norm_ (a' := ?_) ?_ ?_
               rotate_left
               ·show Act.put _ (some 98) _ = _
                simp only [Act.put, List.setIfInBounds_toArray, List.set_cons_zero, List.set_cons_succ, i64_w, i32_w]
                rfl
               refine one_ (i := 39) (N := some 100) #[true, true, true, true, true, true, true, true, true, true, true, true, true, true, true, true, true, true, true, true, true, true, true, true, true, true, true, true, true, true, true, true, true, true, true, true, true, true, true, true, false, false] rfl rfl (one_of HT_.out laws_FnSortOrder.a9) (by decide) (fun K hK => ?_)
               refine goes_ Try.func22 laws_FnSortOrder.a9 rfl #[.int .i64 t428, .int .i64 t412] (by rfl) rfl rfl laws_FnSortOrder.a1 ?_
               with_reducible refine (laws_member.calls t428 t412 true _ A74.out).mono ?_
               rintro e w' ⟨rfl, ⟨nd, rfl⟩⟩
               refine ⟨_, rfl, ?_⟩
               refine hK.out _ _ ⟨(blk_cell BK413.out 0).trans rfl, (blk_cell BK413.out 1).trans rfl⟩ (fun hHeld => ?_)
               clear hK K
               refine norm_ (a' := ?_) ?_ ?_
               rotate_left
               ·show Act.put _ (some 100) _ = _
                simp only [Act.put, List.setIfInBounds_toArray, List.set_cons_zero, List.set_cons_succ, i64_w, i32_w]
                rfl
               refine pureS 40 101 HT_ rfl rfl ?_
               refine pureS 41 102 HT_ rfl rfl ?_
               refine done_ (done_of HT_.out laws_FnSortOrder.a9) ?_
               try go_wp2
               go_ret
               exact ⟨laws_FnSortOrder.a10, laws_FnSortOrder.a0⟩
              ·replace c75 := Bool.eq_false_iff.mpr c75
               subst c75
               have H1 : (laws_FnSortOrder.l0 k2 t412 t416 (wrap64 (x6_2 + 1)) t406 t409) = some r := by rw [if_neg (show ¬ (false = true) by decide)] at H; exact H
               clear H
               have H := H1
               clear H1
               have H' := Aside0.mk H
               clear H
               have hcz83_0 : wr.cell? ⟨gb413, 0, none⟩ = some (.slice Ao21 t406.length co21) := (blk_cell BK413.out 0).trans rfl
               have hcz83_1 : wr.cell? ⟨gb413, 1, none⟩ = some (.slice Ao23 t409.length co23) := (blk_cell BK413.out 1).trans rfl
               have hfz83_0 := blk_frozen BK413.out 0
               have hfz83_1 := blk_frozen BK413.out 1
               try go_wp2_with (first | ((with_reducible refine gate_callee (f := 22) rfl ?_); refine goesL_ (some 60) rfl rfl Try.func22 laws_FnSortOrder.a9 rfl #[.int .i64 t416, .int .i64 x6_2] rfl laws_FnSortOrder.a1 ?_; (with_reducible refine (laws_member.calls t416 x6_2 true _ A52.out).mono ?_); rintro e w' ⟨rfl, ⟨nd, rfl⟩⟩; refine ⟨_, rfl, ?_⟩))
               (try (rw [drewN_self wr]; generalize hq_ : World.drewN wr _ = wr; have n0_ : Aside0 (Kd.R Kd.string 9 wr w.heap.size (fun _ => True) (.slice Ao21 t406.length co21) t406) := ⟨by rw [← hq_]; exact laws_FnSortOrder.a3⟩; have n1_ : Aside0 (Kd.R k52 52 wr w.heap.size (fun _ => True) (.slice Ao23 t409.length co23) t409) := ⟨by rw [← hq_]; exact laws_FnSortOrder.a4⟩; have n2_ : Aside0 (wr.heap[gb413]? = some (.cells #[.slice Ao21 t406.length co21, .slice Ao23 t409.length co23] 30 (0, 0))) := ⟨by rw [← hq_]; exact laws_FnSortOrder.a2⟩; have n3_ : Aside0 (Below w.heap.size w wr) := ⟨by rw [← hq_]; exact laws_FnSortOrder.a0⟩; clear HO_414000 HO_414001 BK413 HB hq_; have HO_414000 := n0_; have HO_414001 := n1_; have BK413 := n2_; have HB := n3_; clear n0_ n1_ n2_ n3_))
               have n0_ := Aside0.mk (Kd.R_drew HO_414000.out)
               have n1_ := Aside0.mk (Kd.R_drew HO_414001.out)
               have n2_ := Aside0.mk (blk_drew BK413.out)
               have n3_ := Aside0.mk (below_drew1 HB.out)
               clear HO_414000
               clear HO_414001
               clear BK413
               clear HB
               have HO_414000 := n0_
               have HO_414001 := n1_
               have BK413 := n2_
               have HB := n3_
               clear n0_ n1_ n2_ n3_
               refine start_ (n := 42) (S := fun w' => w'.cell? ⟨gb413, 0, none⟩ = some (.slice Ao21 t406.length co21) ∧ w'.cell? ⟨gb413, 1, none⟩ = some (.slice Ao23 t409.length co23)) (ds := []) #[false, false, false, false, false, false, false, false, false, false, false, false, false, false, false, false, false, false, false, false, false, false, false, false, false, false, false, false, false, false, false, false, false, false, false, false, false, false, false, false, false, false] laws_FnSortOrder.a9 rfl rfl ⟨(blk_cell BK413.out 0).trans rfl, (blk_cell BK413.out 1).trans rfl⟩ (fun hHeld => ?_); refine with_tabW laws_FnSortOrder.tab13 laws_FnSortOrder.bits13 (fun HT_ HW_ => ?_)
               generalize wr.drew = w84 at HO_414000 HO_414001 BK413 HB hHeld ⊢
               refine pureS 0 61 HT_ rfl rfl ?_
               refine pureS 2 63 HT_ rfl rfl ?_
               refine pureS 4 65 HT_ rfl rfl ?_
               refine takeS 1 62 HT_ HW_ rfl rfl hHeld ?_ laws_FnSortOrder.a8
               refine one_ (i := 3) (N := some 64) #[true, true, true, true, true, false, false, false, false, false, false, false, false, false, false, false, false, false, false, false, false, false, false, false, false, false, false, false, false, false, false, false, false, false, false, false, false, false, false, false, false, false] rfl rfl (one_of HT_.out laws_FnSortOrder.a9) (by decide) (fun K hK => ?_)
               refine goes_ Try.func20 laws_FnSortOrder.a9 rfl #[.agg #[.slice Ao21 t406.length co21, .slice Ao23 t409.length co23], .int .i64 x6_2] (by rfl) rfl rfl laws_FnSortOrder.a1 ?_
               with_reducible refine (impl_BelowSort.calls k2 _ _ t406 _ _ t409 x6_2 t422 _ ?side1 ?side2 ?side3 ?side4 A53.out).mono ?_
               (case side1 => repeat (first | exact (Kd.R_reads' HO_414000.out).2.2 | (with_reducible refine Kd.C_alloc ?_ _) | (with_reducible refine Kd.C_drewN ?_ _) | (with_reducible refine Kd.C_drew ?_)))
               (case side2 => exact (Kd.R_reads' HO_414000.out).2.1)
               (case side3 => repeat (first | exact (Kd.R_reads' HO_414001.out).2.2 | (with_reducible refine Kd.C_alloc ?_ _) | (with_reducible refine Kd.C_drewN ?_ _) | (with_reducible refine Kd.C_drew ?_)))
               (case side4 => exact (Kd.R_reads' HO_414001.out).2.1)
               rintro e w85 ⟨rfl, hb⟩
               refine ⟨_, rfl, ?_⟩
               have n0_ := Aside0.mk (Kd.R_below laws_FnSortOrder.a3 hb)
               have n1_ := Aside0.mk (Kd.R_below laws_FnSortOrder.a4 hb)
               have n2_ := Aside0.mk (blk_below (g := gb413) (o := .cells #[.slice Ao21 t406.length co21, .slice Ao23 t409.length co23] 30 (0, 0)) laws_FnSortOrder.a2 hb)
               have n3_ := Aside0.mk (below_step laws_FnSortOrder.a0 hb)
               clear HO_414000
               clear HO_414001
               clear BK413
               clear HB
               have HO_414000 := n0_
               have HO_414001 := n1_
               have BK413 := n2_
               have HB := n3_
               clear n0_ n1_ n2_ n3_
               (try clear hb)
               (try clear hb2)
               (try clear hk)
               (try clear hi)
               refine hK.out _ _ ⟨(blk_cell BK413.out 0).trans rfl, (blk_cell BK413.out 1).trans rfl⟩ (fun hHeld => ?_)
               clear hK K
               refine norm_ (a' := ?_) ?_ ?_
               rotate_left
               ·show Act.put _ (some 64) _ = _
                simp only [Act.put, List.setIfInBounds_toArray, List.set_cons_zero, List.set_cons_succ, i64_w, i32_w]
                rfl
               refine one_ (i := 5) (N := some 66) #[true, true, true, true, true, true, false, false, false, false, false, false, false, false, false, false, false, false, false, false, false, false, false, false, false, false, false, false, false, false, false, false, false, false, false, false, false, false, false, false, false, false] rfl rfl (one_of HT_.out laws_FnSortOrder.a9) (by decide) (fun K hK => ?_)
               refine goes_ Try.func22 laws_FnSortOrder.a9 rfl #[.int .i64 t422, .int .i64 t412] (by rfl) rfl rfl laws_FnSortOrder.a1 ?_
               with_reducible refine (laws_member.calls t422 t412 t423 _ A54.out).mono ?_
               rintro e w' ⟨rfl, ⟨nd, rfl⟩⟩
               refine ⟨_, rfl, ?_⟩
               refine hK.out _ _ ⟨(blk_cell BK413.out 0).trans rfl, (blk_cell BK413.out 1).trans rfl⟩ (fun hHeld => ?_)
               clear hK K
               refine norm_ (a' := ?_) ?_ ?_
               rotate_left
               ·show Act.put _ (some 66) _ = _
                simp only [Act.put, List.setIfInBounds_toArray, List.set_cons_zero, List.set_cons_succ, i64_w, i32_w]
                rfl
               refine pureS 6 67 HT_ rfl rfl ?_
               refine pureS 7 68 HT_ rfl rfl ?_
               refine pureS 8 69 HT_ rfl rfl ?_
               refine pureS 9 70 HT_ rfl rfl ?_
               refine pureS 11 72 HT_ rfl rfl ?_
               refine pureS 13 74 HT_ rfl rfl ?_
               refine takeS 10 71 HT_ HW_ rfl rfl hHeld ?_ laws_FnSortOrder.a8
               refine one_ (i := 12) (N := some 73) #[true, true, true, true, true, true, true, true, true, true, true, true, true, true, false, false, false, false, false, false, false, false, false, false, false, false, false, false, false, false, false, false, false, false, false, false, false, false, false, false, false, false] rfl rfl (one_of HT_.out laws_FnSortOrder.a9) (by decide) (fun K hK => ?_)
               refine goes_ Try.func19 laws_FnSortOrder.a9 rfl #[.agg #[.slice Ao21 t406.length co21, .slice Ao23 t409.length co23], .int .i64 x6_2] (by rfl) rfl rfl laws_FnSortOrder.a1 ?_
               with_reducible refine (impl_AboveSort.calls k2 _ _ t406 _ _ t409 x6_2 t424 _ ?side1 ?side2 ?side3 ?side4 A60.out).mono ?_
               (case side1 => repeat (first | exact (Kd.R_reads' HO_414000.out).2.2 | (with_reducible refine Kd.C_alloc ?_ _) | (with_reducible refine Kd.C_drewN ?_ _) | (with_reducible refine Kd.C_drew ?_)))
               (case side2 => exact (Kd.R_reads' HO_414000.out).2.1)
               (case side3 => repeat (first | exact (Kd.R_reads' HO_414001.out).2.2 | (with_reducible refine Kd.C_alloc ?_ _) | (with_reducible refine Kd.C_drewN ?_ _) | (with_reducible refine Kd.C_drew ?_)))
               (case side4 => exact (Kd.R_reads' HO_414001.out).2.1)
               rintro e w86 ⟨rfl, hb⟩
               refine ⟨_, rfl, ?_⟩
               have n0_ := Aside0.mk (Kd.R_below laws_FnSortOrder.a3 hb)
               have n1_ := Aside0.mk (Kd.R_below laws_FnSortOrder.a4 hb)
               have n2_ := Aside0.mk (blk_below (g := gb413) (o := .cells #[.slice Ao21 t406.length co21, .slice Ao23 t409.length co23] 30 (0, 0)) laws_FnSortOrder.a2 hb)
               have n3_ := Aside0.mk (below_step laws_FnSortOrder.a0 hb)
               clear HO_414000
               clear HO_414001
               clear BK413
               clear HB
               have HO_414000 := n0_
               have HO_414001 := n1_
               have BK413 := n2_
               have HB := n3_
               clear n0_ n1_ n2_ n3_
               (try clear hb)
               (try clear hb2)
               (try clear hk)
               (try clear hi)
               refine hK.out _ _ ⟨(blk_cell BK413.out 0).trans rfl, (blk_cell BK413.out 1).trans rfl⟩ (fun hHeld => ?_)
               clear hK K
               refine norm_ (a' := ?_) ?_ ?_
               rotate_left
               ·show Act.put _ (some 73) _ = _
                simp only [Act.put, List.setIfInBounds_toArray, List.set_cons_zero, List.set_cons_succ, i64_w, i32_w]
                rfl
               refine one_ (i := 14) (N := some 75) #[true, true, true, true, true, true, true, true, true, true, true, true, true, true, true, false, false, false, false, false, false, false, false, false, false, false, false, false, false, false, false, false, false, false, false, false, false, false, false, false, false, false] rfl rfl (one_of HT_.out laws_FnSortOrder.a9) (by decide) (fun K hK => ?_)
               refine goes_ Try.func23 laws_FnSortOrder.a9 rfl #[.int .i64 t424, .int .i64 t416] (by rfl) rfl rfl laws_FnSortOrder.a1 ?_
               with_reducible refine (impl_IsSubset.calls t424 t416 true _ A61.out).mono ?_
               rintro e w' ⟨rfl, ⟨nd, rfl⟩⟩
               refine ⟨_, rfl, ?_⟩
               refine hK.out _ _ ⟨(blk_cell BK413.out 0).trans rfl, (blk_cell BK413.out 1).trans rfl⟩ (fun hHeld => ?_)
               clear hK K
               refine norm_ (a' := ?_) ?_ ?_
               rotate_left
               ·show Act.put _ (some 75) _ = _
                simp only [Act.put, List.setIfInBounds_toArray, List.set_cons_zero, List.set_cons_succ, i64_w, i32_w]
                rfl
               refine pureS 15 76 HT_ rfl rfl ?_
               refine pureS 16 77 HT_ rfl rfl ?_
               refine pureS 18 79 HT_ rfl rfl ?_
               refine pureS 21 82 HT_ rfl rfl ?_
               refine takeS 17 78 HT_ HW_ rfl rfl hHeld ?_ laws_FnSortOrder.a8
               refine takeS 20 81 HT_ HW_ rfl rfl hHeld ?_ laws_FnSortOrder.a8
               refine one_ (i := 19) (N := some 80) #[true, true, true, true, true, true, true, true, true, true, true, true, true, true, true, true, true, true, true, true, true, true, false, false, false, false, false, false, false, false, false, false, false, false, false, false, false, false, false, false, false, false] rfl rfl (one_of HT_.out laws_FnSortOrder.a9) (by decide) (fun K hK => ?_)
               refine goes_ Try.func21 laws_FnSortOrder.a9 rfl #[.agg #[.slice Ao21 t406.length co21, .slice Ao23 t409.length co23], .int .i64 x6_2] (by rfl) rfl rfl laws_FnSortOrder.a1 ?_
               with_reducible refine (impl_KindOfSort.calls k2 _ _ t406 _ _ t409 x6_2 t426 _ ?side1 ?side2 ?side3 ?side4 A63.out).mono ?_
               (case side1 => repeat (first | exact (Kd.R_reads' HO_414000.out).2.2 | (with_reducible refine Kd.C_alloc ?_ _) | (with_reducible refine Kd.C_drewN ?_ _) | (with_reducible refine Kd.C_drew ?_)))
               (case side2 => exact (Kd.R_reads' HO_414000.out).2.1)
               (case side3 => repeat (first | exact (Kd.R_reads' HO_414001.out).2.2 | (with_reducible refine Kd.C_alloc ?_ _) | (with_reducible refine Kd.C_drewN ?_ _) | (with_reducible refine Kd.C_drew ?_)))
               (case side4 => exact (Kd.R_reads' HO_414001.out).2.1)
               rintro e w87 ⟨rfl, hb⟩
               refine ⟨_, rfl, ?_⟩
               have n0_ := Aside0.mk (Kd.R_below laws_FnSortOrder.a3 hb)
               have n1_ := Aside0.mk (Kd.R_below laws_FnSortOrder.a4 hb)
               have n2_ := Aside0.mk (blk_below (g := gb413) (o := .cells #[.slice Ao21 t406.length co21, .slice Ao23 t409.length co23] 30 (0, 0)) laws_FnSortOrder.a2 hb)
               have n3_ := Aside0.mk (below_step laws_FnSortOrder.a0 hb)
               clear HO_414000
               clear HO_414001
               clear BK413
               clear HB
               have HO_414000 := n0_
               have HO_414001 := n1_
               have BK413 := n2_
               have HB := n3_
               clear n0_ n1_ n2_ n3_
               (try clear hb)
               (try clear hb2)
               (try clear hk)
               (try clear hi)
               refine hK.out _ _ ⟨(blk_cell BK413.out 0).trans rfl, (blk_cell BK413.out 1).trans rfl⟩ (fun hHeld => ?_)
               clear hK K
               refine norm_ (a' := ?_) ?_ ?_
               rotate_left
               ·show Act.put _ (some 80) _ = _
                simp only [Act.put, List.setIfInBounds_toArray, List.set_cons_zero, List.set_cons_succ, i64_w, i32_w]
                rfl
               refine one_ (i := 22) (N := some 83) #[true, true, true, true, true, true, true, true, true, true, true, true, true, true, true, true, true, true, true, true, true, true, true, false, false, false, false, false, false, false, false, false, false, false, false, false, false, false, false, false, false, false] rfl rfl (one_of HT_.out laws_FnSortOrder.a9) (by decide) (fun K hK => ?_)
               refine goes_ Try.func21 laws_FnSortOrder.a9 rfl #[.agg #[.slice Ao21 t406.length co21, .slice Ao23 t409.length co23], .int .i64 t412] (by rfl) rfl rfl laws_FnSortOrder.a1 ?_
               with_reducible refine (impl_KindOfSort.calls k2 _ _ t406 _ _ t409 t412 t427 _ ?side1 ?side2 ?side3 ?side4 A64.out).mono ?_
               (case side1 => repeat (first | exact (Kd.R_reads' HO_414000.out).2.2 | (with_reducible refine Kd.C_alloc ?_ _) | (with_reducible refine Kd.C_drewN ?_ _) | (with_reducible refine Kd.C_drew ?_)))
               (case side2 => exact (Kd.R_reads' HO_414000.out).2.1)
               (case side3 => repeat (first | exact (Kd.R_reads' HO_414001.out).2.2 | (with_reducible refine Kd.C_alloc ?_ _) | (with_reducible refine Kd.C_drewN ?_ _) | (with_reducible refine Kd.C_drew ?_)))
               (case side4 => exact (Kd.R_reads' HO_414001.out).2.1)
               rintro e w88 ⟨rfl, hb⟩
               refine ⟨_, rfl, ?_⟩
               have n0_ := Aside0.mk (Kd.R_below laws_FnSortOrder.a3 hb)
               have n1_ := Aside0.mk (Kd.R_below laws_FnSortOrder.a4 hb)
               have n2_ := Aside0.mk (blk_below (g := gb413) (o := .cells #[.slice Ao21 t406.length co21, .slice Ao23 t409.length co23] 30 (0, 0)) laws_FnSortOrder.a2 hb)
               have n3_ := Aside0.mk (below_step laws_FnSortOrder.a0 hb)
               clear HO_414000
               clear HO_414001
               clear BK413
               clear HB
               have HO_414000 := n0_
               have HO_414001 := n1_
               have BK413 := n2_
               have HB := n3_
               clear n0_ n1_ n2_ n3_
               (try clear hb)
               (try clear hb2)
               (try clear hk)
               (try clear hi)
               refine hK.out _ _ ⟨(blk_cell BK413.out 0).trans rfl, (blk_cell BK413.out 1).trans rfl⟩ (fun hHeld => ?_)
               clear hK K
               refine norm_ (a' := ?_) ?_ ?_
               rotate_left
               ·show Act.put _ (some 83) _ = _
                simp only [Act.put, List.setIfInBounds_toArray, List.set_cons_zero, List.set_cons_succ, i64_w, i32_w]
                rfl
               refine pureS 23 84 HT_ rfl rfl ?_
               refine pureS 24 85 HT_ rfl rfl ?_
               refine pureS 25 86 HT_ rfl rfl ?_
               refine pureS 26 87 HT_ rfl rfl ?_
               refine pureS 27 88 HT_ rfl rfl ?_
               refine pureS 28 89 HT_ rfl rfl ?_
               refine pureS 29 90 HT_ rfl rfl ?_
               refine pureS 30 91 HT_ rfl rfl ?_
               refine pureS 31 92 HT_ rfl rfl ?_
               refine pureS 32 93 HT_ rfl rfl ?_
               refine pureS 33 94 HT_ rfl rfl ?_
               refine pureS 34 95 HT_ rfl rfl ?_
               refine pureS 36 97 HT_ rfl rfl ?_
               refine pureS 38 99 HT_ rfl rfl ?_
               refine takeS 35 96 HT_ HW_ rfl rfl hHeld ?_ laws_FnSortOrder.a8
               refine one_ (i := 37) (N := some 98) #[true, true, true, true, true, true, true, true, true, true, true, true, true, true, true, true, true, true, true, true, true, true, true, true, true, true, true, true, true, true, true, true, true, true, true, true, true, true, true, false, false, false] rfl rfl (one_of HT_.out laws_FnSortOrder.a9) (by decide) (fun K hK => ?_)
               refine goes_ Try.func19 laws_FnSortOrder.a9 rfl #[.agg #[.slice Ao21 t406.length co21, .slice Ao23 t409.length co23], .int .i64 x6_2] (by rfl) rfl rfl laws_FnSortOrder.a1 ?_
               with_reducible refine (impl_AboveSort.calls k2 _ _ t406 _ _ t409 x6_2 t428 _ ?side1 ?side2 ?side3 ?side4 A73.out).mono ?_
               (case side1 => repeat (first | exact (Kd.R_reads' HO_414000.out).2.2 | (with_reducible refine Kd.C_alloc ?_ _) | (with_reducible refine Kd.C_drewN ?_ _) | (with_reducible refine Kd.C_drew ?_)))
               (case side2 => exact (Kd.R_reads' HO_414000.out).2.1)
               (case side3 => repeat (first | exact (Kd.R_reads' HO_414001.out).2.2 | (with_reducible refine Kd.C_alloc ?_ _) | (with_reducible refine Kd.C_drewN ?_ _) | (with_reducible refine Kd.C_drew ?_)))
               (case side4 => exact (Kd.R_reads' HO_414001.out).2.1)
               rintro e w89 ⟨rfl, hb⟩
               refine ⟨_, rfl, ?_⟩
               have n0_ := Aside0.mk (Kd.R_below laws_FnSortOrder.a3 hb)
               have n1_ := Aside0.mk (Kd.R_below laws_FnSortOrder.a4 hb)
               have n2_ := Aside0.mk (blk_below (g := gb413) (o := .cells #[.slice Ao21 t406.length co21, .slice Ao23 t409.length co23] 30 (0, 0)) laws_FnSortOrder.a2 hb)
               have n3_ := Aside0.mk (below_step laws_FnSortOrder.a0 hb)
               clear HO_414000
               clear HO_414001
               clear BK413
               clear HB
               have HO_414000 := n0_
               have HO_414001 := n1_
               have BK413 := n2_
               have HB := n3_
               clear n0_ n1_ n2_ n3_
               (try clear hb)
               (try clear hb2)
               (try clear hk)
               (try clear hi)
               refine hK.out _ _ ⟨(blk_cell BK413.out 0).trans rfl, (blk_cell BK413.out 1).trans rfl⟩ (fun hHeld => ?_)
               clear hK K
               refine norm_ (a' := ?_) ?_ ?_
               rotate_left
               ·show Act.put _ (some 98) _ = _
                simp only [Act.put, List.setIfInBounds_toArray, List.set_cons_zero, List.set_cons_succ, i64_w, i32_w]
                rfl
               refine one_ (i := 39) (N := some 100) #[true, true, true, true, true, true, true, true, true, true, true, true, true, true, true, true, true, true, true, true, true, true, true, true, true, true, true, true, true, true, true, true, true, true, true, true, true, true, true, true, false, false] rfl rfl (one_of HT_.out laws_FnSortOrder.a9) (by decide) (fun K hK => ?_)
               refine goes_ Try.func22 laws_FnSortOrder.a9 rfl #[.int .i64 t428, .int .i64 t412] (by rfl) rfl rfl laws_FnSortOrder.a1 ?_
               with_reducible refine (laws_member.calls t428 t412 false _ A74.out).mono ?_
               rintro e w' ⟨rfl, ⟨nd, rfl⟩⟩
               refine ⟨_, rfl, ?_⟩
               refine hK.out _ _ ⟨(blk_cell BK413.out 0).trans rfl, (blk_cell BK413.out 1).trans rfl⟩ (fun hHeld => ?_)
               clear hK K
               refine norm_ (a' := ?_) ?_ ?_
               rotate_left
               ·show Act.put _ (some 100) _ = _
                simp only [Act.put, List.setIfInBounds_toArray, List.set_cons_zero, List.set_cons_succ, i64_w, i32_w]
                rfl
               refine pureS 40 101 HT_ rfl rfl ?_
               refine pureS 41 102 HT_ rfl rfl ?_
               refine done_ (done_of HT_.out laws_FnSortOrder.a9) ?_
               try go_wp2
               go_roundg k2
               case measure => have := HJ17.out; have := HK2.out; omega
               case rel => exact ⟨(wrap64 (x6_2 + 1)), (by first | rfl | (simp; done) | (simp [*]; done)), H', ⟨by have := HJ17.out; have := HK2.out; omega⟩, ⟨laws_FnSortOrder.a3⟩, ⟨laws_FnSortOrder.a4⟩, ⟨laws_FnSortOrder.a2⟩, ⟨laws_FnSortOrder.a0⟩⟩
            ·rw [if_neg c65] at H
             have c65b0 : (t426 == t427) = false := beq_eq_false_iff_ne.mpr c65
             have c65b1 : (t426 != t427) = true := bne_iff_ne.mpr c65
             obtain rfl := Option.some.inj H
             have hcz90_0 : wr.cell? ⟨gb413, 0, none⟩ = some (.slice Ao21 t406.length co21) := (blk_cell BK413.out 0).trans rfl
             have hcz90_1 : wr.cell? ⟨gb413, 1, none⟩ = some (.slice Ao23 t409.length co23) := (blk_cell BK413.out 1).trans rfl
             have hfz90_0 := blk_frozen BK413.out 0
             have hfz90_1 := blk_frozen BK413.out 1
             try go_wp2_with (first | ((with_reducible refine gate_callee (f := 22) rfl ?_); refine goesL_ (some 60) rfl rfl Try.func22 laws_FnSortOrder.a9 rfl #[.int .i64 t416, .int .i64 x6_2] rfl laws_FnSortOrder.a1 ?_; (with_reducible refine (laws_member.calls t416 x6_2 true _ A52.out).mono ?_); rintro e w' ⟨rfl, ⟨nd, rfl⟩⟩; refine ⟨_, rfl, ?_⟩))
             (try (rw [drewN_self wr]; generalize hq_ : World.drewN wr _ = wr; have n0_ : Aside0 (Kd.R Kd.string 9 wr w.heap.size (fun _ => True) (.slice Ao21 t406.length co21) t406) := ⟨by rw [← hq_]; exact laws_FnSortOrder.a3⟩; have n1_ : Aside0 (Kd.R k52 52 wr w.heap.size (fun _ => True) (.slice Ao23 t409.length co23) t409) := ⟨by rw [← hq_]; exact laws_FnSortOrder.a4⟩; have n2_ : Aside0 (wr.heap[gb413]? = some (.cells #[.slice Ao21 t406.length co21, .slice Ao23 t409.length co23] 30 (0, 0))) := ⟨by rw [← hq_]; exact laws_FnSortOrder.a2⟩; have n3_ : Aside0 (Below w.heap.size w wr) := ⟨by rw [← hq_]; exact laws_FnSortOrder.a0⟩; clear HO_414000 HO_414001 BK413 HB hq_; have HO_414000 := n0_; have HO_414001 := n1_; have BK413 := n2_; have HB := n3_; clear n0_ n1_ n2_ n3_))
             have n0_ := Aside0.mk (Kd.R_drew HO_414000.out)
             have n1_ := Aside0.mk (Kd.R_drew HO_414001.out)
             have n2_ := Aside0.mk (blk_drew BK413.out)
             have n3_ := Aside0.mk (below_drew1 HB.out)
             clear HO_414000
             clear HO_414001
             clear BK413
             clear HB
             have HO_414000 := n0_
             have HO_414001 := n1_
             have BK413 := n2_
             have HB := n3_
             clear n0_ n1_ n2_ n3_
             refine start_ (n := 42) (S := fun w' => w'.cell? ⟨gb413, 0, none⟩ = some (.slice Ao21 t406.length co21) ∧ w'.cell? ⟨gb413, 1, none⟩ = some (.slice Ao23 t409.length co23)) (ds := []) #[false, false, false, false, false, false, false, false, false, false, false, false, false, false, false, false, false, false, false, false, false, false, false, false, false, false, false, false, false, false, false, false, false, false, false, false, false, false, false, false, false, false] laws_FnSortOrder.a9 rfl rfl ⟨(blk_cell BK413.out 0).trans rfl, (blk_cell BK413.out 1).trans rfl⟩ (fun hHeld => ?_); refine with_tabW laws_FnSortOrder.tab13 laws_FnSortOrder.bits13 (fun HT_ HW_ => ?_)
             generalize wr.drew = w91 at HO_414000 HO_414001 BK413 HB hHeld ⊢
             refine pureS 0 61 HT_ rfl rfl ?_
             refine pureS 2 63 HT_ rfl rfl ?_
             refine pureS 4 65 HT_ rfl rfl ?_
             refine takeS 1 62 HT_ HW_ rfl rfl hHeld ?_ laws_FnSortOrder.a8
             refine one_ (i := 3) (N := some 64) #[true, true, true, true, true, false, false, false, false, false, false, false, false, false, false, false, false, false, false, false, false, false, false, false, false, false, false, false, false, false, false, false, false, false, false, false, false, false, false, false, false, false] rfl rfl (one_of HT_.out laws_FnSortOrder.a9) (by decide) (fun K hK => ?_)
             refine goes_ Try.func20 laws_FnSortOrder.a9 rfl #[.agg #[.slice Ao21 t406.length co21, .slice Ao23 t409.length co23], .int .i64 x6_2] (by rfl) rfl rfl laws_FnSortOrder.a1 ?_
             with_reducible refine (impl_BelowSort.calls k2 _ _ t406 _ _ t409 x6_2 t422 _ ?side1 ?side2 ?side3 ?side4 A53.out).mono ?_
             (case side1 => repeat (first | exact (Kd.R_reads' HO_414000.out).2.2 | (with_reducible refine Kd.C_alloc ?_ _) | (with_reducible refine Kd.C_drewN ?_ _) | (with_reducible refine Kd.C_drew ?_)))
             (case side2 => exact (Kd.R_reads' HO_414000.out).2.1)
             (case side3 => repeat (first | exact (Kd.R_reads' HO_414001.out).2.2 | (with_reducible refine Kd.C_alloc ?_ _) | (with_reducible refine Kd.C_drewN ?_ _) | (with_reducible refine Kd.C_drew ?_)))
             (case side4 => exact (Kd.R_reads' HO_414001.out).2.1)
             rintro e w92 ⟨rfl, hb⟩
             refine ⟨_, rfl, ?_⟩
             have n0_ := Aside0.mk (Kd.R_below laws_FnSortOrder.a3 hb)
             have n1_ := Aside0.mk (Kd.R_below laws_FnSortOrder.a4 hb)
             have n2_ := Aside0.mk (blk_below (g := gb413) (o := .cells #[.slice Ao21 t406.length co21, .slice Ao23 t409.length co23] 30 (0, 0)) laws_FnSortOrder.a2 hb)
             have n3_ := Aside0.mk (below_step laws_FnSortOrder.a0 hb)
             clear HO_414000
             clear HO_414001
             clear BK413
             clear HB
             have HO_414000 := n0_
             have HO_414001 := n1_
             have BK413 := n2_
             have HB := n3_
             clear n0_ n1_ n2_ n3_
             (try clear hb)
             (try clear hb2)
             (try clear hk)
             (try clear hi)
             refine hK.out _ _ ⟨(blk_cell BK413.out 0).trans rfl, (blk_cell BK413.out 1).trans rfl⟩ (fun hHeld => ?_)
             clear hK K
             refine norm_ (a' := ?_) ?_ ?_
             rotate_left
             ·show Act.put _ (some 64) _ = _
              simp only [Act.put, List.setIfInBounds_toArray, List.set_cons_zero, List.set_cons_succ, i64_w, i32_w]
              rfl
             refine one_ (i := 5) (N := some 66) #[true, true, true, true, true, true, false, false, false, false, false, false, false, false, false, false, false, false, false, false, false, false, false, false, false, false, false, false, false, false, false, false, false, false, false, false, false, false, false, false, false, false] rfl rfl (one_of HT_.out laws_FnSortOrder.a9) (by decide) (fun K hK => ?_)
             refine goes_ Try.func22 laws_FnSortOrder.a9 rfl #[.int .i64 t422, .int .i64 t412] (by rfl) rfl rfl laws_FnSortOrder.a1 ?_
             with_reducible refine (laws_member.calls t422 t412 t423 _ A54.out).mono ?_
             rintro e w' ⟨rfl, ⟨nd, rfl⟩⟩
             refine ⟨_, rfl, ?_⟩
             refine hK.out _ _ ⟨(blk_cell BK413.out 0).trans rfl, (blk_cell BK413.out 1).trans rfl⟩ (fun hHeld => ?_)
             clear hK K
             refine norm_ (a' := ?_) ?_ ?_
             rotate_left
             ·show Act.put _ (some 66) _ = _
              simp only [Act.put, List.setIfInBounds_toArray, List.set_cons_zero, List.set_cons_succ, i64_w, i32_w]
              rfl
             refine pureS 6 67 HT_ rfl rfl ?_
             refine pureS 7 68 HT_ rfl rfl ?_
             refine pureS 8 69 HT_ rfl rfl ?_
             refine pureS 9 70 HT_ rfl rfl ?_
             refine pureS 11 72 HT_ rfl rfl ?_
             refine pureS 13 74 HT_ rfl rfl ?_
             refine takeS 10 71 HT_ HW_ rfl rfl hHeld ?_ laws_FnSortOrder.a8
             refine one_ (i := 12) (N := some 73) #[true, true, true, true, true, true, true, true, true, true, true, true, true, true, false, false, false, false, false, false, false, false, false, false, false, false, false, false, false, false, false, false, false, false, false, false, false, false, false, false, false, false] rfl rfl (one_of HT_.out laws_FnSortOrder.a9) (by decide) (fun K hK => ?_)
             refine goes_ Try.func19 laws_FnSortOrder.a9 rfl #[.agg #[.slice Ao21 t406.length co21, .slice Ao23 t409.length co23], .int .i64 x6_2] (by rfl) rfl rfl laws_FnSortOrder.a1 ?_
             with_reducible refine (impl_AboveSort.calls k2 _ _ t406 _ _ t409 x6_2 t424 _ ?side1 ?side2 ?side3 ?side4 A60.out).mono ?_
             (case side1 => repeat (first | exact (Kd.R_reads' HO_414000.out).2.2 | (with_reducible refine Kd.C_alloc ?_ _) | (with_reducible refine Kd.C_drewN ?_ _) | (with_reducible refine Kd.C_drew ?_)))
             (case side2 => exact (Kd.R_reads' HO_414000.out).2.1)
             (case side3 => repeat (first | exact (Kd.R_reads' HO_414001.out).2.2 | (with_reducible refine Kd.C_alloc ?_ _) | (with_reducible refine Kd.C_drewN ?_ _) | (with_reducible refine Kd.C_drew ?_)))
             (case side4 => exact (Kd.R_reads' HO_414001.out).2.1)
             rintro e w93 ⟨rfl, hb⟩
             refine ⟨_, rfl, ?_⟩
             have n0_ := Aside0.mk (Kd.R_below laws_FnSortOrder.a3 hb)
             have n1_ := Aside0.mk (Kd.R_below laws_FnSortOrder.a4 hb)
             have n2_ := Aside0.mk (blk_below (g := gb413) (o := .cells #[.slice Ao21 t406.length co21, .slice Ao23 t409.length co23] 30 (0, 0)) laws_FnSortOrder.a2 hb)
             have n3_ := Aside0.mk (below_step laws_FnSortOrder.a0 hb)
             clear HO_414000
             clear HO_414001
             clear BK413
             clear HB
             have HO_414000 := n0_
             have HO_414001 := n1_
             have BK413 := n2_
             have HB := n3_
             clear n0_ n1_ n2_ n3_
             (try clear hb)
             (try clear hb2)
             (try clear hk)
             (try clear hi)
             refine hK.out _ _ ⟨(blk_cell BK413.out 0).trans rfl, (blk_cell BK413.out 1).trans rfl⟩ (fun hHeld => ?_)
             clear hK K
             refine norm_ (a' := ?_) ?_ ?_
             rotate_left
             ·show Act.put _ (some 73) _ = _
              simp only [Act.put, List.setIfInBounds_toArray, List.set_cons_zero, List.set_cons_succ, i64_w, i32_w]
              rfl
             refine one_ (i := 14) (N := some 75) #[true, true, true, true, true, true, true, true, true, true, true, true, true, true, true, false, false, false, false, false, false, false, false, false, false, false, false, false, false, false, false, false, false, false, false, false, false, false, false, false, false, false] rfl rfl (one_of HT_.out laws_FnSortOrder.a9) (by decide) (fun K hK => ?_)
             refine goes_ Try.func23 laws_FnSortOrder.a9 rfl #[.int .i64 t424, .int .i64 t416] (by rfl) rfl rfl laws_FnSortOrder.a1 ?_
             with_reducible refine (impl_IsSubset.calls t424 t416 true _ A61.out).mono ?_
             rintro e w' ⟨rfl, ⟨nd, rfl⟩⟩
             refine ⟨_, rfl, ?_⟩
             refine hK.out _ _ ⟨(blk_cell BK413.out 0).trans rfl, (blk_cell BK413.out 1).trans rfl⟩ (fun hHeld => ?_)
             clear hK K
             refine norm_ (a' := ?_) ?_ ?_
             rotate_left
             ·show Act.put _ (some 75) _ = _
              simp only [Act.put, List.setIfInBounds_toArray, List.set_cons_zero, List.set_cons_succ, i64_w, i32_w]
              rfl
             refine pureS 15 76 HT_ rfl rfl ?_
             refine pureS 16 77 HT_ rfl rfl ?_
             refine pureS 18 79 HT_ rfl rfl ?_
             refine pureS 21 82 HT_ rfl rfl ?_
             refine takeS 17 78 HT_ HW_ rfl rfl hHeld ?_ laws_FnSortOrder.a8
             refine takeS 20 81 HT_ HW_ rfl rfl hHeld ?_ laws_FnSortOrder.a8
             refine one_ (i := 19) (N := some 80) #[true, true, true, true, true, true, true, true, true, true, true, true, true, true, true, true, true, true, true, true, true, true, false, false, false, false, false, false, false, false, false, false, false, false, false, false, false, false, false, false, false, false] rfl rfl (one_of HT_.out laws_FnSortOrder.a9) (by decide) (fun K hK => ?_)
             refine goes_ Try.func21 laws_FnSortOrder.a9 rfl #[.agg #[.slice Ao21 t406.length co21, .slice Ao23 t409.length co23], .int .i64 x6_2] (by rfl) rfl rfl laws_FnSortOrder.a1 ?_
             with_reducible refine (impl_KindOfSort.calls k2 _ _ t406 _ _ t409 x6_2 t426 _ ?side1 ?side2 ?side3 ?side4 A63.out).mono ?_
             (case side1 => repeat (first | exact (Kd.R_reads' HO_414000.out).2.2 | (with_reducible refine Kd.C_alloc ?_ _) | (with_reducible refine Kd.C_drewN ?_ _) | (with_reducible refine Kd.C_drew ?_)))
             (case side2 => exact (Kd.R_reads' HO_414000.out).2.1)
             (case side3 => repeat (first | exact (Kd.R_reads' HO_414001.out).2.2 | (with_reducible refine Kd.C_alloc ?_ _) | (with_reducible refine Kd.C_drewN ?_ _) | (with_reducible refine Kd.C_drew ?_)))
             (case side4 => exact (Kd.R_reads' HO_414001.out).2.1)
             rintro e w94 ⟨rfl, hb⟩
             refine ⟨_, rfl, ?_⟩
             have n0_ := Aside0.mk (Kd.R_below laws_FnSortOrder.a3 hb)
             have n1_ := Aside0.mk (Kd.R_below laws_FnSortOrder.a4 hb)
             have n2_ := Aside0.mk (blk_below (g := gb413) (o := .cells #[.slice Ao21 t406.length co21, .slice Ao23 t409.length co23] 30 (0, 0)) laws_FnSortOrder.a2 hb)
             have n3_ := Aside0.mk (below_step laws_FnSortOrder.a0 hb)
             clear HO_414000
             clear HO_414001
             clear BK413
             clear HB
             have HO_414000 := n0_
             have HO_414001 := n1_
             have BK413 := n2_
             have HB := n3_
             clear n0_ n1_ n2_ n3_
             (try clear hb)
             (try clear hb2)
             (try clear hk)
             (try clear hi)
             refine hK.out _ _ ⟨(blk_cell BK413.out 0).trans rfl, (blk_cell BK413.out 1).trans rfl⟩ (fun hHeld => ?_)
             clear hK K
             refine norm_ (a' := ?_) ?_ ?_
             rotate_left
             ·show Act.put _ (some 80) _ = _
              simp only [Act.put, List.setIfInBounds_toArray, List.set_cons_zero, List.set_cons_succ, i64_w, i32_w]
              rfl
             refine one_ (i := 22) (N := some 83) #[true, true, true, true, true, true, true, true, true, true, true, true, true, true, true, true, true, true, true, true, true, true, true, false, false, false, false, false, false, false, false, false, false, false, false, false, false, false, false, false, false, false] rfl rfl (one_of HT_.out laws_FnSortOrder.a9) (by decide) (fun K hK => ?_)
             refine goes_ Try.func21 laws_FnSortOrder.a9 rfl #[.agg #[.slice Ao21 t406.length co21, .slice Ao23 t409.length co23], .int .i64 t412] (by rfl) rfl rfl laws_FnSortOrder.a1 ?_
             with_reducible refine (impl_KindOfSort.calls k2 _ _ t406 _ _ t409 t412 t427 _ ?side1 ?side2 ?side3 ?side4 A64.out).mono ?_
             (case side1 => repeat (first | exact (Kd.R_reads' HO_414000.out).2.2 | (with_reducible refine Kd.C_alloc ?_ _) | (with_reducible refine Kd.C_drewN ?_ _) | (with_reducible refine Kd.C_drew ?_)))
             (case side2 => exact (Kd.R_reads' HO_414000.out).2.1)
             (case side3 => repeat (first | exact (Kd.R_reads' HO_414001.out).2.2 | (with_reducible refine Kd.C_alloc ?_ _) | (with_reducible refine Kd.C_drewN ?_ _) | (with_reducible refine Kd.C_drew ?_)))
             (case side4 => exact (Kd.R_reads' HO_414001.out).2.1)
             rintro e w95 ⟨rfl, hb⟩
             refine ⟨_, rfl, ?_⟩
             have n0_ := Aside0.mk (Kd.R_below laws_FnSortOrder.a3 hb)
             have n1_ := Aside0.mk (Kd.R_below laws_FnSortOrder.a4 hb)
             have n2_ := Aside0.mk (blk_below (g := gb413) (o := .cells #[.slice Ao21 t406.length co21, .slice Ao23 t409.length co23] 30 (0, 0)) laws_FnSortOrder.a2 hb)
             have n3_ := Aside0.mk (below_step laws_FnSortOrder.a0 hb)
             clear HO_414000
             clear HO_414001
             clear BK413
             clear HB
             have HO_414000 := n0_
             have HO_414001 := n1_
             have BK413 := n2_
             have HB := n3_
             clear n0_ n1_ n2_ n3_
             (try clear hb)
             (try clear hb2)
             (try clear hk)
             (try clear hi)
             refine hK.out _ _ ⟨(blk_cell BK413.out 0).trans rfl, (blk_cell BK413.out 1).trans rfl⟩ (fun hHeld => ?_)
             clear hK K
             refine norm_ (a' := ?_) ?_ ?_
             rotate_left
             ·show Act.put _ (some 83) _ = _
              simp only [Act.put, List.setIfInBounds_toArray, List.set_cons_zero, List.set_cons_succ, i64_w, i32_w]
              rfl
             refine pureS 23 84 HT_ rfl rfl ?_
             refine pureS 24 85 HT_ rfl rfl ?_
             refine pureS 25 86 HT_ rfl rfl ?_
             refine pureS 26 87 HT_ rfl rfl ?_
             refine pureS 27 88 HT_ rfl rfl ?_
             refine undS 28 89 HT_ rfl rfl ?_
             refine undS 29 90 HT_ rfl rfl ?_
             refine undS 30 91 HT_ rfl rfl ?_
             refine undS 31 92 HT_ rfl rfl ?_
             refine undS 32 93 HT_ rfl rfl ?_
             refine undS 33 94 HT_ rfl rfl ?_
             refine undS 34 95 HT_ rfl rfl ?_
             refine undS 35 96 HT_ rfl rfl ?_
             refine undS 36 97 HT_ rfl rfl ?_
             refine undS 37 98 HT_ rfl rfl ?_
             refine undS 38 99 HT_ rfl rfl ?_
             refine undS 39 100 HT_ rfl rfl ?_
             refine undS 40 101 HT_ rfl rfl ?_
             refine pureS 41 102 HT_ rfl rfl ?_
             refine done_ (done_of HT_.out laws_FnSortOrder.a9) ?_
             try go_wp2
             go_ret
             exact ⟨laws_FnSortOrder.a10, laws_FnSortOrder.a0⟩
           ·replace c62 := Bool.eq_false_iff.mpr c62
            subst c62
            have H1 : (some false) = some r := by rw [if_neg (show ¬ (false = true) by decide)] at H; exact H
            clear H
            have H := H1
            clear H1
            obtain rfl := Option.some.inj H
            have hcz96_0 : wr.cell? ⟨gb413, 0, none⟩ = some (.slice Ao21 t406.length co21) := (blk_cell BK413.out 0).trans rfl
            have hcz96_1 : wr.cell? ⟨gb413, 1, none⟩ = some (.slice Ao23 t409.length co23) := (blk_cell BK413.out 1).trans rfl
            have hfz96_0 := blk_frozen BK413.out 0
            have hfz96_1 := blk_frozen BK413.out 1
            try go_wp2_with (first | ((with_reducible refine gate_callee (f := 22) rfl ?_); refine goesL_ (some 60) rfl rfl Try.func22 laws_FnSortOrder.a9 rfl #[.int .i64 t416, .int .i64 x6_2] rfl laws_FnSortOrder.a1 ?_; (with_reducible refine (laws_member.calls t416 x6_2 true _ A52.out).mono ?_); rintro e w' ⟨rfl, ⟨nd, rfl⟩⟩; refine ⟨_, rfl, ?_⟩))
            (try (rw [drewN_self wr]; generalize hq_ : World.drewN wr _ = wr; have n0_ : Aside0 (Kd.R Kd.string 9 wr w.heap.size (fun _ => True) (.slice Ao21 t406.length co21) t406) := ⟨by rw [← hq_]; exact laws_FnSortOrder.a3⟩; have n1_ : Aside0 (Kd.R k52 52 wr w.heap.size (fun _ => True) (.slice Ao23 t409.length co23) t409) := ⟨by rw [← hq_]; exact laws_FnSortOrder.a4⟩; have n2_ : Aside0 (wr.heap[gb413]? = some (.cells #[.slice Ao21 t406.length co21, .slice Ao23 t409.length co23] 30 (0, 0))) := ⟨by rw [← hq_]; exact laws_FnSortOrder.a2⟩; have n3_ : Aside0 (Below w.heap.size w wr) := ⟨by rw [← hq_]; exact laws_FnSortOrder.a0⟩; clear HO_414000 HO_414001 BK413 HB hq_; have HO_414000 := n0_; have HO_414001 := n1_; have BK413 := n2_; have HB := n3_; clear n0_ n1_ n2_ n3_))
            have n0_ := Aside0.mk (Kd.R_drew HO_414000.out)
            have n1_ := Aside0.mk (Kd.R_drew HO_414001.out)
            have n2_ := Aside0.mk (blk_drew BK413.out)
            have n3_ := Aside0.mk (below_drew1 HB.out)
            clear HO_414000
            clear HO_414001
            clear BK413
            clear HB
            have HO_414000 := n0_
            have HO_414001 := n1_
            have BK413 := n2_
            have HB := n3_
            clear n0_ n1_ n2_ n3_
            refine start_ (n := 42) (S := fun w' => w'.cell? ⟨gb413, 0, none⟩ = some (.slice Ao21 t406.length co21) ∧ w'.cell? ⟨gb413, 1, none⟩ = some (.slice Ao23 t409.length co23)) (ds := []) #[false, false, false, false, false, false, false, false, false, false, false, false, false, false, false, false, false, false, false, false, false, false, false, false, false, false, false, false, false, false, false, false, false, false, false, false, false, false, false, false, false, false] laws_FnSortOrder.a9 rfl rfl ⟨(blk_cell BK413.out 0).trans rfl, (blk_cell BK413.out 1).trans rfl⟩ (fun hHeld => ?_); refine with_tabW laws_FnSortOrder.tab13 laws_FnSortOrder.bits13 (fun HT_ HW_ => ?_)
            generalize wr.drew = w97 at HO_414000 HO_414001 BK413 HB hHeld ⊢
            refine pureS 0 61 HT_ rfl rfl ?_
            refine pureS 2 63 HT_ rfl rfl ?_
            refine pureS 4 65 HT_ rfl rfl ?_
            refine takeS 1 62 HT_ HW_ rfl rfl hHeld ?_ laws_FnSortOrder.a8
            refine one_ (i := 3) (N := some 64) #[true, true, true, true, true, false, false, false, false, false, false, false, false, false, false, false, false, false, false, false, false, false, false, false, false, false, false, false, false, false, false, false, false, false, false, false, false, false, false, false, false, false] rfl rfl (one_of HT_.out laws_FnSortOrder.a9) (by decide) (fun K hK => ?_)
            refine goes_ Try.func20 laws_FnSortOrder.a9 rfl #[.agg #[.slice Ao21 t406.length co21, .slice Ao23 t409.length co23], .int .i64 x6_2] (by rfl) rfl rfl laws_FnSortOrder.a1 ?_
            with_reducible refine (impl_BelowSort.calls k2 _ _ t406 _ _ t409 x6_2 t422 _ ?side1 ?side2 ?side3 ?side4 A53.out).mono ?_
            (case side1 => repeat (first | exact (Kd.R_reads' HO_414000.out).2.2 | (with_reducible refine Kd.C_alloc ?_ _) | (with_reducible refine Kd.C_drewN ?_ _) | (with_reducible refine Kd.C_drew ?_)))
            (case side2 => exact (Kd.R_reads' HO_414000.out).2.1)
            (case side3 => repeat (first | exact (Kd.R_reads' HO_414001.out).2.2 | (with_reducible refine Kd.C_alloc ?_ _) | (with_reducible refine Kd.C_drewN ?_ _) | (with_reducible refine Kd.C_drew ?_)))
            (case side4 => exact (Kd.R_reads' HO_414001.out).2.1)
            rintro e w98 ⟨rfl, hb⟩
            refine ⟨_, rfl, ?_⟩
            have n0_ := Aside0.mk (Kd.R_below laws_FnSortOrder.a3 hb)
            have n1_ := Aside0.mk (Kd.R_below laws_FnSortOrder.a4 hb)
            have n2_ := Aside0.mk (blk_below (g := gb413) (o := .cells #[.slice Ao21 t406.length co21, .slice Ao23 t409.length co23] 30 (0, 0)) laws_FnSortOrder.a2 hb)
            have n3_ := Aside0.mk (below_step laws_FnSortOrder.a0 hb)
            clear HO_414000
            clear HO_414001
            clear BK413
            clear HB
            have HO_414000 := n0_
            have HO_414001 := n1_
            have BK413 := n2_
            have HB := n3_
            clear n0_ n1_ n2_ n3_
            (try clear hb)
            (try clear hb2)
            (try clear hk)
            (try clear hi)
            refine hK.out _ _ ⟨(blk_cell BK413.out 0).trans rfl, (blk_cell BK413.out 1).trans rfl⟩ (fun hHeld => ?_)
            clear hK K
            refine norm_ (a' := ?_) ?_ ?_
            rotate_left
            ·show Act.put _ (some 64) _ = _
             simp only [Act.put, List.setIfInBounds_toArray, List.set_cons_zero, List.set_cons_succ, i64_w, i32_w]
             rfl
            refine one_ (i := 5) (N := some 66) #[true, true, true, true, true, true, false, false, false, false, false, false, false, false, false, false, false, false, false, false, false, false, false, false, false, false, false, false, false, false, false, false, false, false, false, false, false, false, false, false, false, false] rfl rfl (one_of HT_.out laws_FnSortOrder.a9) (by decide) (fun K hK => ?_)
            refine goes_ Try.func22 laws_FnSortOrder.a9 rfl #[.int .i64 t422, .int .i64 t412] (by rfl) rfl rfl laws_FnSortOrder.a1 ?_
            with_reducible refine (laws_member.calls t422 t412 t423 _ A54.out).mono ?_
            rintro e w' ⟨rfl, ⟨nd, rfl⟩⟩
            refine ⟨_, rfl, ?_⟩
            refine hK.out _ _ ⟨(blk_cell BK413.out 0).trans rfl, (blk_cell BK413.out 1).trans rfl⟩ (fun hHeld => ?_)
            clear hK K
            refine norm_ (a' := ?_) ?_ ?_
            rotate_left
            ·show Act.put _ (some 66) _ = _
             simp only [Act.put, List.setIfInBounds_toArray, List.set_cons_zero, List.set_cons_succ, i64_w, i32_w]
             rfl
            refine pureS 6 67 HT_ rfl rfl ?_
            refine pureS 7 68 HT_ rfl rfl ?_
            refine pureS 8 69 HT_ rfl rfl ?_
            refine pureS 9 70 HT_ rfl rfl ?_
            refine pureS 11 72 HT_ rfl rfl ?_
            refine pureS 13 74 HT_ rfl rfl ?_
            refine takeS 10 71 HT_ HW_ rfl rfl hHeld ?_ laws_FnSortOrder.a8
            refine one_ (i := 12) (N := some 73) #[true, true, true, true, true, true, true, true, true, true, true, true, true, true, false, false, false, false, false, false, false, false, false, false, false, false, false, false, false, false, false, false, false, false, false, false, false, false, false, false, false, false] rfl rfl (one_of HT_.out laws_FnSortOrder.a9) (by decide) (fun K hK => ?_)
            refine goes_ Try.func19 laws_FnSortOrder.a9 rfl #[.agg #[.slice Ao21 t406.length co21, .slice Ao23 t409.length co23], .int .i64 x6_2] (by rfl) rfl rfl laws_FnSortOrder.a1 ?_
            with_reducible refine (impl_AboveSort.calls k2 _ _ t406 _ _ t409 x6_2 t424 _ ?side1 ?side2 ?side3 ?side4 A60.out).mono ?_
            (case side1 => repeat (first | exact (Kd.R_reads' HO_414000.out).2.2 | (with_reducible refine Kd.C_alloc ?_ _) | (with_reducible refine Kd.C_drewN ?_ _) | (with_reducible refine Kd.C_drew ?_)))
            (case side2 => exact (Kd.R_reads' HO_414000.out).2.1)
            (case side3 => repeat (first | exact (Kd.R_reads' HO_414001.out).2.2 | (with_reducible refine Kd.C_alloc ?_ _) | (with_reducible refine Kd.C_drewN ?_ _) | (with_reducible refine Kd.C_drew ?_)))
            (case side4 => exact (Kd.R_reads' HO_414001.out).2.1)
            rintro e w99 ⟨rfl, hb⟩
            refine ⟨_, rfl, ?_⟩
            have n0_ := Aside0.mk (Kd.R_below laws_FnSortOrder.a3 hb)
            have n1_ := Aside0.mk (Kd.R_below laws_FnSortOrder.a4 hb)
            have n2_ := Aside0.mk (blk_below (g := gb413) (o := .cells #[.slice Ao21 t406.length co21, .slice Ao23 t409.length co23] 30 (0, 0)) laws_FnSortOrder.a2 hb)
            have n3_ := Aside0.mk (below_step laws_FnSortOrder.a0 hb)
            clear HO_414000
            clear HO_414001
            clear BK413
            clear HB
            have HO_414000 := n0_
            have HO_414001 := n1_
            have BK413 := n2_
            have HB := n3_
            clear n0_ n1_ n2_ n3_
            (try clear hb)
            (try clear hb2)
            (try clear hk)
            (try clear hi)
            refine hK.out _ _ ⟨(blk_cell BK413.out 0).trans rfl, (blk_cell BK413.out 1).trans rfl⟩ (fun hHeld => ?_)
            clear hK K
            refine norm_ (a' := ?_) ?_ ?_
            rotate_left
            ·show Act.put _ (some 73) _ = _
             simp only [Act.put, List.setIfInBounds_toArray, List.set_cons_zero, List.set_cons_succ, i64_w, i32_w]
             rfl
            refine one_ (i := 14) (N := some 75) #[true, true, true, true, true, true, true, true, true, true, true, true, true, true, true, false, false, false, false, false, false, false, false, false, false, false, false, false, false, false, false, false, false, false, false, false, false, false, false, false, false, false] rfl rfl (one_of HT_.out laws_FnSortOrder.a9) (by decide) (fun K hK => ?_)
            refine goes_ Try.func23 laws_FnSortOrder.a9 rfl #[.int .i64 t424, .int .i64 t416] (by rfl) rfl rfl laws_FnSortOrder.a1 ?_
            with_reducible refine (impl_IsSubset.calls t424 t416 false _ A61.out).mono ?_
            rintro e w' ⟨rfl, ⟨nd, rfl⟩⟩
            refine ⟨_, rfl, ?_⟩
            refine hK.out _ _ ⟨(blk_cell BK413.out 0).trans rfl, (blk_cell BK413.out 1).trans rfl⟩ (fun hHeld => ?_)
            clear hK K
            refine norm_ (a' := ?_) ?_ ?_
            rotate_left
            ·show Act.put _ (some 75) _ = _
             simp only [Act.put, List.setIfInBounds_toArray, List.set_cons_zero, List.set_cons_succ, i64_w, i32_w]
             rfl
            refine pureS 15 76 HT_ rfl rfl ?_
            refine pureS 16 77 HT_ rfl rfl ?_
            refine undS 17 78 HT_ rfl rfl ?_
            refine undS 18 79 HT_ rfl rfl ?_
            refine undS 19 80 HT_ rfl rfl ?_
            refine undS 20 81 HT_ rfl rfl ?_
            refine undS 21 82 HT_ rfl rfl ?_
            refine undS 22 83 HT_ rfl rfl ?_
            refine undS 23 84 HT_ rfl rfl ?_
            refine pureS 24 85 HT_ rfl rfl ?_
            refine pureS 25 86 HT_ rfl rfl ?_
            refine pureS 26 87 HT_ rfl rfl ?_
            refine pureS 27 88 HT_ rfl rfl ?_
            refine undS 28 89 HT_ rfl rfl ?_
            refine undS 29 90 HT_ rfl rfl ?_
            refine undS 30 91 HT_ rfl rfl ?_
            refine undS 31 92 HT_ rfl rfl ?_
            refine undS 32 93 HT_ rfl rfl ?_
            refine undS 33 94 HT_ rfl rfl ?_
            refine undS 34 95 HT_ rfl rfl ?_
            refine undS 35 96 HT_ rfl rfl ?_
            refine undS 36 97 HT_ rfl rfl ?_
            refine undS 37 98 HT_ rfl rfl ?_
            refine undS 38 99 HT_ rfl rfl ?_
            refine undS 39 100 HT_ rfl rfl ?_
            refine undS 40 101 HT_ rfl rfl ?_
            refine pureS 41 102 HT_ rfl rfl ?_
            refine done_ (done_of HT_.out laws_FnSortOrder.a9) ?_
            try go_wp2
            go_ret
            exact ⟨laws_FnSortOrder.a10, laws_FnSortOrder.a0⟩
          ·replace c59 := Bool.eq_false_iff.mpr c59
           subst c59
           have H1 : (laws_FnSortOrder.l0 k2 t412 t416 (wrap64 (x6_2 + 1)) t406 t409) = some r := by rw [if_neg (show ¬ (false = true) by decide)] at H; exact H
           clear H
           have H := H1
           clear H1
           have H' := Aside0.mk H
           clear H
           have hcz100_0 : wr.cell? ⟨gb413, 0, none⟩ = some (.slice Ao21 t406.length co21) := (blk_cell BK413.out 0).trans rfl
           have hcz100_1 : wr.cell? ⟨gb413, 1, none⟩ = some (.slice Ao23 t409.length co23) := (blk_cell BK413.out 1).trans rfl
           have hfz100_0 := blk_frozen BK413.out 0
           have hfz100_1 := blk_frozen BK413.out 1
           try go_wp2_with (first | ((with_reducible refine gate_callee (f := 22) rfl ?_); refine goesL_ (some 60) rfl rfl Try.func22 laws_FnSortOrder.a9 rfl #[.int .i64 t416, .int .i64 x6_2] rfl laws_FnSortOrder.a1 ?_; (with_reducible refine (laws_member.calls t416 x6_2 false _ A52.out).mono ?_); rintro e w' ⟨rfl, ⟨nd, rfl⟩⟩; refine ⟨_, rfl, ?_⟩))
           (try (rw [drewN_self wr]; generalize hq_ : World.drewN wr _ = wr; have n0_ : Aside0 (Kd.R Kd.string 9 wr w.heap.size (fun _ => True) (.slice Ao21 t406.length co21) t406) := ⟨by rw [← hq_]; exact laws_FnSortOrder.a3⟩; have n1_ : Aside0 (Kd.R k52 52 wr w.heap.size (fun _ => True) (.slice Ao23 t409.length co23) t409) := ⟨by rw [← hq_]; exact laws_FnSortOrder.a4⟩; have n2_ : Aside0 (wr.heap[gb413]? = some (.cells #[.slice Ao21 t406.length co21, .slice Ao23 t409.length co23] 30 (0, 0))) := ⟨by rw [← hq_]; exact laws_FnSortOrder.a2⟩; have n3_ : Aside0 (Below w.heap.size w wr) := ⟨by rw [← hq_]; exact laws_FnSortOrder.a0⟩; clear HO_414000 HO_414001 BK413 HB hq_; have HO_414000 := n0_; have HO_414001 := n1_; have BK413 := n2_; have HB := n3_; clear n0_ n1_ n2_ n3_))
           have n0_ := Aside0.mk (Kd.R_drew HO_414000.out)
           have n1_ := Aside0.mk (Kd.R_drew HO_414001.out)
           have n2_ := Aside0.mk (blk_drew BK413.out)
           have n3_ := Aside0.mk (below_drew1 HB.out)
           clear HO_414000
           clear HO_414001
           clear BK413
           clear HB
           have HO_414000 := n0_
           have HO_414001 := n1_
           have BK413 := n2_
           have HB := n3_
           clear n0_ n1_ n2_ n3_
           refine start_ (n := 42) (S := fun w' => w'.cell? ⟨gb413, 0, none⟩ = some (.slice Ao21 t406.length co21) ∧ w'.cell? ⟨gb413, 1, none⟩ = some (.slice Ao23 t409.length co23)) (ds := []) #[false, false, false, false, false, false, false, false, false, false, false, false, false, false, false, false, false, false, false, false, false, false, false, false, false, false, false, false, false, false, false, false, false, false, false, false, false, false, false, false, false, false] laws_FnSortOrder.a9 rfl rfl ⟨(blk_cell BK413.out 0).trans rfl, (blk_cell BK413.out 1).trans rfl⟩ (fun hHeld => ?_); refine with_tabW laws_FnSortOrder.tab13 laws_FnSortOrder.bits13 (fun HT_ HW_ => ?_)
           generalize wr.drew = w101 at HO_414000 HO_414001 BK413 HB hHeld ⊢
           refine pureS 0 61 HT_ rfl rfl ?_
           refine pureS 2 63 HT_ rfl rfl ?_
           refine pureS 4 65 HT_ rfl rfl ?_
           refine takeS 1 62 HT_ HW_ rfl rfl hHeld ?_ laws_FnSortOrder.a8
           refine one_ (i := 3) (N := some 64) #[true, true, true, true, true, false, false, false, false, false, false, false, false, false, false, false, false, false, false, false, false, false, false, false, false, false, false, false, false, false, false, false, false, false, false, false, false, false, false, false, false, false] rfl rfl (one_of HT_.out laws_FnSortOrder.a9) (by decide) (fun K hK => ?_)
           refine goes_ Try.func20 laws_FnSortOrder.a9 rfl #[.agg #[.slice Ao21 t406.length co21, .slice Ao23 t409.length co23], .int .i64 x6_2] (by rfl) rfl rfl laws_FnSortOrder.a1 ?_
           with_reducible refine (impl_BelowSort.calls k2 _ _ t406 _ _ t409 x6_2 t422 _ ?side1 ?side2 ?side3 ?side4 A53.out).mono ?_
           (case side1 => repeat (first | exact (Kd.R_reads' HO_414000.out).2.2 | (with_reducible refine Kd.C_alloc ?_ _) | (with_reducible refine Kd.C_drewN ?_ _) | (with_reducible refine Kd.C_drew ?_)))
           (case side2 => exact (Kd.R_reads' HO_414000.out).2.1)
           (case side3 => repeat (first | exact (Kd.R_reads' HO_414001.out).2.2 | (with_reducible refine Kd.C_alloc ?_ _) | (with_reducible refine Kd.C_drewN ?_ _) | (with_reducible refine Kd.C_drew ?_)))
           (case side4 => exact (Kd.R_reads' HO_414001.out).2.1)
           rintro e w102 ⟨rfl, hb⟩
           refine ⟨_, rfl, ?_⟩
           have n0_ := Aside0.mk (Kd.R_below laws_FnSortOrder.a3 hb)
           have n1_ := Aside0.mk (Kd.R_below laws_FnSortOrder.a4 hb)
           have n2_ := Aside0.mk (blk_below (g := gb413) (o := .cells #[.slice Ao21 t406.length co21, .slice Ao23 t409.length co23] 30 (0, 0)) laws_FnSortOrder.a2 hb)
           have n3_ := Aside0.mk (below_step laws_FnSortOrder.a0 hb)
           clear HO_414000
           clear HO_414001
           clear BK413
           clear HB
           have HO_414000 := n0_
           have HO_414001 := n1_
           have BK413 := n2_
           have HB := n3_
           clear n0_ n1_ n2_ n3_
           (try clear hb)
           (try clear hb2)
           (try clear hk)
           (try clear hi)
           refine hK.out _ _ ⟨(blk_cell BK413.out 0).trans rfl, (blk_cell BK413.out 1).trans rfl⟩ (fun hHeld => ?_)
           clear hK K
           refine norm_ (a' := ?_) ?_ ?_
           rotate_left
           ·show Act.put _ (some 64) _ = _
            simp only [Act.put, List.setIfInBounds_toArray, List.set_cons_zero, List.set_cons_succ, i64_w, i32_w]
            rfl
           refine one_ (i := 5) (N := some 66) #[true, true, true, true, true, true, false, false, false, false, false, false, false, false, false, false, false, false, false, false, false, false, false, false, false, false, false, false, false, false, false, false, false, false, false, false, false, false, false, false, false, false] rfl rfl (one_of HT_.out laws_FnSortOrder.a9) (by decide) (fun K hK => ?_)
           refine goes_ Try.func22 laws_FnSortOrder.a9 rfl #[.int .i64 t422, .int .i64 t412] (by rfl) rfl rfl laws_FnSortOrder.a1 ?_
           with_reducible refine (laws_member.calls t422 t412 t423 _ A54.out).mono ?_
           rintro e w' ⟨rfl, ⟨nd, rfl⟩⟩
           refine ⟨_, rfl, ?_⟩
           refine hK.out _ _ ⟨(blk_cell BK413.out 0).trans rfl, (blk_cell BK413.out 1).trans rfl⟩ (fun hHeld => ?_)
           clear hK K
           refine norm_ (a' := ?_) ?_ ?_
           rotate_left
           ·show Act.put _ (some 66) _ = _
            simp only [Act.put, List.setIfInBounds_toArray, List.set_cons_zero, List.set_cons_succ, i64_w, i32_w]
            rfl
           refine pureS 6 67 HT_ rfl rfl ?_
           refine pureS 7 68 HT_ rfl rfl ?_
           refine pureS 8 69 HT_ rfl rfl ?_
           refine pureS 9 70 HT_ rfl rfl ?_
           refine undS 10 71 HT_ rfl rfl ?_
           refine undS 11 72 HT_ rfl rfl ?_
           refine undS 12 73 HT_ rfl rfl ?_
           refine undS 13 74 HT_ rfl rfl ?_
           refine undS 14 75 HT_ rfl rfl ?_
           refine undS 15 76 HT_ rfl rfl ?_
           refine undS 16 77 HT_ rfl rfl ?_
           refine undS 17 78 HT_ rfl rfl ?_
           refine undS 18 79 HT_ rfl rfl ?_
           refine undS 19 80 HT_ rfl rfl ?_
           refine undS 20 81 HT_ rfl rfl ?_
           refine undS 21 82 HT_ rfl rfl ?_
           refine undS 22 83 HT_ rfl rfl ?_
           refine undS 23 84 HT_ rfl rfl ?_
           refine undS 24 85 HT_ rfl rfl ?_
           refine pureS 25 86 HT_ rfl rfl ?_
           refine pureS 26 87 HT_ rfl rfl ?_
           refine pureS 27 88 HT_ rfl rfl ?_
           refine pureS 28 89 HT_ rfl rfl ?_
           refine pureS 29 90 HT_ rfl rfl ?_
           refine undS 30 91 HT_ rfl rfl ?_
           refine undS 31 92 HT_ rfl rfl ?_
           refine undS 32 93 HT_ rfl rfl ?_
           refine pureS 33 94 HT_ rfl rfl ?_
           refine pureS 34 95 HT_ rfl rfl ?_
           refine undS 35 96 HT_ rfl rfl ?_
           refine undS 36 97 HT_ rfl rfl ?_
           refine undS 37 98 HT_ rfl rfl ?_
           refine undS 38 99 HT_ rfl rfl ?_
           refine undS 39 100 HT_ rfl rfl ?_
           refine pureS 40 101 HT_ rfl rfl ?_
           refine pureS 41 102 HT_ rfl rfl ?_
           refine done_ (done_of HT_.out laws_FnSortOrder.a9) ?_
           try go_wp2
           go_roundg k2
           case measure => have := HJ17.out; have := HK2.out; omega
           case rel => exact ⟨(wrap64 (x6_2 + 1)), (by first | rfl | (simp; done) | (simp [*]; done)), H', ⟨by have := HJ17.out; have := HK2.out; omega⟩, ⟨laws_FnSortOrder.a3⟩, ⟨laws_FnSortOrder.a4⟩, ⟨laws_FnSortOrder.a2⟩, ⟨laws_FnSortOrder.a0⟩⟩
        ·rw [if_neg c51] at H
         have c51b0 : decide (x6_2 < (t406.length : Int)) = false := decide_eq_false c51
         clear c51
         replace H := Option.bind_eq_some_iff.mp H
         obtain ⟨t420, A1030, H⟩ := H
         replace H : (some t420) = some r := H
         have A103 := Aside0.mk A1030
         clear A1030
         obtain rfl := Option.some.inj H
         have hcz104_0 : wr.cell? ⟨gb413, 0, none⟩ = some (.slice Ao21 t406.length co21) := (blk_cell BK413.out 0).trans rfl
         have hcz104_1 : wr.cell? ⟨gb413, 1, none⟩ = some (.slice Ao23 t409.length co23) := (blk_cell BK413.out 1).trans rfl
         have hfz104_0 := blk_frozen BK413.out 0
         have hfz104_1 := blk_frozen BK413.out 1
         go_wp2_with (first | ((with_reducible refine gate_callee (f := 22) rfl ?_); refine goesL_ (some 105) rfl rfl Try.func22 laws_FnSortOrder.a9 rfl #[.int .i64 t416, .int .i64 t412] rfl laws_FnSortOrder.a1 ?_; (with_reducible refine (laws_member.calls t416 t412 t420 _ A103.out).mono ?_); rintro e w' ⟨rfl, ⟨nd, rfl⟩⟩; refine ⟨_, rfl, ?_⟩))
         go_ret
         exact ⟨laws_FnSortOrder.a10, laws_FnSortOrder.a0⟩

/-- THE ONE PURE STATEMENT of laws_FnSortOrder: yours. -/
def laws_FnSortOrder.Pure : Prop := ∀ (l0 : List Int), l0.length ≤ maxLen → l0.length * 1 ≤ 140737488351232 → (∀ x ∈ l0, (Lit.int .u8 x).wf = true) → ∃ k, laws_FnSortOrder.f k l0 = some true
theorem laws_FnSortOrder.walk (P : laws_FnSortOrder.Pure) (a0 : Option Addr) (len0 cap0 : Nat) (z0 : List Int) (w : World) (w0 : (a0 = none ∧ len0 = 0 ∧ cap0 = 0 ∧ z0 = []) ∨ ∃ x, a0 = some x ∧ len0 ≤ cap0 ∧ cap0 ≤ maxLen ∧ z0.length = cap0 ∧ (∀ i, i < z0.length → w.cell? (x.add i) = some (.int .u8 (z0.getD i 0))) ∧ ∀ n ∈ z0, (Lit.int .u8 n).wf = true) (y0 : len0 * 1 ≤ 140737488351232) :
  Calls Try.prog 4 #[.slice a0 len0 cap0] w fun e w' => e = .returned (.bool true) ∧ Below w.heap.size w w' := by
 obtain ⟨l0, rfl, hr0, hm0, hw0, hc0⟩ := ReadsInt.ofRowC w0
 obtain ⟨k, h⟩ := P l0 hm0 y0 hw0
 refine (laws_FnSortOrder.calls k _ _ l0 true w (Kd.C_of_reads (d := (0 : Int)) (h1 := fun _ => rfl) hr0) hc0 h).mono ?_
 rintro e w' ⟨rfl, hd⟩
 exact ⟨rfl, hd⟩

end Go.Proofs.Ytlpkicbmcpmemaa.Q

