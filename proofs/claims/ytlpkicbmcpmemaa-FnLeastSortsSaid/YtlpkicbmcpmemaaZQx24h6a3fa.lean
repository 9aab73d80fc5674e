/- Functions of the program as plain Lean functions, and that the calls come to what they say. -/
import Derived.Test.YtlpkicbmcpmemaaZQx0h2d4ba
import Derived.Test.YtlpkicbmcpmemaaZQx3ha0ac6
import Derived.Test.YtlpkicbmcpmemaaZQx10h37438
import Derived.Test.YtlpkicbmcpmemaaZQx11h70f25
import Derived.Test.YtlpkicbmcpmemaaZQx12h82640
import Derived.Test.YtlpkicbmcpmemaaZQx19hc6db2
import Derived.Test.YtlpkicbmcpmemaaZQx23h08d37
import Derived.Test.YtlpkicbmcpmemaaZFl1Newhfc456
import Derived.Test.YtlpkicbmcpmemaaZShorth9309d
namespace Go.Proofs.Ytlpkicbmcpmemaa.Q
open Go.RowKit Go.Proofs.YtlpkicbmcpmemaaW.PrintWords Go.Proofs.YtlpkicbmcpmemaaW.PrintLast Go.Proofs.YtlpkicbmcpmemaaW.PrintMore
attribute [local go_sem] max2_int min2_int max_two min_two max_three min_three max_four min_four   -- for this text's walks alone
set_option linter.unusedVariables false
set_option linter.unusedSimpArgs false

/-! ### spec_DrawLeastSorts: function 33 -/
theorem spec_DrawLeastSorts.a0 {P_ : Prop} (h_ : P_ := by repeat (first | (with_reducible first | exact HB.out | apply below_alloc | apply pw_below_drewN | apply below_drew1 | refine below_set ?_ (IsS77.ge HI716.out) | refine below_set ?_ GE712.out) | exact HB.out)) : P_ := h_
theorem spec_DrawLeastSorts.a1 {P_ : Prop} (h_ : P_ := by (with_reducible repeat (first | refine blk_drewN ?_ _ | refine blk_drew ?_ | refine blk_alloc ?_ _)); exact BK712.out) : P_ := h_
theorem spec_DrawLeastSorts.a2 {P_ : Prop} (h_ : P_ := by (try simp only [List.map_toArray, List.map_cons, List.map_nil]); first | done | rfl | (simp only [List.length_drop, List.length_take]; rfl)) : P_ := h_
theorem spec_DrawLeastSorts.a3 {P_ : Prop} (h_ : P_ := by repeat (first | (with_reducible first | exact HB.out | apply below_alloc | apply pw_below_drewN | apply below_drew1) | exact HB.out)) : P_ := h_
theorem spec_DrawLeastSorts.a4 {P_ : Prop} (h_ : P_ := by (with_reducible repeat (first | refine blk_drewN ?_ _ | refine blk_drew ?_ | refine blk_alloc ?_ _)); refine blk_far ?_ NB712_725.out _; (with_reducible repeat (first | refine blk_drewN ?_ _ | refine blk_drew ?_ | refine blk_alloc ?_ _)); refine blk_far ?_ NB712_725.out _; (with_reducible repeat (first | refine blk_drewN ?_ _ | refine blk_drew ?_ | refine blk_alloc ?_ _)); exact BK712.out) : P_ := h_
theorem spec_DrawLeastSorts.a5 {P_ : Prop} (h_ : P_ := by (with_reducible repeat (first | apply Kd.R_alloc | apply Kd.R_drewN | apply Kd.R_drew)); exact HO719.out) : P_ := h_
theorem spec_DrawLeastSorts.a6 {P_ : Prop} (h_ : P_ := by (with_reducible repeat (first | apply Kd.R_alloc | apply Kd.R_drewN | apply Kd.R_drew)); exact HO722.out) : P_ := h_
theorem spec_DrawLeastSorts.a7 {P_ : Prop} (h_ : P_ := by repeat (first | (with_reducible first | exact HB.out | apply below_alloc | apply pw_below_drewN | apply below_drew1 | refine below_set ?_ (IsS77.ge HI716.out) | refine below_set ?_ GE712.out | refine below_set ?_ GE725.out) | exact HB.out)) : P_ := h_
theorem spec_DrawLeastSorts.a8 {P_ : Prop} (h_ : P_ := by repeat (first | (with_reducible first | exact HI716.out | apply IsS77.alloc | apply IsS77.drewN | apply IsS77.drew | apply IsS77.set_1 | apply IsS77.set_2 | refine IsS77.far ?_ NB716_712.out _) | exact HI716.out)) : P_ := h_
def spec_DrawLeastSorts.f (k : Nat) (l0 : List Int) : Option (List ByteArray × (List (S52)) × Int) := (spec_l1New.f k l0).bind fun bt713 => ((spec_l3Draw.f k bt713.1 bt713.2.1 bt713.2.2).bind fun bt717 => ((spec_l1Once.f bt713.1 bt717.2.2.1 bt717.2.2.2 8).bind fun bt726 => (if bt726.1 = true then ((spec_l2Draw.f bt713.1 bt726.2.1 bt726.2.2).bind fun bt729 => (some (bt717.1, bt717.2.1, bt729.1))) else ((spec_l2Draw.f bt713.1 bt726.2.1 bt726.2.2).bind fun bt732 => ((spec_l2Bit.f (bt717.1.length : Int)).bind fun t735 => (some (bt717.1, bt717.2.1, Go.bits .and .i64 bt732.1 (wrap64 (t735 - 1)))))))))
def spec_DrawLeastSorts.T5 : Bool × List (List Nat × List Nat) := (true, [([], []), ([], []), ([1], [1]), ([], []), ([3], [3]), ([4], [4]), ([5, 2], [5]), ([6], [6]), ([2, 7], [2, 7]), ([0, 6, 0], [0]), ([8, 9, 0, 1, 2, 3, 4, 5, 6, 7, 8, 9], [8])])
def spec_DrawLeastSorts.B5 : List Nat := [0, 0, 2, 0, 8, 24, 62, 126, 254, 127, 1023]
theorem spec_DrawLeastSorts.tab5 : rtab .any (opsOf Try.f33 5) = spec_DrawLeastSorts.T5 := by kernel_rfl
theorem spec_DrawLeastSorts.bits5 : waitsOk spec_DrawLeastSorts.T5.2 spec_DrawLeastSorts.B5 = true := by kernel_rfl
set_option maxHeartbeats 8000000 in
set_option maxRecDepth 100000 in
theorem spec_DrawLeastSorts.calls (k : Nat) (A0 : Option Addr) (c0 : Nat) (l0 : List Int) (r1 : List ByteArray) (r2 : List (S52)) (r3 : Int) (w : World) (hr0 : Kd.C (Kd.int .u8) w A0 l0.length l0) (hc0 : l0.length ≤ c0) (h : spec_DrawLeastSorts.f k l0 = some (r1, r2, r3)) :
  Calls Try.prog 33 #[.slice A0 l0.length c0] w fun e w' => ∃ v0_ v1_ : Value, e = .returned (.tuple #[.agg #[v0_, v1_], .int .i64 r3]) ∧ Kd.R Kd.string 9 w' w.heap.size (fun _ => True) v0_ r1 ∧ Kd.R k52 52 w' w.heap.size (fun _ => True) v1_ r2 ∧ Below w.heap.size w w' := by
 have hu30 := Try.underlying30
 have HR0 := Aside0.mk hr0
 have HC0 := Aside0.mk hc0
 clear hr0 hc0
 have HB := Aside0.mk (Below.refl w.heap.size w)
 have H : ((spec_l1New.f k l0).bind fun bt713 => ((spec_l3Draw.f k bt713.1 bt713.2.1 bt713.2.2).bind fun bt717 => ((spec_l1Once.f bt713.1 bt717.2.2.1 bt717.2.2.2 8).bind fun bt726 => (if bt726.1 = true then ((spec_l2Draw.f bt713.1 bt726.2.1 bt726.2.2).bind fun bt729 => (some (bt717.1, bt717.2.1, bt729.1))) else ((spec_l2Draw.f bt713.1 bt726.2.1 bt726.2.2).bind fun bt732 => ((spec_l2Bit.f (bt717.1.length : Int)).bind fun t735 => (some (bt717.1, bt717.2.1, Go.bits .and .i64 bt732.1 (wrap64 (t735 - 1)))))))))) = some (r1, r2, r3) := h
 clear h
 replace H := Option.bind_eq_some_iff.mp H
 obtain ⟨⟨t713, t714, t715⟩, A20, H⟩ := H
 replace H : ((spec_l3Draw.f k t713 t714 t715).bind fun bt717 => ((spec_l1Once.f t713 bt717.2.2.1 bt717.2.2.2 8).bind fun bt726 => (if bt726.1 = true then ((spec_l2Draw.f t713 bt726.2.1 bt726.2.2).bind fun bt729 => (some (bt717.1, bt717.2.1, bt729.1))) else ((spec_l2Draw.f t713 bt726.2.1 bt726.2.2).bind fun bt732 => ((spec_l2Bit.f (bt717.1.length : Int)).bind fun t735 => (some (bt717.1, bt717.2.1, Go.bits .and .i64 bt732.1 (wrap64 (t735 - 1))))))))) = some (r1, r2, r3) := H
 have A2 := Aside0.mk A20
 clear A20
 replace H := Option.bind_eq_some_iff.mp H
 obtain ⟨⟨t717, t720, t723, t724⟩, A30, H⟩ := H
 replace H : ((spec_l1Once.f t713 t723 t724 8).bind fun bt726 => (if bt726.1 = true then ((spec_l2Draw.f t713 bt726.2.1 bt726.2.2).bind fun bt729 => (some (t717, t720, bt729.1))) else ((spec_l2Draw.f t713 bt726.2.1 bt726.2.2).bind fun bt732 => ((spec_l2Bit.f (t717.length : Int)).bind fun t735 => (some (t717, t720, Go.bits .and .i64 bt732.1 (wrap64 (t735 - 1)))))))) = some (r1, r2, r3) := H
 have A3 := Aside0.mk A30
 clear A30
 replace H := Option.bind_eq_some_iff.mp H
 obtain ⟨⟨t726, t727, t728⟩, A40, H⟩ := H
 replace H : (if t726 = true then ((spec_l2Draw.f t713 t727 t728).bind fun bt729 => (some (t717, t720, bt729.1))) else ((spec_l2Draw.f t713 t727 t728).bind fun bt732 => ((spec_l2Bit.f (t717.length : Int)).bind fun t735 => (some (t717, t720, Go.bits .and .i64 bt732.1 (wrap64 (t735 - 1))))))) = some (r1, r2, r3) := H
 have A4 := Aside0.mk A40
 clear A40
 by_cases c5 : t726 = true
 ·subst c5
  have H1 : ((spec_l2Draw.f t713 t727 t728).bind fun bt729 => (some (t717, t720, bt729.1))) = some (r1, r2, r3) := by rw [if_pos rfl] at H; exact H
  clear H
  have H := H1
  clear H1
  replace H := Option.bind_eq_some_iff.mp H
  obtain ⟨⟨t729, t730, t731⟩, A60, H⟩ := H
  replace H : (some (t717, t720, t729)) = some (r1, r2, r3) := H
  have A6 := Aside0.mk A60
  clear A60
  simp only [Option.some.injEq, Prod.mk.injEq] at H
  obtain ⟨rfl, rfl, rfl⟩ := H
  go_enter Try.func33, Try.ntmps33
  try go_wp2_with (first | ((with_reducible refine gate_dst (N := 2) rfl ?_); refine box_event ?hg (N := 2) ?hd (cs := #[.slice none 0 0, .slice none 0 0]) (t := 30) ?hr ?_; (case hd => rfl); (case hg => rfl); (case hr => first | (go_simp; done) | (go_simp; rfl)); intro gb712 hg w7 hbox hb; have n0_ := Aside0.mk (below_step spec_DrawLeastSorts.a3 hb); have n1_ := Aside0.mk (hbox); have n2_ := Aside0.mk ((by rw [hg]; exact (below_size spec_DrawLeastSorts.a3) : w.heap.size ≤ gb712)); have n3_ := Aside0.mk ((by rw [hg]; exact (below_size spec_DrawLeastSorts.a3) : w.heap.size ≤ gb712)); clear HB; have HB := n0_; have BK712 := n1_; have GW712 := n2_; have GE712 := n3_; clear n0_ n1_ n2_ n3_; clear hb hbox hg) | ((with_reducible refine gate_callee (f := 49) rfl ?_); refine goesL_ (some 7) rfl rfl Try.func49 (by kernel_rfl) rfl #[.slice A0 l0.length c0] rfl spec_DrawLeastSorts.a2 ?_; (with_reducible refine (spec_l1New.calls k _ _ l0 t713 t714 t715 w _ ?side1 ?side2 ?side3 A2.out).mono ?_); (case side1 => repeat (first | (with_reducible first | exact HB.out | apply below_alloc | apply pw_below_drewN | apply below_drew1 | refine below_set ?_ GE712.out) | exact HB.out)); (case side2 => exact HR0.out); (case side3 => exact HC0.out); rintro e w8 ⟨g716, rfl, hi, hb, hb2⟩; refine ⟨_, rfl, ?_⟩; have n0_ := Aside0.mk (blk_below (g := gb712) (o := .cells #[.slice none 0 0, .slice none 0 0] 30 (0, 0)) spec_DrawLeastSorts.a1 hb2); have n1_ := Aside0.mk (hb); have n2_ := Aside0.mk (hi); have n3_ := Aside0.mk (IsS77.ne_blk hi (blk_below (g := gb712) (o := .cells #[.slice none 0 0, .slice none 0 0] 30 (0, 0)) spec_DrawLeastSorts.a1 hb2) (by decide)); have n4_ := Aside0.mk (Ne.symm (IsS77.ne_blk hi (blk_below (g := gb712) (o := .cells #[.slice none 0 0, .slice none 0 0] 30 (0, 0)) spec_DrawLeastSorts.a1 hb2) (by decide))); clear BK712; clear HB; have BK712 := n0_; have HB := n1_; have HI716 := n2_; have NB716_712 := n3_; have NB712_716 := n4_; clear n0_ n1_ n2_ n3_ n4_; (try clear hb); (try clear hb2); (try clear hk); (try clear hi)) | ((with_reducible refine gate_callee (f := 50) rfl ?_); refine goesL_ (some 9) rfl rfl Try.func50 (by kernel_rfl) rfl #[.pointer (some ⟨g716, 0, none⟩)] rfl spec_DrawLeastSorts.a2 ?_; (with_reducible refine (spec_l3Draw.calls k g716 t713 t714 t715 t717 t720 t723 t724 w _ ?side1 ?side2 A3.out).mono ?_); (case side1 => repeat (first | (with_reducible first | exact HI716.out | apply IsS77.alloc | apply IsS77.drewN | apply IsS77.drew | apply IsS77.set_1 | apply IsS77.set_2 | refine IsS77.far ?_ NB716_712.out _) | exact HI716.out)); (case side2 => repeat (first | (with_reducible first | exact HB.out | apply below_alloc | apply pw_below_drewN | apply below_drew1 | refine below_set ?_ (IsS77.ge HI716.out) | refine below_set ?_ GE712.out) | exact HB.out)); rintro e w9 ⟨v718, v721, rfl, ho0, ho1, hi, hb, hk⟩; refine ⟨_, rfl, ?_⟩; have n0_ := Aside0.mk (KeepBut.blk hk (g' := gb712) (o := .cells #[.slice none 0 0, .slice none 0 0] 30 (0, 0)) spec_DrawLeastSorts.a1 NB712_716.out (by simp)); have n1_ := Aside0.mk (Kd.R_lower ho0 (below_size spec_DrawLeastSorts.a0)); have n2_ := Aside0.mk (Kd.R_lower ho1 (below_size spec_DrawLeastSorts.a0)); have n3_ := Aside0.mk (hb); have n4_ := Aside0.mk (hi); clear BK712; clear HB; clear HI716; have BK712 := n0_; have HO719 := n1_; have HO722 := n2_; have HB := n3_; have HI716 := n4_; clear n0_ n1_ n2_ n3_ n4_; (try clear hb); (try clear hb2); (try clear hk); (try clear hi); (try clear ho0); (try clear ho1)) | ((with_reducible refine gate_dst (N := 5) rfl ?_); refine box_event ?hg (N := 5) ?hd (cs := #[.slice none 0 0, .slice none 0 0]) (t := 30) ?hr ?_; (case hd => rfl); (case hg => rfl); (case hr => first | (go_simp; done) | (go_simp; rfl)); intro gb725 hg w10 hbox hb; have n0_ := Aside0.mk (Kd.R_below spec_DrawLeastSorts.a5 hb); have n1_ := Aside0.mk (Kd.R_below spec_DrawLeastSorts.a6 hb); have n2_ := Aside0.mk (blk_below (g := gb712) (o := .cells #[.slice none 0 0, .slice none 0 0] 30 (0, 0)) spec_DrawLeastSorts.a1 hb); have n3_ := Aside0.mk (IsS77.below spec_DrawLeastSorts.a8 hb); have n4_ := Aside0.mk (below_step spec_DrawLeastSorts.a0 hb); have n5_ := Aside0.mk (hbox); have n6_ := Aside0.mk ((by rw [hg]; exact (below_size spec_DrawLeastSorts.a0) : w.heap.size ≤ gb725)); have n7_ := Aside0.mk ((by rw [hg]; exact (below_size spec_DrawLeastSorts.a0) : w.heap.size ≤ gb725)); have n8_ := Aside0.mk ((by rw [hg]; exact Nat.ne_of_lt (blk_lt (g := gb712) (o := .cells #[.slice none 0 0, .slice none 0 0] 30 (0, 0)) spec_DrawLeastSorts.a1) : gb712 ≠ gb725)); have n9_ := Aside0.mk ((by rw [hg]; exact Nat.ne_of_gt (blk_lt (g := gb712) (o := .cells #[.slice none 0 0, .slice none 0 0] 30 (0, 0)) spec_DrawLeastSorts.a1) : gb725 ≠ gb712)); have n10_ := Aside0.mk ((by rw [hg]; exact Nat.ne_of_lt (IsS77.lt (show IsS77 w _ g716 t713 t723 t724 from by repeat (first | (with_reducible first | exact HI716.out | apply IsS77.alloc | apply IsS77.drewN | apply IsS77.drew | apply IsS77.set_1 | apply IsS77.set_2 | refine IsS77.far ?_ NB716_712.out _) | exact HI716.out))) : g716 ≠ gb725)); have n11_ := Aside0.mk ((by rw [hg]; exact Nat.ne_of_gt (IsS77.lt (show IsS77 w _ g716 t713 t723 t724 from by repeat (first | (with_reducible first | exact HI716.out | apply IsS77.alloc | apply IsS77.drewN | apply IsS77.drew | apply IsS77.set_1 | apply IsS77.set_2 | refine IsS77.far ?_ NB716_712.out _) | exact HI716.out))) : gb725 ≠ g716)); clear HO719; clear HO722; clear BK712; clear HI716; clear HB; have HO719 := n0_; have HO722 := n1_; have BK712 := n2_; have HI716 := n3_; have HB := n4_; have BK725 := n5_; have GW725 := n6_; have GE725 := n7_; have NB712_725 := n8_; have NB725_712 := n9_; have NB716_725 := n10_; have NB725_716 := n11_; clear n0_ n1_ n2_ n3_ n4_ n5_ n6_ n7_ n8_ n9_ n10_ n11_; clear hb hbox hg; obtain ⟨Ao11, co11, eo11⟩ := Kd.R_slice HO719.out; subst eo11; have hnb12 := NB725_712.out; have hnc12 := NB712_725.out; have hnb13 := NB725_716.out; have hnc13 := NB716_725.out; have hcz14_0 : w10.cell? ⟨gb725, 0, none⟩ = some (.slice none 0 0) := (blk_cell BK725.out 0).trans rfl; have hcz14_1 : w10.cell? ⟨gb725, 1, none⟩ = some (.slice none 0 0) := (blk_cell BK725.out 1).trans rfl; have hfz14_0 := blk_frozen BK725.out 0; have hfz14_1 := blk_frozen BK725.out 1; obtain ⟨Ao15, co15, eo15⟩ := Kd.R_slice HO722.out; subst eo15) | ((with_reducible refine gate_callee (f := 59) rfl ?_); refine goesL_ (some 11) rfl rfl Try.func59 (by kernel_rfl) rfl #[.pointer (some ⟨g716, 0, none⟩), .int .i64 8] rfl spec_DrawLeastSorts.a2 ?_; (with_reducible refine (spec_l1Once.calls g716 t713 t723 t724 8 true t727 t728 w _ ?side1 ?side2 A4.out).mono ?_); (case side1 => repeat (first | (with_reducible first | exact HI716.out | apply IsS77.alloc | apply IsS77.drewN | apply IsS77.drew | apply IsS77.set_1 | apply IsS77.set_2 | refine IsS77.far ?_ NB716_712.out _ | refine IsS77.far ?_ NB716_725.out _) | exact HI716.out)); (case side2 => repeat (first | (with_reducible first | exact HB.out | apply below_alloc | apply pw_below_drewN | apply below_drew1 | refine below_set ?_ (IsS77.ge HI716.out) | refine below_set ?_ GE712.out | refine below_set ?_ GE725.out) | exact HB.out)); rintro e w16 ⟨rfl, hi, hb, hk⟩; refine ⟨_, rfl, ?_⟩; have n0_ := Aside0.mk (KeepBut.blk hk (g' := gb712) (o := .cells #[.slice none 0 0, .slice none 0 0] 30 (0, 0)) spec_DrawLeastSorts.a4 NB712_716.out (by simp)); have n1_ := Aside0.mk (Kd.R_mono (Kd.R_keep (IsS77.apart (show IsS77 w _ g716 t713 t723 t724 from by repeat (first | (with_reducible first | exact HI716.out | apply IsS77.alloc | apply IsS77.drewN | apply IsS77.drew | apply IsS77.set_1 | apply IsS77.set_2 | refine IsS77.far ?_ NB716_712.out _ | refine IsS77.far ?_ NB716_725.out _) | exact HI716.out)) (by (with_reducible repeat (first | apply Kd.R_alloc | apply Kd.R_drewN | apply Kd.R_drew)); exact (Kd.R_mono (Kd.R_far (p := ⟨gb725, 1, none⟩) (Kd.R_far (p := ⟨gb725, 0, none⟩) (Kd.R_types HO719.out BK725.out (by decide)) (fun _ hk => hk.2) (.slice Ao11 t717.length co11)) (fun _ hk => hk.2) (.slice Ao15 t720.length co15)) (fun _ h_ => h_.1))) (by decide)) hk (fun _ h => h.2)) (fun _ h => h.1)); have n2_ := Aside0.mk (Kd.R_mono (Kd.R_keep (IsS77.apart (show IsS77 w _ g716 t713 t723 t724 from by repeat (first | (with_reducible first | exact HI716.out | apply IsS77.alloc | apply IsS77.drewN | apply IsS77.drew | apply IsS77.set_1 | apply IsS77.set_2 | refine IsS77.far ?_ NB716_712.out _ | refine IsS77.far ?_ NB716_725.out _) | exact HI716.out)) (by (with_reducible repeat (first | apply Kd.R_alloc | apply Kd.R_drewN | apply Kd.R_drew)); exact (Kd.R_mono (Kd.R_far (p := ⟨gb725, 1, none⟩) (Kd.R_far (p := ⟨gb725, 0, none⟩) (Kd.R_types HO722.out BK725.out (by decide)) (fun _ hk => hk.2) (.slice Ao11 t717.length co11)) (fun _ hk => hk.2) (.slice Ao15 t720.length co15)) (fun _ h_ => h_.1))) (by decide)) hk (fun _ h => h.2)) (fun _ h => h.1)); have n3_ := Aside0.mk (KeepBut.blk hk (g' := gb725) (o := .cells #[.slice Ao11 t717.length co11, .slice Ao15 t720.length co15] 30 (0, 0)) (by (with_reducible repeat (first | refine blk_drewN ?_ _ | refine blk_drew ?_ | refine blk_alloc ?_ _)); refine blk_put (cs := #[.slice Ao11 t717.length co11, .slice none 0 0]) ?_ 1 _ rfl; (with_reducible repeat (first | refine blk_drewN ?_ _ | refine blk_drew ?_ | refine blk_alloc ?_ _)); refine blk_put (cs := #[.slice none 0 0, .slice none 0 0]) ?_ 0 _ rfl; (with_reducible repeat (first | refine blk_drewN ?_ _ | refine blk_drew ?_ | refine blk_alloc ?_ _)); exact BK725.out) NB725_716.out (by simp)); have n4_ := Aside0.mk (hb); have n5_ := Aside0.mk (hi); clear BK712; clear HO719; clear HO722; clear BK725; clear HB; clear HI716; have BK712 := n0_; have HO719 := n1_; have HO722 := n2_; have BK725 := n3_; have HB := n4_; have HI716 := n5_; clear n0_ n1_ n2_ n3_ n4_ n5_; (try clear hb); (try clear hb2); (try clear hk); (try clear hi)))
  have n0_ := Aside0.mk (Kd.R_drew HO719.out)
  have n1_ := Aside0.mk (Kd.R_drew HO722.out)
  have n2_ := Aside0.mk (blk_drew BK712.out)
  have n3_ := Aside0.mk (blk_drew BK725.out)
  have n4_ := Aside0.mk (IsS77.drew HI716.out)
  have n5_ := Aside0.mk (below_drew1 HB.out)
  clear HO719
  clear HO722
  clear BK712
  clear BK725
  clear HI716
  clear HB
  have HO719 := n0_
  have HO722 := n1_
  have BK712 := n2_
  have BK725 := n3_
  have HI716 := n4_
  have HB := n5_
  clear n0_ n1_ n2_ n3_ n4_ n5_
  refine start_ (n := 5) (S := fun w' => w'.cell? ⟨gb725, 0, none⟩ = some (.slice Ao11 t717.length co11) ∧ w'.cell? ⟨gb725, 1, none⟩ = some (.slice Ao15 t720.length co15)) (ds := []) #[false, false, false, false, false] (by kernel_rfl) rfl rfl ⟨(blk_cell BK725.out 0).trans rfl, (blk_cell BK725.out 1).trans rfl⟩ (fun hHeld => ?_)
  generalize w16.drew = w17 at HO719 HO722 BK712 BK725 HI716 HB hHeld ⊢
  refine pureK 1 13 rfl rfl ?_
  refine takeK 0 12 rfl rfl hHeld ?_ (by rintro w' ⟨s0, s1⟩; go_simp; with_reducible rfl)
  refine one_ (i := 2) (N := some 14) #[true, true, true, false, false] rfl rfl (by kernel_rfl) (by decide) (fun K hK => ?_)
  refine goes_ Try.func60 (by kernel_rfl) rfl #[.pointer (some ⟨g716, 0, none⟩)] (by rfl) rfl rfl spec_DrawLeastSorts.a2 ?_
  with_reducible refine (spec_l2Draw.calls g716 t713 t727 t728 t729 t730 t731 w _ ?side1 ?side2 A6.out).mono ?_
  (case side1 => repeat (first | (with_reducible first | exact HI716.out | apply IsS77.alloc | apply IsS77.drewN | apply IsS77.drew | apply IsS77.set_1 | apply IsS77.set_2 | refine IsS77.far ?_ NB716_712.out _ | refine IsS77.far ?_ NB716_725.out _) | exact HI716.out))
  (case side2 => repeat (first | (with_reducible first | exact HB.out | apply below_alloc | apply pw_below_drewN | apply below_drew1 | refine below_set ?_ (IsS77.ge HI716.out) | refine below_set ?_ GE712.out | refine below_set ?_ GE725.out) | exact HB.out))
  rintro e w18 ⟨rfl, hi, hb, hk⟩
  refine ⟨_, rfl, ?_⟩
  have n0_ := Aside0.mk (KeepBut.blk hk (g' := gb712) (o := .cells #[.slice none 0 0, .slice none 0 0] 30 (0, 0)) spec_DrawLeastSorts.a1 NB712_716.out (by simp))
  have n1_ := Aside0.mk (Kd.R_mono (Kd.R_keep (IsS77.apart (show IsS77 w _ g716 t713 t727 t728 from by repeat (first | (with_reducible first | exact HI716.out | apply IsS77.alloc | apply IsS77.drewN | apply IsS77.drew | apply IsS77.set_1 | apply IsS77.set_2 | refine IsS77.far ?_ NB716_712.out _ | refine IsS77.far ?_ NB716_725.out _) | exact HI716.out)) spec_DrawLeastSorts.a5 (by decide)) hk (fun _ h => h.2)) (fun _ h => h.1))
  have n2_ := Aside0.mk (Kd.R_mono (Kd.R_keep (IsS77.apart (show IsS77 w _ g716 t713 t727 t728 from by repeat (first | (with_reducible first | exact HI716.out | apply IsS77.alloc | apply IsS77.drewN | apply IsS77.drew | apply IsS77.set_1 | apply IsS77.set_2 | refine IsS77.far ?_ NB716_712.out _ | refine IsS77.far ?_ NB716_725.out _) | exact HI716.out)) spec_DrawLeastSorts.a6 (by decide)) hk (fun _ h => h.2)) (fun _ h => h.1))
  have n3_ := Aside0.mk (KeepBut.blk hk (g' := gb725) (o := .cells #[.slice Ao11 t717.length co11, .slice Ao15 t720.length co15] 30 (0, 0)) (by (with_reducible repeat (first | refine blk_drewN ?_ _ | refine blk_drew ?_ | refine blk_alloc ?_ _)); exact BK725.out) NB725_716.out (by simp))
  have n4_ := Aside0.mk (hb)
  have n5_ := Aside0.mk (hi)
  clear BK712
  clear HO719
  clear HO722
  clear BK725
  clear HB
  clear HI716
  have BK712 := n0_
  have HO719 := n1_
  have HO722 := n2_
  have BK725 := n3_
  have HB := n4_
  have HI716 := n5_
  clear n0_ n1_ n2_ n3_ n4_ n5_
  (try clear hb)
  (try clear hb2)
  (try clear hk)
  (try clear hi)
  refine hK.out _ _ ⟨(blk_cell BK725.out 0).trans rfl, (blk_cell BK725.out 1).trans rfl⟩ (fun hHeld => ?_)
  clear hK K
  refine norm_ (a' := ?_) ?_ ?_
  rotate_left
  ·show Act.put _ (some 14) _ = _
   simp only [Act.put, List.setIfInBounds_toArray, List.set_cons_zero, List.set_cons_succ, i64_w, i32_w]
   rfl
  refine one_ (i := 3) (N := none) #[true, true, true, true, false] rfl rfl (by kernel_rfl) (by decide) (fun K hK => ?_)
  have hs19 : w18.cell? ⟨gb712, 0, none⟩ = some (.slice none 0 0) := (blk_cell BK712.out 0).trans rfl
  have hfs19 := blk_frozen BK712.out 0
  have hns19_1 := NB725_712.out
  have hms19_1 := NB712_725.out
  have hs20 : w18.cell? ⟨gb712, 1, none⟩ = some (.slice none 0 0) := (blk_cell BK712.out 1).trans rfl
  have hfs20 := blk_frozen BK712.out 1
  have hns20_1 := NB725_712.out
  have hms20_1 := NB712_725.out
  refine skip_ (w1 := ?_) (by rfl) rfl ?_ ?_
  rotate_left
  ·go_simp
   rfl
  refine hK.out _ _ ⟨((cell_far (p := ⟨gb712, _, none⟩) NB725_712.out _).trans (((cell_far (p := ⟨gb712, _, none⟩) NB725_712.out _).trans (hHeld.1)))), ((cell_far (p := ⟨gb712, _, none⟩) NB725_712.out _).trans (((cell_far (p := ⟨gb712, _, none⟩) NB725_712.out _).trans (hHeld.2))))⟩ (fun hHeld => ?_)
  clear hK K
  refine pureK 4 3 rfl rfl ?_
  refine done_ (by kernel_rfl) ?_
  try go_wp2
  refine bodyPost_ret (results_ct rfl _ _ gb712 30 #[.slice Ao11 t717.length co11, .slice Ao15 t720.length co15] (0, 0) _ rfl (by (with_reducible repeat (first | refine blk_drewN ?_ _ | refine blk_drew ?_ | refine blk_alloc ?_ _)); refine blk_put (cs := #[.slice Ao11 t717.length co11, .slice none 0 0]) ?_ 1 _ rfl; (with_reducible repeat (first | refine blk_drewN ?_ _ | refine blk_drew ?_ | refine blk_alloc ?_ _)); refine blk_put (cs := #[.slice none 0 0, .slice none 0 0]) ?_ 0 _ rfl; (with_reducible repeat (first | refine blk_drewN ?_ _ | refine blk_drew ?_ | refine blk_alloc ?_ _)); exact BK712.out) Try.underlying30 rfl (by kernel_rfl)) rfl ?_
  exact ⟨_, _, by first | rfl | (simp [errW_none, errW_some] <;> rfl) | (simp [*, errW_none, errW_some] <;> rfl), by (with_reducible repeat (first | apply Kd.R_alloc | apply Kd.R_drewN | apply Kd.R_drew)); exact Kd.R_mono (Kd.R_far (p := ⟨gb712, 1, none⟩) (Kd.R_far (p := ⟨gb712, 0, none⟩) (Kd.R_types HO719.out BK712.out (by decide)) (fun _ hk => hk.2) (.slice Ao11 t717.length co11)) (fun _ hk => hk.2) (.slice Ao15 t720.length co15)) (fun _ hk => trivial), by (with_reducible repeat (first | apply Kd.R_alloc | apply Kd.R_drewN | apply Kd.R_drew)); exact Kd.R_mono (Kd.R_far (p := ⟨gb712, 1, none⟩) (Kd.R_far (p := ⟨gb712, 0, none⟩) (Kd.R_types HO722.out BK712.out (by decide)) (fun _ hk => hk.2) (.slice Ao11 t717.length co11)) (fun _ hk => hk.2) (.slice Ao15 t720.length co15)) (fun _ hk => trivial), spec_DrawLeastSorts.a7⟩
 ·replace c5 := Bool.eq_false_iff.mpr c5
  subst c5
  have H1 : ((spec_l2Draw.f t713 t727 t728).bind fun bt732 => ((spec_l2Bit.f (t717.length : Int)).bind fun t735 => (some (t717, t720, Go.bits .and .i64 bt732.1 (wrap64 (t735 - 1)))))) = some (r1, r2, r3) := by rw [if_neg (show ¬ (false = true) by decide)] at H; exact H
  clear H
  have H := H1
  clear H1
  replace H := Option.bind_eq_some_iff.mp H
  obtain ⟨⟨t732, t733, t734⟩, A210, H⟩ := H
  replace H : ((spec_l2Bit.f (t717.length : Int)).bind fun t735 => (some (t717, t720, Go.bits .and .i64 t732 (wrap64 (t735 - 1))))) = some (r1, r2, r3) := H
  have A21 := Aside0.mk A210
  clear A210
  replace H := Option.bind_eq_some_iff.mp H
  obtain ⟨t735, A220, H⟩ := H
  replace H : (some (t717, t720, Go.bits .and .i64 t732 (wrap64 (t735 - 1)))) = some (r1, r2, r3) := H
  have A22 := Aside0.mk A220
  clear A220
  simp only [Option.some.injEq, Prod.mk.injEq] at H
  obtain ⟨rfl, rfl, rfl⟩ := H
  go_enter Try.func33, Try.ntmps33
  try go_wp2_with (first | ((with_reducible refine gate_dst (N := 2) rfl ?_); refine box_event ?hg (N := 2) ?hd (cs := #[.slice none 0 0, .slice none 0 0]) (t := 30) ?hr ?_; (case hd => rfl); (case hg => rfl); (case hr => first | (go_simp; done) | (go_simp; rfl)); intro gb712 hg w23 hbox hb; have n0_ := Aside0.mk (below_step spec_DrawLeastSorts.a3 hb); have n1_ := Aside0.mk (hbox); have n2_ := Aside0.mk ((by rw [hg]; exact (below_size spec_DrawLeastSorts.a3) : w.heap.size ≤ gb712)); have n3_ := Aside0.mk ((by rw [hg]; exact (below_size spec_DrawLeastSorts.a3) : w.heap.size ≤ gb712)); clear HB; have HB := n0_; have BK712 := n1_; have GW712 := n2_; have GE712 := n3_; clear n0_ n1_ n2_ n3_; clear hb hbox hg) | ((with_reducible refine gate_callee (f := 49) rfl ?_); refine goesL_ (some 7) rfl rfl Try.func49 (by kernel_rfl) rfl #[.slice A0 l0.length c0] rfl spec_DrawLeastSorts.a2 ?_; (with_reducible refine (spec_l1New.calls k _ _ l0 t713 t714 t715 w _ ?side1 ?side2 ?side3 A2.out).mono ?_); (case side1 => repeat (first | (with_reducible first | exact HB.out | apply below_alloc | apply pw_below_drewN | apply below_drew1 | refine below_set ?_ GE712.out) | exact HB.out)); (case side2 => exact HR0.out); (case side3 => exact HC0.out); rintro e w24 ⟨g716, rfl, hi, hb, hb2⟩; refine ⟨_, rfl, ?_⟩; have n0_ := Aside0.mk (blk_below (g := gb712) (o := .cells #[.slice none 0 0, .slice none 0 0] 30 (0, 0)) spec_DrawLeastSorts.a1 hb2); have n1_ := Aside0.mk (hb); have n2_ := Aside0.mk (hi); have n3_ := Aside0.mk (IsS77.ne_blk hi (blk_below (g := gb712) (o := .cells #[.slice none 0 0, .slice none 0 0] 30 (0, 0)) spec_DrawLeastSorts.a1 hb2) (by decide)); have n4_ := Aside0.mk (Ne.symm (IsS77.ne_blk hi (blk_below (g := gb712) (o := .cells #[.slice none 0 0, .slice none 0 0] 30 (0, 0)) spec_DrawLeastSorts.a1 hb2) (by decide))); clear BK712; clear HB; have BK712 := n0_; have HB := n1_; have HI716 := n2_; have NB716_712 := n3_; have NB712_716 := n4_; clear n0_ n1_ n2_ n3_ n4_; (try clear hb); (try clear hb2); (try clear hk); (try clear hi)) | ((with_reducible refine gate_callee (f := 50) rfl ?_); refine goesL_ (some 9) rfl rfl Try.func50 (by kernel_rfl) rfl #[.pointer (some ⟨g716, 0, none⟩)] rfl spec_DrawLeastSorts.a2 ?_; (with_reducible refine (spec_l3Draw.calls k g716 t713 t714 t715 t717 t720 t723 t724 w _ ?side1 ?side2 A3.out).mono ?_); (case side1 => repeat (first | (with_reducible first | exact HI716.out | apply IsS77.alloc | apply IsS77.drewN | apply IsS77.drew | apply IsS77.set_1 | apply IsS77.set_2 | refine IsS77.far ?_ NB716_712.out _) | exact HI716.out)); (case side2 => repeat (first | (with_reducible first | exact HB.out | apply below_alloc | apply pw_below_drewN | apply below_drew1 | refine below_set ?_ (IsS77.ge HI716.out) | refine below_set ?_ GE712.out) | exact HB.out)); rintro e w25 ⟨v718, v721, rfl, ho0, ho1, hi, hb, hk⟩; refine ⟨_, rfl, ?_⟩; have n0_ := Aside0.mk (KeepBut.blk hk (g' := gb712) (o := .cells #[.slice none 0 0, .slice none 0 0] 30 (0, 0)) spec_DrawLeastSorts.a1 NB712_716.out (by simp)); have n1_ := Aside0.mk (Kd.R_lower ho0 (below_size spec_DrawLeastSorts.a0)); have n2_ := Aside0.mk (Kd.R_lower ho1 (below_size spec_DrawLeastSorts.a0)); have n3_ := Aside0.mk (hb); have n4_ := Aside0.mk (hi); clear BK712; clear HB; clear HI716; have BK712 := n0_; have HO719 := n1_; have HO722 := n2_; have HB := n3_; have HI716 := n4_; clear n0_ n1_ n2_ n3_ n4_; (try clear hb); (try clear hb2); (try clear hk); (try clear hi); (try clear ho0); (try clear ho1)) | ((with_reducible refine gate_dst (N := 5) rfl ?_); refine box_event ?hg (N := 5) ?hd (cs := #[.slice none 0 0, .slice none 0 0]) (t := 30) ?hr ?_; (case hd => rfl); (case hg => rfl); (case hr => first | (go_simp; done) | (go_simp; rfl)); intro gb725 hg w26 hbox hb; have n0_ := Aside0.mk (Kd.R_below spec_DrawLeastSorts.a5 hb); have n1_ := Aside0.mk (Kd.R_below spec_DrawLeastSorts.a6 hb); have n2_ := Aside0.mk (blk_below (g := gb712) (o := .cells #[.slice none 0 0, .slice none 0 0] 30 (0, 0)) spec_DrawLeastSorts.a1 hb); have n3_ := Aside0.mk (IsS77.below spec_DrawLeastSorts.a8 hb); have n4_ := Aside0.mk (below_step spec_DrawLeastSorts.a0 hb); have n5_ := Aside0.mk (hbox); have n6_ := Aside0.mk ((by rw [hg]; exact (below_size spec_DrawLeastSorts.a0) : w.heap.size ≤ gb725)); have n7_ := Aside0.mk ((by rw [hg]; exact (below_size spec_DrawLeastSorts.a0) : w.heap.size ≤ gb725)); have n8_ := Aside0.mk ((by rw [hg]; exact Nat.ne_of_lt (blk_lt (g := gb712) (o := .cells #[.slice none 0 0, .slice none 0 0] 30 (0, 0)) spec_DrawLeastSorts.a1) : gb712 ≠ gb725)); have n9_ := Aside0.mk ((by rw [hg]; exact Nat.ne_of_gt (blk_lt (g := gb712) (o := .cells #[.slice none 0 0, .slice none 0 0] 30 (0, 0)) spec_DrawLeastSorts.a1) : gb725 ≠ gb712)); have n10_ := Aside0.mk ((by rw [hg]; exact Nat.ne_of_lt (IsS77.lt (show IsS77 w _ g716 t713 t723 t724 from by repeat (first | (with_reducible first | exact HI716.out | apply IsS77.alloc | apply IsS77.drewN | apply IsS77.drew | apply IsS77.set_1 | apply IsS77.set_2 | refine IsS77.far ?_ NB716_712.out _) | exact HI716.out))) : g716 ≠ gb725)); have n11_ := Aside0.mk ((by rw [hg]; exact Nat.ne_of_gt (IsS77.lt (show IsS77 w _ g716 t713 t723 t724 from by repeat (first | (with_reducible first | exact HI716.out | apply IsS77.alloc | apply IsS77.drewN | apply IsS77.drew | apply IsS77.set_1 | apply IsS77.set_2 | refine IsS77.far ?_ NB716_712.out _) | exact HI716.out))) : gb725 ≠ g716)); clear HO719; clear HO722; clear BK712; clear HI716; clear HB; have HO719 := n0_; have HO722 := n1_; have BK712 := n2_; have HI716 := n3_; have HB := n4_; have BK725 := n5_; have GW725 := n6_; have GE725 := n7_; have NB712_725 := n8_; have NB725_712 := n9_; have NB716_725 := n10_; have NB725_716 := n11_; clear n0_ n1_ n2_ n3_ n4_ n5_ n6_ n7_ n8_ n9_ n10_ n11_; clear hb hbox hg; obtain ⟨Ao27, co27, eo27⟩ := Kd.R_slice HO719.out; subst eo27; have hnb28 := NB725_712.out; have hnc28 := NB712_725.out; have hnb29 := NB725_716.out; have hnc29 := NB716_725.out; have hcz30_0 : w26.cell? ⟨gb725, 0, none⟩ = some (.slice none 0 0) := (blk_cell BK725.out 0).trans rfl; have hcz30_1 : w26.cell? ⟨gb725, 1, none⟩ = some (.slice none 0 0) := (blk_cell BK725.out 1).trans rfl; have hfz30_0 := blk_frozen BK725.out 0; have hfz30_1 := blk_frozen BK725.out 1; obtain ⟨Ao31, co31, eo31⟩ := Kd.R_slice HO722.out; subst eo31) | ((with_reducible refine gate_callee (f := 59) rfl ?_); refine goesL_ (some 11) rfl rfl Try.func59 (by kernel_rfl) rfl #[.pointer (some ⟨g716, 0, none⟩), .int .i64 8] rfl spec_DrawLeastSorts.a2 ?_; (with_reducible refine (spec_l1Once.calls g716 t713 t723 t724 8 false t727 t728 w _ ?side1 ?side2 A4.out).mono ?_); (case side1 => repeat (first | (with_reducible first | exact HI716.out | apply IsS77.alloc | apply IsS77.drewN | apply IsS77.drew | apply IsS77.set_1 | apply IsS77.set_2 | refine IsS77.far ?_ NB716_712.out _ | refine IsS77.far ?_ NB716_725.out _) | exact HI716.out)); (case side2 => repeat (first | (with_reducible first | exact HB.out | apply below_alloc | apply pw_below_drewN | apply below_drew1 | refine below_set ?_ (IsS77.ge HI716.out) | refine below_set ?_ GE712.out | refine below_set ?_ GE725.out) | exact HB.out)); rintro e w32 ⟨rfl, hi, hb, hk⟩; refine ⟨_, rfl, ?_⟩; have n0_ := Aside0.mk (KeepBut.blk hk (g' := gb712) (o := .cells #[.slice none 0 0, .slice none 0 0] 30 (0, 0)) spec_DrawLeastSorts.a4 NB712_716.out (by simp)); have n1_ := Aside0.mk (Kd.R_mono (Kd.R_keep (IsS77.apart (show IsS77 w _ g716 t713 t723 t724 from by repeat (first | (with_reducible first | exact HI716.out | apply IsS77.alloc | apply IsS77.drewN | apply IsS77.drew | apply IsS77.set_1 | apply IsS77.set_2 | refine IsS77.far ?_ NB716_712.out _ | refine IsS77.far ?_ NB716_725.out _) | exact HI716.out)) (by (with_reducible repeat (first | apply Kd.R_alloc | apply Kd.R_drewN | apply Kd.R_drew)); exact (Kd.R_mono (Kd.R_far (p := ⟨gb725, 1, none⟩) (Kd.R_far (p := ⟨gb725, 0, none⟩) (Kd.R_types HO719.out BK725.out (by decide)) (fun _ hk => hk.2) (.slice Ao27 t717.length co27)) (fun _ hk => hk.2) (.slice Ao31 t720.length co31)) (fun _ h_ => h_.1))) (by decide)) hk (fun _ h => h.2)) (fun _ h => h.1)); have n2_ := Aside0.mk (Kd.R_mono (Kd.R_keep (IsS77.apart (show IsS77 w _ g716 t713 t723 t724 from by repeat (first | (with_reducible first | exact HI716.out | apply IsS77.alloc | apply IsS77.drewN | apply IsS77.drew | apply IsS77.set_1 | apply IsS77.set_2 | refine IsS77.far ?_ NB716_712.out _ | refine IsS77.far ?_ NB716_725.out _) | exact HI716.out)) (by (with_reducible repeat (first | apply Kd.R_alloc | apply Kd.R_drewN | apply Kd.R_drew)); exact (Kd.R_mono (Kd.R_far (p := ⟨gb725, 1, none⟩) (Kd.R_far (p := ⟨gb725, 0, none⟩) (Kd.R_types HO722.out BK725.out (by decide)) (fun _ hk => hk.2) (.slice Ao27 t717.length co27)) (fun _ hk => hk.2) (.slice Ao31 t720.length co31)) (fun _ h_ => h_.1))) (by decide)) hk (fun _ h => h.2)) (fun _ h => h.1)); have n3_ := Aside0.mk (KeepBut.blk hk (g' := gb725) (o := .cells #[.slice Ao27 t717.length co27, .slice Ao31 t720.length co31] 30 (0, 0)) (by (with_reducible repeat (first | refine blk_drewN ?_ _ | refine blk_drew ?_ | refine blk_alloc ?_ _)); refine blk_put (cs := #[.slice Ao27 t717.length co27, .slice none 0 0]) ?_ 1 _ rfl; (with_reducible repeat (first | refine blk_drewN ?_ _ | refine blk_drew ?_ | refine blk_alloc ?_ _)); refine blk_put (cs := #[.slice none 0 0, .slice none 0 0]) ?_ 0 _ rfl; (with_reducible repeat (first | refine blk_drewN ?_ _ | refine blk_drew ?_ | refine blk_alloc ?_ _)); exact BK725.out) NB725_716.out (by simp)); have n4_ := Aside0.mk (hb); have n5_ := Aside0.mk (hi); clear BK712; clear HO719; clear HO722; clear BK725; clear HB; clear HI716; have BK712 := n0_; have HO719 := n1_; have HO722 := n2_; have BK725 := n3_; have HB := n4_; have HI716 := n5_; clear n0_ n1_ n2_ n3_ n4_ n5_; (try clear hb); (try clear hb2); (try clear hk); (try clear hi)))
  have n0_ := Aside0.mk (Kd.R_drew HO719.out)
  have n1_ := Aside0.mk (Kd.R_drew HO722.out)
  have n2_ := Aside0.mk (blk_drew BK712.out)
  have n3_ := Aside0.mk (blk_drew BK725.out)
  have n4_ := Aside0.mk (IsS77.drew HI716.out)
  have n5_ := Aside0.mk (below_drew1 HB.out)
  clear HO719
  clear HO722
  clear BK712
  clear BK725
  clear HI716
  clear HB
  have HO719 := n0_
  have HO722 := n1_
  have BK712 := n2_
  have BK725 := n3_
  have HI716 := n4_
  have HB := n5_
  clear n0_ n1_ n2_ n3_ n4_ n5_
  refine start_ (n := 11) (S := fun w' => w'.cell? ⟨gb725, 0, none⟩ = some (.slice Ao27 t717.length co27) ∧ w'.cell? ⟨gb725, 1, none⟩ = some (.slice Ao31 t720.length co31)) (ds := []) #[false, false, false, false, false, false, false, false, false, false, false] (by kernel_rfl) rfl rfl ⟨(blk_cell BK725.out 0).trans rfl, (blk_cell BK725.out 1).trans rfl⟩ (fun hHeld => ?_); refine with_tabW spec_DrawLeastSorts.tab5 spec_DrawLeastSorts.bits5 (fun HT_ HW_ => ?_)
  generalize w32.drew = w33 at HO719 HO722 BK712 BK725 HI716 HB hHeld ⊢
  refine pureS 1 16 HT_ rfl rfl ?_
  refine pureS 3 18 HT_ rfl rfl ?_
  refine takeS 0 15 HT_ HW_ rfl rfl hHeld ?_ (by rintro w' ⟨s0, s1⟩; go_simp; with_reducible rfl)
  refine takeS 4 19 HT_ HW_ rfl rfl hHeld ?_ (by rintro w' ⟨s0, s1⟩; go_simp; with_reducible rfl)
  refine pureS 5 20 HT_ rfl rfl ?_
  refine one_ (i := 2) (N := some 17) #[true, true, true, true, true, true, false, false, false, false, false] rfl rfl (one_of HT_.out (by kernel_rfl)) (by decide) (fun K hK => ?_)
  refine goes_ Try.func60 (by kernel_rfl) rfl #[.pointer (some ⟨g716, 0, none⟩)] (by rfl) rfl rfl spec_DrawLeastSorts.a2 ?_
  with_reducible refine (spec_l2Draw.calls g716 t713 t727 t728 t732 t733 t734 w _ ?side1 ?side2 A21.out).mono ?_
  (case side1 => repeat (first | (with_reducible first | exact HI716.out | apply IsS77.alloc | apply IsS77.drewN | apply IsS77.drew | apply IsS77.set_1 | apply IsS77.set_2 | refine IsS77.far ?_ NB716_712.out _ | refine IsS77.far ?_ NB716_725.out _) | exact HI716.out))
  (case side2 => repeat (first | (with_reducible first | exact HB.out | apply below_alloc | apply pw_below_drewN | apply below_drew1 | refine below_set ?_ (IsS77.ge HI716.out) | refine below_set ?_ GE712.out | refine below_set ?_ GE725.out) | exact HB.out))
  rintro e w34 ⟨rfl, hi, hb, hk⟩
  refine ⟨_, rfl, ?_⟩
  have n0_ := Aside0.mk (KeepBut.blk hk (g' := gb712) (o := .cells #[.slice none 0 0, .slice none 0 0] 30 (0, 0)) spec_DrawLeastSorts.a1 NB712_716.out (by simp))
  have n1_ := Aside0.mk (Kd.R_mono (Kd.R_keep (IsS77.apart (show IsS77 w _ g716 t713 t727 t728 from by repeat (first | (with_reducible first | exact HI716.out | apply IsS77.alloc | apply IsS77.drewN | apply IsS77.drew | apply IsS77.set_1 | apply IsS77.set_2 | refine IsS77.far ?_ NB716_712.out _ | refine IsS77.far ?_ NB716_725.out _) | exact HI716.out)) spec_DrawLeastSorts.a5 (by decide)) hk (fun _ h => h.2)) (fun _ h => h.1))
  have n2_ := Aside0.mk (Kd.R_mono (Kd.R_keep (IsS77.apart (show IsS77 w _ g716 t713 t727 t728 from by repeat (first | (with_reducible first | exact HI716.out | apply IsS77.alloc | apply IsS77.drewN | apply IsS77.drew | apply IsS77.set_1 | apply IsS77.set_2 | refine IsS77.far ?_ NB716_712.out _ | refine IsS77.far ?_ NB716_725.out _) | exact HI716.out)) spec_DrawLeastSorts.a6 (by decide)) hk (fun _ h => h.2)) (fun _ h => h.1))
  have n3_ := Aside0.mk (KeepBut.blk hk (g' := gb725) (o := .cells #[.slice Ao27 t717.length co27, .slice Ao31 t720.length co31] 30 (0, 0)) (by (with_reducible repeat (first | refine blk_drewN ?_ _ | refine blk_drew ?_ | refine blk_alloc ?_ _)); exact BK725.out) NB725_716.out (by simp))
  have n4_ := Aside0.mk (hb)
  have n5_ := Aside0.mk (hi)
  clear BK712
  clear HO719
  clear HO722
  clear BK725
  clear HB
  clear HI716
  have BK712 := n0_
  have HO719 := n1_
  have HO722 := n2_
  have BK725 := n3_
  have HB := n4_
  have HI716 := n5_
  clear n0_ n1_ n2_ n3_ n4_ n5_
  (try clear hb)
  (try clear hb2)
  (try clear hk)
  (try clear hi)
  refine hK.out _ _ ⟨(blk_cell BK725.out 0).trans rfl, (blk_cell BK725.out 1).trans rfl⟩ (fun hHeld => ?_)
  clear hK K
  refine norm_ (a' := ?_) ?_ ?_
  rotate_left
  ·show Act.put _ (some 17) _ = _
   simp only [Act.put, List.setIfInBounds_toArray, List.set_cons_zero, List.set_cons_succ, i64_w, i32_w]
   rfl
  refine one_ (i := 6) (N := some 21) #[true, true, true, true, true, true, true, false, false, false, false] rfl rfl (one_of HT_.out (by kernel_rfl)) (by decide) (fun K hK => ?_)
  refine goes_ Try.func55 (by kernel_rfl) rfl #[.int .i64 (t717.length : Int)] (by rfl) rfl rfl spec_DrawLeastSorts.a2 ?_
  with_reducible refine (spec_l2Bit.calls (t717.length : Int) t735 _ A22.out).mono ?_
  rintro e w' ⟨rfl, ⟨nd, rfl⟩⟩
  refine ⟨_, rfl, ?_⟩
  refine hK.out _ _ ⟨(blk_cell BK725.out 0).trans rfl, (blk_cell BK725.out 1).trans rfl⟩ (fun hHeld => ?_)
  clear hK K
  refine norm_ (a' := ?_) ?_ ?_
  rotate_left
  ·show Act.put _ (some 21) _ = _
   simp only [Act.put, List.setIfInBounds_toArray, List.set_cons_zero, List.set_cons_succ, i64_w, i32_w]
   rfl
  refine pureS 7 22 HT_ rfl rfl ?_
  refine pureS 8 23 HT_ rfl rfl ?_
  refine one_ (i := 9) (N := none) #[true, true, true, true, true, true, true, true, true, true, false] rfl rfl (one_of HT_.out (by kernel_rfl)) (by decide) (fun K hK => ?_)
  have hs35 : w34.cell? ⟨gb712, 0, none⟩ = some (.slice none 0 0) := (blk_cell BK712.out 0).trans rfl
  have hfs35 := blk_frozen BK712.out 0
  have hns35_1 := NB725_712.out
  have hms35_1 := NB712_725.out
  have hs36 : w34.cell? ⟨gb712, 1, none⟩ = some (.slice none 0 0) := (blk_cell BK712.out 1).trans rfl
  have hfs36 := blk_frozen BK712.out 1
  have hns36_1 := NB725_712.out
  have hms36_1 := NB712_725.out
  refine skip_ (w1 := ?_) (by rfl) rfl ?_ ?_
  rotate_left
  ·go_simp
   rfl
  refine hK.out _ _ ⟨((cell_far (p := ⟨gb712, _, none⟩) NB725_712.out _).trans (((cell_far (p := ⟨gb712, _, none⟩) NB725_712.out _).trans (hHeld.1)))), ((cell_far (p := ⟨gb712, _, none⟩) NB725_712.out _).trans (((cell_far (p := ⟨gb712, _, none⟩) NB725_712.out _).trans (hHeld.2))))⟩ (fun hHeld => ?_)
  clear hK K
  refine pureS 10 3 HT_ rfl rfl ?_
  refine done_ (done_of HT_.out (by kernel_rfl)) ?_
  try go_wp2
  refine bodyPost_ret (results_ct rfl _ _ gb712 30 #[.slice Ao27 t717.length co27, .slice Ao31 t720.length co31] (0, 0) _ rfl (by (with_reducible repeat (first | refine blk_drewN ?_ _ | refine blk_drew ?_ | refine blk_alloc ?_ _)); refine blk_put (cs := #[.slice Ao27 t717.length co27, .slice none 0 0]) ?_ 1 _ rfl; (with_reducible repeat (first | refine blk_drewN ?_ _ | refine blk_drew ?_ | refine blk_alloc ?_ _)); refine blk_put (cs := #[.slice none 0 0, .slice none 0 0]) ?_ 0 _ rfl; (with_reducible repeat (first | refine blk_drewN ?_ _ | refine blk_drew ?_ | refine blk_alloc ?_ _)); exact BK712.out) Try.underlying30 rfl (by kernel_rfl)) rfl ?_
  exact ⟨_, _, by first | rfl | (simp [errW_none, errW_some] <;> rfl) | (simp [*, errW_none, errW_some] <;> rfl), by (with_reducible repeat (first | apply Kd.R_alloc | apply Kd.R_drewN | apply Kd.R_drew)); exact Kd.R_mono (Kd.R_far (p := ⟨gb712, 1, none⟩) (Kd.R_far (p := ⟨gb712, 0, none⟩) (Kd.R_types HO719.out BK712.out (by decide)) (fun _ hk => hk.2) (.slice Ao27 t717.length co27)) (fun _ hk => hk.2) (.slice Ao31 t720.length co31)) (fun _ hk => trivial), by (with_reducible repeat (first | apply Kd.R_alloc | apply Kd.R_drewN | apply Kd.R_drew)); exact Kd.R_mono (Kd.R_far (p := ⟨gb712, 1, none⟩) (Kd.R_far (p := ⟨gb712, 0, none⟩) (Kd.R_types HO722.out BK712.out (by decide)) (fun _ hk => hk.2) (.slice Ao27 t717.length co27)) (fun _ hk => hk.2) (.slice Ao31 t720.length co31)) (fun _ hk => trivial), spec_DrawLeastSorts.a7⟩

/-! ### spec_ListOf: function 35 -/
theorem spec_ListOf.a0 {P_ : Prop} (h_ : P_ := by repeat (first | (with_reducible first | exact HB.out | apply below_alloc | apply pw_below_drewN | apply below_drew1) | exact HB.out)) : P_ := h_
theorem spec_ListOf.a1 {P_ : Prop} (h_ : P_ := by (with_reducible repeat (first | apply Kd.R_alloc | apply Kd.R_drewN | apply Kd.R_drew)); exact HO_3.out) : P_ := h_
theorem spec_ListOf.a2 {P_ : Prop} (h_ : P_ := by first | rfl | (simp; done) | (simp [*]; done)) : P_ := h_
mutual
def spec_ListOf.l0 : Nat → Int → List Int → Int → Option (List Int)
 | 0, _, _, _ => none
 | k + 1, x0, x3, x4 => if x4 < 16 then ((spec_l2Ok.f x0).bind fun t739 => (spec_ListOf.j1 k x0 x3 x4 t739)) else (spec_ListOf.j1 k x0 x3 x4 false)
def spec_ListOf.j1 : Nat → Int → List Int → Int → Bool → Option (List Int)
 | 0, _, _, _, _ => none
 | k + 1, x0, x3, x4, x11 => if x11 = true then ((spec_l2Has.f x0 x4).bind fun t740 => (if t740 = true then (if x3.length < 17592186044416 then (spec_ListOf.l0 k x0 (x3 ++ [x4]) (wrap64 (x4 + 1))) else (none)) else (spec_ListOf.l0 k x0 x3 (wrap64 (x4 + 1))))) else (some x3)
end
def spec_ListOf.f (k : Nat) (a0 : Int) : Option (List Int) := spec_ListOf.l0 k a0 (([] : List Int)) 0
set_option maxHeartbeats 8000000 in
set_option maxRecDepth 100000 in
theorem spec_ListOf.calls (k : Nat) (a0 : Int) (r : List Int) (w : World) (h : spec_ListOf.f k a0 = some r) :
  Calls Try.prog 35 #[.int .i64 a0] w fun e w' => ∃ v0_ : Value, e = .returned (v0_) ∧ Kd.R (Kd.int .i64) 3 w' w.heap.size (fun _ => True) v0_ r ∧ Below w.heap.size w w' := by
 have HB := Aside0.mk (Below.refl w.heap.size w)
 have H : (spec_ListOf.l0 k a0 (([] : List Int)) 0) = some r := h
 clear h
 obtain ⟨y736, hy736⟩ : ∃ y_ : List Int, y_ = (([] : List Int)) := ⟨_, rfl⟩
 replace H : (spec_ListOf.l0 k a0 y736 0) = some r := by first | (rw [hy736]; with_reducible exact H) | (have H2_ := (Option.bind_some _ _).symm.trans H; rw [hy736]; with_reducible exact H2_) | (have H2_ := (Option.bind_some _ _).symm.trans H; with_reducible exact H2_) | with_reducible exact H | (rw [hy736]; exact H) | exact H
 have Ny736 := Aside0.mk hy736
 clear hy736
 have H' := Aside0.mk H
 clear H
 go_enter Try.func35, Try.ntmps35
 go_wp2_with (first | ((with_reducible refine gate_dst (N := 5) rfl ?_); refine Kd.R_lit (Kd.int .i64) _ 3 ?hg (N := 5) ?hd (xs := ([] : List Int)) (inner := []) (ok := fun _ => True) (okp := fun _ => True) ?hr ?hp (fun _ hk => hk) trivial (Below.refl _ _) (Nat.le_refl _) (by simp) ?_; (case hd => rfl); (case hg => rfl); (case hr => first | (go_simp; done) | (go_simp; rfl)); (case hp => exact (Reps.none _ _)); intro v737 w2 ho3 hb hg_ hnew_; clear hg_ hnew_; (first | rw [← Ny736.out] at ho3 | (simp only [Int.reduceToNat] at ho3; rw [← Ny736.out] at ho3)); have n0_ := Aside0.mk (Kd.R_lower ho3 (below_size spec_ListOf.a0)); have n1_ := Aside0.mk (below_step spec_ListOf.a0 hb); clear HB; have HO738 := n0_; have HB := n1_; clear n0_ n1_; clear hb ho3))
 go_loopg [3, 4] k (fun kq v3 v4 w' => ∃ (x3_1 : List Int) (x4_1 : Int), v4 = .int .i64 x4_1 ∧ Aside0 (spec_ListOf.l0 kq a0 x3_1 x4_1 = some r) ∧ Aside0 (kq ≤ k) ∧ Aside0 (Kd.R (Kd.int .i64) 3 w' w.heap.size (fun _ => True) v3 x3_1) ∧ Aside0 (Below w.heap.size w w'))
 case atStart => exact ⟨(y736), (0), spec_ListOf.a2, H', ⟨Nat.le_refl _⟩, ⟨by (with_reducible repeat (first | apply Kd.R_alloc | apply Kd.R_drewN | apply Kd.R_drew)); exact HO738.out⟩, ⟨spec_ListOf.a0⟩⟩
 case round =>
  clear H'
  try clear p2
  try clear c3
  obtain ⟨x3_1, x4_1, rfl, HA, HK1, HO_3, HB⟩ := hrel
  cases gk with
  | zero => exact absurd HA.out (by simp [spec_ListOf.l0])
  | succ k1 =>
   have H := HA.out
   clear HA
   simp only [spec_ListOf.l0] at H
   have HC4 := Aside0.mk H
   clear H
   go_upto_region 3 with (fail)
   go_cut [11] (fun v11 wc => ∃ (kq : Nat) (x11_3 : Bool), v11 = .bool x11_3 ∧ Aside0 (spec_ListOf.j1 kq a0 x3_1 x4_1 x11_3 = some r) ∧ Aside0 (kq ≤ k1) ∧ Aside0 (Kd.R (Kd.int .i64) 3 wc w.heap.size (fun _ => True) u3 x3_1) ∧ Aside0 (Below w.heap.size w wc))
   case first =>
    have H := HC4.out
    clear HC4
    by_cases c5 : x4_1 < 16
    ·rw [if_pos c5] at H
     have c5b0 : decide (x4_1 < 16) = true := decide_eq_true c5
     clear c5
     (first | rw [c5b0] | (simp only [i64_w, i32_w]; rw [c5b0]) | skip)
     replace H := Option.bind_eq_some_iff.mp H
     obtain ⟨t739, A60, H⟩ := H
     replace H : (spec_ListOf.j1 k1 a0 x3_1 x4_1 t739) = some r := H
     have A6 := Aside0.mk A60
     clear A60
     have H' := Aside0.mk H
     clear H
     go_wp2_with (first | (go_at_call 61; (with_reducible refine (spec_l2Ok.calls a0 t739 _ A6.out).mono ?_); rintro e w' ⟨rfl, ⟨nd, rfl⟩⟩))
     go_meet
     case rel => exact ⟨_, (t739), spec_ListOf.a2, H', ⟨by have := HK1.out; first | omega | exact Nat.le_refl _⟩, ⟨spec_ListOf.a1⟩, ⟨spec_ListOf.a0⟩⟩
    ·rw [if_neg c5] at H
     have c5b0 : decide (x4_1 < 16) = false := decide_eq_false c5
     clear c5
     (first | rw [c5b0] | (simp only [i64_w, i32_w]; rw [c5b0]) | skip)
     have H' := Aside0.mk H
     clear H
     go_wp2
     go_meet
     case rel => exact ⟨_, (false), spec_ListOf.a2, H', ⟨by have := HK1.out; first | omega | exact Nat.le_refl _⟩, ⟨spec_ListOf.a1⟩, ⟨spec_ListOf.a0⟩⟩
   case rest =>
    clear HC4
    try clear p2
    try clear c3
    try clear c5
    try clear c5b0
    try clear p2
    obtain ⟨kq, x11_3, rfl, HA, HJ3, HO_3, HB⟩ := hcut
    cases kq with
    | zero => exact absurd HA.out (by simp [spec_ListOf.j1])
    | succ kj3 =>
     have H := HA.out
     clear HA
     simp only [spec_ListOf.j1] at H
     by_cases c7 : x11_3 = true
     ·subst c7
      have H1 : ((spec_l2Has.f a0 x4_1).bind fun t740 => (if t740 = true then (if x3_1.length < 17592186044416 then (spec_ListOf.l0 kj3 a0 (x3_1 ++ [x4_1]) (wrap64 (x4_1 + 1))) else (none)) else (spec_ListOf.l0 kj3 a0 x3_1 (wrap64 (x4_1 + 1))))) = some r := by rw [if_pos rfl] at H; exact H
      clear H
      have H := H1
      clear H1
      replace H := Option.bind_eq_some_iff.mp H
      obtain ⟨t740, A80, H⟩ := H
      replace H : (if t740 = true then (if x3_1.length < 17592186044416 then (spec_ListOf.l0 kj3 a0 (x3_1 ++ [x4_1]) (wrap64 (x4_1 + 1))) else (none)) else (spec_ListOf.l0 kj3 a0 x3_1 (wrap64 (x4_1 + 1)))) = some r := H
      have A8 := Aside0.mk A80
      clear A80
      by_cases c9 : t740 = true
      ·subst c9
       have H1 : (if x3_1.length < 17592186044416 then (spec_ListOf.l0 kj3 a0 (x3_1 ++ [x4_1]) (wrap64 (x4_1 + 1))) else (none)) = some r := by rw [if_pos rfl] at H; exact H
       clear H
       have H := H1
       clear H1
       by_cases c10 : x3_1.length < 17592186044416
       ·rw [if_pos c10] at H
        have LMc10 := Aside0.mk c10
        clear c10
        obtain ⟨y741, hy741⟩ : ∃ y_ : List Int, y_ = (x3_1 ++ [x4_1]) := ⟨_, rfl⟩
        replace H : (spec_ListOf.l0 kj3 a0 y741 (wrap64 (x4_1 + 1))) = some r := by first | (rw [hy741]; with_reducible exact H) | (have H2_ := (Option.bind_some _ _).symm.trans H; rw [hy741]; with_reducible exact H2_) | (have H2_ := (Option.bind_some _ _).symm.trans H; with_reducible exact H2_) | with_reducible exact H | (rw [hy741]; exact H) | exact H
        have Ny741 := Aside0.mk hy741
        clear hy741
        have H' := Aside0.mk H
        clear H
        go_wp2_with (first | ((with_reducible refine gate_callee (f := 42) rfl ?_); refine goesL_ (some 16) rfl rfl Try.func42 (by kernel_rfl) rfl #[.int .i64 a0, .int .i64 x4_1] rfl (by (try simp only [List.map_toArray, List.map_cons, List.map_nil]); first | done | rfl | (simp only [List.length_drop, List.length_take]; rfl)) ?_; (with_reducible refine (spec_l2Has.calls a0 x4_1 true _ A8.out).mono ?_); rintro e w' ⟨rfl, ⟨nd, rfl⟩⟩; refine ⟨_, rfl, ?_⟩) | ((with_reducible refine gate_builtin (b := .append) (xs := #[.tmp 17, .tmp 19]) rfl ?_); at_builtin; refine Kd.R_append (Kd.int .i64) (w0 := w) w.heap.size rfl (.tmp 17) (.tmp 19) 44 3 (.int .i64 0) 8 rfl Try.underlying44 info3 rfl (by decide) (by omega) u3 x3_1 x4_1 [.int .i64 x4_1] (fun _ => True) (fun _ => False) rfl rfl ?aP (fun _ hk => hk.elim) ?aF ?aO ?aB ?aS ?aL ?_; (case aP => exact rfl); (case aB => exact spec_ListOf.a0); (case aF => exact (fun _ _ => trivial)); (case aO => exact spec_ListOf.a1); (case aS => exact (below_size spec_ListOf.a0)); (case aL => have := LMc10.out; omega); intro v742 w11 ho hb hg hat; rw [← Ny741.out] at ho; have n0_ := Aside0.mk (hb); have n1_ := Aside0.mk (ho); clear HB; clear HO_3; have HB := n0_; have HO743 := n1_; clear n0_ n1_; clear ho hb hg hat))
        go_roundg kj3
        case measure => have := HK1.out; have := HJ3.out; omega
        case rel => exact ⟨(y741), (wrap64 (x4_1 + 1)), spec_ListOf.a2, H', ⟨by have := HK1.out; have := HJ3.out; omega⟩, ⟨by (with_reducible repeat (first | apply Kd.R_alloc | apply Kd.R_drewN | apply Kd.R_drew)); exact HO743.out⟩, ⟨spec_ListOf.a0⟩⟩
       ·rw [if_neg c10] at H
        exact absurd H (by simp)
      ·replace c9 := Bool.eq_false_iff.mpr c9
       subst c9
       have H1 : (spec_ListOf.l0 kj3 a0 x3_1 (wrap64 (x4_1 + 1))) = some r := by rw [if_neg (show ¬ (false = true) by decide)] at H; exact H
       clear H
       have H := H1
       clear H1
       have H' := Aside0.mk H
       clear H
       go_wp2_with (first | ((with_reducible refine gate_callee (f := 42) rfl ?_); refine goesL_ (some 16) rfl rfl Try.func42 (by kernel_rfl) rfl #[.int .i64 a0, .int .i64 x4_1] rfl (by (try simp only [List.map_toArray, List.map_cons, List.map_nil]); first | done | rfl | (simp only [List.length_drop, List.length_take]; rfl)) ?_; (with_reducible refine (spec_l2Has.calls a0 x4_1 false _ A8.out).mono ?_); rintro e w' ⟨rfl, ⟨nd, rfl⟩⟩; refine ⟨_, rfl, ?_⟩))
       go_roundg kj3
       case measure => have := HK1.out; have := HJ3.out; omega
       case rel => exact ⟨(x3_1), (wrap64 (x4_1 + 1)), spec_ListOf.a2, H', ⟨by have := HK1.out; have := HJ3.out; omega⟩, ⟨spec_ListOf.a1⟩, ⟨spec_ListOf.a0⟩⟩
     ·replace c7 := Bool.eq_false_iff.mpr c7
      subst c7
      have H1 : (some x3_1) = some r := by rw [if_neg (show ¬ (false = true) by decide)] at H; exact H
      clear H
      have H := H1
      clear H1
      obtain rfl := Option.some.inj H
      go_wp2
      go_ret
      exact ⟨_, by first | rfl | (simp [errW_none, errW_some] <;> rfl) | (simp [*, errW_none, errW_some] <;> rfl), spec_ListOf.a1, spec_ListOf.a0⟩

end Go.Proofs.Ytlpkicbmcpmemaa.Q

