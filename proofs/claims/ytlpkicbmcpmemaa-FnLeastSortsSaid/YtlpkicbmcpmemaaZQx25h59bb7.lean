/- Functions of the program as plain Lean functions, and that the calls come to what they say. -/
import Derived.Test.YtlpkicbmcpmemaaZQx0h2d4ba
import Derived.Test.YtlpkicbmcpmemaaZQx4h2f5a3
import Derived.Test.YtlpkicbmcpmemaaZQx9hd8fea
import Derived.Test.YtlpkicbmcpmemaaZQx15h11e27
import Derived.Test.YtlpkicbmcpmemaaZQx17h73f64
import Derived.Test.YtlpkicbmcpmemaaZQx19hc6db2
import Derived.Test.YtlpkicbmcpmemaaZQx20h96400
import Derived.Test.YtlpkicbmcpmemaaZQx22hd4e06
import Derived.Test.YtlpkicbmcpmemaaZQx24h6a3fa
import Derived.Test.YtlpkicbmcpmemaaZShorth9309d
namespace Go.Proofs.Ytlpkicbmcpmemaa.Q
open Go.RowKit Go.Proofs.YtlpkicbmcpmemaaW.PrintWords Go.Proofs.YtlpkicbmcpmemaaW.PrintLast Go.Proofs.YtlpkicbmcpmemaaW.PrintMore
attribute [local go_sem] max2_int min2_int max_two min_two max_three min_three max_four min_four   -- for this text's walks alone
set_option linter.unusedVariables false
set_option linter.unusedSimpArgs false

/-! ### laws_FnLeastSorts: function 11 -/
theorem laws_FnLeastSorts.a0 {P_ : Prop} (h_ : P_ := by repeat (first | (with_reducible first | exact HB.out | apply below_alloc | apply pw_below_drewN | apply below_drew1 | refine below_set ?_ GE752.out) | exact HB.out)) : P_ := h_
theorem laws_FnLeastSorts.a1 {P_ : Prop} (h_ : P_ := by (try simp only [List.map_toArray, List.map_cons, List.map_nil]); first | done | rfl | (simp only [List.length_drop, List.length_take]; rfl)) : P_ := h_
theorem laws_FnLeastSorts.a2 {P_ : Prop} (h_ : P_ := by first | (with_reducible assumption) | assumption) : P_ := h_
theorem laws_FnLeastSorts.a3 {P_ : Prop} (h_ : P_ := by (with_reducible repeat (first | refine blk_drewN ?_ _ | refine blk_drew ?_ | refine blk_alloc ?_ _)); exact BK752.out) : P_ := h_
theorem laws_FnLeastSorts.a4 {P_ : Prop} (h_ : P_ := by (with_reducible repeat (first | apply Kd.R_alloc | apply Kd.R_drewN | apply Kd.R_drew)); exact HO_753000.out) : P_ := h_
theorem laws_FnLeastSorts.a5 {P_ : Prop} (h_ : P_ := by (with_reducible repeat (first | apply Kd.R_alloc | apply Kd.R_drewN | apply Kd.R_drew)); exact HO_753001.out) : P_ := h_
theorem laws_FnLeastSorts.a6 {P_ : Prop} (h_ : P_ := by (with_reducible repeat (first | apply Kd.R_alloc | apply Kd.R_drewN | apply Kd.R_drew)); exact HO_7.out) : P_ := h_
theorem laws_FnLeastSorts.a7 {P_ : Prop} (h_ : P_ := by rintro w' ⟨s0, s1, s2⟩; go_simp; with_reducible rfl) : P_ := h_
theorem laws_FnLeastSorts.a8 {P_ : Prop} (h_ : P_ := by repeat (first | (with_reducible first | exact HB.out | apply below_alloc | apply pw_below_drewN | apply below_drew1) | exact HB.out)) : P_ := h_
theorem laws_FnLeastSorts.a9 {P_ : Prop} (h_ : P_ := by kernel_rfl) : P_ := h_
theorem laws_FnLeastSorts.a10 {P_ : Prop} (h_ : P_ := by first | rfl | (simp [errW_none, errW_some] <;> rfl) | (simp [*, errW_none, errW_some] <;> rfl)) : P_ := h_
theorem laws_FnLeastSorts.a11 {P_ : Prop} (h_ : P_ := by (with_reducible repeat (first | apply Kd.R_alloc | apply Kd.R_drewN | apply Kd.R_drew)); exact HO747.out) : P_ := h_
theorem laws_FnLeastSorts.a12 {P_ : Prop} (h_ : P_ := by (with_reducible repeat (first | apply Kd.R_alloc | apply Kd.R_drewN | apply Kd.R_drew)); exact HO750.out) : P_ := h_
theorem laws_FnLeastSorts.a13 {P_ : Prop} (h_ : P_ := by (with_reducible repeat (first | apply Kd.R_alloc | apply Kd.R_drewN | apply Kd.R_drew)); exact (Kd.R_mono (Kd.R_far (p := ⟨gb752, 1, none⟩) (Kd.R_far (p := ⟨gb752, 0, none⟩) (Kd.R_types HO747.out BK752.out (by decide)) (fun _ hk => hk.2) (.slice Ao10 t745.length co10)) (fun _ hk => hk.2) (.slice Ao12 t748.length co12)) (fun _ h_ => h_.1))) : P_ := h_
theorem laws_FnLeastSorts.a14 {P_ : Prop} (h_ : P_ := by (with_reducible repeat (first | apply Kd.R_alloc | apply Kd.R_drewN | apply Kd.R_drew)); exact (Kd.R_mono (Kd.R_far (p := ⟨gb752, 1, none⟩) (Kd.R_far (p := ⟨gb752, 0, none⟩) (Kd.R_types HO750.out BK752.out (by decide)) (fun _ hk => hk.2) (.slice Ao10 t745.length co10)) (fun _ hk => hk.2) (.slice Ao12 t748.length co12)) (fun _ h_ => h_.1))) : P_ := h_
theorem laws_FnLeastSorts.a15 {P_ : Prop} (h_ : P_ := by first | rfl | (simp; done) | (simp [*]; done)) : P_ := h_
theorem laws_FnLeastSorts.a16 {P_ : Prop} (h_ : P_ := by first | rfl | (simp [errW_none, errW_some] <;> rfl) | (simp only [← hji49, ← hji51]; first | rfl | (simp [errW_none, errW_some] <;> rfl)) | (simp [*, errW_none, errW_some] <;> rfl)) : P_ := h_
mutual
def laws_FnLeastSorts.j0 : Nat → Int → Int → Int → Bool → List ByteArray → List (S52) → Option (Bool)
 | 0, _, _, _, _, _, _ => none
 | k + 1, x4, x5, x6, x37, x753000, x753001 => if x37 = true then (if x5 = 0 then (some (x6 == 0)) else (some false)) else ((spec_ListOf.f k x4).bind fun t757 => (laws_FnLeastSorts.l0 k x4 x5 x6 t757 0 x753000 x753001))
def laws_FnLeastSorts.l0 : Nat → Int → Int → Int → List Int → Int → List ByteArray → List (S52) → Option (Bool)
 | 0, _, _, _, _, _, _, _ => none
 | k + 1, x4, x5, x6, x7, x8, x753000, x753001 => if x8 < (x7.length : Int) then (if 0 ≤ x8 then ((spec_BelowSort.f k x753000 x753001 (rd x7 x8)).bind fun t763 => ((spec_AboveSort.f k x753000 x753001 (rd x7 x8)).bind fun t765 => (if (Go.bits .and .i64 t763 x5) = 0 then (some false) else (if (Go.bits .and .i64 t765 x6) = 0 then (some false) else ((laws_member.f x5 (rd x7 x8)).bind fun t767 => (if t767 = true then (if 0 ≤ (IntKind.u64.wrap (rd x7 x8)) then (if (Go.bits .and .i64 t763 x4) = (shl .i64 1 (IntKind.u64.wrap (rd x7 x8))) then ((laws_member.f x6 (rd x7 x8)).bind fun t770 => (if t770 = true then (if (Go.bits .and .i64 t765 x4) = (shl .i64 1 (IntKind.u64.wrap (rd x7 x8))) then (laws_FnLeastSorts.l0 k x4 x5 x6 x7 (wrap64 (x8 + 1)) x753000 x753001) else (some false)) else (laws_FnLeastSorts.l0 k x4 x5 x6 x7 (wrap64 (x8 + 1)) x753000 x753001))) else (some false)) else (none)) else ((laws_member.f x6 (rd x7 x8)).bind fun t773 => (if t773 = true then (if 0 ≤ (IntKind.u64.wrap (rd x7 x8)) then (if (Go.bits .and .i64 t765 x4) = (shl .i64 1 (IntKind.u64.wrap (rd x7 x8))) then (laws_FnLeastSorts.l0 k x4 x5 x6 x7 (wrap64 (x8 + 1)) x753000 x753001) else (some false)) else (none)) else (laws_FnLeastSorts.l0 k x4 x5 x6 x7 (wrap64 (x8 + 1)) x753000 x753001))))))))) else (none)) else ((impl_IsSubset.f x5 x4).bind fun t760 => (if t760 = true then ((impl_IsSubset.f x6 x4).bind fun t761 => (some t761)) else (some false)))
end
def laws_FnLeastSorts.f (k : Nat) (l0 : List Int) : Option (Bool) := (laws_big.f l0).bind fun t744 => (if t744 = true then (some true) else ((spec_DrawLeastSorts.f k l0).bind fun bt745 => ((impl_LeastSorts.f k bt745.1 bt745.2.1 bt745.2.2).bind fun t753 => ((impl_GreatestSorts.f k bt745.1 bt745.2.1 bt745.2.2).bind fun t754 => ((spec_IsSorts.f k bt745.1 bt745.2.1).bind fun t755 => (if t755 = true then (if 0 ≤ (IntKind.u64.wrap ((bt745.1.length : Int))) then ((spec_IsSubset.f bt745.2.2 (wrap64 ((shl .i64 1 (IntKind.u64.wrap ((bt745.1.length : Int)))) - 1))).bind fun t756 => (laws_FnLeastSorts.j0 k bt745.2.2 t753 t754 (!t756) bt745.1 bt745.2.1)) else (none)) else (laws_FnLeastSorts.j0 k bt745.2.2 t753 t754 true bt745.1 bt745.2.1)))))))
set_option maxHeartbeats 8000000 in
set_option maxRecDepth 100000 in
theorem laws_FnLeastSorts.calls (k : Nat) (A0 : Option Addr) (c0 : Nat) (l0 : List Int) (r : Bool) (w : World) (hr0 : Kd.C (Kd.int .u8) w A0 l0.length l0) (hc0 : l0.length ≤ c0) (h : laws_FnLeastSorts.f k l0 = some r) :
  Calls Try.prog 11 #[.slice A0 l0.length c0] w fun e w' => e = .returned (.bool r) ∧ Below w.heap.size w w' := by
 have hu30 := Try.underlying30
 have HR0 := Aside0.mk hr0
 have HC0 := Aside0.mk hc0
 clear hr0 hc0
 have HB := Aside0.mk (Below.refl w.heap.size w)
 have H : ((laws_big.f l0).bind fun t744 => (if t744 = true then (some true) else ((spec_DrawLeastSorts.f k l0).bind fun bt745 => ((impl_LeastSorts.f k bt745.1 bt745.2.1 bt745.2.2).bind fun t753 => ((impl_GreatestSorts.f k bt745.1 bt745.2.1 bt745.2.2).bind fun t754 => ((spec_IsSorts.f k bt745.1 bt745.2.1).bind fun t755 => (if t755 = true then (if 0 ≤ (IntKind.u64.wrap ((bt745.1.length : Int))) then ((spec_IsSubset.f bt745.2.2 (wrap64 ((shl .i64 1 (IntKind.u64.wrap ((bt745.1.length : Int)))) - 1))).bind fun t756 => (laws_FnLeastSorts.j0 k bt745.2.2 t753 t754 (!t756) bt745.1 bt745.2.1)) else (none)) else (laws_FnLeastSorts.j0 k bt745.2.2 t753 t754 true bt745.1 bt745.2.1)))))))) = some r := h
 clear h
 replace H := Option.bind_eq_some_iff.mp H
 obtain ⟨t744, A20, H⟩ := H
 replace H : (if t744 = true then (some true) else ((spec_DrawLeastSorts.f k l0).bind fun bt745 => ((impl_LeastSorts.f k bt745.1 bt745.2.1 bt745.2.2).bind fun t753 => ((impl_GreatestSorts.f k bt745.1 bt745.2.1 bt745.2.2).bind fun t754 => ((spec_IsSorts.f k bt745.1 bt745.2.1).bind fun t755 => (if t755 = true then (if 0 ≤ (IntKind.u64.wrap ((bt745.1.length : Int))) then ((spec_IsSubset.f bt745.2.2 (wrap64 ((shl .i64 1 (IntKind.u64.wrap ((bt745.1.length : Int)))) - 1))).bind fun t756 => (laws_FnLeastSorts.j0 k bt745.2.2 t753 t754 (!t756) bt745.1 bt745.2.1)) else (none)) else (laws_FnLeastSorts.j0 k bt745.2.2 t753 t754 true bt745.1 bt745.2.1))))))) = some r := H
 have A2 := Aside0.mk A20
 clear A20
 by_cases c3 : t744 = true
 ·subst c3
  have H1 : (some true) = some r := by rw [if_pos rfl] at H; exact H
  clear H
  have H := H1
  clear H1
  obtain rfl := Option.some.inj H
  go_enter Try.func11, Try.ntmps11
  go_wp2_with (first | ((with_reducible refine gate_callee (f := 17) rfl ?_); refine goesL_ (some 12) rfl rfl Try.func17 laws_FnLeastSorts.a9 rfl #[.slice A0 l0.length c0] rfl laws_FnLeastSorts.a1 ?_; (with_reducible refine (laws_big.calls _ _ l0 true _ ?side1 ?side2 A2.out).mono ?_); (case side1 => repeat (first | exact HR0.out | (with_reducible refine Kd.C_alloc ?_ _) | (with_reducible refine Kd.C_drewN ?_ _) | (with_reducible refine Kd.C_drew ?_))); (case side2 => exact HC0.out); rintro e w' ⟨rfl, ⟨nd, rfl⟩⟩; refine ⟨_, rfl, ?_⟩))
  go_ret
  exact ⟨laws_FnLeastSorts.a10, laws_FnLeastSorts.a8⟩
 ·replace c3 := Bool.eq_false_iff.mpr c3
  subst c3
  have H1 : ((spec_DrawLeastSorts.f k l0).bind fun bt745 => ((impl_LeastSorts.f k bt745.1 bt745.2.1 bt745.2.2).bind fun t753 => ((impl_GreatestSorts.f k bt745.1 bt745.2.1 bt745.2.2).bind fun t754 => ((spec_IsSorts.f k bt745.1 bt745.2.1).bind fun t755 => (if t755 = true then (if 0 ≤ (IntKind.u64.wrap ((bt745.1.length : Int))) then ((spec_IsSubset.f bt745.2.2 (wrap64 ((shl .i64 1 (IntKind.u64.wrap ((bt745.1.length : Int)))) - 1))).bind fun t756 => (laws_FnLeastSorts.j0 k bt745.2.2 t753 t754 (!t756) bt745.1 bt745.2.1)) else (none)) else (laws_FnLeastSorts.j0 k bt745.2.2 t753 t754 true bt745.1 bt745.2.1)))))) = some r := by rw [if_neg (show ¬ (false = true) by decide)] at H; exact H
  clear H
  have H := H1
  clear H1
  replace H := Option.bind_eq_some_iff.mp H
  obtain ⟨⟨t745, t748, t751⟩, A40, H⟩ := H
  replace H : ((impl_LeastSorts.f k t745 t748 t751).bind fun t753 => ((impl_GreatestSorts.f k t745 t748 t751).bind fun t754 => ((spec_IsSorts.f k t745 t748).bind fun t755 => (if t755 = true then (if 0 ≤ (IntKind.u64.wrap ((t745.length : Int))) then ((spec_IsSubset.f t751 (wrap64 ((shl .i64 1 (IntKind.u64.wrap ((t745.length : Int)))) - 1))).bind fun t756 => (laws_FnLeastSorts.j0 k t751 t753 t754 (!t756) t745 t748)) else (none)) else (laws_FnLeastSorts.j0 k t751 t753 t754 true t745 t748))))) = some r := H
  have A4 := Aside0.mk A40
  clear A40
  replace H := Option.bind_eq_some_iff.mp H
  obtain ⟨t753, A50, H⟩ := H
  replace H : ((impl_GreatestSorts.f k t745 t748 t751).bind fun t754 => ((spec_IsSorts.f k t745 t748).bind fun t755 => (if t755 = true then (if 0 ≤ (IntKind.u64.wrap ((t745.length : Int))) then ((spec_IsSubset.f t751 (wrap64 ((shl .i64 1 (IntKind.u64.wrap ((t745.length : Int)))) - 1))).bind fun t756 => (laws_FnLeastSorts.j0 k t751 t753 t754 (!t756) t745 t748)) else (none)) else (laws_FnLeastSorts.j0 k t751 t753 t754 true t745 t748)))) = some r := H
  have A5 := Aside0.mk A50
  clear A50
  replace H := Option.bind_eq_some_iff.mp H
  obtain ⟨t754, A60, H⟩ := H
  replace H : ((spec_IsSorts.f k t745 t748).bind fun t755 => (if t755 = true then (if 0 ≤ (IntKind.u64.wrap ((t745.length : Int))) then ((spec_IsSubset.f t751 (wrap64 ((shl .i64 1 (IntKind.u64.wrap ((t745.length : Int)))) - 1))).bind fun t756 => (laws_FnLeastSorts.j0 k t751 t753 t754 (!t756) t745 t748)) else (none)) else (laws_FnLeastSorts.j0 k t751 t753 t754 true t745 t748))) = some r := H
  have A6 := Aside0.mk A60
  clear A60
  have HC7 := Aside0.mk H
  clear H
  go_enter Try.func11, Try.ntmps11
  go_upto_region 6 with (first | ((with_reducible refine gate_callee (f := 17) rfl ?_); refine goesL_ (some 12) rfl rfl Try.func17 laws_FnLeastSorts.a9 rfl #[.slice A0 l0.length c0] rfl laws_FnLeastSorts.a1 ?_; (with_reducible refine (laws_big.calls _ _ l0 false _ ?side1 ?side2 A2.out).mono ?_); (case side1 => repeat (first | exact HR0.out | (with_reducible refine Kd.C_alloc ?_ _) | (with_reducible refine Kd.C_drewN ?_ _) | (with_reducible refine Kd.C_drew ?_))); (case side2 => exact HC0.out); rintro e w' ⟨rfl, ⟨nd, rfl⟩⟩; refine ⟨_, rfl, ?_⟩) | ((with_reducible refine gate_callee (f := 33) rfl ?_); refine goesL_ (some 15) rfl rfl Try.func33 laws_FnLeastSorts.a9 rfl #[.slice A0 l0.length c0] rfl laws_FnLeastSorts.a1 ?_; (with_reducible refine (spec_DrawLeastSorts.calls k _ _ l0 t745 t748 t751 _ ?side1 ?side2 A4.out).mono ?_); (case side1 => repeat (first | exact HR0.out | (with_reducible refine Kd.C_alloc ?_ _) | (with_reducible refine Kd.C_drewN ?_ _) | (with_reducible refine Kd.C_drew ?_))); (case side2 => exact HC0.out); rintro e w8 ⟨v746, v749, rfl, ho0, ho1, hb⟩; refine ⟨_, rfl, ?_⟩; have n0_ := Aside0.mk (Kd.R_lower ho0 (below_size laws_FnLeastSorts.a8)); have n1_ := Aside0.mk (Kd.R_lower ho1 (below_size laws_FnLeastSorts.a8)); have n2_ := Aside0.mk (below_step laws_FnLeastSorts.a8 hb); clear HB; have HO747 := n0_; have HO750 := n1_; have HB := n2_; clear n0_ n1_ n2_; (try clear hb); (try clear hb2); (try clear hk); (try clear hi); (try clear ho0); (try clear ho1)) | ((with_reducible refine gate_dst (N := 3) rfl ?_); (try (refine gate_guard (by rfl) ?_; dsimp only)); refine box_event ?hg (N := 3) ?hd (cs := #[.slice none 0 0, .slice none 0 0]) (t := 30) ?hr ?_; (case hd => rfl); (case hg => rfl); (case hr => first | (go_simp; done) | (go_simp; rfl)); intro gb752 hg w9 hbox hb; have n0_ := Aside0.mk (Kd.R_below laws_FnLeastSorts.a11 hb); have n1_ := Aside0.mk (Kd.R_below laws_FnLeastSorts.a12 hb); have n2_ := Aside0.mk (below_step laws_FnLeastSorts.a8 hb); have n3_ := Aside0.mk (hbox); have n4_ := Aside0.mk ((by rw [hg]; exact (below_size laws_FnLeastSorts.a8) : w.heap.size ≤ gb752)); have n5_ := Aside0.mk ((by rw [hg]; exact (below_size laws_FnLeastSorts.a8) : w.heap.size ≤ gb752)); clear HO747; clear HO750; clear HB; have HO747 := n0_; have HO750 := n1_; have HB := n2_; have BK752 := n3_; have GW752 := n4_; have GE752 := n5_; clear n0_ n1_ n2_ n3_ n4_ n5_; clear hb hbox hg; obtain ⟨Ao10, co10, eo10⟩ := Kd.R_slice HO747.out; subst eo10; have hcz11_0 : w9.cell? ⟨gb752, 0, none⟩ = some (.slice none 0 0) := (blk_cell BK752.out 0).trans rfl; have hcz11_1 : w9.cell? ⟨gb752, 1, none⟩ = some (.slice none 0 0) := (blk_cell BK752.out 1).trans rfl; have hfz11_0 := blk_frozen BK752.out 0; have hfz11_1 := blk_frozen BK752.out 1; obtain ⟨Ao12, co12, eo12⟩ := Kd.R_slice HO750.out; subst eo12) | ((with_reducible refine gate_callee (f := 30) rfl ?_); refine goesL_ (some 20) rfl rfl Try.func30 laws_FnLeastSorts.a9 rfl #[.agg #[.slice Ao10 t745.length co10, .slice Ao12 t748.length co12], .int .i64 t751] rfl laws_FnLeastSorts.a1 ?_; (with_reducible refine (impl_LeastSorts.calls k _ _ t745 _ _ t748 t751 t753 _ ?side1 ?side2 ?side3 ?side4 A5.out).mono ?_); (case side1 => refine (Kd.R_reads' (e := 9) (base := w.heap.size) (ok := fun k_ => True) (n := t745.length) (c := co10) ?_).2.2; exact laws_FnLeastSorts.a13); (case side2 => exact (Kd.R_reads' HO747.out).2.1); (case side3 => refine (Kd.R_reads' (e := 52) (base := w.heap.size) (ok := fun k_ => True) (n := t748.length) (c := co12) ?_).2.2; exact laws_FnLeastSorts.a14); (case side4 => exact (Kd.R_reads' HO750.out).2.1); rintro e w13 ⟨rfl, hb⟩; refine ⟨_, rfl, ?_⟩; have n0_ := Aside0.mk (Kd.R_below laws_FnLeastSorts.a13 hb); have n1_ := Aside0.mk (Kd.R_below laws_FnLeastSorts.a14 hb); have n2_ := Aside0.mk (blk_below (g := gb752) (o := .cells #[.slice Ao10 t745.length co10, .slice Ao12 t748.length co12] 30 (0, 0)) (by (with_reducible repeat (first | refine blk_drewN ?_ _ | refine blk_drew ?_ | refine blk_alloc ?_ _)); refine blk_put (cs := #[.slice Ao10 t745.length co10, .slice none 0 0]) ?_ 1 _ rfl; (with_reducible repeat (first | refine blk_drewN ?_ _ | refine blk_drew ?_ | refine blk_alloc ?_ _)); refine blk_put (cs := #[.slice none 0 0, .slice none 0 0]) ?_ 0 _ rfl; (with_reducible repeat (first | refine blk_drewN ?_ _ | refine blk_drew ?_ | refine blk_alloc ?_ _)); exact BK752.out) hb); have n3_ := Aside0.mk (below_step laws_FnLeastSorts.a0 hb); clear HO747; clear HO750; clear BK752; clear HB; have HO747 := n0_; have HO750 := n1_; have BK752 := n2_; have HB := n3_; clear n0_ n1_ n2_ n3_; (try clear hb); (try clear hb2); (try clear hk); (try clear hi); have hcz14_0 : w13.cell? ⟨gb752, 0, none⟩ = some (.slice Ao10 t745.length co10) := (blk_cell BK752.out 0).trans rfl; have hcz14_1 : w13.cell? ⟨gb752, 1, none⟩ = some (.slice Ao12 t748.length co12) := (blk_cell BK752.out 1).trans rfl; have hfz14_0 := blk_frozen BK752.out 0; have hfz14_1 := blk_frozen BK752.out 1) | ((with_reducible refine gate_callee (f := 28) rfl ?_); refine goesL_ (some 23) rfl rfl Try.func28 laws_FnLeastSorts.a9 rfl #[.agg #[.slice Ao10 t745.length co10, .slice Ao12 t748.length co12], .int .i64 t751] rfl laws_FnLeastSorts.a1 ?_; (with_reducible refine (impl_GreatestSorts.calls k _ _ t745 _ _ t748 t751 t754 _ ?side1 ?side2 ?side3 ?side4 A6.out).mono ?_); (case side1 => repeat (first | exact (Kd.R_reads' HO747.out).2.2 | (with_reducible refine Kd.C_alloc ?_ _) | (with_reducible refine Kd.C_drewN ?_ _) | (with_reducible refine Kd.C_drew ?_))); (case side2 => exact (Kd.R_reads' HO747.out).2.1); (case side3 => repeat (first | exact (Kd.R_reads' HO750.out).2.2 | (with_reducible refine Kd.C_alloc ?_ _) | (with_reducible refine Kd.C_drewN ?_ _) | (with_reducible refine Kd.C_drew ?_))); (case side4 => exact (Kd.R_reads' HO750.out).2.1); rintro e w15 ⟨rfl, hb⟩; refine ⟨_, rfl, ?_⟩; have n0_ := Aside0.mk (Kd.R_below laws_FnLeastSorts.a11 hb); have n1_ := Aside0.mk (Kd.R_below laws_FnLeastSorts.a12 hb); have n2_ := Aside0.mk (blk_below (g := gb752) (o := .cells #[.slice Ao10 t745.length co10, .slice Ao12 t748.length co12] 30 (0, 0)) laws_FnLeastSorts.a3 hb); have n3_ := Aside0.mk (below_step laws_FnLeastSorts.a0 hb); clear HO747; clear HO750; clear BK752; clear HB; have HO747 := n0_; have HO750 := n1_; have BK752 := n2_; have HB := n3_; clear n0_ n1_ n2_ n3_; (try clear hb); (try clear hb2); (try clear hk); (try clear hi)))
  (try simp only [Act.put, List.setIfInBounds_toArray, List.set_cons_zero, List.set_cons_succ])
  go_cut [37] (fun v37 wc => ∃ (kq : Nat) (x37_6 : Bool), v37 = .bool x37_6 ∧ Aside0 (laws_FnLeastSorts.j0 kq t751 t753 t754 x37_6 t745 t748 = some r) ∧ Aside0 (kq ≤ k) ∧ Aside0 (Kd.R Kd.string 9 wc w.heap.size (fun _ => True) (.slice Ao10 t745.length co10) t745) ∧ Aside0 (Kd.R k52 52 wc w.heap.size (fun _ => True) (.slice Ao12 t748.length co12) t748) ∧ Aside0 (wc.heap[gb752]? = some (.cells #[(.slice Ao10 t745.length co10), (.slice Ao12 t748.length co12)] 30 (0, 0))) ∧ Aside0 (Below w.heap.size w wc))
  case first =>
   have H := HC7.out
   clear HC7
   replace H := Option.bind_eq_some_iff.mp H
   obtain ⟨t755, A160, H⟩ := H
   replace H : (if t755 = true then (if 0 ≤ (IntKind.u64.wrap ((t745.length : Int))) then ((spec_IsSubset.f t751 (wrap64 ((shl .i64 1 (IntKind.u64.wrap ((t745.length : Int)))) - 1))).bind fun t756 => (laws_FnLeastSorts.j0 k t751 t753 t754 (!t756) t745 t748)) else (none)) else (laws_FnLeastSorts.j0 k t751 t753 t754 true t745 t748)) = some r := H
   have A16 := Aside0.mk A160
   clear A160
   by_cases c17 : t755 = true
   ·subst c17
    have H1 : (if 0 ≤ (IntKind.u64.wrap ((t745.length : Int))) then ((spec_IsSubset.f t751 (wrap64 ((shl .i64 1 (IntKind.u64.wrap ((t745.length : Int)))) - 1))).bind fun t756 => (laws_FnLeastSorts.j0 k t751 t753 t754 (!t756) t745 t748)) else (none)) = some r := by rw [if_pos rfl] at H; exact H
    clear H
    have H := H1
    clear H1
    obtain ⟨ji18, hji18⟩ : ∃ j_ : Int, (IntKind.u64.wrap ((t745.length : Int))) = j_ := ⟨_, rfl⟩
    replace H : (if 0 ≤ (ji18) then ((spec_IsSubset.f t751 (wrap64 ((shl .i64 1 (ji18)) - 1))).bind fun t756 => (laws_FnLeastSorts.j0 k t751 t753 t754 (!t756) t745 t748)) else (none)) = some r := by first | (rw [hji18] at H; exact H) | (simp only [hji18] at H ⊢; exact H)
    (try rw [hji18] at A16)
    by_cases c19 : 0 ≤ (ji18)
    ·rw [if_pos c19] at H
     have c19b0 := eq_true c19
     have c19b1 : decide (0 ≤ (ji18)) = true := decide_eq_true c19
     clear c19
     obtain ⟨ji20, hji20⟩ : ∃ j_ : Int, (shl .i64 1 (ji18)) = j_ := ⟨_, rfl⟩
     replace H : ((spec_IsSubset.f t751 (wrap64 ((ji20) - 1))).bind fun t756 => (laws_FnLeastSorts.j0 k t751 t753 t754 (!t756) t745 t748)) = some r := by first | (rw [hji20] at H; exact H) | (simp only [hji20] at H ⊢; exact H)
     (try rw [hji20] at A16)
     have hji20_ : (IntKind.i64.wrap (1 * 2 ^ min (ji18).toNat 64)) = ji20 := hji20
     have hji20z : (ji18) ≤ 64 → (IntKind.i64.wrap (1 * 2 ^ (ji18).toNat)) = ji20 := shl_small hji20
     have hji20u : (IntKind.i64.wrap (2 ^ min (ji18).toNat 64)) = ji20 := by have h_ := hji20_; rw [Int.one_mul] at h_; exact h_
     have hji20v : (ji18) ≤ 64 → (IntKind.i64.wrap (2 ^ (ji18).toNat)) = ji20 := fun hle_ => by have h_ := hji20z hle_; rw [Int.one_mul] at h_; exact h_
     have hji20y : (wrap64 (1 * 2 ^ min (ji18).toNat 64)) = ji20 := (i64_w _).symm.trans hji20_
     have hji20x : (ji18) ≤ 64 → (wrap64 (1 * 2 ^ (ji18).toNat)) = ji20 := fun h_ => (i64_w _).symm.trans (hji20z h_)
     replace H := Option.bind_eq_some_iff.mp H
     obtain ⟨t756, A210, H⟩ := H
     replace H : (laws_FnLeastSorts.j0 k t751 t753 t754 (!t756) t745 t748) = some r := H
     have A21 := Aside0.mk A210
     clear A210
     have H' := Aside0.mk H
     clear H
     have hcz22_0 : w15.cell? ⟨gb752, 0, none⟩ = some (.slice Ao10 t745.length co10) := (blk_cell BK752.out 0).trans rfl
     have hcz22_1 : w15.cell? ⟨gb752, 1, none⟩ = some (.slice Ao12 t748.length co12) := (blk_cell BK752.out 1).trans rfl
     have hfz22_0 := blk_frozen BK752.out 0
     have hfz22_1 := blk_frozen BK752.out 1
     go_wp2_with (first | ((with_reducible refine gate_callee (f := 13) rfl ?_); refine goesL_ (some 25) rfl rfl Try.func13 laws_FnLeastSorts.a9 rfl #[.agg #[.slice Ao10 t745.length co10, .slice Ao12 t748.length co12]] rfl laws_FnLeastSorts.a1 ?_; (with_reducible refine (spec_IsSorts.calls k _ _ t745 _ _ t748 true _ ?side1 ?side2 ?side3 ?side4 A16.out).mono ?_); (case side1 => repeat (first | exact (Kd.R_reads' HO747.out).2.2 | (with_reducible refine Kd.C_alloc ?_ _) | (with_reducible refine Kd.C_drewN ?_ _) | (with_reducible refine Kd.C_drew ?_))); (case side2 => exact (Kd.R_reads' HO747.out).2.1); (case side3 => repeat (first | exact (Kd.R_reads' HO750.out).2.2 | (with_reducible refine Kd.C_alloc ?_ _) | (with_reducible refine Kd.C_drewN ?_ _) | (with_reducible refine Kd.C_drew ?_))); (case side4 => exact (Kd.R_reads' HO750.out).2.1); rintro e w23 ⟨rfl, hb⟩; refine ⟨_, rfl, ?_⟩; have n0_ := Aside0.mk (Kd.R_below laws_FnLeastSorts.a11 hb); have n1_ := Aside0.mk (Kd.R_below laws_FnLeastSorts.a12 hb); have n2_ := Aside0.mk (blk_below (g := gb752) (o := .cells #[.slice Ao10 t745.length co10, .slice Ao12 t748.length co12] 30 (0, 0)) laws_FnLeastSorts.a3 hb); have n3_ := Aside0.mk (below_step laws_FnLeastSorts.a0 hb); clear HO747; clear HO750; clear BK752; clear HB; have HO747 := n0_; have HO750 := n1_; have BK752 := n2_; have HB := n3_; clear n0_ n1_ n2_ n3_; (try clear hb); (try clear hb2); (try clear hk); (try clear hi); have hcz24_0 : w23.cell? ⟨gb752, 0, none⟩ = some (.slice Ao10 t745.length co10) := (blk_cell BK752.out 0).trans rfl; have hcz24_1 : w23.cell? ⟨gb752, 1, none⟩ = some (.slice Ao12 t748.length co12) := (blk_cell BK752.out 1).trans rfl; have hfz24_0 := blk_frozen BK752.out 0; have hfz24_1 := blk_frozen BK752.out 1) | (go_at_call 34; (with_reducible refine (spec_IsSubset.calls t751 (wrap64 ((ji20) - 1)) t756 _ A21.out).mono ?_); rintro e w' ⟨rfl, ⟨nd, rfl⟩⟩))
     go_meet
     case rel => exact ⟨_, (!t756), laws_FnLeastSorts.a15, H', ⟨by first | omega | exact Nat.le_refl _⟩, ⟨laws_FnLeastSorts.a11⟩, ⟨laws_FnLeastSorts.a12⟩, ⟨laws_FnLeastSorts.a3⟩, ⟨laws_FnLeastSorts.a0⟩⟩
    ·rw [if_neg c19] at H
     exact absurd H (by simp)
   ·replace c17 := Bool.eq_false_iff.mpr c17
    subst c17
    have H1 : (laws_FnLeastSorts.j0 k t751 t753 t754 true t745 t748) = some r := by rw [if_neg (show ¬ (false = true) by decide)] at H; exact H
    clear H
    have H := H1
    clear H1
    have H' := Aside0.mk H
    clear H
    have hcz25_0 : w15.cell? ⟨gb752, 0, none⟩ = some (.slice Ao10 t745.length co10) := (blk_cell BK752.out 0).trans rfl
    have hcz25_1 : w15.cell? ⟨gb752, 1, none⟩ = some (.slice Ao12 t748.length co12) := (blk_cell BK752.out 1).trans rfl
    have hfz25_0 := blk_frozen BK752.out 0
    have hfz25_1 := blk_frozen BK752.out 1
    go_wp2_with (first | ((with_reducible refine gate_callee (f := 13) rfl ?_); refine goesL_ (some 25) rfl rfl Try.func13 laws_FnLeastSorts.a9 rfl #[.agg #[.slice Ao10 t745.length co10, .slice Ao12 t748.length co12]] rfl laws_FnLeastSorts.a1 ?_; (with_reducible refine (spec_IsSorts.calls k _ _ t745 _ _ t748 false _ ?side1 ?side2 ?side3 ?side4 A16.out).mono ?_); (case side1 => repeat (first | exact (Kd.R_reads' HO747.out).2.2 | (with_reducible refine Kd.C_alloc ?_ _) | (with_reducible refine Kd.C_drewN ?_ _) | (with_reducible refine Kd.C_drew ?_))); (case side2 => exact (Kd.R_reads' HO747.out).2.1); (case side3 => repeat (first | exact (Kd.R_reads' HO750.out).2.2 | (with_reducible refine Kd.C_alloc ?_ _) | (with_reducible refine Kd.C_drewN ?_ _) | (with_reducible refine Kd.C_drew ?_))); (case side4 => exact (Kd.R_reads' HO750.out).2.1); rintro e w26 ⟨rfl, hb⟩; refine ⟨_, rfl, ?_⟩; have n0_ := Aside0.mk (Kd.R_below laws_FnLeastSorts.a11 hb); have n1_ := Aside0.mk (Kd.R_below laws_FnLeastSorts.a12 hb); have n2_ := Aside0.mk (blk_below (g := gb752) (o := .cells #[.slice Ao10 t745.length co10, .slice Ao12 t748.length co12] 30 (0, 0)) laws_FnLeastSorts.a3 hb); have n3_ := Aside0.mk (below_step laws_FnLeastSorts.a0 hb); clear HO747; clear HO750; clear BK752; clear HB; have HO747 := n0_; have HO750 := n1_; have BK752 := n2_; have HB := n3_; clear n0_ n1_ n2_ n3_; (try clear hb); (try clear hb2); (try clear hk); (try clear hi)))
    go_meet
    case rel => exact ⟨_, (true), laws_FnLeastSorts.a15, H', ⟨by first | omega | exact Nat.le_refl _⟩, ⟨laws_FnLeastSorts.a11⟩, ⟨laws_FnLeastSorts.a12⟩, ⟨laws_FnLeastSorts.a3⟩, ⟨laws_FnLeastSorts.a0⟩⟩
  case rest =>
   clear HC7
   try clear c1
   try clear c2
   try clear p2
   try clear c3
   try clear p6
   try clear c11
   try clear c13
   try clear c17
   try clear c19
   try clear c19b0
   try clear c19b1
   try clear hcz11_0
   try clear hcz11_1
   try clear hcz14_0
   try clear hcz14_1
   try clear hcz22_0
   try clear hcz22_1
   try clear hcz24_0
   try clear hcz24_1
   try clear hcz25_0
   try clear hcz25_1
   try clear hfz11_0
   try clear hfz11_1
   try clear hfz14_0
   try clear hfz14_1
   try clear hfz22_0
   try clear hfz22_1
   try clear hfz24_0
   try clear hfz24_1
   try clear hfz25_0
   try clear hfz25_1
   obtain ⟨kq, x37_6, rfl, HA, HJ6, HO_753000, HO_753001, BK752, HB⟩ := hcut
   cases kq with
   | zero => exact absurd HA.out (by simp [laws_FnLeastSorts.j0])
   | succ kj6 =>
    have H := HA.out
    clear HA
    simp only [laws_FnLeastSorts.j0] at H
    by_cases c27 : x37_6 = true
    ·subst c27
     have H1 : (if t753 = 0 then (some (t754 == 0)) else (some false)) = some r := by rw [if_pos rfl] at H; exact H
     clear H
     have H := H1
     clear H1
     by_cases c28 : t753 = 0
     ·rw [if_pos c28] at H
      have c28b0 : (t753 == 0) = true := beq_iff_eq.mpr c28
      have c28b1 : (t753 != 0) = false := bne_eq_false_iff_eq.mpr c28
      clear c28
      obtain rfl := Option.some.inj H
      go_wp2
      go_ret
      exact ⟨laws_FnLeastSorts.a10, laws_FnLeastSorts.a0⟩
     ·rw [if_neg c28] at H
      have c28b0 : (t753 == 0) = false := beq_eq_false_iff_ne.mpr c28
      have c28b1 : (t753 != 0) = true := bne_iff_ne.mpr c28
      obtain rfl := Option.some.inj H
      go_wp2
      go_ret
      exact ⟨laws_FnLeastSorts.a10, laws_FnLeastSorts.a0⟩
    ·replace c27 := Bool.eq_false_iff.mpr c27
     subst c27
     have H1 : ((spec_ListOf.f kj6 t751).bind fun t757 => (laws_FnLeastSorts.l0 kj6 t751 t753 t754 t757 0 t745 t748)) = some r := by rw [if_neg (show ¬ (false = true) by decide)] at H; exact H
     clear H
     have H := H1
     clear H1
     replace H := Option.bind_eq_some_iff.mp H
     obtain ⟨t757, A290, H⟩ := H
     replace H : (laws_FnLeastSorts.l0 kj6 t751 t753 t754 t757 0 t745 t748) = some r := H
     have A29 := Aside0.mk A290
     clear A290
     have H' := Aside0.mk H
     clear H
     go_wp2_with (first | ((with_reducible refine gate_callee (f := 35) rfl ?_); refine goesL_ (some 45) rfl rfl Try.func35 laws_FnLeastSorts.a9 rfl #[.int .i64 t751] rfl laws_FnLeastSorts.a1 ?_; (with_reducible refine (spec_ListOf.calls kj6 t751 t757 _ A29.out).mono ?_); rintro e w30 ⟨v758, rfl, ho0, hb⟩; refine ⟨_, rfl, ?_⟩; have n0_ := Aside0.mk (Kd.R_below laws_FnLeastSorts.a4 hb); have n1_ := Aside0.mk (Kd.R_below laws_FnLeastSorts.a5 hb); have n2_ := Aside0.mk (Kd.R_lower ho0 (below_size laws_FnLeastSorts.a0)); have n3_ := Aside0.mk (blk_below (g := gb752) (o := .cells #[.slice Ao10 t745.length co10, .slice Ao12 t748.length co12] 30 (0, 0)) laws_FnLeastSorts.a3 hb); have n4_ := Aside0.mk (below_step laws_FnLeastSorts.a0 hb); clear HO_753000; clear HO_753001; clear BK752; clear HB; have HO_753000 := n0_; have HO_753001 := n1_; have HO759 := n2_; have BK752 := n3_; have HB := n4_; clear n0_ n1_ n2_ n3_ n4_; (try clear hb); (try clear hb2); (try clear hk); (try clear hi); (try clear ho0)))
     go_loopg [8] kj6 (fun kq v8 w' => ∃ (x8_2 : Int), v8 = .int .i64 x8_2 ∧ Aside0 (laws_FnLeastSorts.l0 kq t751 t753 t754 t757 x8_2 t745 t748 = some r) ∧ Aside0 (kq ≤ kj6) ∧ Aside0 (Kd.R (Kd.int .i64) 3 w' w.heap.size (fun _ => True) v758 t757) ∧ Aside0 (Kd.R Kd.string 9 w' w.heap.size (fun _ => True) (.slice Ao10 t745.length co10) t745) ∧ Aside0 (Kd.R k52 52 w' w.heap.size (fun _ => True) (.slice Ao12 t748.length co12) t748) ∧ Aside0 (w'.heap[gb752]? = some (.cells #[(.slice Ao10 t745.length co10), (.slice Ao12 t748.length co12)] 30 (0, 0))) ∧ Aside0 (Below w.heap.size w w'))
     case atStart => exact ⟨(0), laws_FnLeastSorts.a15, H', ⟨Nat.le_refl _⟩, ⟨by (with_reducible repeat (first | apply Kd.R_alloc | apply Kd.R_drewN | apply Kd.R_drew)); exact HO759.out⟩, ⟨laws_FnLeastSorts.a4⟩, ⟨laws_FnLeastSorts.a5⟩, ⟨laws_FnLeastSorts.a3⟩, ⟨laws_FnLeastSorts.a0⟩⟩
     case round =>
      clear H'
      try clear c1
      try clear c2
      try clear p2
      try clear c3
      try clear p6
      try clear c11
      try clear c13
      try clear c17
      try clear c19
      try clear c19b0
      try clear c19b1
      try clear c27
      try clear c28
      try clear c28b0
      try clear c28b1
      try clear c30
      try clear hcz11_0
      try clear hcz11_1
      try clear hcz14_0
      try clear hcz14_1
      try clear hcz22_0
      try clear hcz22_1
      try clear hcz24_0
      try clear hcz24_1
      try clear hcz25_0
      try clear hcz25_1
      try clear hfz11_0
      try clear hfz11_1
      try clear hfz14_0
      try clear hfz14_1
      try clear hfz22_0
      try clear hfz22_1
      try clear hfz24_0
      try clear hfz24_1
      try clear hfz25_0
      try clear hfz25_1
      try clear p2
      try clear p6
      obtain ⟨x8_2, rfl, HA, HK2, HO_7, HO_753000, HO_753001, BK752, HB⟩ := hrel
      cases gk with
      | zero => exact absurd HA.out (by simp [laws_FnLeastSorts.l0])
      | succ k2 =>
       have H := HA.out
       clear HA
       simp only [laws_FnLeastSorts.l0] at H
       by_cases c31 : x8_2 < (t757.length : Int)
       ·rw [if_pos c31] at H
        have c31b0 : decide (x8_2 < (t757.length : Int)) = true := decide_eq_true c31
        clear c31
        by_cases c32 : 0 ≤ x8_2
        ·rw [if_pos c32] at H
         have c32b0 : decide (0 ≤ x8_2) = true := decide_eq_true c32
         clear c32
         replace H := Option.bind_eq_some_iff.mp H
         obtain ⟨t763, A330, H⟩ := H
         replace H : ((spec_AboveSort.f k2 t745 t748 (rd t757 x8_2)).bind fun t765 => (if (Go.bits .and .i64 t763 t753) = 0 then (some false) else (if (Go.bits .and .i64 t765 t754) = 0 then (some false) else ((laws_member.f t753 (rd t757 x8_2)).bind fun t767 => (if t767 = true then (if 0 ≤ (IntKind.u64.wrap (rd t757 x8_2)) then (if (Go.bits .and .i64 t763 t751) = (shl .i64 1 (IntKind.u64.wrap (rd t757 x8_2))) then ((laws_member.f t754 (rd t757 x8_2)).bind fun t770 => (if t770 = true then (if (Go.bits .and .i64 t765 t751) = (shl .i64 1 (IntKind.u64.wrap (rd t757 x8_2))) then (laws_FnLeastSorts.l0 k2 t751 t753 t754 t757 (wrap64 (x8_2 + 1)) t745 t748) else (some false)) else (laws_FnLeastSorts.l0 k2 t751 t753 t754 t757 (wrap64 (x8_2 + 1)) t745 t748))) else (some false)) else (none)) else ((laws_member.f t754 (rd t757 x8_2)).bind fun t773 => (if t773 = true then (if 0 ≤ (IntKind.u64.wrap (rd t757 x8_2)) then (if (Go.bits .and .i64 t765 t751) = (shl .i64 1 (IntKind.u64.wrap (rd t757 x8_2))) then (laws_FnLeastSorts.l0 k2 t751 t753 t754 t757 (wrap64 (x8_2 + 1)) t745 t748) else (some false)) else (none)) else (laws_FnLeastSorts.l0 k2 t751 t753 t754 t757 (wrap64 (x8_2 + 1)) t745 t748)))))))) = some r := H
         have A33 := Aside0.mk A330
         clear A330
         replace H := Option.bind_eq_some_iff.mp H
         obtain ⟨t765, A340, H⟩ := H
         replace H : (if (Go.bits .and .i64 t763 t753) = 0 then (some false) else (if (Go.bits .and .i64 t765 t754) = 0 then (some false) else ((laws_member.f t753 (rd t757 x8_2)).bind fun t767 => (if t767 = true then (if 0 ≤ (IntKind.u64.wrap (rd t757 x8_2)) then (if (Go.bits .and .i64 t763 t751) = (shl .i64 1 (IntKind.u64.wrap (rd t757 x8_2))) then ((laws_member.f t754 (rd t757 x8_2)).bind fun t770 => (if t770 = true then (if (Go.bits .and .i64 t765 t751) = (shl .i64 1 (IntKind.u64.wrap (rd t757 x8_2))) then (laws_FnLeastSorts.l0 k2 t751 t753 t754 t757 (wrap64 (x8_2 + 1)) t745 t748) else (some false)) else (laws_FnLeastSorts.l0 k2 t751 t753 t754 t757 (wrap64 (x8_2 + 1)) t745 t748))) else (some false)) else (none)) else ((laws_member.f t754 (rd t757 x8_2)).bind fun t773 => (if t773 = true then (if 0 ≤ (IntKind.u64.wrap (rd t757 x8_2)) then (if (Go.bits .and .i64 t765 t751) = (shl .i64 1 (IntKind.u64.wrap (rd t757 x8_2))) then (laws_FnLeastSorts.l0 k2 t751 t753 t754 t757 (wrap64 (x8_2 + 1)) t745 t748) else (some false)) else (none)) else (laws_FnLeastSorts.l0 k2 t751 t753 t754 t757 (wrap64 (x8_2 + 1)) t745 t748))))))) = some r := H
         have A34 := Aside0.mk A340
         clear A340
         by_cases c35 : (Go.bits .and .i64 t763 t753) = 0
         ·rw [if_pos c35] at H
          have c35b0 : ((Go.bits .and .i64 t763 t753) == 0) = true := beq_iff_eq.mpr c35
          have c35b1 : ((Go.bits .and .i64 t763 t753) != 0) = false := bne_eq_false_iff_eq.mpr c35
          clear c35
          obtain rfl := Option.some.inj H
          obtain ⟨Ao36, co36, eo36⟩ := Kd.R_slice HO_7.out
          subst eo36
          try go_wp2
          have n0_ := Aside0.mk (Kd.R_drew HO_7.out)
          have n1_ := Aside0.mk (Kd.R_drew HO_753000.out)
          have n2_ := Aside0.mk (Kd.R_drew HO_753001.out)
          have n3_ := Aside0.mk (blk_drew BK752.out)
          have n4_ := Aside0.mk (below_drew1 HB.out)
          clear HO_7
          clear HO_753000
          clear HO_753001
          clear BK752
          clear HB
          have HO_7 := n0_
          have HO_753000 := n1_
          have HO_753001 := n2_
          have BK752 := n3_
          have HB := n4_
          clear n0_ n1_ n2_ n3_ n4_
          have p762 : 0 ≤ (x8_2 : Int) := of_decide_eq_true laws_FnLeastSorts.a2
          have q762 : x8_2 < (t757.length : Int) := of_decide_eq_true laws_FnLeastSorts.a2
          obtain ⟨ad762, e762, hx762_0⟩ := Kd.at_int (Kd.R_reads' HO_7.out).2.2 x8_2 p762 q762
          cases e762
          replace p762 := eq_true p762
          replace q762 := eq_true q762
          refine start_ (n := 7) (S := fun w' => w'.cell? ⟨gb752, 0, none⟩ = some (.slice Ao10 t745.length co10) ∧ w'.cell? ⟨gb752, 1, none⟩ = some (.slice Ao12 t748.length co12) ∧ w'.cell? (ad762.add (x8_2).toNat) = some (.int .i64 (rd t757 x8_2))) (ds := []) #[false, false, false, false, false, false, false] laws_FnLeastSorts.a9 rfl rfl ⟨(blk_cell BK752.out 0).trans rfl, (blk_cell BK752.out 1).trans rfl, hx762_0⟩ (fun hHeld => ?_)
          generalize wr.drew = w37 at HO_7 HO_753000 HO_753001 BK752 HB hx762_0 hHeld ⊢
          refine pureK 1 53 rfl rfl ?_
          refine pureK 2 54 rfl rfl ?_
          refine pureK 3 55 rfl rfl ?_
          refine takeK 0 52 rfl rfl hHeld ?_ laws_FnLeastSorts.a7
          refine takeK 4 56 rfl rfl hHeld ?_ laws_FnLeastSorts.a7
          refine one_ (i := 5) (N := some 57) #[true, true, true, true, true, true, false] rfl rfl laws_FnLeastSorts.a9 (by decide) (fun K hK => ?_)
          refine goes_ Try.func25 laws_FnLeastSorts.a9 rfl #[.agg #[.slice Ao10 t745.length co10, .slice Ao12 t748.length co12], .int .i64 (rd t757 x8_2)] (by rfl) rfl rfl laws_FnLeastSorts.a1 ?_
          with_reducible refine (spec_BelowSort.calls k2 _ _ t745 _ _ t748 (rd t757 x8_2) t763 _ ?side1 ?side2 ?side3 ?side4 A33.out).mono ?_
          (case side1 => repeat (first | exact (Kd.R_reads' HO_753000.out).2.2 | (with_reducible refine Kd.C_alloc ?_ _) | (with_reducible refine Kd.C_drewN ?_ _) | (with_reducible refine Kd.C_drew ?_)))
          (case side2 => exact (Kd.R_reads' HO_753000.out).2.1)
          (case side3 => repeat (first | exact (Kd.R_reads' HO_753001.out).2.2 | (with_reducible refine Kd.C_alloc ?_ _) | (with_reducible refine Kd.C_drewN ?_ _) | (with_reducible refine Kd.C_drew ?_)))
          (case side4 => exact (Kd.R_reads' HO_753001.out).2.1)
          rintro e w38 ⟨rfl, hb⟩
          have HS2_ := (hb.cell (World.block_lt_of_cell? _ _ (hHeld.2.2))).trans (hHeld.2.2)
          refine ⟨_, rfl, ?_⟩
          have n0_ := Aside0.mk (Kd.R_below laws_FnLeastSorts.a6 hb)
          have n1_ := Aside0.mk (Kd.R_below laws_FnLeastSorts.a4 hb)
          have n2_ := Aside0.mk (Kd.R_below laws_FnLeastSorts.a5 hb)
          have n3_ := Aside0.mk (blk_below (g := gb752) (o := .cells #[.slice Ao10 t745.length co10, .slice Ao12 t748.length co12] 30 (0, 0)) laws_FnLeastSorts.a3 hb)
          have n4_ := Aside0.mk (below_step laws_FnLeastSorts.a0 hb)
          clear HO_7
          clear HO_753000
          clear HO_753001
          clear BK752
          clear HB
          have HO_7 := n0_
          have HO_753000 := n1_
          have HO_753001 := n2_
          have BK752 := n3_
          have HB := n4_
          clear n0_ n1_ n2_ n3_ n4_
          (try clear hb)
          (try clear hb2)
          (try clear hk)
          (try clear hi)
          refine hK.out _ _ ⟨(blk_cell BK752.out 0).trans rfl, (blk_cell BK752.out 1).trans rfl, HS2_⟩ (fun hHeld => ?_)
          clear hK K
          refine norm_ (a' := ?_) ?_ ?_
          rotate_left
          ·show Act.put _ (some 57) _ = _
           simp only [Act.put, List.setIfInBounds_toArray, List.set_cons_zero, List.set_cons_succ, i64_w, i32_w]
           rfl
          refine pureK 6 9 rfl rfl ?_
          refine done_ laws_FnLeastSorts.a9 ?_
          try go_wp2
          have n0_ := Aside0.mk (Kd.R_drew HO_7.out)
          have n1_ := Aside0.mk (Kd.R_drew HO_753000.out)
          have n2_ := Aside0.mk (Kd.R_drew HO_753001.out)
          have n3_ := Aside0.mk (blk_drew BK752.out)
          have n4_ := Aside0.mk (below_drew1 HB.out)
          clear HO_7
          clear HO_753000
          clear HO_753001
          clear BK752
          clear HB
          have HO_7 := n0_
          have HO_753000 := n1_
          have HO_753001 := n2_
          have BK752 := n3_
          have HB := n4_
          clear n0_ n1_ n2_ n3_ n4_
          have p764 : 0 ≤ (x8_2 : Int) := of_decide_eq_true laws_FnLeastSorts.a2
          have q764 : x8_2 < (t757.length : Int) := of_decide_eq_true laws_FnLeastSorts.a2
          obtain ⟨ad764, e764, hx764_0⟩ := Kd.at_int (Kd.R_reads' HO_7.out).2.2 x8_2 p764 q764
          obtain rfl : ad762 = ad764 := (by injection e764)
          replace p764 := eq_true p764
          replace q764 := eq_true q764
          refine start_ (n := 7) (S := fun w' => w'.cell? ⟨gb752, 0, none⟩ = some (.slice Ao10 t745.length co10) ∧ w'.cell? ⟨gb752, 1, none⟩ = some (.slice Ao12 t748.length co12) ∧ w'.cell? (ad762.add (x8_2).toNat) = some (.int .i64 (rd t757 x8_2))) (ds := []) #[false, false, false, false, false, false, false] laws_FnLeastSorts.a9 rfl rfl ⟨(blk_cell BK752.out 0).trans rfl, (blk_cell BK752.out 1).trans rfl, hx764_0⟩ (fun hHeld => ?_)
          generalize w38.drew = w39 at HO_7 HO_753000 HO_753001 BK752 HB hx764_0 hHeld ⊢
          refine pureK 1 59 rfl rfl ?_
          refine pureK 2 60 rfl rfl ?_
          refine pureK 3 61 rfl rfl ?_
          refine takeK 0 58 rfl rfl hHeld ?_ laws_FnLeastSorts.a7
          refine takeK 4 62 rfl rfl hHeld ?_ laws_FnLeastSorts.a7
          refine one_ (i := 5) (N := some 63) #[true, true, true, true, true, true, false] rfl rfl laws_FnLeastSorts.a9 (by decide) (fun K hK => ?_)
          refine goes_ Try.func24 laws_FnLeastSorts.a9 rfl #[.agg #[.slice Ao10 t745.length co10, .slice Ao12 t748.length co12], .int .i64 (rd t757 x8_2)] (by rfl) rfl rfl laws_FnLeastSorts.a1 ?_
          with_reducible refine (spec_AboveSort.calls k2 _ _ t745 _ _ t748 (rd t757 x8_2) t765 _ ?side1 ?side2 ?side3 ?side4 A34.out).mono ?_
          (case side1 => repeat (first | exact (Kd.R_reads' HO_753000.out).2.2 | (with_reducible refine Kd.C_alloc ?_ _) | (with_reducible refine Kd.C_drewN ?_ _) | (with_reducible refine Kd.C_drew ?_)))
          (case side2 => exact (Kd.R_reads' HO_753000.out).2.1)
          (case side3 => repeat (first | exact (Kd.R_reads' HO_753001.out).2.2 | (with_reducible refine Kd.C_alloc ?_ _) | (with_reducible refine Kd.C_drewN ?_ _) | (with_reducible refine Kd.C_drew ?_)))
          (case side4 => exact (Kd.R_reads' HO_753001.out).2.1)
          rintro e w40 ⟨rfl, hb⟩
          have HS2_ := (hb.cell (World.block_lt_of_cell? _ _ (hHeld.2.2))).trans (hHeld.2.2)
          refine ⟨_, rfl, ?_⟩
          have n0_ := Aside0.mk (Kd.R_below laws_FnLeastSorts.a6 hb)
          have n1_ := Aside0.mk (Kd.R_below laws_FnLeastSorts.a4 hb)
          have n2_ := Aside0.mk (Kd.R_below laws_FnLeastSorts.a5 hb)
          have n3_ := Aside0.mk (blk_below (g := gb752) (o := .cells #[.slice Ao10 t745.length co10, .slice Ao12 t748.length co12] 30 (0, 0)) laws_FnLeastSorts.a3 hb)
          have n4_ := Aside0.mk (below_step laws_FnLeastSorts.a0 hb)
          clear HO_7
          clear HO_753000
          clear HO_753001
          clear BK752
          clear HB
          have HO_7 := n0_
          have HO_753000 := n1_
          have HO_753001 := n2_
          have BK752 := n3_
          have HB := n4_
          clear n0_ n1_ n2_ n3_ n4_
          (try clear hb)
          (try clear hb2)
          (try clear hk)
          (try clear hi)
          refine hK.out _ _ ⟨(blk_cell BK752.out 0).trans rfl, (blk_cell BK752.out 1).trans rfl, HS2_⟩ (fun hHeld => ?_)
          clear hK K
          refine norm_ (a' := ?_) ?_ ?_
          rotate_left
          ·show Act.put _ (some 63) _ = _
           simp only [Act.put, List.setIfInBounds_toArray, List.set_cons_zero, List.set_cons_succ, i64_w, i32_w]
           rfl
          refine pureK 6 10 rfl rfl ?_
          refine done_ laws_FnLeastSorts.a9 ?_
          try go_wp2
          go_ret
          exact ⟨laws_FnLeastSorts.a10, laws_FnLeastSorts.a0⟩
         ·rw [if_neg c35] at H
          have c35b0 : ((Go.bits .and .i64 t763 t753) == 0) = false := beq_eq_false_iff_ne.mpr c35
          have c35b1 : ((Go.bits .and .i64 t763 t753) != 0) = true := bne_iff_ne.mpr c35
          by_cases c41 : (Go.bits .and .i64 t765 t754) = 0
          ·rw [if_pos c41] at H
           have c41b0 : ((Go.bits .and .i64 t765 t754) == 0) = true := beq_iff_eq.mpr c41
           have c41b1 : ((Go.bits .and .i64 t765 t754) != 0) = false := bne_eq_false_iff_eq.mpr c41
           clear c41
           obtain rfl := Option.some.inj H
           obtain ⟨Ao42, co42, eo42⟩ := Kd.R_slice HO_7.out
           subst eo42
           try go_wp2
           have n0_ := Aside0.mk (Kd.R_drew HO_7.out)
           have n1_ := Aside0.mk (Kd.R_drew HO_753000.out)
           have n2_ := Aside0.mk (Kd.R_drew HO_753001.out)
           have n3_ := Aside0.mk (blk_drew BK752.out)
           have n4_ := Aside0.mk (below_drew1 HB.out)
           clear HO_7
           clear HO_753000
           clear HO_753001
           clear BK752
           clear HB
           have HO_7 := n0_
           have HO_753000 := n1_
           have HO_753001 := n2_
           have BK752 := n3_
           have HB := n4_
           clear n0_ n1_ n2_ n3_ n4_
           have p762 : 0 ≤ (x8_2 : Int) := of_decide_eq_true laws_FnLeastSorts.a2
           have q762 : x8_2 < (t757.length : Int) := of_decide_eq_true laws_FnLeastSorts.a2
           obtain ⟨ad762, e762, hx762_0⟩ := Kd.at_int (Kd.R_reads' HO_7.out).2.2 x8_2 p762 q762
           cases e762
           replace p762 := eq_true p762
           replace q762 := eq_true q762
           refine start_ (n := 7) (S := fun w' => w'.cell? ⟨gb752, 0, none⟩ = some (.slice Ao10 t745.length co10) ∧ w'.cell? ⟨gb752, 1, none⟩ = some (.slice Ao12 t748.length co12) ∧ w'.cell? (ad762.add (x8_2).toNat) = some (.int .i64 (rd t757 x8_2))) (ds := []) #[false, false, false, false, false, false, false] laws_FnLeastSorts.a9 rfl rfl ⟨(blk_cell BK752.out 0).trans rfl, (blk_cell BK752.out 1).trans rfl, hx762_0⟩ (fun hHeld => ?_)
           generalize wr.drew = w43 at HO_7 HO_753000 HO_753001 BK752 HB hx762_0 hHeld ⊢
           refine pureK 1 53 rfl rfl ?_
           refine pureK 2 54 rfl rfl ?_
           refine pureK 3 55 rfl rfl ?_
           refine takeK 0 52 rfl rfl hHeld ?_ laws_FnLeastSorts.a7
           refine takeK 4 56 rfl rfl hHeld ?_ laws_FnLeastSorts.a7
           refine one_ (i := 5) (N := some 57) #[true, true, true, true, true, true, false] rfl rfl laws_FnLeastSorts.a9 (by decide) (fun K hK => ?_)
           refine goes_ Try.func25 laws_FnLeastSorts.a9 rfl #[.agg #[.slice Ao10 t745.length co10, .slice Ao12 t748.length co12], .int .i64 (rd t757 x8_2)] (by rfl) rfl rfl laws_FnLeastSorts.a1 ?_
           with_reducible refine (spec_BelowSort.calls k2 _ _ t745 _ _ t748 (rd t757 x8_2) t763 _ ?side1 ?side2 ?side3 ?side4 A33.out).mono ?_
           (case side1 => repeat (first | exact (Kd.R_reads' HO_753000.out).2.2 | (with_reducible refine Kd.C_alloc ?_ _) | (with_reducible refine Kd.C_drewN ?_ _) | (with_reducible refine Kd.C_drew ?_)))
           (case side2 => exact (Kd.R_reads' HO_753000.out).2.1)
           (case side3 => repeat (first | exact (Kd.R_reads' HO_753001.out).2.2 | (with_reducible refine Kd.C_alloc ?_ _) | (with_reducible refine Kd.C_drewN ?_ _) | (with_reducible refine Kd.C_drew ?_)))
           (case side4 => exact (Kd.R_reads' HO_753001.out).2.1)
           rintro e w44 ⟨rfl, hb⟩
           have HS2_ := (hb.cell (World.block_lt_of_cell? _ _ (hHeld.2.2))).trans (hHeld.2.2)
           refine ⟨_, rfl, ?_⟩
           have n0_ := Aside0.mk (Kd.R_below laws_FnLeastSorts.a6 hb)
           have n1_ := Aside0.mk (Kd.R_below laws_FnLeastSorts.a4 hb)
           have n2_ := Aside0.mk (Kd.R_below laws_FnLeastSorts.a5 hb)
           have n3_ := Aside0.mk (blk_below (g := gb752) (o := .cells #[.slice Ao10 t745.length co10, .slice Ao12 t748.length co12] 30 (0, 0)) laws_FnLeastSorts.a3 hb)
           have n4_ := Aside0.mk (below_step laws_FnLeastSorts.a0 hb)
           clear HO_7
           clear HO_753000
           clear HO_753001
           clear BK752
           clear HB
           have HO_7 := n0_
           have HO_753000 := n1_
           have HO_753001 := n2_
           have BK752 := n3_
           have HB := n4_
           clear n0_ n1_ n2_ n3_ n4_
           (try clear hb)
           (try clear hb2)
           (try clear hk)
           (try clear hi)
           refine hK.out _ _ ⟨(blk_cell BK752.out 0).trans rfl, (blk_cell BK752.out 1).trans rfl, HS2_⟩ (fun hHeld => ?_)
           clear hK K
           refine norm_ (a' := ?_) ?_ ?_
           rotate_left
           ·show Act.put _ (some 57) _ = _
            simp only [Act.put, List.setIfInBounds_toArray, List.set_cons_zero, List.set_cons_succ, i64_w, i32_w]
            rfl
           refine pureK 6 9 rfl rfl ?_
           refine done_ laws_FnLeastSorts.a9 ?_
           try go_wp2
           have n0_ := Aside0.mk (Kd.R_drew HO_7.out)
           have n1_ := Aside0.mk (Kd.R_drew HO_753000.out)
           have n2_ := Aside0.mk (Kd.R_drew HO_753001.out)
           have n3_ := Aside0.mk (blk_drew BK752.out)
           have n4_ := Aside0.mk (below_drew1 HB.out)
           clear HO_7
           clear HO_753000
           clear HO_753001
           clear BK752
           clear HB
           have HO_7 := n0_
           have HO_753000 := n1_
           have HO_753001 := n2_
           have BK752 := n3_
           have HB := n4_
           clear n0_ n1_ n2_ n3_ n4_
           have p764 : 0 ≤ (x8_2 : Int) := of_decide_eq_true laws_FnLeastSorts.a2
           have q764 : x8_2 < (t757.length : Int) := of_decide_eq_true laws_FnLeastSorts.a2
           obtain ⟨ad764, e764, hx764_0⟩ := Kd.at_int (Kd.R_reads' HO_7.out).2.2 x8_2 p764 q764
           obtain rfl : ad762 = ad764 := (by injection e764)
           replace p764 := eq_true p764
           replace q764 := eq_true q764
           refine start_ (n := 7) (S := fun w' => w'.cell? ⟨gb752, 0, none⟩ = some (.slice Ao10 t745.length co10) ∧ w'.cell? ⟨gb752, 1, none⟩ = some (.slice Ao12 t748.length co12) ∧ w'.cell? (ad762.add (x8_2).toNat) = some (.int .i64 (rd t757 x8_2))) (ds := []) #[false, false, false, false, false, false, false] laws_FnLeastSorts.a9 rfl rfl ⟨(blk_cell BK752.out 0).trans rfl, (blk_cell BK752.out 1).trans rfl, hx764_0⟩ (fun hHeld => ?_)
           generalize w44.drew = w45 at HO_7 HO_753000 HO_753001 BK752 HB hx764_0 hHeld ⊢
           refine pureK 1 59 rfl rfl ?_
           refine pureK 2 60 rfl rfl ?_
           refine pureK 3 61 rfl rfl ?_
           refine takeK 0 58 rfl rfl hHeld ?_ laws_FnLeastSorts.a7
           refine takeK 4 62 rfl rfl hHeld ?_ laws_FnLeastSorts.a7
           refine one_ (i := 5) (N := some 63) #[true, true, true, true, true, true, false] rfl rfl laws_FnLeastSorts.a9 (by decide) (fun K hK => ?_)
           refine goes_ Try.func24 laws_FnLeastSorts.a9 rfl #[.agg #[.slice Ao10 t745.length co10, .slice Ao12 t748.length co12], .int .i64 (rd t757 x8_2)] (by rfl) rfl rfl laws_FnLeastSorts.a1 ?_
           with_reducible refine (spec_AboveSort.calls k2 _ _ t745 _ _ t748 (rd t757 x8_2) t765 _ ?side1 ?side2 ?side3 ?side4 A34.out).mono ?_
           (case side1 => repeat (first | exact (Kd.R_reads' HO_753000.out).2.2 | (with_reducible refine Kd.C_alloc ?_ _) | (with_reducible refine Kd.C_drewN ?_ _) | (with_reducible refine Kd.C_drew ?_)))
           (case side2 => exact (Kd.R_reads' HO_753000.out).2.1)
           (case side3 => repeat (first | exact (Kd.R_reads' HO_753001.out).2.2 | (with_reducible refine Kd.C_alloc ?_ _) | (with_reducible refine Kd.C_drewN ?_ _) | (with_reducible refine Kd.C_drew ?_)))
           (case side4 => exact (Kd.R_reads' HO_753001.out).2.1)
           rintro e w46 ⟨rfl, hb⟩
           have HS2_ := (hb.cell (World.block_lt_of_cell? _ _ (hHeld.2.2))).trans (hHeld.2.2)
           refine ⟨_, rfl, ?_⟩
           have n0_ := Aside0.mk (Kd.R_below laws_FnLeastSorts.a6 hb)
           have n1_ := Aside0.mk (Kd.R_below laws_FnLeastSorts.a4 hb)
           have n2_ := Aside0.mk (Kd.R_below laws_FnLeastSorts.a5 hb)
           have n3_ := Aside0.mk (blk_below (g := gb752) (o := .cells #[.slice Ao10 t745.length co10, .slice Ao12 t748.length co12] 30 (0, 0)) laws_FnLeastSorts.a3 hb)
           have n4_ := Aside0.mk (below_step laws_FnLeastSorts.a0 hb)
           clear HO_7
           clear HO_753000
           clear HO_753001
           clear BK752
           clear HB
           have HO_7 := n0_
           have HO_753000 := n1_
           have HO_753001 := n2_
           have BK752 := n3_
           have HB := n4_
           clear n0_ n1_ n2_ n3_ n4_
           (try clear hb)
           (try clear hb2)
           (try clear hk)
           (try clear hi)
           refine hK.out _ _ ⟨(blk_cell BK752.out 0).trans rfl, (blk_cell BK752.out 1).trans rfl, HS2_⟩ (fun hHeld => ?_)
           clear hK K
           refine norm_ (a' := ?_) ?_ ?_
           rotate_left
           ·show Act.put _ (some 63) _ = _
            simp only [Act.put, List.setIfInBounds_toArray, List.set_cons_zero, List.set_cons_succ, i64_w, i32_w]
            rfl
           refine pureK 6 10 rfl rfl ?_
           refine done_ laws_FnLeastSorts.a9 ?_
           try go_wp2
           go_ret
           exact ⟨laws_FnLeastSorts.a10, laws_FnLeastSorts.a0⟩
          ·rw [if_neg c41] at H
           have c41b0 : ((Go.bits .and .i64 t765 t754) == 0) = false := beq_eq_false_iff_ne.mpr c41
           have c41b1 : ((Go.bits .and .i64 t765 t754) != 0) = true := bne_iff_ne.mpr c41
           replace H := Option.bind_eq_some_iff.mp H
           obtain ⟨t767, A470, H⟩ := H
           replace H : (if t767 = true then (if 0 ≤ (IntKind.u64.wrap (rd t757 x8_2)) then (if (Go.bits .and .i64 t763 t751) = (shl .i64 1 (IntKind.u64.wrap (rd t757 x8_2))) then ((laws_member.f t754 (rd t757 x8_2)).bind fun t770 => (if t770 = true then (if (Go.bits .and .i64 t765 t751) = (shl .i64 1 (IntKind.u64.wrap (rd t757 x8_2))) then (laws_FnLeastSorts.l0 k2 t751 t753 t754 t757 (wrap64 (x8_2 + 1)) t745 t748) else (some false)) else (laws_FnLeastSorts.l0 k2 t751 t753 t754 t757 (wrap64 (x8_2 + 1)) t745 t748))) else (some false)) else (none)) else ((laws_member.f t754 (rd t757 x8_2)).bind fun t773 => (if t773 = true then (if 0 ≤ (IntKind.u64.wrap (rd t757 x8_2)) then (if (Go.bits .and .i64 t765 t751) = (shl .i64 1 (IntKind.u64.wrap (rd t757 x8_2))) then (laws_FnLeastSorts.l0 k2 t751 t753 t754 t757 (wrap64 (x8_2 + 1)) t745 t748) else (some false)) else (none)) else (laws_FnLeastSorts.l0 k2 t751 t753 t754 t757 (wrap64 (x8_2 + 1)) t745 t748)))) = some r := H
           have A47 := Aside0.mk A470
           clear A470
           by_cases c48 : t767 = true
           ·subst c48
            have H1 : (if 0 ≤ (IntKind.u64.wrap (rd t757 x8_2)) then (if (Go.bits .and .i64 t763 t751) = (shl .i64 1 (IntKind.u64.wrap (rd t757 x8_2))) then ((laws_member.f t754 (rd t757 x8_2)).bind fun t770 => (if t770 = true then (if (Go.bits .and .i64 t765 t751) = (shl .i64 1 (IntKind.u64.wrap (rd t757 x8_2))) then (laws_FnLeastSorts.l0 k2 t751 t753 t754 t757 (wrap64 (x8_2 + 1)) t745 t748) else (some false)) else (laws_FnLeastSorts.l0 k2 t751 t753 t754 t757 (wrap64 (x8_2 + 1)) t745 t748))) else (some false)) else (none)) = some r := by rw [if_pos rfl] at H; exact H
            clear H
            have H := H1
            clear H1
            obtain ⟨ji49, hji49⟩ : ∃ j_ : Int, (IntKind.u64.wrap (rd t757 x8_2)) = j_ := ⟨_, rfl⟩
            replace H : (if 0 ≤ (ji49) then (if (Go.bits .and .i64 t763 t751) = (shl .i64 1 (ji49)) then ((laws_member.f t754 (rd t757 x8_2)).bind fun t770 => (if t770 = true then (if (Go.bits .and .i64 t765 t751) = (shl .i64 1 (ji49)) then (laws_FnLeastSorts.l0 k2 t751 t753 t754 t757 (wrap64 (x8_2 + 1)) t745 t748) else (some false)) else (laws_FnLeastSorts.l0 k2 t751 t753 t754 t757 (wrap64 (x8_2 + 1)) t745 t748))) else (some false)) else (none)) = some r := by first | (rw [hji49] at H; exact H) | (simp only [hji49] at H ⊢; exact H)
            (try rw [hji49] at A33)
            (try rw [hji49] at A34)
            (try rw [hji49] at A47)
            by_cases c50 : 0 ≤ (ji49)
            ·rw [if_pos c50] at H
             have c50b0 := eq_true c50
             have c50b1 : decide (0 ≤ (ji49)) = true := decide_eq_true c50
             clear c50
             obtain ⟨ji51, hji51⟩ : ∃ j_ : Int, (shl .i64 1 (ji49)) = j_ := ⟨_, rfl⟩
             replace H : (if (Go.bits .and .i64 t763 t751) = (ji51) then ((laws_member.f t754 (rd t757 x8_2)).bind fun t770 => (if t770 = true then (if (Go.bits .and .i64 t765 t751) = (ji51) then (laws_FnLeastSorts.l0 k2 t751 t753 t754 t757 (wrap64 (x8_2 + 1)) t745 t748) else (some false)) else (laws_FnLeastSorts.l0 k2 t751 t753 t754 t757 (wrap64 (x8_2 + 1)) t745 t748))) else (some false)) = some r := by first | (rw [hji51] at H; exact H) | (simp only [hji51] at H ⊢; exact H)
             (try rw [hji51] at A33)
             (try rw [hji51] at A34)
             (try rw [hji51] at A47)
             have hji51_ : (IntKind.i64.wrap (1 * 2 ^ min (ji49).toNat 64)) = ji51 := hji51
             have hji51z : (ji49) ≤ 64 → (IntKind.i64.wrap (1 * 2 ^ (ji49).toNat)) = ji51 := shl_small hji51
             have hji51u : (IntKind.i64.wrap (2 ^ min (ji49).toNat 64)) = ji51 := by have h_ := hji51_; rw [Int.one_mul] at h_; exact h_
             have hji51v : (ji49) ≤ 64 → (IntKind.i64.wrap (2 ^ (ji49).toNat)) = ji51 := fun hle_ => by have h_ := hji51z hle_; rw [Int.one_mul] at h_; exact h_
             have hji51y : (wrap64 (1 * 2 ^ min (ji49).toNat 64)) = ji51 := (i64_w _).symm.trans hji51_
             have hji51x : (ji49) ≤ 64 → (wrap64 (1 * 2 ^ (ji49).toNat)) = ji51 := fun h_ => (i64_w _).symm.trans (hji51z h_)
             by_cases c52 : (Go.bits .and .i64 t763 t751) = (ji51)
             ·rw [if_pos c52] at H
              have c52b0 : ((Go.bits .and .i64 t763 t751) == (ji51)) = true := beq_iff_eq.mpr c52
              have c52b1 : ((Go.bits .and .i64 t763 t751) != (ji51)) = false := bne_eq_false_iff_eq.mpr c52
              clear c52
              replace H := Option.bind_eq_some_iff.mp H
              obtain ⟨t770, A530, H⟩ := H
              replace H : (if t770 = true then (if (Go.bits .and .i64 t765 t751) = (ji51) then (laws_FnLeastSorts.l0 k2 t751 t753 t754 t757 (wrap64 (x8_2 + 1)) t745 t748) else (some false)) else (laws_FnLeastSorts.l0 k2 t751 t753 t754 t757 (wrap64 (x8_2 + 1)) t745 t748)) = some r := H
              have A53 := Aside0.mk A530
              clear A530
              by_cases c54 : t770 = true
              ·subst c54
               have H1 : (if (Go.bits .and .i64 t765 t751) = (ji51) then (laws_FnLeastSorts.l0 k2 t751 t753 t754 t757 (wrap64 (x8_2 + 1)) t745 t748) else (some false)) = some r := by rw [if_pos rfl] at H; exact H
               clear H
               have H := H1
               clear H1
               have c55b0 := eq_true (of_decide_eq_true laws_FnLeastSorts.a2 : 0 ≤ (ji49))
               by_cases c57 : (Go.bits .and .i64 t765 t751) = (ji51)
               ·rw [if_pos c57] at H
                have c57b0 : ((Go.bits .and .i64 t765 t751) == (ji51)) = true := beq_iff_eq.mpr c57
                have c57b1 : ((Go.bits .and .i64 t765 t751) != (ji51)) = false := bne_eq_false_iff_eq.mpr c57
                clear c57
                have H' := Aside0.mk H
                clear H
                obtain ⟨Ao58, co58, eo58⟩ := Kd.R_slice HO_7.out
                subst eo58
                try go_wp2
                have n0_ := Aside0.mk (Kd.R_drew HO_7.out)
                have n1_ := Aside0.mk (Kd.R_drew HO_753000.out)
                have n2_ := Aside0.mk (Kd.R_drew HO_753001.out)
                have n3_ := Aside0.mk (blk_drew BK752.out)
                have n4_ := Aside0.mk (below_drew1 HB.out)
                clear HO_7
                clear HO_753000
                clear HO_753001
                clear BK752
                clear HB
                have HO_7 := n0_
                have HO_753000 := n1_
                have HO_753001 := n2_
                have BK752 := n3_
                have HB := n4_
                clear n0_ n1_ n2_ n3_ n4_
                have p762 : 0 ≤ (x8_2 : Int) := of_decide_eq_true laws_FnLeastSorts.a2
                have q762 : x8_2 < (t757.length : Int) := of_decide_eq_true laws_FnLeastSorts.a2
                obtain ⟨ad762, e762, hx762_0⟩ := Kd.at_int (Kd.R_reads' HO_7.out).2.2 x8_2 p762 q762
                cases e762
                replace p762 := eq_true p762
                replace q762 := eq_true q762
                refine start_ (n := 7) (S := fun w' => w'.cell? ⟨gb752, 0, none⟩ = some (.slice Ao10 t745.length co10) ∧ w'.cell? ⟨gb752, 1, none⟩ = some (.slice Ao12 t748.length co12) ∧ w'.cell? (ad762.add (x8_2).toNat) = some (.int .i64 (rd t757 x8_2))) (ds := []) #[false, false, false, false, false, false, false] laws_FnLeastSorts.a9 rfl rfl ⟨(blk_cell BK752.out 0).trans rfl, (blk_cell BK752.out 1).trans rfl, hx762_0⟩ (fun hHeld => ?_)
                generalize wr.drew = w59 at HO_7 HO_753000 HO_753001 BK752 HB hx762_0 hHeld ⊢
                refine pureK 1 53 rfl rfl ?_
                refine pureK 2 54 rfl rfl ?_
                refine pureK 3 55 rfl rfl ?_
                refine takeK 0 52 rfl rfl hHeld ?_ laws_FnLeastSorts.a7
                refine takeK 4 56 rfl rfl hHeld ?_ laws_FnLeastSorts.a7
                refine one_ (i := 5) (N := some 57) #[true, true, true, true, true, true, false] rfl rfl laws_FnLeastSorts.a9 (by decide) (fun K hK => ?_)
                refine goes_ Try.func25 laws_FnLeastSorts.a9 rfl #[.agg #[.slice Ao10 t745.length co10, .slice Ao12 t748.length co12], .int .i64 (rd t757 x8_2)] (by rfl) rfl rfl laws_FnLeastSorts.a1 ?_
                with_reducible refine (spec_BelowSort.calls k2 _ _ t745 _ _ t748 (rd t757 x8_2) t763 _ ?side1 ?side2 ?side3 ?side4 A33.out).mono ?_
                (case side1 => repeat (first | exact (Kd.R_reads' HO_753000.out).2.2 | (with_reducible refine Kd.C_alloc ?_ _) | (with_reducible refine Kd.C_drewN ?_ _) | (with_reducible refine Kd.C_drew ?_)))
                (case side2 => exact (Kd.R_reads' HO_753000.out).2.1)
                (case side3 => repeat (first | exact (Kd.R_reads' HO_753001.out).2.2 | (with_reducible refine Kd.C_alloc ?_ _) | (with_reducible refine Kd.C_drewN ?_ _) | (with_reducible refine Kd.C_drew ?_)))
                (case side4 => exact (Kd.R_reads' HO_753001.out).2.1)
                rintro e w60 ⟨rfl, hb⟩
                have HS2_ := (hb.cell (World.block_lt_of_cell? _ _ (hHeld.2.2))).trans (hHeld.2.2)
                refine ⟨_, rfl, ?_⟩
                have n0_ := Aside0.mk (Kd.R_below laws_FnLeastSorts.a6 hb)
                have n1_ := Aside0.mk (Kd.R_below laws_FnLeastSorts.a4 hb)
                have n2_ := Aside0.mk (Kd.R_below laws_FnLeastSorts.a5 hb)
                have n3_ := Aside0.mk (blk_below (g := gb752) (o := .cells #[.slice Ao10 t745.length co10, .slice Ao12 t748.length co12] 30 (0, 0)) laws_FnLeastSorts.a3 hb)
                have n4_ := Aside0.mk (below_step laws_FnLeastSorts.a0 hb)
                clear HO_7
                clear HO_753000
                clear HO_753001
                clear BK752
                clear HB
                have HO_7 := n0_
                have HO_753000 := n1_
                have HO_753001 := n2_
                have BK752 := n3_
                have HB := n4_
                clear n0_ n1_ n2_ n3_ n4_
                (try clear hb)
                (try clear hb2)
                (try clear hk)
                (try clear hi)
                refine hK.out _ _ ⟨(blk_cell BK752.out 0).trans rfl, (blk_cell BK752.out 1).trans rfl, HS2_⟩ (fun hHeld => ?_)
                clear hK K
                refine norm_ (a' := ?_) ?_ ?_
                rotate_left
                ·show Act.put _ (some 57) _ = _
                 simp only [Act.put, List.setIfInBounds_toArray, List.set_cons_zero, List.set_cons_succ, i64_w, i32_w]
                 rfl
                refine pureK 6 9 rfl rfl ?_
                refine done_ laws_FnLeastSorts.a9 ?_
                try go_wp2
                have n0_ := Aside0.mk (Kd.R_drew HO_7.out)
                have n1_ := Aside0.mk (Kd.R_drew HO_753000.out)
                have n2_ := Aside0.mk (Kd.R_drew HO_753001.out)
                have n3_ := Aside0.mk (blk_drew BK752.out)
                have n4_ := Aside0.mk (below_drew1 HB.out)
                clear HO_7
                clear HO_753000
                clear HO_753001
                clear BK752
                clear HB
                have HO_7 := n0_
                have HO_753000 := n1_
                have HO_753001 := n2_
                have BK752 := n3_
                have HB := n4_
                clear n0_ n1_ n2_ n3_ n4_
                have p764 : 0 ≤ (x8_2 : Int) := of_decide_eq_true laws_FnLeastSorts.a2
                have q764 : x8_2 < (t757.length : Int) := of_decide_eq_true laws_FnLeastSorts.a2
                obtain ⟨ad764, e764, hx764_0⟩ := Kd.at_int (Kd.R_reads' HO_7.out).2.2 x8_2 p764 q764
                obtain rfl : ad762 = ad764 := (by injection e764)
                replace p764 := eq_true p764
                replace q764 := eq_true q764
                refine start_ (n := 7) (S := fun w' => w'.cell? ⟨gb752, 0, none⟩ = some (.slice Ao10 t745.length co10) ∧ w'.cell? ⟨gb752, 1, none⟩ = some (.slice Ao12 t748.length co12) ∧ w'.cell? (ad762.add (x8_2).toNat) = some (.int .i64 (rd t757 x8_2))) (ds := []) #[false, false, false, false, false, false, false] laws_FnLeastSorts.a9 rfl rfl ⟨(blk_cell BK752.out 0).trans rfl, (blk_cell BK752.out 1).trans rfl, hx764_0⟩ (fun hHeld => ?_)
                generalize w60.drew = w61 at HO_7 HO_753000 HO_753001 BK752 HB hx764_0 hHeld ⊢
                refine pureK 1 59 rfl rfl ?_
                refine pureK 2 60 rfl rfl ?_
                refine pureK 3 61 rfl rfl ?_
                refine takeK 0 58 rfl rfl hHeld ?_ laws_FnLeastSorts.a7
                refine takeK 4 62 rfl rfl hHeld ?_ laws_FnLeastSorts.a7
                refine one_ (i := 5) (N := some 63) #[true, true, true, true, true, true, false] rfl rfl laws_FnLeastSorts.a9 (by decide) (fun K hK => ?_)
                refine goes_ Try.func24 laws_FnLeastSorts.a9 rfl #[.agg #[.slice Ao10 t745.length co10, .slice Ao12 t748.length co12], .int .i64 (rd t757 x8_2)] (by rfl) rfl rfl laws_FnLeastSorts.a1 ?_
                with_reducible refine (spec_AboveSort.calls k2 _ _ t745 _ _ t748 (rd t757 x8_2) t765 _ ?side1 ?side2 ?side3 ?side4 A34.out).mono ?_
                (case side1 => repeat (first | exact (Kd.R_reads' HO_753000.out).2.2 | (with_reducible refine Kd.C_alloc ?_ _) | (with_reducible refine Kd.C_drewN ?_ _) | (with_reducible refine Kd.C_drew ?_)))
                (case side2 => exact (Kd.R_reads' HO_753000.out).2.1)
                (case side3 => repeat (first | exact (Kd.R_reads' HO_753001.out).2.2 | (with_reducible refine Kd.C_alloc ?_ _) | (with_reducible refine Kd.C_drewN ?_ _) | (with_reducible refine Kd.C_drew ?_)))
                (case side4 => exact (Kd.R_reads' HO_753001.out).2.1)
                rintro e w62 ⟨rfl, hb⟩
                have HS2_ := (hb.cell (World.block_lt_of_cell? _ _ (hHeld.2.2))).trans (hHeld.2.2)
                refine ⟨_, rfl, ?_⟩
                have n0_ := Aside0.mk (Kd.R_below laws_FnLeastSorts.a6 hb)
                have n1_ := Aside0.mk (Kd.R_below laws_FnLeastSorts.a4 hb)
                have n2_ := Aside0.mk (Kd.R_below laws_FnLeastSorts.a5 hb)
                have n3_ := Aside0.mk (blk_below (g := gb752) (o := .cells #[.slice Ao10 t745.length co10, .slice Ao12 t748.length co12] 30 (0, 0)) laws_FnLeastSorts.a3 hb)
                have n4_ := Aside0.mk (below_step laws_FnLeastSorts.a0 hb)
                clear HO_7
                clear HO_753000
                clear HO_753001
                clear BK752
                clear HB
                have HO_7 := n0_
                have HO_753000 := n1_
                have HO_753001 := n2_
                have BK752 := n3_
                have HB := n4_
                clear n0_ n1_ n2_ n3_ n4_
                (try clear hb)
                (try clear hb2)
                (try clear hk)
                (try clear hi)
                refine hK.out _ _ ⟨(blk_cell BK752.out 0).trans rfl, (blk_cell BK752.out 1).trans rfl, HS2_⟩ (fun hHeld => ?_)
                clear hK K
                refine norm_ (a' := ?_) ?_ ?_
                rotate_left
                ·show Act.put _ (some 63) _ = _
                 simp only [Act.put, List.setIfInBounds_toArray, List.set_cons_zero, List.set_cons_succ, i64_w, i32_w]
                 rfl
                refine pureK 6 10 rfl rfl ?_
                refine done_ laws_FnLeastSorts.a9 ?_
                have p766 : 0 ≤ (x8_2 : Int) := of_decide_eq_true laws_FnLeastSorts.a2
                have q766 : x8_2 < (t757.length : Int) := of_decide_eq_true laws_FnLeastSorts.a2
                obtain ⟨ad766, e766, hx766_0⟩ := Kd.at_int (Kd.R_reads' HO_7.out).2.2 x8_2 p766 q766
                obtain rfl : ad762 = ad766 := (by injection e766)
                replace p766 := eq_true p766
                replace q766 := eq_true q766
                try go_wp2_with (first | (go_at_call 22; (with_reducible refine (laws_member.calls t753 (rd t757 x8_2) true _ A47.out).mono ?_); rintro e w' ⟨rfl, ⟨nd, rfl⟩⟩; have p768 : 0 ≤ (x8_2 : Int) := of_decide_eq_true laws_FnLeastSorts.a2; have q768 : x8_2 < (t757.length : Int) := of_decide_eq_true laws_FnLeastSorts.a2; obtain ⟨ad768, e768, hx768_0⟩ := Kd.at_int (Kd.R_reads' HO_7.out).2.2 x8_2 p768 q768; obtain rfl : ad762 = ad768 := (by injection e768); replace p768 := eq_true p768; replace q768 := eq_true q768; have p769 : 0 ≤ (x8_2 : Int) := of_decide_eq_true laws_FnLeastSorts.a2; have q769 : x8_2 < (t757.length : Int) := of_decide_eq_true laws_FnLeastSorts.a2; obtain ⟨ad769, e769, hx769_0⟩ := Kd.at_int (Kd.R_reads' HO_7.out).2.2 x8_2 p769 q769; obtain rfl : ad762 = ad769 := (by injection e769); replace p769 := eq_true p769; replace q769 := eq_true q769) | (go_at_call 22; (with_reducible refine (laws_member.calls t754 (rd t757 x8_2) true _ A53.out).mono ?_); rintro e w' ⟨rfl, ⟨nd, rfl⟩⟩; have p771 : 0 ≤ (x8_2 : Int) := of_decide_eq_true laws_FnLeastSorts.a2; have q771 : x8_2 < (t757.length : Int) := of_decide_eq_true laws_FnLeastSorts.a2; obtain ⟨ad771, e771, hx771_0⟩ := Kd.at_int (Kd.R_reads' HO_7.out).2.2 x8_2 p771 q771; obtain rfl : ad762 = ad771 := (by injection e771); replace p771 := eq_true p771; replace q771 := eq_true q771))
                go_roundg k2
                case measure => have := HJ6.out; have := HK2.out; omega
                case rel => exact ⟨(wrap64 (x8_2 + 1)), laws_FnLeastSorts.a15, H', ⟨by have := HJ6.out; have := HK2.out; omega⟩, ⟨laws_FnLeastSorts.a6⟩, ⟨laws_FnLeastSorts.a4⟩, ⟨laws_FnLeastSorts.a5⟩, ⟨laws_FnLeastSorts.a3⟩, ⟨laws_FnLeastSorts.a0⟩⟩
               ·rw [if_neg c57] at H
                have c57b0 : ((Go.bits .and .i64 t765 t751) == (ji51)) = false := beq_eq_false_iff_ne.mpr c57
                have c57b1 : ((Go.bits .and .i64 t765 t751) != (ji51)) = true := bne_iff_ne.mpr c57
                obtain rfl := Option.some.inj H
                obtain ⟨Ao63, co63, eo63⟩ := Kd.R_slice HO_7.out
                subst eo63
                try go_wp2
                have n0_ := Aside0.mk (Kd.R_drew HO_7.out)
                have n1_ := Aside0.mk (Kd.R_drew HO_753000.out)
                have n2_ := Aside0.mk (Kd.R_drew HO_753001.out)
                have n3_ := Aside0.mk (blk_drew BK752.out)
                have n4_ := Aside0.mk (below_drew1 HB.out)
                clear HO_7
                clear HO_753000
                clear HO_753001
                clear BK752
                clear HB
                have HO_7 := n0_
                have HO_753000 := n1_
                have HO_753001 := n2_
                have BK752 := n3_
                have HB := n4_
                clear n0_ n1_ n2_ n3_ n4_
                have p762 : 0 ≤ (x8_2 : Int) := of_decide_eq_true laws_FnLeastSorts.a2
                have q762 : x8_2 < (t757.length : Int) := of_decide_eq_true laws_FnLeastSorts.a2
                obtain ⟨ad762, e762, hx762_0⟩ := Kd.at_int (Kd.R_reads' HO_7.out).2.2 x8_2 p762 q762
                cases e762
                replace p762 := eq_true p762
                replace q762 := eq_true q762
                refine start_ (n := 7) (S := fun w' => w'.cell? ⟨gb752, 0, none⟩ = some (.slice Ao10 t745.length co10) ∧ w'.cell? ⟨gb752, 1, none⟩ = some (.slice Ao12 t748.length co12) ∧ w'.cell? (ad762.add (x8_2).toNat) = some (.int .i64 (rd t757 x8_2))) (ds := []) #[false, false, false, false, false, false, false] laws_FnLeastSorts.a9 rfl rfl ⟨(blk_cell BK752.out 0).trans rfl, (blk_cell BK752.out 1).trans rfl, hx762_0⟩ (fun hHeld => ?_)
                generalize wr.drew = w64 at HO_7 HO_753000 HO_753001 BK752 HB hx762_0 hHeld ⊢
                refine pureK 1 53 rfl rfl ?_
                refine pureK 2 54 rfl rfl ?_
                refine pureK 3 55 rfl rfl ?_
                refine takeK 0 52 rfl rfl hHeld ?_ laws_FnLeastSorts.a7
                refine takeK 4 56 rfl rfl hHeld ?_ laws_FnLeastSorts.a7
                refine one_ (i := 5) (N := some 57) #[true, true, true, true, true, true, false] rfl rfl laws_FnLeastSorts.a9 (by decide) (fun K hK => ?_)
                refine goes_ Try.func25 laws_FnLeastSorts.a9 rfl #[.agg #[.slice Ao10 t745.length co10, .slice Ao12 t748.length co12], .int .i64 (rd t757 x8_2)] (by rfl) rfl rfl laws_FnLeastSorts.a1 ?_
                with_reducible refine (spec_BelowSort.calls k2 _ _ t745 _ _ t748 (rd t757 x8_2) t763 _ ?side1 ?side2 ?side3 ?side4 A33.out).mono ?_
                (case side1 => repeat (first | exact (Kd.R_reads' HO_753000.out).2.2 | (with_reducible refine Kd.C_alloc ?_ _) | (with_reducible refine Kd.C_drewN ?_ _) | (with_reducible refine Kd.C_drew ?_)))
                (case side2 => exact (Kd.R_reads' HO_753000.out).2.1)
                (case side3 => repeat (first | exact (Kd.R_reads' HO_753001.out).2.2 | (with_reducible refine Kd.C_alloc ?_ _) | (with_reducible refine Kd.C_drewN ?_ _) | (with_reducible refine Kd.C_drew ?_)))
                (case side4 => exact (Kd.R_reads' HO_753001.out).2.1)
                rintro e w65 ⟨rfl, hb⟩
                have HS2_ := (hb.cell (World.block_lt_of_cell? _ _ (hHeld.2.2))).trans (hHeld.2.2)
                refine ⟨_, rfl, ?_⟩
                have n0_ := Aside0.mk (Kd.R_below laws_FnLeastSorts.a6 hb)
                have n1_ := Aside0.mk (Kd.R_below laws_FnLeastSorts.a4 hb)
                have n2_ := Aside0.mk (Kd.R_below laws_FnLeastSorts.a5 hb)
                have n3_ := Aside0.mk (blk_below (g := gb752) (o := .cells #[.slice Ao10 t745.length co10, .slice Ao12 t748.length co12] 30 (0, 0)) laws_FnLeastSorts.a3 hb)
                have n4_ := Aside0.mk (below_step laws_FnLeastSorts.a0 hb)
                clear HO_7
                clear HO_753000
                clear HO_753001
                clear BK752
                clear HB
                have HO_7 := n0_
                have HO_753000 := n1_
                have HO_753001 := n2_
                have BK752 := n3_
                have HB := n4_
                clear n0_ n1_ n2_ n3_ n4_
                (try clear hb)
                (try clear hb2)
                (try clear hk)
                (try clear hi)
                refine hK.out _ _ ⟨(blk_cell BK752.out 0).trans rfl, (blk_cell BK752.out 1).trans rfl, HS2_⟩ (fun hHeld => ?_)
                clear hK K
                refine norm_ (a' := ?_) ?_ ?_
                rotate_left
                ·show Act.put _ (some 57) _ = _
                 simp only [Act.put, List.setIfInBounds_toArray, List.set_cons_zero, List.set_cons_succ, i64_w, i32_w]
                 rfl
                refine pureK 6 9 rfl rfl ?_
                refine done_ laws_FnLeastSorts.a9 ?_
                try go_wp2
                have n0_ := Aside0.mk (Kd.R_drew HO_7.out)
                have n1_ := Aside0.mk (Kd.R_drew HO_753000.out)
                have n2_ := Aside0.mk (Kd.R_drew HO_753001.out)
                have n3_ := Aside0.mk (blk_drew BK752.out)
                have n4_ := Aside0.mk (below_drew1 HB.out)
                clear HO_7
                clear HO_753000
                clear HO_753001
                clear BK752
                clear HB
                have HO_7 := n0_
                have HO_753000 := n1_
                have HO_753001 := n2_
                have BK752 := n3_
                have HB := n4_
                clear n0_ n1_ n2_ n3_ n4_
                have p764 : 0 ≤ (x8_2 : Int) := of_decide_eq_true laws_FnLeastSorts.a2
                have q764 : x8_2 < (t757.length : Int) := of_decide_eq_true laws_FnLeastSorts.a2
                obtain ⟨ad764, e764, hx764_0⟩ := Kd.at_int (Kd.R_reads' HO_7.out).2.2 x8_2 p764 q764
                obtain rfl : ad762 = ad764 := (by injection e764)
                replace p764 := eq_true p764
                replace q764 := eq_true q764
                refine start_ (n := 7) (S := fun w' => w'.cell? ⟨gb752, 0, none⟩ = some (.slice Ao10 t745.length co10) ∧ w'.cell? ⟨gb752, 1, none⟩ = some (.slice Ao12 t748.length co12) ∧ w'.cell? (ad762.add (x8_2).toNat) = some (.int .i64 (rd t757 x8_2))) (ds := []) #[false, false, false, false, false, false, false] laws_FnLeastSorts.a9 rfl rfl ⟨(blk_cell BK752.out 0).trans rfl, (blk_cell BK752.out 1).trans rfl, hx764_0⟩ (fun hHeld => ?_)
                generalize w65.drew = w66 at HO_7 HO_753000 HO_753001 BK752 HB hx764_0 hHeld ⊢
                refine pureK 1 59 rfl rfl ?_
                refine pureK 2 60 rfl rfl ?_
                refine pureK 3 61 rfl rfl ?_
                refine takeK 0 58 rfl rfl hHeld ?_ laws_FnLeastSorts.a7
                refine takeK 4 62 rfl rfl hHeld ?_ laws_FnLeastSorts.a7
                refine one_ (i := 5) (N := some 63) #[true, true, true, true, true, true, false] rfl rfl laws_FnLeastSorts.a9 (by decide) (fun K hK => ?_)
                refine goes_ Try.func24 laws_FnLeastSorts.a9 rfl #[.agg #[.slice Ao10 t745.length co10, .slice Ao12 t748.length co12], .int .i64 (rd t757 x8_2)] (by rfl) rfl rfl laws_FnLeastSorts.a1 ?_
                with_reducible refine (spec_AboveSort.calls k2 _ _ t745 _ _ t748 (rd t757 x8_2) t765 _ ?side1 ?side2 ?side3 ?side4 A34.out).mono ?_
                (case side1 => repeat (first | exact (Kd.R_reads' HO_753000.out).2.2 | (with_reducible refine Kd.C_alloc ?_ _) | (with_reducible refine Kd.C_drewN ?_ _) | (with_reducible refine Kd.C_drew ?_)))
                (case side2 => exact (Kd.R_reads' HO_753000.out).2.1)
                (case side3 => repeat (first | exact (Kd.R_reads' HO_753001.out).2.2 | (with_reducible refine Kd.C_alloc ?_ _) | (with_reducible refine Kd.C_drewN ?_ _) | (with_reducible refine Kd.C_drew ?_)))
                (case side4 => exact (Kd.R_reads' HO_753001.out).2.1)
                rintro e w67 ⟨rfl, hb⟩
                have HS2_ := (hb.cell (World.block_lt_of_cell? _ _ (hHeld.2.2))).trans (hHeld.2.2)
                refine ⟨_, rfl, ?_⟩
                have n0_ := Aside0.mk (Kd.R_below laws_FnLeastSorts.a6 hb)
                have n1_ := Aside0.mk (Kd.R_below laws_FnLeastSorts.a4 hb)
                have n2_ := Aside0.mk (Kd.R_below laws_FnLeastSorts.a5 hb)
                have n3_ := Aside0.mk (blk_below (g := gb752) (o := .cells #[.slice Ao10 t745.length co10, .slice Ao12 t748.length co12] 30 (0, 0)) laws_FnLeastSorts.a3 hb)
                have n4_ := Aside0.mk (below_step laws_FnLeastSorts.a0 hb)
                clear HO_7
                clear HO_753000
                clear HO_753001
                clear BK752
                clear HB
                have HO_7 := n0_
                have HO_753000 := n1_
                have HO_753001 := n2_
                have BK752 := n3_
                have HB := n4_
                clear n0_ n1_ n2_ n3_ n4_
                (try clear hb)
                (try clear hb2)
                (try clear hk)
                (try clear hi)
                refine hK.out _ _ ⟨(blk_cell BK752.out 0).trans rfl, (blk_cell BK752.out 1).trans rfl, HS2_⟩ (fun hHeld => ?_)
                clear hK K
                refine norm_ (a' := ?_) ?_ ?_
                rotate_left
                ·show Act.put _ (some 63) _ = _
                 simp only [Act.put, List.setIfInBounds_toArray, List.set_cons_zero, List.set_cons_succ, i64_w, i32_w]
                 rfl
                refine pureK 6 10 rfl rfl ?_
                refine done_ laws_FnLeastSorts.a9 ?_
                have p766 : 0 ≤ (x8_2 : Int) := of_decide_eq_true laws_FnLeastSorts.a2
                have q766 : x8_2 < (t757.length : Int) := of_decide_eq_true laws_FnLeastSorts.a2
                obtain ⟨ad766, e766, hx766_0⟩ := Kd.at_int (Kd.R_reads' HO_7.out).2.2 x8_2 p766 q766
                obtain rfl : ad762 = ad766 := (by injection e766)
                replace p766 := eq_true p766
                replace q766 := eq_true q766
                try go_wp2_with (first | (go_at_call 22; (with_reducible refine (laws_member.calls t753 (rd t757 x8_2) true _ A47.out).mono ?_); rintro e w' ⟨rfl, ⟨nd, rfl⟩⟩; have p768 : 0 ≤ (x8_2 : Int) := of_decide_eq_true laws_FnLeastSorts.a2; have q768 : x8_2 < (t757.length : Int) := of_decide_eq_true laws_FnLeastSorts.a2; obtain ⟨ad768, e768, hx768_0⟩ := Kd.at_int (Kd.R_reads' HO_7.out).2.2 x8_2 p768 q768; obtain rfl : ad762 = ad768 := (by injection e768); replace p768 := eq_true p768; replace q768 := eq_true q768; have p769 : 0 ≤ (x8_2 : Int) := of_decide_eq_true laws_FnLeastSorts.a2; have q769 : x8_2 < (t757.length : Int) := of_decide_eq_true laws_FnLeastSorts.a2; obtain ⟨ad769, e769, hx769_0⟩ := Kd.at_int (Kd.R_reads' HO_7.out).2.2 x8_2 p769 q769; obtain rfl : ad762 = ad769 := (by injection e769); replace p769 := eq_true p769; replace q769 := eq_true q769) | (go_at_call 22; (with_reducible refine (laws_member.calls t754 (rd t757 x8_2) true _ A53.out).mono ?_); rintro e w' ⟨rfl, ⟨nd, rfl⟩⟩; have p771 : 0 ≤ (x8_2 : Int) := of_decide_eq_true laws_FnLeastSorts.a2; have q771 : x8_2 < (t757.length : Int) := of_decide_eq_true laws_FnLeastSorts.a2; obtain ⟨ad771, e771, hx771_0⟩ := Kd.at_int (Kd.R_reads' HO_7.out).2.2 x8_2 p771 q771; obtain rfl : ad762 = ad771 := (by injection e771); replace p771 := eq_true p771; replace q771 := eq_true q771))
                go_ret
                exact ⟨laws_FnLeastSorts.a16, laws_FnLeastSorts.a0⟩
              ·replace c54 := Bool.eq_false_iff.mpr c54
               subst c54
               have H1 : (laws_FnLeastSorts.l0 k2 t751 t753 t754 t757 (wrap64 (x8_2 + 1)) t745 t748) = some r := by rw [if_neg (show ¬ (false = true) by decide)] at H; exact H
               clear H
               have H := H1
               clear H1
               have H' := Aside0.mk H
               clear H
               obtain ⟨Ao68, co68, eo68⟩ := Kd.R_slice HO_7.out
               subst eo68
               try go_wp2
               have n0_ := Aside0.mk (Kd.R_drew HO_7.out)
               have n1_ := Aside0.mk (Kd.R_drew HO_753000.out)
               have n2_ := Aside0.mk (Kd.R_drew HO_753001.out)
               have n3_ := Aside0.mk (blk_drew BK752.out)
               have n4_ := Aside0.mk (below_drew1 HB.out)
               clear HO_7
               clear HO_753000
               clear HO_753001
               clear BK752
               clear HB
               have HO_7 := n0_
               have HO_753000 := n1_
               have HO_753001 := n2_
               have BK752 := n3_
               have HB := n4_
               clear n0_ n1_ n2_ n3_ n4_
               have p762 : 0 ≤ (x8_2 : Int) := of_decide_eq_true laws_FnLeastSorts.a2
               have q762 : x8_2 < (t757.length : Int) := of_decide_eq_true laws_FnLeastSorts.a2
               obtain ⟨ad762, e762, hx762_0⟩ := Kd.at_int (Kd.R_reads' HO_7.out).2.2 x8_2 p762 q762
               cases e762
               replace p762 := eq_true p762
               replace q762 := eq_true q762
               refine start_ (n := 7) (S := fun w' => w'.cell? ⟨gb752, 0, none⟩ = some (.slice Ao10 t745.length co10) ∧ w'.cell? ⟨gb752, 1, none⟩ = some (.slice Ao12 t748.length co12) ∧ w'.cell? (ad762.add (x8_2).toNat) = some (.int .i64 (rd t757 x8_2))) (ds := []) #[false, false, false, false, false, false, false] laws_FnLeastSorts.a9 rfl rfl ⟨(blk_cell BK752.out 0).trans rfl, (blk_cell BK752.out 1).trans rfl, hx762_0⟩ (fun hHeld => ?_)
               generalize wr.drew = w69 at HO_7 HO_753000 HO_753001 BK752 HB hx762_0 hHeld ⊢
               refine pureK 1 53 rfl rfl ?_
               refine pureK 2 54 rfl rfl ?_
               refine pureK 3 55 rfl rfl ?_
               refine takeK 0 52 rfl rfl hHeld ?_ laws_FnLeastSorts.a7
               refine takeK 4 56 rfl rfl hHeld ?_ laws_FnLeastSorts.a7
               refine one_ (i := 5) (N := some 57) #[true, true, true, true, true, true, false] rfl rfl laws_FnLeastSorts.a9 (by decide) (fun K hK => ?_)
               refine goes_ Try.func25 laws_FnLeastSorts.a9 rfl #[.agg #[.slice Ao10 t745.length co10, .slice Ao12 t748.length co12], .int .i64 (rd t757 x8_2)] (by rfl) rfl rfl laws_FnLeastSorts.a1 ?_
               with_reducible refine (spec_BelowSort.calls k2 _ _ t745 _ _ t748 (rd t757 x8_2) t763 _ ?side1 ?side2 ?side3 ?side4 A33.out).mono ?_
               (case side1 => repeat (first | exact (Kd.R_reads' HO_753000.out).2.2 | (with_reducible refine Kd.C_alloc ?_ _) | (with_reducible refine Kd.C_drewN ?_ _) | (with_reducible refine Kd.C_drew ?_)))
               (case side2 => exact (Kd.R_reads' HO_753000.out).2.1)
               (case side3 => repeat (first | exact (Kd.R_reads' HO_753001.out).2.2 | (with_reducible refine Kd.C_alloc ?_ _) | (with_reducible refine Kd.C_drewN ?_ _) | (with_reducible refine Kd.C_drew ?_)))
               (case side4 => exact (Kd.R_reads' HO_753001.out).2.1)
               rintro e w70 ⟨rfl, hb⟩
               have HS2_ := (hb.cell (World.block_lt_of_cell? _ _ (hHeld.2.2))).trans (hHeld.2.2)
               refine ⟨_, rfl, ?_⟩
               have n0_ := Aside0.mk (Kd.R_below laws_FnLeastSorts.a6 hb)
               have n1_ := Aside0.mk (Kd.R_below laws_FnLeastSorts.a4 hb)
               have n2_ := Aside0.mk (Kd.R_below laws_FnLeastSorts.a5 hb)
               have n3_ := Aside0.mk (blk_below (g := gb752) (o := .cells #[.slice Ao10 t745.length co10, .slice Ao12 t748.length co12] 30 (0, 0)) laws_FnLeastSorts.a3 hb)
               have n4_ := Aside0.mk (below_step laws_FnLeastSorts.a0 hb)
               clear HO_7
               clear HO_753000
               clear HO_753001
               clear BK752
               clear HB
               have HO_7 := n0_
               have HO_753000 := n1_
               have HO_753001 := n2_
               have BK752 := n3_
               have HB := n4_
               clear n0_ n1_ n2_ n3_ n4_
               (try clear hb)
               (try clear hb2)
               (try clear hk)
               (try clear hi)
               refine hK.out _ _ ⟨(blk_cell BK752.out 0).trans rfl, (blk_cell BK752.out 1).trans rfl, HS2_⟩ (fun hHeld => ?_)
               clear hK K
               refine norm_ (a' := ?_) ?_ ?_
               rotate_left
               ·show Act.put _ (some 57) _ = _
                simp only [Act.put, List.setIfInBounds_toArray, List.set_cons_zero, List.set_cons_succ, i64_w, i32_w]
                rfl
               refine pureK 6 9 rfl rfl ?_
               refine done_ laws_FnLeastSorts.a9 ?_
               try go_wp2
               have n0_ := Aside0.mk (Kd.R_drew HO_7.out)
               have n1_ := Aside0.mk (Kd.R_drew HO_753000.out)
               have n2_ := Aside0.mk (Kd.R_drew HO_753001.out)
               have n3_ := Aside0.mk (blk_drew BK752.out)
               have n4_ := Aside0.mk (below_drew1 HB.out)
               clear HO_7
               clear HO_753000
               clear HO_753001
               clear BK752
               clear HB
               have HO_7 := n0_
               have HO_753000 := n1_
               have HO_753001 := n2_
               have BK752 := n3_
               have HB := n4_
               clear n0_ n1_ n2_ n3_ n4_
               have p764 : 0 ≤ (x8_2 : Int) := of_decide_eq_true laws_FnLeastSorts.a2
               have q764 : x8_2 < (t757.length : Int) := of_decide_eq_true laws_FnLeastSorts.a2
               obtain ⟨ad764, e764, hx764_0⟩ := Kd.at_int (Kd.R_reads' HO_7.out).2.2 x8_2 p764 q764
               obtain rfl : ad762 = ad764 := (by injection e764)
               replace p764 := eq_true p764
               replace q764 := eq_true q764
               refine start_ (n := 7) (S := fun w' => w'.cell? ⟨gb752, 0, none⟩ = some (.slice Ao10 t745.length co10) ∧ w'.cell? ⟨gb752, 1, none⟩ = some (.slice Ao12 t748.length co12) ∧ w'.cell? (ad762.add (x8_2).toNat) = some (.int .i64 (rd t757 x8_2))) (ds := []) #[false, false, false, false, false, false, false] laws_FnLeastSorts.a9 rfl rfl ⟨(blk_cell BK752.out 0).trans rfl, (blk_cell BK752.out 1).trans rfl, hx764_0⟩ (fun hHeld => ?_)
               generalize w70.drew = w71 at HO_7 HO_753000 HO_753001 BK752 HB hx764_0 hHeld ⊢
               refine pureK 1 59 rfl rfl ?_
               refine pureK 2 60 rfl rfl ?_
               refine pureK 3 61 rfl rfl ?_
               refine takeK 0 58 rfl rfl hHeld ?_ laws_FnLeastSorts.a7
               refine takeK 4 62 rfl rfl hHeld ?_ laws_FnLeastSorts.a7
               refine one_ (i := 5) (N := some 63) #[true, true, true, true, true, true, false] rfl rfl laws_FnLeastSorts.a9 (by decide) (fun K hK => ?_)
               refine goes_ Try.func24 laws_FnLeastSorts.a9 rfl #[.agg #[.slice Ao10 t745.length co10, .slice Ao12 t748.length co12], .int .i64 (rd t757 x8_2)] (by rfl) rfl rfl laws_FnLeastSorts.a1 ?_
               with_reducible refine (spec_AboveSort.calls k2 _ _ t745 _ _ t748 (rd t757 x8_2) t765 _ ?side1 ?side2 ?side3 ?side4 A34.out).mono ?_
               (case side1 => repeat (first | exact (Kd.R_reads' HO_753000.out).2.2 | (with_reducible refine Kd.C_alloc ?_ _) | (with_reducible refine Kd.C_drewN ?_ _) | (with_reducible refine Kd.C_drew ?_)))
               (case side2 => exact (Kd.R_reads' HO_753000.out).2.1)
               (case side3 => repeat (first | exact (Kd.R_reads' HO_753001.out).2.2 | (with_reducible refine Kd.C_alloc ?_ _) | (with_reducible refine Kd.C_drewN ?_ _) | (with_reducible refine Kd.C_drew ?_)))
               (case side4 => exact (Kd.R_reads' HO_753001.out).2.1)
               rintro e w72 ⟨rfl, hb⟩
               have HS2_ := (hb.cell (World.block_lt_of_cell? _ _ (hHeld.2.2))).trans (hHeld.2.2)
               refine ⟨_, rfl, ?_⟩
               have n0_ := Aside0.mk (Kd.R_below laws_FnLeastSorts.a6 hb)
               have n1_ := Aside0.mk (Kd.R_below laws_FnLeastSorts.a4 hb)
               have n2_ := Aside0.mk (Kd.R_below laws_FnLeastSorts.a5 hb)
               have n3_ := Aside0.mk (blk_below (g := gb752) (o := .cells #[.slice Ao10 t745.length co10, .slice Ao12 t748.length co12] 30 (0, 0)) laws_FnLeastSorts.a3 hb)
               have n4_ := Aside0.mk (below_step laws_FnLeastSorts.a0 hb)
               clear HO_7
               clear HO_753000
               clear HO_753001
               clear BK752
               clear HB
               have HO_7 := n0_
               have HO_753000 := n1_
               have HO_753001 := n2_
               have BK752 := n3_
               have HB := n4_
               clear n0_ n1_ n2_ n3_ n4_
               (try clear hb)
               (try clear hb2)
               (try clear hk)
               (try clear hi)
               refine hK.out _ _ ⟨(blk_cell BK752.out 0).trans rfl, (blk_cell BK752.out 1).trans rfl, HS2_⟩ (fun hHeld => ?_)
               clear hK K
               refine norm_ (a' := ?_) ?_ ?_
               rotate_left
               ·show Act.put _ (some 63) _ = _
                simp only [Act.put, List.setIfInBounds_toArray, List.set_cons_zero, List.set_cons_succ, i64_w, i32_w]
                rfl
               refine pureK 6 10 rfl rfl ?_
               refine done_ laws_FnLeastSorts.a9 ?_
               have p766 : 0 ≤ (x8_2 : Int) := of_decide_eq_true laws_FnLeastSorts.a2
               have q766 : x8_2 < (t757.length : Int) := of_decide_eq_true laws_FnLeastSorts.a2
               obtain ⟨ad766, e766, hx766_0⟩ := Kd.at_int (Kd.R_reads' HO_7.out).2.2 x8_2 p766 q766
               obtain rfl : ad762 = ad766 := (by injection e766)
               replace p766 := eq_true p766
               replace q766 := eq_true q766
               try go_wp2_with (first | (go_at_call 22; (with_reducible refine (laws_member.calls t753 (rd t757 x8_2) true _ A47.out).mono ?_); rintro e w' ⟨rfl, ⟨nd, rfl⟩⟩; have p768 : 0 ≤ (x8_2 : Int) := of_decide_eq_true laws_FnLeastSorts.a2; have q768 : x8_2 < (t757.length : Int) := of_decide_eq_true laws_FnLeastSorts.a2; obtain ⟨ad768, e768, hx768_0⟩ := Kd.at_int (Kd.R_reads' HO_7.out).2.2 x8_2 p768 q768; obtain rfl : ad762 = ad768 := (by injection e768); replace p768 := eq_true p768; replace q768 := eq_true q768; have p769 : 0 ≤ (x8_2 : Int) := of_decide_eq_true laws_FnLeastSorts.a2; have q769 : x8_2 < (t757.length : Int) := of_decide_eq_true laws_FnLeastSorts.a2; obtain ⟨ad769, e769, hx769_0⟩ := Kd.at_int (Kd.R_reads' HO_7.out).2.2 x8_2 p769 q769; obtain rfl : ad762 = ad769 := (by injection e769); replace p769 := eq_true p769; replace q769 := eq_true q769) | (go_at_call 22; (with_reducible refine (laws_member.calls t754 (rd t757 x8_2) false _ A53.out).mono ?_); rintro e w' ⟨rfl, ⟨nd, rfl⟩⟩))
               go_roundg k2
               case measure => have := HJ6.out; have := HK2.out; omega
               case rel => exact ⟨(wrap64 (x8_2 + 1)), laws_FnLeastSorts.a15, H', ⟨by have := HJ6.out; have := HK2.out; omega⟩, ⟨laws_FnLeastSorts.a6⟩, ⟨laws_FnLeastSorts.a4⟩, ⟨laws_FnLeastSorts.a5⟩, ⟨laws_FnLeastSorts.a3⟩, ⟨laws_FnLeastSorts.a0⟩⟩
             ·rw [if_neg c52] at H
              have c52b0 : ((Go.bits .and .i64 t763 t751) == (ji51)) = false := beq_eq_false_iff_ne.mpr c52
              have c52b1 : ((Go.bits .and .i64 t763 t751) != (ji51)) = true := bne_iff_ne.mpr c52
              obtain rfl := Option.some.inj H
              obtain ⟨Ao73, co73, eo73⟩ := Kd.R_slice HO_7.out
              subst eo73
              try go_wp2
              have n0_ := Aside0.mk (Kd.R_drew HO_7.out)
              have n1_ := Aside0.mk (Kd.R_drew HO_753000.out)
              have n2_ := Aside0.mk (Kd.R_drew HO_753001.out)
              have n3_ := Aside0.mk (blk_drew BK752.out)
              have n4_ := Aside0.mk (below_drew1 HB.out)
              clear HO_7
              clear HO_753000
              clear HO_753001
              clear BK752
              clear HB
              have HO_7 := n0_
              have HO_753000 := n1_
              have HO_753001 := n2_
              have BK752 := n3_
              have HB := n4_
              clear n0_ n1_ n2_ n3_ n4_
              have p762 : 0 ≤ (x8_2 : Int) := of_decide_eq_true laws_FnLeastSorts.a2
              have q762 : x8_2 < (t757.length : Int) := of_decide_eq_true laws_FnLeastSorts.a2
              obtain ⟨ad762, e762, hx762_0⟩ := Kd.at_int (Kd.R_reads' HO_7.out).2.2 x8_2 p762 q762
              cases e762
              replace p762 := eq_true p762
              replace q762 := eq_true q762
              refine start_ (n := 7) (S := fun w' => w'.cell? ⟨gb752, 0, none⟩ = some (.slice Ao10 t745.length co10) ∧ w'.cell? ⟨gb752, 1, none⟩ = some (.slice Ao12 t748.length co12) ∧ w'.cell? (ad762.add (x8_2).toNat) = some (.int .i64 (rd t757 x8_2))) (ds := []) #[false, false, false, false, false, false, false] laws_FnLeastSorts.a9 rfl rfl ⟨(blk_cell BK752.out 0).trans rfl, (blk_cell BK752.out 1).trans rfl, hx762_0⟩ (fun hHeld => ?_)
              generalize wr.drew = w74 at HO_7 HO_753000 HO_753001 BK752 HB hx762_0 hHeld ⊢
              refine pureK 1 53 rfl rfl ?_
              refine pureK 2 54 rfl rfl ?_
              refine pureK 3 55 rfl rfl ?_
              refine takeK 0 52 rfl rfl hHeld ?_ laws_FnLeastSorts.a7
              refine takeK 4 56 rfl rfl hHeld ?_ laws_FnLeastSorts.a7
              refine one_ (i := 5) (N := some 57) #[true, true, true, true, true, true, false] rfl rfl laws_FnLeastSorts.a9 (by decide) (fun K hK => ?_)
              refine goes_ Try.func25 laws_FnLeastSorts.a9 rfl #[.agg #[.slice Ao10 t745.length co10, .slice Ao12 t748.length co12], .int .i64 (rd t757 x8_2)] (by rfl) rfl rfl laws_FnLeastSorts.a1 ?_
              with_reducible refine (spec_BelowSort.calls k2 _ _ t745 _ _ t748 (rd t757 x8_2) t763 _ ?side1 ?side2 ?side3 ?side4 A33.out).mono ?_
              (case side1 => repeat (first | exact (Kd.R_reads' HO_753000.out).2.2 | (with_reducible refine Kd.C_alloc ?_ _) | (with_reducible refine Kd.C_drewN ?_ _) | (with_reducible refine Kd.C_drew ?_)))
              (case side2 => exact (Kd.R_reads' HO_753000.out).2.1)
              (case side3 => repeat (first | exact (Kd.R_reads' HO_753001.out).2.2 | (with_reducible refine Kd.C_alloc ?_ _) | (with_reducible refine Kd.C_drewN ?_ _) | (with_reducible refine Kd.C_drew ?_)))
              (case side4 => exact (Kd.R_reads' HO_753001.out).2.1)
              rintro e w75 ⟨rfl, hb⟩
              have HS2_ := (hb.cell (World.block_lt_of_cell? _ _ (hHeld.2.2))).trans (hHeld.2.2)
              refine ⟨_, rfl, ?_⟩
              have n0_ := Aside0.mk (Kd.R_below laws_FnLeastSorts.a6 hb)
              have n1_ := Aside0.mk (Kd.R_below laws_FnLeastSorts.a4 hb)
              have n2_ := Aside0.mk (Kd.R_below laws_FnLeastSorts.a5 hb)
              have n3_ := Aside0.mk (blk_below (g := gb752) (o := .cells #[.slice Ao10 t745.length co10, .slice Ao12 t748.length co12] 30 (0, 0)) laws_FnLeastSorts.a3 hb)
              have n4_ := Aside0.mk (below_step laws_FnLeastSorts.a0 hb)
              clear HO_7
              clear HO_753000
              clear HO_753001
              clear BK752
              clear HB
              have HO_7 := n0_
              have HO_753000 := n1_
              have HO_753001 := n2_
              have BK752 := n3_
              have HB := n4_
              clear n0_ n1_ n2_ n3_ n4_
              (try clear hb)
              (try clear hb2)
              (try clear hk)
              (try clear hi)
              refine hK.out _ _ ⟨(blk_cell BK752.out 0).trans rfl, (blk_cell BK752.out 1).trans rfl, HS2_⟩ (fun hHeld => ?_)
              clear hK K
              refine norm_ (a' := ?_) ?_ ?_
              rotate_left
              ·show Act.put _ (some 57) _ = _
               simp only [Act.put, List.setIfInBounds_toArray, List.set_cons_zero, List.set_cons_succ, i64_w, i32_w]
               rfl
              refine pureK 6 9 rfl rfl ?_
              refine done_ laws_FnLeastSorts.a9 ?_
              try go_wp2
              have n0_ := Aside0.mk (Kd.R_drew HO_7.out)
              have n1_ := Aside0.mk (Kd.R_drew HO_753000.out)
              have n2_ := Aside0.mk (Kd.R_drew HO_753001.out)
              have n3_ := Aside0.mk (blk_drew BK752.out)
              have n4_ := Aside0.mk (below_drew1 HB.out)
              clear HO_7
              clear HO_753000
              clear HO_753001
              clear BK752
              clear HB
              have HO_7 := n0_
              have HO_753000 := n1_
              have HO_753001 := n2_
              have BK752 := n3_
              have HB := n4_
              clear n0_ n1_ n2_ n3_ n4_
              have p764 : 0 ≤ (x8_2 : Int) := of_decide_eq_true laws_FnLeastSorts.a2
              have q764 : x8_2 < (t757.length : Int) := of_decide_eq_true laws_FnLeastSorts.a2
              obtain ⟨ad764, e764, hx764_0⟩ := Kd.at_int (Kd.R_reads' HO_7.out).2.2 x8_2 p764 q764
              obtain rfl : ad762 = ad764 := (by injection e764)
              replace p764 := eq_true p764
              replace q764 := eq_true q764
              refine start_ (n := 7) (S := fun w' => w'.cell? ⟨gb752, 0, none⟩ = some (.slice Ao10 t745.length co10) ∧ w'.cell? ⟨gb752, 1, none⟩ = some (.slice Ao12 t748.length co12) ∧ w'.cell? (ad762.add (x8_2).toNat) = some (.int .i64 (rd t757 x8_2))) (ds := []) #[false, false, false, false, false, false, false] laws_FnLeastSorts.a9 rfl rfl ⟨(blk_cell BK752.out 0).trans rfl, (blk_cell BK752.out 1).trans rfl, hx764_0⟩ (fun hHeld => ?_)
              generalize w75.drew = w76 at HO_7 HO_753000 HO_753001 BK752 HB hx764_0 hHeld ⊢
              refine pureK 1 59 rfl rfl ?_
              refine pureK 2 60 rfl rfl ?_
              refine pureK 3 61 rfl rfl ?_
              refine takeK 0 58 rfl rfl hHeld ?_ laws_FnLeastSorts.a7
              refine takeK 4 62 rfl rfl hHeld ?_ laws_FnLeastSorts.a7
              refine one_ (i := 5) (N := some 63) #[true, true, true, true, true, true, false] rfl rfl laws_FnLeastSorts.a9 (by decide) (fun K hK => ?_)
              refine goes_ Try.func24 laws_FnLeastSorts.a9 rfl #[.agg #[.slice Ao10 t745.length co10, .slice Ao12 t748.length co12], .int .i64 (rd t757 x8_2)] (by rfl) rfl rfl laws_FnLeastSorts.a1 ?_
              with_reducible refine (spec_AboveSort.calls k2 _ _ t745 _ _ t748 (rd t757 x8_2) t765 _ ?side1 ?side2 ?side3 ?side4 A34.out).mono ?_
              (case side1 => repeat (first | exact (Kd.R_reads' HO_753000.out).2.2 | (with_reducible refine Kd.C_alloc ?_ _) | (with_reducible refine Kd.C_drewN ?_ _) | (with_reducible refine Kd.C_drew ?_)))
              (case side2 => exact (Kd.R_reads' HO_753000.out).2.1)
              (case side3 => repeat (first | exact (Kd.R_reads' HO_753001.out).2.2 | (with_reducible refine Kd.C_alloc ?_ _) | (with_reducible refine Kd.C_drewN ?_ _) | (with_reducible refine Kd.C_drew ?_)))
              (case side4 => exact (Kd.R_reads' HO_753001.out).2.1)
              rintro e w77 ⟨rfl, hb⟩
              have HS2_ := (hb.cell (World.block_lt_of_cell? _ _ (hHeld.2.2))).trans (hHeld.2.2)
              refine ⟨_, rfl, ?_⟩
              have n0_ := Aside0.mk (Kd.R_below laws_FnLeastSorts.a6 hb)
              have n1_ := Aside0.mk (Kd.R_below laws_FnLeastSorts.a4 hb)
              have n2_ := Aside0.mk (Kd.R_below laws_FnLeastSorts.a5 hb)
              have n3_ := Aside0.mk (blk_below (g := gb752) (o := .cells #[.slice Ao10 t745.length co10, .slice Ao12 t748.length co12] 30 (0, 0)) laws_FnLeastSorts.a3 hb)
              have n4_ := Aside0.mk (below_step laws_FnLeastSorts.a0 hb)
              clear HO_7
              clear HO_753000
              clear HO_753001
              clear BK752
              clear HB
              have HO_7 := n0_
              have HO_753000 := n1_
              have HO_753001 := n2_
              have BK752 := n3_
              have HB := n4_
              clear n0_ n1_ n2_ n3_ n4_
              (try clear hb)
              (try clear hb2)
              (try clear hk)
              (try clear hi)
              refine hK.out _ _ ⟨(blk_cell BK752.out 0).trans rfl, (blk_cell BK752.out 1).trans rfl, HS2_⟩ (fun hHeld => ?_)
              clear hK K
              refine norm_ (a' := ?_) ?_ ?_
              rotate_left
              ·show Act.put _ (some 63) _ = _
               simp only [Act.put, List.setIfInBounds_toArray, List.set_cons_zero, List.set_cons_succ, i64_w, i32_w]
               rfl
              refine pureK 6 10 rfl rfl ?_
              refine done_ laws_FnLeastSorts.a9 ?_
              have p766 : 0 ≤ (x8_2 : Int) := of_decide_eq_true laws_FnLeastSorts.a2
              have q766 : x8_2 < (t757.length : Int) := of_decide_eq_true laws_FnLeastSorts.a2
              obtain ⟨ad766, e766, hx766_0⟩ := Kd.at_int (Kd.R_reads' HO_7.out).2.2 x8_2 p766 q766
              obtain rfl : ad762 = ad766 := (by injection e766)
              replace p766 := eq_true p766
              replace q766 := eq_true q766
              try go_wp2_with (first | (go_at_call 22; (with_reducible refine (laws_member.calls t753 (rd t757 x8_2) true _ A47.out).mono ?_); rintro e w' ⟨rfl, ⟨nd, rfl⟩⟩; have p768 : 0 ≤ (x8_2 : Int) := of_decide_eq_true laws_FnLeastSorts.a2; have q768 : x8_2 < (t757.length : Int) := of_decide_eq_true laws_FnLeastSorts.a2; obtain ⟨ad768, e768, hx768_0⟩ := Kd.at_int (Kd.R_reads' HO_7.out).2.2 x8_2 p768 q768; obtain rfl : ad762 = ad768 := (by injection e768); replace p768 := eq_true p768; replace q768 := eq_true q768))
              go_ret
              exact ⟨laws_FnLeastSorts.a16, laws_FnLeastSorts.a0⟩
            ·rw [if_neg c50] at H
             exact absurd H (by simp)
           ·replace c48 := Bool.eq_false_iff.mpr c48
            subst c48
            have H1 : ((laws_member.f t754 (rd t757 x8_2)).bind fun t773 => (if t773 = true then (if 0 ≤ (IntKind.u64.wrap (rd t757 x8_2)) then (if (Go.bits .and .i64 t765 t751) = (shl .i64 1 (IntKind.u64.wrap (rd t757 x8_2))) then (laws_FnLeastSorts.l0 k2 t751 t753 t754 t757 (wrap64 (x8_2 + 1)) t745 t748) else (some false)) else (none)) else (laws_FnLeastSorts.l0 k2 t751 t753 t754 t757 (wrap64 (x8_2 + 1)) t745 t748))) = some r := by rw [if_neg (show ¬ (false = true) by decide)] at H; exact H
            clear H
            have H := H1
            clear H1
            replace H := Option.bind_eq_some_iff.mp H
            obtain ⟨t773, A780, H⟩ := H
            replace H : (if t773 = true then (if 0 ≤ (IntKind.u64.wrap (rd t757 x8_2)) then (if (Go.bits .and .i64 t765 t751) = (shl .i64 1 (IntKind.u64.wrap (rd t757 x8_2))) then (laws_FnLeastSorts.l0 k2 t751 t753 t754 t757 (wrap64 (x8_2 + 1)) t745 t748) else (some false)) else (none)) else (laws_FnLeastSorts.l0 k2 t751 t753 t754 t757 (wrap64 (x8_2 + 1)) t745 t748)) = some r := H
            have A78 := Aside0.mk A780
            clear A780
            by_cases c79 : t773 = true
            ·subst c79
             have H1 : (if 0 ≤ (IntKind.u64.wrap (rd t757 x8_2)) then (if (Go.bits .and .i64 t765 t751) = (shl .i64 1 (IntKind.u64.wrap (rd t757 x8_2))) then (laws_FnLeastSorts.l0 k2 t751 t753 t754 t757 (wrap64 (x8_2 + 1)) t745 t748) else (some false)) else (none)) = some r := by rw [if_pos rfl] at H; exact H
             clear H
             have H := H1
             clear H1
             obtain ⟨ji80, hji80⟩ : ∃ j_ : Int, (IntKind.u64.wrap (rd t757 x8_2)) = j_ := ⟨_, rfl⟩
             replace H : (if 0 ≤ (ji80) then (if (Go.bits .and .i64 t765 t751) = (shl .i64 1 (ji80)) then (laws_FnLeastSorts.l0 k2 t751 t753 t754 t757 (wrap64 (x8_2 + 1)) t745 t748) else (some false)) else (none)) = some r := by first | (rw [hji80] at H; exact H) | (simp only [hji80] at H ⊢; exact H)
             (try rw [hji80] at A33)
             (try rw [hji80] at A34)
             (try rw [hji80] at A47)
             (try rw [hji80] at A78)
             by_cases c81 : 0 ≤ (ji80)
             ·rw [if_pos c81] at H
              have c81b0 := eq_true c81
              have c81b1 : decide (0 ≤ (ji80)) = true := decide_eq_true c81
              clear c81
              obtain ⟨ji82, hji82⟩ : ∃ j_ : Int, (shl .i64 1 (ji80)) = j_ := ⟨_, rfl⟩
              replace H : (if (Go.bits .and .i64 t765 t751) = (ji82) then (laws_FnLeastSorts.l0 k2 t751 t753 t754 t757 (wrap64 (x8_2 + 1)) t745 t748) else (some false)) = some r := by first | (rw [hji82] at H; exact H) | (simp only [hji82] at H ⊢; exact H)
              (try rw [hji82] at A33)
              (try rw [hji82] at A34)
              (try rw [hji82] at A47)
              (try rw [hji82] at A78)
              have hji82_ : (IntKind.i64.wrap (1 * 2 ^ min (ji80).toNat 64)) = ji82 := hji82
              have hji82z : (ji80) ≤ 64 → (IntKind.i64.wrap (1 * 2 ^ (ji80).toNat)) = ji82 := shl_small hji82
              have hji82u : (IntKind.i64.wrap (2 ^ min (ji80).toNat 64)) = ji82 := by have h_ := hji82_; rw [Int.one_mul] at h_; exact h_
              have hji82v : (ji80) ≤ 64 → (IntKind.i64.wrap (2 ^ (ji80).toNat)) = ji82 := fun hle_ => by have h_ := hji82z hle_; rw [Int.one_mul] at h_; exact h_
              have hji82y : (wrap64 (1 * 2 ^ min (ji80).toNat 64)) = ji82 := (i64_w _).symm.trans hji82_
              have hji82x : (ji80) ≤ 64 → (wrap64 (1 * 2 ^ (ji80).toNat)) = ji82 := fun h_ => (i64_w _).symm.trans (hji82z h_)
              by_cases c83 : (Go.bits .and .i64 t765 t751) = (ji82)
              ·rw [if_pos c83] at H
               have c83b0 : ((Go.bits .and .i64 t765 t751) == (ji82)) = true := beq_iff_eq.mpr c83
               have c83b1 : ((Go.bits .and .i64 t765 t751) != (ji82)) = false := bne_eq_false_iff_eq.mpr c83
               clear c83
               have H' := Aside0.mk H
               clear H
               obtain ⟨Ao84, co84, eo84⟩ := Kd.R_slice HO_7.out
               subst eo84
               try go_wp2
               have n0_ := Aside0.mk (Kd.R_drew HO_7.out)
               have n1_ := Aside0.mk (Kd.R_drew HO_753000.out)
               have n2_ := Aside0.mk (Kd.R_drew HO_753001.out)
               have n3_ := Aside0.mk (blk_drew BK752.out)
               have n4_ := Aside0.mk (below_drew1 HB.out)
               clear HO_7
               clear HO_753000
               clear HO_753001
               clear BK752
               clear HB
               have HO_7 := n0_
               have HO_753000 := n1_
               have HO_753001 := n2_
               have BK752 := n3_
               have HB := n4_
               clear n0_ n1_ n2_ n3_ n4_
               have p762 : 0 ≤ (x8_2 : Int) := of_decide_eq_true laws_FnLeastSorts.a2
               have q762 : x8_2 < (t757.length : Int) := of_decide_eq_true laws_FnLeastSorts.a2
               obtain ⟨ad762, e762, hx762_0⟩ := Kd.at_int (Kd.R_reads' HO_7.out).2.2 x8_2 p762 q762
               cases e762
               replace p762 := eq_true p762
               replace q762 := eq_true q762
               refine start_ (n := 7) (S := fun w' => w'.cell? ⟨gb752, 0, none⟩ = some (.slice Ao10 t745.length co10) ∧ w'.cell? ⟨gb752, 1, none⟩ = some (.slice Ao12 t748.length co12) ∧ w'.cell? (ad762.add (x8_2).toNat) = some (.int .i64 (rd t757 x8_2))) (ds := []) #[false, false, false, false, false, false, false] laws_FnLeastSorts.a9 rfl rfl ⟨(blk_cell BK752.out 0).trans rfl, (blk_cell BK752.out 1).trans rfl, hx762_0⟩ (fun hHeld => ?_)
               generalize wr.drew = w85 at HO_7 HO_753000 HO_753001 BK752 HB hx762_0 hHeld ⊢
               refine pureK 1 53 rfl rfl ?_
               refine pureK 2 54 rfl rfl ?_
               refine pureK 3 55 rfl rfl ?_
               refine takeK 0 52 rfl rfl hHeld ?_ laws_FnLeastSorts.a7
               refine takeK 4 56 rfl rfl hHeld ?_ laws_FnLeastSorts.a7
               refine one_ (i := 5) (N := some 57) #[true, true, true, true, true, true, false] rfl rfl laws_FnLeastSorts.a9 (by decide) (fun K hK => ?_)
               refine goes_ Try.func25 laws_FnLeastSorts.a9 rfl #[.agg #[.slice Ao10 t745.length co10, .slice Ao12 t748.length co12], .int .i64 (rd t757 x8_2)] (by rfl) rfl rfl laws_FnLeastSorts.a1 ?_
               with_reducible refine (spec_BelowSort.calls k2 _ _ t745 _ _ t748 (rd t757 x8_2) t763 _ ?side1 ?side2 ?side3 ?side4 A33.out).mono ?_
               (case side1 => repeat (first | exact (Kd.R_reads' HO_753000.out).2.2 | (with_reducible refine Kd.C_alloc ?_ _) | (with_reducible refine Kd.C_drewN ?_ _) | (with_reducible refine Kd.C_drew ?_)))
               (case side2 => exact (Kd.R_reads' HO_753000.out).2.1)
               (case side3 => repeat (first | exact (Kd.R_reads' HO_753001.out).2.2 | (with_reducible refine Kd.C_alloc ?_ _) | (with_reducible refine Kd.C_drewN ?_ _) | (with_reducible refine Kd.C_drew ?_)))
               (case side4 => exact (Kd.R_reads' HO_753001.out).2.1)
               rintro e w86 ⟨rfl, hb⟩
               have HS2_ := (hb.cell (World.block_lt_of_cell? _ _ (hHeld.2.2))).trans (hHeld.2.2)
               refine ⟨_, rfl, ?_⟩
               have n0_ := Aside0.mk (Kd.R_below laws_FnLeastSorts.a6 hb)
               have n1_ := Aside0.mk (Kd.R_below laws_FnLeastSorts.a4 hb)
               have n2_ := Aside0.mk (Kd.R_below laws_FnLeastSorts.a5 hb)
               have n3_ := Aside0.mk (blk_below (g := gb752) (o := .cells #[.slice Ao10 t745.length co10, .slice Ao12 t748.length co12] 30 (0, 0)) laws_FnLeastSorts.a3 hb)
               have n4_ := Aside0.mk (below_step laws_FnLeastSorts.a0 hb)
               clear HO_7
               clear HO_753000
               clear HO_753001
               clear BK752
               clear HB
               have HO_7 := n0_
               have HO_753000 := n1_
               have HO_753001 := n2_
               have BK752 := n3_
               have HB := n4_
               clear n0_ n1_ n2_ n3_ n4_
               (try clear hb)
               (try clear hb2)
               (try clear hk)
               (try clear hi)
               refine hK.out _ _ ⟨(blk_cell BK752.out 0).trans rfl, (blk_cell BK752.out 1).trans rfl, HS2_⟩ (fun hHeld => ?_)
               clear hK K
               refine norm_ (a' := ?_) ?_ ?_
               rotate_left
               ·show Act.put _ (some 57) _ = _
                simp only [Act.put, List.setIfInBounds_toArray, List.set_cons_zero, List.set_cons_succ, i64_w, i32_w]
                rfl
               refine pureK 6 9 rfl rfl ?_
               refine done_ laws_FnLeastSorts.a9 ?_
               try go_wp2
               have n0_ := Aside0.mk (Kd.R_drew HO_7.out)
               have n1_ := Aside0.mk (Kd.R_drew HO_753000.out)
               have n2_ := Aside0.mk (Kd.R_drew HO_753001.out)
               have n3_ := Aside0.mk (blk_drew BK752.out)
               have n4_ := Aside0.mk (below_drew1 HB.out)
               clear HO_7
               clear HO_753000
               clear HO_753001
               clear BK752
               clear HB
               have HO_7 := n0_
               have HO_753000 := n1_
               have HO_753001 := n2_
               have BK752 := n3_
               have HB := n4_
               clear n0_ n1_ n2_ n3_ n4_
               have p764 : 0 ≤ (x8_2 : Int) := of_decide_eq_true laws_FnLeastSorts.a2
               have q764 : x8_2 < (t757.length : Int) := of_decide_eq_true laws_FnLeastSorts.a2
               obtain ⟨ad764, e764, hx764_0⟩ := Kd.at_int (Kd.R_reads' HO_7.out).2.2 x8_2 p764 q764
               obtain rfl : ad762 = ad764 := (by injection e764)
               replace p764 := eq_true p764
               replace q764 := eq_true q764
               refine start_ (n := 7) (S := fun w' => w'.cell? ⟨gb752, 0, none⟩ = some (.slice Ao10 t745.length co10) ∧ w'.cell? ⟨gb752, 1, none⟩ = some (.slice Ao12 t748.length co12) ∧ w'.cell? (ad762.add (x8_2).toNat) = some (.int .i64 (rd t757 x8_2))) (ds := []) #[false, false, false, false, false, false, false] laws_FnLeastSorts.a9 rfl rfl ⟨(blk_cell BK752.out 0).trans rfl, (blk_cell BK752.out 1).trans rfl, hx764_0⟩ (fun hHeld => ?_)
               generalize w86.drew = w87 at HO_7 HO_753000 HO_753001 BK752 HB hx764_0 hHeld ⊢
               refine pureK 1 59 rfl rfl ?_
               refine pureK 2 60 rfl rfl ?_
               refine pureK 3 61 rfl rfl ?_
               refine takeK 0 58 rfl rfl hHeld ?_ laws_FnLeastSorts.a7
               refine takeK 4 62 rfl rfl hHeld ?_ laws_FnLeastSorts.a7
               refine one_ (i := 5) (N := some 63) #[true, true, true, true, true, true, false] rfl rfl laws_FnLeastSorts.a9 (by decide) (fun K hK => ?_)
               refine goes_ Try.func24 laws_FnLeastSorts.a9 rfl #[.agg #[.slice Ao10 t745.length co10, .slice Ao12 t748.length co12], .int .i64 (rd t757 x8_2)] (by rfl) rfl rfl laws_FnLeastSorts.a1 ?_
               with_reducible refine (spec_AboveSort.calls k2 _ _ t745 _ _ t748 (rd t757 x8_2) t765 _ ?side1 ?side2 ?side3 ?side4 A34.out).mono ?_
               (case side1 => repeat (first | exact (Kd.R_reads' HO_753000.out).2.2 | (with_reducible refine Kd.C_alloc ?_ _) | (with_reducible refine Kd.C_drewN ?_ _) | (with_reducible refine Kd.C_drew ?_)))
               (case side2 => exact (Kd.R_reads' HO_753000.out).2.1)
               (case side3 => repeat (first | exact (Kd.R_reads' HO_753001.out).2.2 | (with_reducible refine Kd.C_alloc ?_ _) | (with_reducible refine Kd.C_drewN ?_ _) | (with_reducible refine Kd.C_drew ?_)))
               (case side4 => exact (Kd.R_reads' HO_753001.out).2.1)
               rintro e w88 ⟨rfl, hb⟩
               have HS2_ := (hb.cell (World.block_lt_of_cell? _ _ (hHeld.2.2))).trans (hHeld.2.2)
               refine ⟨_, rfl, ?_⟩
               have n0_ := Aside0.mk (Kd.R_below laws_FnLeastSorts.a6 hb)
               have n1_ := Aside0.mk (Kd.R_below laws_FnLeastSorts.a4 hb)
               have n2_ := Aside0.mk (Kd.R_below laws_FnLeastSorts.a5 hb)
               have n3_ := Aside0.mk (blk_below (g := gb752) (o := .cells #[.slice Ao10 t745.length co10, .slice Ao12 t748.length co12] 30 (0, 0)) laws_FnLeastSorts.a3 hb)
               have n4_ := Aside0.mk (below_step laws_FnLeastSorts.a0 hb)
               clear HO_7
               clear HO_753000
               clear HO_753001
               clear BK752
               clear HB
               have HO_7 := n0_
               have HO_753000 := n1_
               have HO_753001 := n2_
               have BK752 := n3_
               have HB := n4_
               clear n0_ n1_ n2_ n3_ n4_
               (try clear hb)
               (try clear hb2)
               (try clear hk)
               (try clear hi)
               refine hK.out _ _ ⟨(blk_cell BK752.out 0).trans rfl, (blk_cell BK752.out 1).trans rfl, HS2_⟩ (fun hHeld => ?_)
               clear hK K
               refine norm_ (a' := ?_) ?_ ?_
               rotate_left
               ·show Act.put _ (some 63) _ = _
                simp only [Act.put, List.setIfInBounds_toArray, List.set_cons_zero, List.set_cons_succ, i64_w, i32_w]
                rfl
               refine pureK 6 10 rfl rfl ?_
               refine done_ laws_FnLeastSorts.a9 ?_
               have p766 : 0 ≤ (x8_2 : Int) := of_decide_eq_true laws_FnLeastSorts.a2
               have q766 : x8_2 < (t757.length : Int) := of_decide_eq_true laws_FnLeastSorts.a2
               obtain ⟨ad766, e766, hx766_0⟩ := Kd.at_int (Kd.R_reads' HO_7.out).2.2 x8_2 p766 q766
               obtain rfl : ad762 = ad766 := (by injection e766)
               replace p766 := eq_true p766
               replace q766 := eq_true q766
               try go_wp2_with (first | (go_at_call 22; (with_reducible refine (laws_member.calls t753 (rd t757 x8_2) false _ A47.out).mono ?_); rintro e w' ⟨rfl, ⟨nd, rfl⟩⟩; have p772 : 0 ≤ (x8_2 : Int) := of_decide_eq_true laws_FnLeastSorts.a2; have q772 : x8_2 < (t757.length : Int) := of_decide_eq_true laws_FnLeastSorts.a2; obtain ⟨ad772, e772, hx772_0⟩ := Kd.at_int (Kd.R_reads' HO_7.out).2.2 x8_2 p772 q772; obtain rfl : ad762 = ad772 := (by injection e772); replace p772 := eq_true p772; replace q772 := eq_true q772) | (go_at_call 22; (with_reducible refine (laws_member.calls t754 (rd t757 x8_2) true _ A78.out).mono ?_); rintro e w' ⟨rfl, ⟨nd, rfl⟩⟩; have p774 : 0 ≤ (x8_2 : Int) := of_decide_eq_true laws_FnLeastSorts.a2; have q774 : x8_2 < (t757.length : Int) := of_decide_eq_true laws_FnLeastSorts.a2; obtain ⟨ad774, e774, hx774_0⟩ := Kd.at_int (Kd.R_reads' HO_7.out).2.2 x8_2 p774 q774; obtain rfl : ad762 = ad774 := (by injection e774); replace p774 := eq_true p774; replace q774 := eq_true q774))
               go_roundg k2
               case measure => have := HJ6.out; have := HK2.out; omega
               case rel => exact ⟨(wrap64 (x8_2 + 1)), laws_FnLeastSorts.a15, H', ⟨by have := HJ6.out; have := HK2.out; omega⟩, ⟨laws_FnLeastSorts.a6⟩, ⟨laws_FnLeastSorts.a4⟩, ⟨laws_FnLeastSorts.a5⟩, ⟨laws_FnLeastSorts.a3⟩, ⟨laws_FnLeastSorts.a0⟩⟩
              ·rw [if_neg c83] at H
               have c83b0 : ((Go.bits .and .i64 t765 t751) == (ji82)) = false := beq_eq_false_iff_ne.mpr c83
               have c83b1 : ((Go.bits .and .i64 t765 t751) != (ji82)) = true := bne_iff_ne.mpr c83
               obtain rfl := Option.some.inj H
               obtain ⟨Ao89, co89, eo89⟩ := Kd.R_slice HO_7.out
               subst eo89
               try go_wp2
               have n0_ := Aside0.mk (Kd.R_drew HO_7.out)
               have n1_ := Aside0.mk (Kd.R_drew HO_753000.out)
               have n2_ := Aside0.mk (Kd.R_drew HO_753001.out)
               have n3_ := Aside0.mk (blk_drew BK752.out)
               have n4_ := Aside0.mk (below_drew1 HB.out)
               clear HO_7
               clear HO_753000
               clear HO_753001
               clear BK752
               clear HB
               have HO_7 := n0_
               have HO_753000 := n1_
               have HO_753001 := n2_
               have BK752 := n3_
               have HB := n4_
               clear n0_ n1_ n2_ n3_ n4_
               have p762 : 0 ≤ (x8_2 : Int) := of_decide_eq_true laws_FnLeastSorts.a2
               have q762 : x8_2 < (t757.length : Int) := of_decide_eq_true laws_FnLeastSorts.a2
               obtain ⟨ad762, e762, hx762_0⟩ := Kd.at_int (Kd.R_reads' HO_7.out).2.2 x8_2 p762 q762
               cases e762
               replace p762 := eq_true p762
               replace q762 := eq_true q762
               refine start_ (n := 7) (S := fun w' => w'.cell? ⟨gb752, 0, none⟩ = some (.slice Ao10 t745.length co10) ∧ w'.cell? ⟨gb752, 1, none⟩ = some (.slice Ao12 t748.length co12) ∧ w'.cell? (ad762.add (x8_2).toNat) = some (.int .i64 (rd t757 x8_2))) (ds := []) #[false, false, false, false, false, false, false] laws_FnLeastSorts.a9 rfl rfl ⟨(blk_cell BK752.out 0).trans rfl, (blk_cell BK752.out 1).trans rfl, hx762_0⟩ (fun hHeld => ?_)
               generalize wr.drew = w90 at HO_7 HO_753000 HO_753001 BK752 HB hx762_0 hHeld ⊢
               refine pureK 1 53 rfl rfl ?_
               refine pureK 2 54 rfl rfl ?_
               refine pureK 3 55 rfl rfl ?_
               refine takeK 0 52 rfl rfl hHeld ?_ laws_FnLeastSorts.a7
               refine takeK 4 56 rfl rfl hHeld ?_ laws_FnLeastSorts.a7
               refine one_ (i := 5) (N := some 57) #[true, true, true, true, true, true, false] rfl rfl laws_FnLeastSorts.a9 (by decide) (fun K hK => ?_)
               refine goes_ Try.func25 laws_FnLeastSorts.a9 rfl #[.agg #[.slice Ao10 t745.length co10, .slice Ao12 t748.length co12], .int .i64 (rd t757 x8_2)] (by rfl) rfl rfl laws_FnLeastSorts.a1 ?_
               with_reducible refine (spec_BelowSort.calls k2 _ _ t745 _ _ t748 (rd t757 x8_2) t763 _ ?side1 ?side2 ?side3 ?side4 A33.out).mono ?_
               (case side1 => repeat (first | exact (Kd.R_reads' HO_753000.out).2.2 | (with_reducible refine Kd.C_alloc ?_ _) | (with_reducible refine Kd.C_drewN ?_ _) | (with_reducible refine Kd.C_drew ?_)))
               (case side2 => exact (Kd.R_reads' HO_753000.out).2.1)
               (case side3 => repeat (first | exact (Kd.R_reads' HO_753001.out).2.2 | (with_reducible refine Kd.C_alloc ?_ _) | (with_reducible refine Kd.C_drewN ?_ _) | (with_reducible refine Kd.C_drew ?_)))
               (case side4 => exact (Kd.R_reads' HO_753001.out).2.1)
               rintro e w91 ⟨rfl, hb⟩
               have HS2_ := (hb.cell (World.block_lt_of_cell? _ _ (hHeld.2.2))).trans (hHeld.2.2)
               refine ⟨_, rfl, ?_⟩
               have n0_ := Aside0.mk (Kd.R_below laws_FnLeastSorts.a6 hb)
               have n1_ := Aside0.mk (Kd.R_below laws_FnLeastSorts.a4 hb)
               have n2_ := Aside0.mk (Kd.R_below laws_FnLeastSorts.a5 hb)
               have n3_ := Aside0.mk (blk_below (g := gb752) (o := .cells #[.slice Ao10 t745.length co10, .slice Ao12 t748.length co12] 30 (0, 0)) laws_FnLeastSorts.a3 hb)
               have n4_ := Aside0.mk (below_step laws_FnLeastSorts.a0 hb)
               clear HO_7
               clear HO_753000
               clear HO_753001
               clear BK752
               clear HB
               have HO_7 := n0_
               have HO_753000 := n1_
               have HO_753001 := n2_
               have BK752 := n3_
               have HB := n4_
               clear n0_ n1_ n2_ n3_ n4_
               (try clear hb)
               (try clear hb2)
               (try clear hk)
               (try clear hi)
               refine hK.out _ _ ⟨(blk_cell BK752.out 0).trans rfl, (blk_cell BK752.out 1).trans rfl, HS2_⟩ (fun hHeld => ?_)
               clear hK K
               refine norm_ (a' := ?_) ?_ ?_
               rotate_left
               ·show Act.put _ (some 57) _ = _
                simp only [Act.put, List.setIfInBounds_toArray, List.set_cons_zero, List.set_cons_succ, i64_w, i32_w]
                rfl
               refine pureK 6 9 rfl rfl ?_
               refine done_ laws_FnLeastSorts.a9 ?_
               try go_wp2
               have n0_ := Aside0.mk (Kd.R_drew HO_7.out)
               have n1_ := Aside0.mk (Kd.R_drew HO_753000.out)
               have n2_ := Aside0.mk (Kd.R_drew HO_753001.out)
               have n3_ := Aside0.mk (blk_drew BK752.out)
               have n4_ := Aside0.mk (below_drew1 HB.out)
               clear HO_7
               clear HO_753000
               clear HO_753001
               clear BK752
               clear HB
               have HO_7 := n0_
               have HO_753000 := n1_
               have HO_753001 := n2_
               have BK752 := n3_
               have HB := n4_
               clear n0_ n1_ n2_ n3_ n4_
               have p764 : 0 ≤ (x8_2 : Int) := of_decide_eq_true laws_FnLeastSorts.a2
               have q764 : x8_2 < (t757.length : Int) := of_decide_eq_true laws_FnLeastSorts.a2
               obtain ⟨ad764, e764, hx764_0⟩ := Kd.at_int (Kd.R_reads' HO_7.out).2.2 x8_2 p764 q764
               obtain rfl : ad762 = ad764 := (by injection e764)
               replace p764 := eq_true p764
               replace q764 := eq_true q764
               refine start_ (n := 7) (S := fun w' => w'.cell? ⟨gb752, 0, none⟩ = some (.slice Ao10 t745.length co10) ∧ w'.cell? ⟨gb752, 1, none⟩ = some (.slice Ao12 t748.length co12) ∧ w'.cell? (ad762.add (x8_2).toNat) = some (.int .i64 (rd t757 x8_2))) (ds := []) #[false, false, false, false, false, false, false] laws_FnLeastSorts.a9 rfl rfl ⟨(blk_cell BK752.out 0).trans rfl, (blk_cell BK752.out 1).trans rfl, hx764_0⟩ (fun hHeld => ?_)
               generalize w91.drew = w92 at HO_7 HO_753000 HO_753001 BK752 HB hx764_0 hHeld ⊢
               refine pureK 1 59 rfl rfl ?_
               refine pureK 2 60 rfl rfl ?_
               refine pureK 3 61 rfl rfl ?_
               refine takeK 0 58 rfl rfl hHeld ?_ laws_FnLeastSorts.a7
               refine takeK 4 62 rfl rfl hHeld ?_ laws_FnLeastSorts.a7
               refine one_ (i := 5) (N := some 63) #[true, true, true, true, true, true, false] rfl rfl laws_FnLeastSorts.a9 (by decide) (fun K hK => ?_)
               refine goes_ Try.func24 laws_FnLeastSorts.a9 rfl #[.agg #[.slice Ao10 t745.length co10, .slice Ao12 t748.length co12], .int .i64 (rd t757 x8_2)] (by rfl) rfl rfl laws_FnLeastSorts.a1 ?_
               with_reducible refine (spec_AboveSort.calls k2 _ _ t745 _ _ t748 (rd t757 x8_2) t765 _ ?side1 ?side2 ?side3 ?side4 A34.out).mono ?_
               (case side1 => repeat (first | exact (Kd.R_reads' HO_753000.out).2.2 | (with_reducible refine Kd.C_alloc ?_ _) | (with_reducible refine Kd.C_drewN ?_ _) | (with_reducible refine Kd.C_drew ?_)))
               (case side2 => exact (Kd.R_reads' HO_753000.out).2.1)
               (case side3 => repeat (first | exact (Kd.R_reads' HO_753001.out).2.2 | (with_reducible refine Kd.C_alloc ?_ _) | (with_reducible refine Kd.C_drewN ?_ _) | (with_reducible refine Kd.C_drew ?_)))
               (case side4 => exact (Kd.R_reads' HO_753001.out).2.1)
               rintro e w93 ⟨rfl, hb⟩
               have HS2_ := (hb.cell (World.block_lt_of_cell? _ _ (hHeld.2.2))).trans (hHeld.2.2)
               refine ⟨_, rfl, ?_⟩
               have n0_ := Aside0.mk (Kd.R_below laws_FnLeastSorts.a6 hb)
               have n1_ := Aside0.mk (Kd.R_below laws_FnLeastSorts.a4 hb)
               have n2_ := Aside0.mk (Kd.R_below laws_FnLeastSorts.a5 hb)
               have n3_ := Aside0.mk (blk_below (g := gb752) (o := .cells #[.slice Ao10 t745.length co10, .slice Ao12 t748.length co12] 30 (0, 0)) laws_FnLeastSorts.a3 hb)
               have n4_ := Aside0.mk (below_step laws_FnLeastSorts.a0 hb)
               clear HO_7
               clear HO_753000
               clear HO_753001
               clear BK752
               clear HB
               have HO_7 := n0_
               have HO_753000 := n1_
               have HO_753001 := n2_
               have BK752 := n3_
               have HB := n4_
               clear n0_ n1_ n2_ n3_ n4_
               (try clear hb)
               (try clear hb2)
               (try clear hk)
               (try clear hi)
               refine hK.out _ _ ⟨(blk_cell BK752.out 0).trans rfl, (blk_cell BK752.out 1).trans rfl, HS2_⟩ (fun hHeld => ?_)
               clear hK K
               refine norm_ (a' := ?_) ?_ ?_
               rotate_left
               ·show Act.put _ (some 63) _ = _
                simp only [Act.put, List.setIfInBounds_toArray, List.set_cons_zero, List.set_cons_succ, i64_w, i32_w]
                rfl
               refine pureK 6 10 rfl rfl ?_
               refine done_ laws_FnLeastSorts.a9 ?_
               have p766 : 0 ≤ (x8_2 : Int) := of_decide_eq_true laws_FnLeastSorts.a2
               have q766 : x8_2 < (t757.length : Int) := of_decide_eq_true laws_FnLeastSorts.a2
               obtain ⟨ad766, e766, hx766_0⟩ := Kd.at_int (Kd.R_reads' HO_7.out).2.2 x8_2 p766 q766
               obtain rfl : ad762 = ad766 := (by injection e766)
               replace p766 := eq_true p766
               replace q766 := eq_true q766
               try go_wp2_with (first | (go_at_call 22; (with_reducible refine (laws_member.calls t753 (rd t757 x8_2) false _ A47.out).mono ?_); rintro e w' ⟨rfl, ⟨nd, rfl⟩⟩; have p772 : 0 ≤ (x8_2 : Int) := of_decide_eq_true laws_FnLeastSorts.a2; have q772 : x8_2 < (t757.length : Int) := of_decide_eq_true laws_FnLeastSorts.a2; obtain ⟨ad772, e772, hx772_0⟩ := Kd.at_int (Kd.R_reads' HO_7.out).2.2 x8_2 p772 q772; obtain rfl : ad762 = ad772 := (by injection e772); replace p772 := eq_true p772; replace q772 := eq_true q772) | (go_at_call 22; (with_reducible refine (laws_member.calls t754 (rd t757 x8_2) true _ A78.out).mono ?_); rintro e w' ⟨rfl, ⟨nd, rfl⟩⟩; have p774 : 0 ≤ (x8_2 : Int) := of_decide_eq_true laws_FnLeastSorts.a2; have q774 : x8_2 < (t757.length : Int) := of_decide_eq_true laws_FnLeastSorts.a2; obtain ⟨ad774, e774, hx774_0⟩ := Kd.at_int (Kd.R_reads' HO_7.out).2.2 x8_2 p774 q774; obtain rfl : ad762 = ad774 := (by injection e774); replace p774 := eq_true p774; replace q774 := eq_true q774))
               go_ret
               exact ⟨by first | rfl | (simp [errW_none, errW_some] <;> rfl) | (simp only [← hji80, ← hji82]; first | rfl | (simp [errW_none, errW_some] <;> rfl)) | (simp [*, errW_none, errW_some] <;> rfl), laws_FnLeastSorts.a0⟩
             ·rw [if_neg c81] at H
              exact absurd H (by simp)
            ·replace c79 := Bool.eq_false_iff.mpr c79
             subst c79
             have H1 : (laws_FnLeastSorts.l0 k2 t751 t753 t754 t757 (wrap64 (x8_2 + 1)) t745 t748) = some r := by rw [if_neg (show ¬ (false = true) by decide)] at H; exact H
             clear H
             have H := H1
             clear H1
             have H' := Aside0.mk H
             clear H
             obtain ⟨Ao94, co94, eo94⟩ := Kd.R_slice HO_7.out
             subst eo94
             try go_wp2
             have n0_ := Aside0.mk (Kd.R_drew HO_7.out)
             have n1_ := Aside0.mk (Kd.R_drew HO_753000.out)
             have n2_ := Aside0.mk (Kd.R_drew HO_753001.out)
             have n3_ := Aside0.mk (blk_drew BK752.out)
             have n4_ := Aside0.mk (below_drew1 HB.out)
             clear HO_7
             clear HO_753000
             clear HO_753001
             clear BK752
             clear HB
             have HO_7 := n0_
             have HO_753000 := n1_
             have HO_753001 := n2_
             have BK752 := n3_
             have HB := n4_
             clear n0_ n1_ n2_ n3_ n4_
             have p762 : 0 ≤ (x8_2 : Int) := of_decide_eq_true laws_FnLeastSorts.a2
             have q762 : x8_2 < (t757.length : Int) := of_decide_eq_true laws_FnLeastSorts.a2
             obtain ⟨ad762, e762, hx762_0⟩ := Kd.at_int (Kd.R_reads' HO_7.out).2.2 x8_2 p762 q762
             cases e762
             replace p762 := eq_true p762
             replace q762 := eq_true q762
             refine start_ (n := 7) (S := fun w' => w'.cell? ⟨gb752, 0, none⟩ = some (.slice Ao10 t745.length co10) ∧ w'.cell? ⟨gb752, 1, none⟩ = some (.slice Ao12 t748.length co12) ∧ w'.cell? (ad762.add (x8_2).toNat) = some (.int .i64 (rd t757 x8_2))) (ds := []) #[false, false, false, false, false, false, false] laws_FnLeastSorts.a9 rfl rfl ⟨(blk_cell BK752.out 0).trans rfl, (blk_cell BK752.out 1).trans rfl, hx762_0⟩ (fun hHeld => ?_)
             generalize wr.drew = w95 at HO_7 HO_753000 HO_753001 BK752 HB hx762_0 hHeld ⊢
             refine pureK 1 53 rfl rfl ?_
             refine pureK 2 54 rfl rfl ?_
             refine pureK 3 55 rfl rfl ?_
             refine takeK 0 52 rfl rfl hHeld ?_ laws_FnLeastSorts.a7
             refine takeK 4 56 rfl rfl hHeld ?_ laws_FnLeastSorts.a7
             refine one_ (i := 5) (N := some 57) #[true, true, true, true, true, true, false] rfl rfl laws_FnLeastSorts.a9 (by decide) (fun K hK => ?_)
             refine goes_ Try.func25 laws_FnLeastSorts.a9 rfl #[.agg #[.slice Ao10 t745.length co10, .slice Ao12 t748.length co12], .int .i64 (rd t757 x8_2)] (by rfl) rfl rfl laws_FnLeastSorts.a1 ?_
             with_reducible refine (spec_BelowSort.calls k2 _ _ t745 _ _ t748 (rd t757 x8_2) t763 _ ?side1 ?side2 ?side3 ?side4 A33.out).mono ?_
             (case side1 => repeat (first | exact (Kd.R_reads' HO_753000.out).2.2 | (with_reducible refine Kd.C_alloc ?_ _) | (with_reducible refine Kd.C_drewN ?_ _) | (with_reducible refine Kd.C_drew ?_)))
             (case side2 => exact (Kd.R_reads' HO_753000.out).2.1)
             (case side3 => repeat (first | exact (Kd.R_reads' HO_753001.out).2.2 | (with_reducible refine Kd.C_alloc ?_ _) | (with_reducible refine Kd.C_drewN ?_ _) | (with_reducible refine Kd.C_drew ?_)))
             (case side4 => exact (Kd.R_reads' HO_753001.out).2.1)
             rintro e w96 ⟨rfl, hb⟩
             have HS2_ := (hb.cell (World.block_lt_of_cell? _ _ (hHeld.2.2))).trans (hHeld.2.2)
             refine ⟨_, rfl, ?_⟩
             have n0_ := Aside0.mk (Kd.R_below laws_FnLeastSorts.a6 hb)
             have n1_ := Aside0.mk (Kd.R_below laws_FnLeastSorts.a4 hb)
             have n2_ := Aside0.mk (Kd.R_below laws_FnLeastSorts.a5 hb)
             have n3_ := Aside0.mk (blk_below (g := gb752) (o := .cells #[.slice Ao10 t745.length co10, .slice Ao12 t748.length co12] 30 (0, 0)) laws_FnLeastSorts.a3 hb)
             have n4_ := Aside0.mk (below_step laws_FnLeastSorts.a0 hb)
             clear HO_7
             clear HO_753000
             clear HO_753001
             clear BK752
             clear HB
             have HO_7 := n0_
             have HO_753000 := n1_
             have HO_753001 := n2_
             have BK752 := n3_
             have HB := n4_
             clear n0_ n1_ n2_ n3_ n4_
             (try clear hb)
             (try clear hb2)
             (try clear hk)
             (try clear hi)
             refine hK.out _ _ ⟨(blk_cell BK752.out 0).trans rfl, (blk_cell BK752.out 1).trans rfl, HS2_⟩ (fun hHeld => ?_)
             clear hK K
             refine norm_ (a' := ?_) ?_ ?_
             rotate_left
             ·show Act.put _ (some 57) _ = _
              simp only [Act.put, List.setIfInBounds_toArray, List.set_cons_zero, List.set_cons_succ, i64_w, i32_w]
              rfl
             refine pureK 6 9 rfl rfl ?_
             refine done_ laws_FnLeastSorts.a9 ?_
             try go_wp2
             have n0_ := Aside0.mk (Kd.R_drew HO_7.out)
             have n1_ := Aside0.mk (Kd.R_drew HO_753000.out)
             have n2_ := Aside0.mk (Kd.R_drew HO_753001.out)
             have n3_ := Aside0.mk (blk_drew BK752.out)
             have n4_ := Aside0.mk (below_drew1 HB.out)
             clear HO_7
             clear HO_753000
             clear HO_753001
             clear BK752
             clear HB
             have HO_7 := n0_
             have HO_753000 := n1_
             have HO_753001 := n2_
             have BK752 := n3_
             have HB := n4_
             clear n0_ n1_ n2_ n3_ n4_
             have p764 : 0 ≤ (x8_2 : Int) := of_decide_eq_true laws_FnLeastSorts.a2
             have q764 : x8_2 < (t757.length : Int) := of_decide_eq_true laws_FnLeastSorts.a2
             obtain ⟨ad764, e764, hx764_0⟩ := Kd.at_int (Kd.R_reads' HO_7.out).2.2 x8_2 p764 q764
             obtain rfl : ad762 = ad764 := (by injection e764)
             replace p764 := eq_true p764
             replace q764 := eq_true q764
             refine start_ (n := 7) (S := fun w' => w'.cell? ⟨gb752, 0, none⟩ = some (.slice Ao10 t745.length co10) ∧ w'.cell? ⟨gb752, 1, none⟩ = some (.slice Ao12 t748.length co12) ∧ w'.cell? (ad762.add (x8_2).toNat) = some (.int .i64 (rd t757 x8_2))) (ds := []) #[false, false, false, false, false, false, false] laws_FnLeastSorts.a9 rfl rfl ⟨(blk_cell BK752.out 0).trans rfl, (blk_cell BK752.out 1).trans rfl, hx764_0⟩ (fun hHeld => ?_)
             generalize w96.drew = w97 at HO_7 HO_753000 HO_753001 BK752 HB hx764_0 hHeld ⊢
             refine pureK 1 59 rfl rfl ?_
             refine pureK 2 60 rfl rfl ?_
             refine pureK 3 61 rfl rfl ?_
             refine takeK 0 58 rfl rfl hHeld ?_ laws_FnLeastSorts.a7
             refine takeK 4 62 rfl rfl hHeld ?_ laws_FnLeastSorts.a7
             refine one_ (i := 5) (N := some 63) #[true, true, true, true, true, true, false] rfl rfl laws_FnLeastSorts.a9 (by decide) (fun K hK => ?_)
             refine goes_ Try.func24 laws_FnLeastSorts.a9 rfl #[.agg #[.slice Ao10 t745.length co10, .slice Ao12 t748.length co12], .int .i64 (rd t757 x8_2)] (by rfl) rfl rfl laws_FnLeastSorts.a1 ?_
             with_reducible refine (spec_AboveSort.calls k2 _ _ t745 _ _ t748 (rd t757 x8_2) t765 _ ?side1 ?side2 ?side3 ?side4 A34.out).mono ?_
             (case side1 => repeat (first | exact (Kd.R_reads' HO_753000.out).2.2 | (with_reducible refine Kd.C_alloc ?_ _) | (with_reducible refine Kd.C_drewN ?_ _) | (with_reducible refine Kd.C_drew ?_)))
             (case side2 => exact (Kd.R_reads' HO_753000.out).2.1)
             (case side3 => repeat (first | exact (Kd.R_reads' HO_753001.out).2.2 | (with_reducible refine Kd.C_alloc ?_ _) | (with_reducible refine Kd.C_drewN ?_ _) | (with_reducible refine Kd.C_drew ?_)))
             (case side4 => exact (Kd.R_reads' HO_753001.out).2.1)
             rintro e w98 ⟨rfl, hb⟩
             have HS2_ := (hb.cell (World.block_lt_of_cell? _ _ (hHeld.2.2))).trans (hHeld.2.2)
             refine ⟨_, rfl, ?_⟩
             have n0_ := Aside0.mk (Kd.R_below laws_FnLeastSorts.a6 hb)
             have n1_ := Aside0.mk (Kd.R_below laws_FnLeastSorts.a4 hb)
             have n2_ := Aside0.mk (Kd.R_below laws_FnLeastSorts.a5 hb)
             have n3_ := Aside0.mk (blk_below (g := gb752) (o := .cells #[.slice Ao10 t745.length co10, .slice Ao12 t748.length co12] 30 (0, 0)) laws_FnLeastSorts.a3 hb)
             have n4_ := Aside0.mk (below_step laws_FnLeastSorts.a0 hb)
             clear HO_7
             clear HO_753000
             clear HO_753001
             clear BK752
             clear HB
             have HO_7 := n0_
             have HO_753000 := n1_
             have HO_753001 := n2_
             have BK752 := n3_
             have HB := n4_
             clear n0_ n1_ n2_ n3_ n4_
             (try clear hb)
             (try clear hb2)
             (try clear hk)
             (try clear hi)
             refine hK.out _ _ ⟨(blk_cell BK752.out 0).trans rfl, (blk_cell BK752.out 1).trans rfl, HS2_⟩ (fun hHeld => ?_)
             clear hK K
             refine norm_ (a' := ?_) ?_ ?_
             rotate_left
             ·show Act.put _ (some 63) _ = _
              simp only [Act.put, List.setIfInBounds_toArray, List.set_cons_zero, List.set_cons_succ, i64_w, i32_w]
              rfl
             refine pureK 6 10 rfl rfl ?_
             refine done_ laws_FnLeastSorts.a9 ?_
             have p766 : 0 ≤ (x8_2 : Int) := of_decide_eq_true laws_FnLeastSorts.a2
             have q766 : x8_2 < (t757.length : Int) := of_decide_eq_true laws_FnLeastSorts.a2
             obtain ⟨ad766, e766, hx766_0⟩ := Kd.at_int (Kd.R_reads' HO_7.out).2.2 x8_2 p766 q766
             obtain rfl : ad762 = ad766 := (by injection e766)
             replace p766 := eq_true p766
             replace q766 := eq_true q766
             try go_wp2_with (first | (go_at_call 22; (with_reducible refine (laws_member.calls t753 (rd t757 x8_2) false _ A47.out).mono ?_); rintro e w' ⟨rfl, ⟨nd, rfl⟩⟩; have p772 : 0 ≤ (x8_2 : Int) := of_decide_eq_true laws_FnLeastSorts.a2; have q772 : x8_2 < (t757.length : Int) := of_decide_eq_true laws_FnLeastSorts.a2; obtain ⟨ad772, e772, hx772_0⟩ := Kd.at_int (Kd.R_reads' HO_7.out).2.2 x8_2 p772 q772; obtain rfl : ad762 = ad772 := (by injection e772); replace p772 := eq_true p772; replace q772 := eq_true q772) | (go_at_call 22; (with_reducible refine (laws_member.calls t754 (rd t757 x8_2) false _ A78.out).mono ?_); rintro e w' ⟨rfl, ⟨nd, rfl⟩⟩))
             go_roundg k2
             case measure => have := HJ6.out; have := HK2.out; omega
             case rel => exact ⟨(wrap64 (x8_2 + 1)), laws_FnLeastSorts.a15, H', ⟨by have := HJ6.out; have := HK2.out; omega⟩, ⟨laws_FnLeastSorts.a6⟩, ⟨laws_FnLeastSorts.a4⟩, ⟨laws_FnLeastSorts.a5⟩, ⟨laws_FnLeastSorts.a3⟩, ⟨laws_FnLeastSorts.a0⟩⟩
        ·rw [if_neg c32] at H
         exact absurd H (by simp)
       ·rw [if_neg c31] at H
        have c31b0 : decide (x8_2 < (t757.length : Int)) = false := decide_eq_false c31
        clear c31
        replace H := Option.bind_eq_some_iff.mp H
        obtain ⟨t760, A990, H⟩ := H
        replace H : (if t760 = true then ((impl_IsSubset.f t754 t751).bind fun t761 => (some t761)) else (some false)) = some r := H
        have A99 := Aside0.mk A990
        clear A990
        by_cases c100 : t760 = true
        ·subst c100
         have H1 : ((impl_IsSubset.f t754 t751).bind fun t761 => (some t761)) = some r := by rw [if_pos rfl] at H; exact H
         clear H
         have H := H1
         clear H1
         replace H := Option.bind_eq_some_iff.mp H
         obtain ⟨t761, A1010, H⟩ := H
         replace H : (some t761) = some r := H
         have A101 := Aside0.mk A1010
         clear A1010
         obtain rfl := Option.some.inj H
         obtain ⟨Ao102, co102, eo102⟩ := Kd.R_slice HO_7.out
         subst eo102
         go_wp2_with (first | ((with_reducible refine gate_callee (f := 23) rfl ?_); refine goesL_ (some 116) rfl rfl Try.func23 laws_FnLeastSorts.a9 rfl #[.int .i64 t753, .int .i64 t751] rfl laws_FnLeastSorts.a1 ?_; (with_reducible refine (impl_IsSubset.calls t753 t751 true _ A99.out).mono ?_); rintro e w' ⟨rfl, ⟨nd, rfl⟩⟩; refine ⟨_, rfl, ?_⟩) | (go_at_call 23; (with_reducible refine (impl_IsSubset.calls t754 t751 t761 _ A101.out).mono ?_); rintro e w' ⟨rfl, ⟨nd, rfl⟩⟩))
         go_ret
         exact ⟨laws_FnLeastSorts.a10, laws_FnLeastSorts.a0⟩
        ·replace c100 := Bool.eq_false_iff.mpr c100
         subst c100
         have H1 : (some false) = some r := by rw [if_neg (show ¬ (false = true) by decide)] at H; exact H
         clear H
         have H := H1
         clear H1
         obtain rfl := Option.some.inj H
         obtain ⟨Ao103, co103, eo103⟩ := Kd.R_slice HO_7.out
         subst eo103
         go_wp2_with (first | ((with_reducible refine gate_callee (f := 23) rfl ?_); refine goesL_ (some 116) rfl rfl Try.func23 laws_FnLeastSorts.a9 rfl #[.int .i64 t753, .int .i64 t751] rfl laws_FnLeastSorts.a1 ?_; (with_reducible refine (impl_IsSubset.calls t753 t751 false _ A99.out).mono ?_); rintro e w' ⟨rfl, ⟨nd, rfl⟩⟩; refine ⟨_, rfl, ?_⟩))
         go_ret
         exact ⟨laws_FnLeastSorts.a10, laws_FnLeastSorts.a0⟩

/-- THE ONE PURE STATEMENT of laws_FnLeastSorts: yours. -/
def laws_FnLeastSorts.Pure : Prop := ∀ (l0 : List Int), l0.length ≤ maxLen → l0.length * 1 ≤ 140737488351232 → (∀ x ∈ l0, (Lit.int .u8 x).wf = true) → ∃ k, laws_FnLeastSorts.f k l0 = some true
theorem laws_FnLeastSorts.walk (P : laws_FnLeastSorts.Pure) (a0 : Option Addr) (len0 cap0 : Nat) (z0 : List Int) (w : World) (w0 : (a0 = none ∧ len0 = 0 ∧ cap0 = 0 ∧ z0 = []) ∨ ∃ x, a0 = some x ∧ len0 ≤ cap0 ∧ cap0 ≤ maxLen ∧ z0.length = cap0 ∧ (∀ i, i < z0.length → w.cell? (x.add i) = some (.int .u8 (z0.getD i 0))) ∧ ∀ n ∈ z0, (Lit.int .u8 n).wf = true) (y0 : len0 * 1 ≤ 140737488351232) :
  Calls Try.prog 11 #[.slice a0 len0 cap0] w fun e w' => e = .returned (.bool true) ∧ Below w.heap.size w w' := by
 obtain ⟨l0, rfl, hr0, hm0, hw0, hc0⟩ := ReadsInt.ofRowC w0
 obtain ⟨k, h⟩ := P l0 hm0 y0 hw0
 refine (laws_FnLeastSorts.calls k _ _ l0 true w (Kd.C_of_reads (d := (0 : Int)) (h1 := fun _ => rfl) hr0) hc0 h).mono ?_
 rintro e w' ⟨rfl, hd⟩
 exact ⟨rfl, hd⟩

end Go.Proofs.Ytlpkicbmcpmemaa.Q

