/- Functions of the program as plain Lean functions, and that the calls come to what they say. -/
import Derived.Test.YtlpkicbmcpmemaaZQx0h2d4ba
import Derived.Test.YtlpkicbmcpmemaaZQx6heeb49
import Derived.Test.YtlpkicbmcpmemaaZQx7h6c782
import Derived.Test.YtlpkicbmcpmemaaZQx13hbc95f
import Derived.Test.YtlpkicbmcpmemaaZShorth9309d
namespace Go.Proofs.Ytlpkicbmcpmemaa.Q
open Go.RowKit Go.Proofs.YtlpkicbmcpmemaaW.PrintWords Go.Proofs.YtlpkicbmcpmemaaW.PrintLast Go.Proofs.YtlpkicbmcpmemaaW.PrintMore
attribute [local go_sem] max2_int min2_int max_two min_two max_three min_three max_four min_four   -- for this text's walks alone
set_option linter.unusedVariables false
set_option linter.unusedSimpArgs false

/-! ### impl_newOrder: function 52 -/
theorem impl_newOrder.a0 {P_ : Prop} (h_ : P_ := by repeat (first | (with_reducible first | exact HB.out | apply below_alloc | apply pw_below_drewN | apply below_drew1 | refine below_set ?_ GE333.out | refine below_set ?_ GE334.out | refine below_set ?_ GE345.out) | exact HB.out)) : P_ := h_
theorem impl_newOrder.a1 {P_ : Prop} (h_ : P_ := by repeat (first | (with_reducible first | exact HB.out | apply below_alloc | apply pw_below_drewN | apply below_drew1 | refine below_set ?_ GE333.out | refine below_set ?_ GE334.out) | exact HB.out)) : P_ := h_
theorem impl_newOrder.a2 {P_ : Prop} (h_ : P_ := by (with_reducible repeat (first | refine blk_drewN ?_ _ | refine blk_drew ?_ | refine blk_alloc ?_ _)); exact BK333.out) : P_ := h_
theorem impl_newOrder.a3 {P_ : Prop} (h_ : P_ := by (with_reducible repeat (first | refine blk_drewN ?_ _ | refine blk_drew ?_ | refine blk_alloc ?_ _)); exact BK334.out) : P_ := h_
theorem impl_newOrder.a4 {P_ : Prop} (h_ : P_ := by first | (simp only [putAll, Act.put, List.setIfInBounds_toArray, List.set_cons_zero, List.set_cons_succ]; done) | (simp only [putAll, Act.put, List.setIfInBounds_toArray, List.set_cons_zero, List.set_cons_succ]; rfl)) : P_ := h_
theorem impl_newOrder.a5 {P_ : Prop} (h_ : P_ := by (with_reducible repeat (first | refine blk_drewN ?_ _ | refine blk_drew ?_ | refine blk_alloc ?_ _)); exact BK345.out) : P_ := h_
theorem impl_newOrder.a6 {P_ : Prop} (h_ : P_ := by (with_reducible repeat (first | apply Kd.R_alloc | apply Kd.R_drewN | apply Kd.R_drew)); exact HO338.out) : P_ := h_
theorem impl_newOrder.a7 {P_ : Prop} (h_ : P_ := by (with_reducible repeat (first | apply Kd.R_alloc | apply Kd.R_drewN | apply Kd.R_drew)); exact HO341.out) : P_ := h_
theorem impl_newOrder.a8 {P_ : Prop} (h_ : P_ := by (with_reducible repeat (first | apply Kd.R_alloc | apply Kd.R_drewN | apply Kd.R_drew)); exact HO344.out) : P_ := h_
theorem impl_newOrder.a9 {P_ : Prop} (h_ : P_ := by first | (with_reducible assumption) | assumption) : P_ := h_
theorem impl_newOrder.a10 {P_ : Prop} (h_ : P_ := by (try simp only [List.map_toArray, List.map_cons, List.map_nil]); first | done | rfl | (simp only [List.length_drop, List.length_take]; rfl)) : P_ := h_
theorem impl_newOrder.a11 {P_ : Prop} (h_ : P_ := by (with_reducible repeat (first | apply Kd.R_alloc | apply Kd.R_drewN | apply Kd.R_drew)); exact Kd.R_mono HO338.out (fun _ hk => hk.2)) : P_ := h_
theorem impl_newOrder.a12 {P_ : Prop} (h_ : P_ := by (with_reducible repeat (first | apply Kd.R_alloc | apply Kd.R_drewN | apply Kd.R_drew)); exact Kd.R_mono HO344.out (fun _ hk => hk.2)) : P_ := h_
theorem impl_newOrder.a13 {P_ : Prop} (h_ : P_ := by (with_reducible repeat (first | apply Kd.R_alloc | apply Kd.R_drewN | apply Kd.R_drew)); exact Kd.R_mono HO341.out (fun _ hk => hk.2)) : P_ := h_
theorem impl_newOrder.a14 {P_ : Prop} (h_ : P_ := by repeat (first | (with_reducible first | exact HB.out | apply below_alloc | apply pw_below_drewN | apply below_drew1 | refine below_set ?_ GE333.out) | exact HB.out)) : P_ := h_
theorem impl_newOrder.a15 {P_ : Prop} (h_ : P_ := by repeat (first | (with_reducible first | exact HB.out | apply below_alloc | apply pw_below_drewN | apply below_drew1) | exact HB.out)) : P_ := h_
theorem impl_newOrder.a16 {P_ : Prop} (h_ : P_ := by (try simp only [hl28_1]); (with_reducible repeat (first | refine blk_drewN ?_ _ | refine blk_drew ?_ | refine blk_alloc ?_ _)); exact BK333.out) : P_ := h_
theorem impl_newOrder.a17 {P_ : Prop} (h_ : P_ := by (try simp only [hl28_1]); (with_reducible repeat (first | refine blk_drewN ?_ _ | refine blk_drew ?_ | refine blk_alloc ?_ _)); exact BK334.out) : P_ := h_
theorem impl_newOrder.a18 {P_ : Prop} (h_ : P_ := by (try simp only [hl28_1]); (with_reducible repeat (first | refine blk_drewN ?_ _ | refine blk_drew ?_ | refine blk_alloc ?_ _)); exact BK345.out) : P_ := h_
theorem impl_newOrder.a19 {P_ : Prop} (h_ : P_ := by (with_reducible repeat (first | apply Kd.R_alloc | apply Kd.R_drewN | apply Kd.R_drew)); exact Kd.R_mono (Kd.R_far (p := ⟨gb345, 2, none⟩) (Kd.R_far (p := ⟨gb345, 1, none⟩) (Kd.R_far (p := ⟨gb345, 0, none⟩) (Kd.R_types HO338.out BK345.out (by decide)) (fun _ hk => hk.2) (.slice Ao26 t336.length co26)) (fun _ hk => hk.2) (.slice Ao25 y339.length co25)) (fun _ hk => hk.2) (.slice Ao24 y342.length co24)) (fun _ hk => ⟨hk.1.1, hk.1.2⟩)) : P_ := h_
theorem impl_newOrder.a20 {P_ : Prop} (h_ : P_ := by (with_reducible repeat (first | apply Kd.R_alloc | apply Kd.R_drewN | apply Kd.R_drew)); exact HO_346000.out) : P_ := h_
theorem impl_newOrder.a21 {P_ : Prop} (h_ : P_ := by (with_reducible repeat (first | apply Kd.R_alloc | apply Kd.R_drewN | apply Kd.R_drew)); exact HO_346001.out) : P_ := h_
theorem impl_newOrder.a22 {P_ : Prop} (h_ : P_ := by (try simp only [hl28_1]); (with_reducible repeat (first | apply Kd.R_alloc | apply Kd.R_drewN | apply Kd.R_drew)); exact HO_346000.out) : P_ := h_
theorem impl_newOrder.a23 {P_ : Prop} (h_ : P_ := by rintro w' ⟨s0, s1, s2, s3, s4, s5, s6⟩; go_simp; with_reducible rfl) : P_ := h_
theorem impl_newOrder.a24 {P_ : Prop} (h_ : P_ := by first | rfl | (simp; done) | (simp [*]; done)) : P_ := h_
theorem impl_newOrder.a25 {P_ : Prop} (h_ : P_ := by first | exact Kd.R_nil _ _ _ _ _ | exact Kd.N_nil _ _ _ _ _ | exact Kd.V_nil _ _ _ _ _ | exact Kd.Q_nil _ _ _ _ _ | exact Kd.S_nil _ _ _ _ _) : P_ := h_
theorem impl_newOrder.a26 {P_ : Prop} (h_ : P_ := by (try simp only [hl28_1]); (with_reducible repeat (first | apply Kd.R_alloc | apply Kd.R_drewN | apply Kd.R_drew)); exact HO_346001.out) : P_ := h_
theorem impl_newOrder.a27 {P_ : Prop} (h_ : P_ := by (try simp only [hl28_1]); (with_reducible repeat (first | apply Kd.R_alloc | apply Kd.R_drewN | apply Kd.R_drew)); exact HO_346002.out) : P_ := h_
theorem impl_newOrder.a28 {P_ : Prop} (h_ : P_ := by repeat (first | (with_reducible first | exact HB.out | apply below_alloc | apply pw_below_drewN | apply below_drew1 | refine below_set ?_ GE333.out | refine below_set ?_ GE334.out | refine below_set ?_ GE345.out | refine below_set ?_ GE355.out) | exact HB.out)) : P_ := h_
theorem impl_newOrder.a29 {P_ : Prop} (h_ : P_ := by kernel_rfl) : P_ := h_
theorem impl_newOrder.a30 {P_ : Prop} (h_ : P_ := by decide) : P_ := h_
theorem impl_newOrder.a31 {P_ : Prop} (h_ : P_ := by (with_reducible repeat (first | apply Kd.R_alloc | apply Kd.R_drewN | apply Kd.R_drew)); exact HO_346002.out) : P_ := h_
mutual
def impl_newOrder.l0 : Nat → Int → List Int → Int → Int → List ByteArray → List (S52) → List Int → List Int → List Int → Option (List Int × List Int × List Int × Bool)
 | 0, _, _, _, _, _, _, _, _, _ => none
 | k + 1, x4, x28, x29, x30, x334000, x334001, x346000, x346001, x346002 => if x30 < x29 then (if 0 ≤ x30 then (if x30 < (x28.length : Int) then ((impl_ListOf.f k (rd x28 x30)).bind fun t347 => (impl_newOrder.l1 k x4 x30 x28 x29 x30 t347 (t347.length : Int) 0 x334000 x334001 x346000 x346001 x346002)) else (none)) else (none)) else (impl_newOrder.l2 k x4 0 x334000 x334001 x346000 x346001 x346002)
def impl_newOrder.l1 : Nat → Int → Int → List Int → Int → Int → List Int → Int → Int → List ByteArray → List (S52) → List Int → List Int → List Int → Option (List Int × List Int × List Int × Bool)
 | 0, _, _, _, _, _, _, _, _, _, _, _, _, _ => none
 | k + 1, x4, x6, x28, x29, x30, x36, x37, x38, x334000, x334001, x346000, x346001, x346002 => if x38 < x37 then (if 0 ≤ x38 then (if x38 < (x36.length : Int) then (if 0 ≤ (rd x36 x38) then (if (rd x36 x38) < (x346001.length : Int) then (if 0 ≤ x6 then (impl_newOrder.l1 k x4 x6 x28 x29 x30 x36 x37 (wrap64 (x38 + 1)) x334000 x334001 x346000 (x346001.set ((rd x36 x38) : Int).toNat (Go.bits .or .i64 (rd x346001 (rd x36 x38)) (shl .i64 1 x6))) x346002) else (none)) else (none)) else (none)) else (none)) else (none)) else (if 0 ≤ x6 then (if x6 < (x346002.length : Int) then (impl_newOrder.l0 k x4 x28 x29 (wrap64 (x30 + 1)) x334000 x334001 x346000 x346001 (x346002.set (x6 : Int).toNat x6)) else (none)) else (none))
def impl_newOrder.l2 : Nat → Int → Int → List ByteArray → List (S52) → List Int → List Int → List Int → Option (List Int × List Int × List Int × Bool)
 | 0, _, _, _, _, _, _, _ => none
 | k + 1, x61, x62, x334000, x334001, x346000, x346001, x346002 => if x62 < x61 then (impl_newOrder.l3 k x61 x62 x334001 (x334001.length : Int) 0 x334000 x334001 x346000 x346001 x346002) else (some (x346000, x346001, x346002, true))
def impl_newOrder.l3 : Nat → Int → Int → List (S52) → Int → Int → List ByteArray → List (S52) → List Int → List Int → List Int → Option (List Int × List Int × List Int × Bool)
 | 0, _, _, _, _, _, _, _, _, _, _ => none
 | k + 1, x61, x62, x65, x66, x67, x334000, x334001, x346000, x346001, x346002 => if x67 < x66 then (if 0 ≤ x67 then (if x67 < (x65.length : Int) then (if 0 ≤ ((rd_T52 x65 x67).f0) then (if ((rd_T52 x65 x67).f0) < (x346002.length : Int) then (if 0 ≤ ((rd_T52 x65 x67).f1) then (if ((rd_T52 x65 x67).f1) < (x346002.length : Int) then (impl_newOrder.l3 k x61 x62 x65 x66 (wrap64 (x67 + 1)) x334000 x334001 x346000 x346001 ((x346002.set (((rd_T52 x65 x67).f0) : Int).toNat (mn (rd x346002 ((rd_T52 x65 x67).f0)) (rd x346002 ((rd_T52 x65 x67).f1)))).set (((rd_T52 x65 x67).f1) : Int).toNat (mn (rd x346002 ((rd_T52 x65 x67).f0)) (rd x346002 ((rd_T52 x65 x67).f1))))) else (none)) else (none)) else (none)) else (none)) else (none)) else (none)) else (impl_newOrder.l2 k x61 (wrap64 (x62 + 1)) x334000 x334001 x346000 x346001 x346002)
end
def impl_newOrder.f (k : Nat) (l0_0 : List ByteArray) (l0_1 : List (S52)) : Option (List Int × List Int × List Int × Bool) := (impl_IsSorts.f k l0_0 l0_1).bind fun t335 => (if t335 = true then ((impl_sortsAbove.f k l0_0 l0_1).bind fun t336 => (if 0 ≤ (l0_0.length : Int) then (if ((l0_0.length : Int) : Int).toNat ≤ 35184372088832 then (impl_newOrder.l0 k (l0_0.length : Int) t336 (t336.length : Int) 0 l0_0 l0_1 t336 (List.replicate ((l0_0.length : Int) : Int).toNat 0) (List.replicate ((l0_0.length : Int) : Int).toNat 0)) else (none)) else (none))) else (some (([] : List Int), ([] : List Int), ([] : List Int), false)))
def impl_newOrder.T4 : Bool × List (List Nat × List Nat) := (true, [([], []), ([0], [0]), ([], []), ([2, 2], [2]), ([], []), ([4, 4], [4]), ([1, 3, 5], [1, 3, 5]), ([], []), ([7, 6, 1, 0, 1, 2, 3, 4, 5, 6, 7], [6, 7])])
def impl_newOrder.B4 : List Nat := [0, 1, 0, 4, 0, 16, 63, 0, 255]
theorem impl_newOrder.tab4 : rtab .any (opsOf Try.f52 4) = impl_newOrder.T4 := by kernel_rfl
theorem impl_newOrder.bits4 : waitsOk impl_newOrder.T4.2 impl_newOrder.B4 = true := by kernel_rfl
def impl_newOrder.T11 : Bool × List (List Nat × List Nat) := (true, [([], []), ([0], [0]), ([], []), ([], []), ([3], [3]), ([], []), ([4, 5], [4, 5]), ([6], [6]), ([], []), ([8], [8]), ([7, 9], [7, 9]), ([1, 2, 0, 1, 2, 3, 4, 5, 6, 7, 8, 9, 10], [1, 2]), ([11, 10, 0, 1, 2, 3, 4, 5, 6, 7, 8, 9, 10], [10, 11])])
def impl_newOrder.B11 : List Nat := [0, 1, 0, 0, 8, 0, 56, 120, 0, 256, 1016, 2047, 4095]
theorem impl_newOrder.tab11 : rtab .any (opsOf Try.f52 11) = impl_newOrder.T11 := by kernel_rfl
theorem impl_newOrder.bits11 : waitsOk impl_newOrder.T11.2 impl_newOrder.B11 = true := by kernel_rfl
def impl_newOrder.T20 : Bool × List (List Nat × List Nat) := (true, [([], []), ([0], [0]), ([], []), ([2], [2]), ([1, 3], [1, 3]), ([4], [4]), ([], []), ([6], [6]), ([], []), ([8], [8]), ([7, 9], [7, 9]), ([10], [10]), ([5, 11], [5, 11]), ([12, 0, 1, 2, 3, 4, 5, 6, 7, 8, 9, 10, 11, 12], [12])])
def impl_newOrder.B20 : List Nat := [0, 1, 0, 4, 15, 31, 0, 64, 0, 256, 960, 1984, 4095, 8191]
theorem impl_newOrder.tab20 : rtab .any (opsOf Try.f52 20) = impl_newOrder.T20 := by kernel_rfl
theorem impl_newOrder.bits20 : waitsOk impl_newOrder.T20.2 impl_newOrder.B20 = true := by kernel_rfl
set_option maxHeartbeats 8000000 in
set_option maxRecDepth 100000 in
theorem impl_newOrder.calls (k : Nat) (A0_0 : Option Addr) (c0_0 : Nat) (l0_0 : List ByteArray) (A0_1 : Option Addr) (c0_1 : Nat) (l0_1 : List (S52)) (r1 : List Int) (r2 : List Int) (r3 : List Int) (r4 : Bool) (w : World) (hr0_0 : Kd.C Kd.string w A0_0 l0_0.length l0_0) (hc0_0 : l0_0.length ≤ c0_0) (hr0_1 : Kd.C k52 w A0_1 l0_1.length l0_1) (hc0_1 : l0_1.length ≤ c0_1) (h : impl_newOrder.f k l0_0 l0_1 = some (r1, r2, r3, r4)) :
  Calls Try.prog 52 #[.agg #[.slice A0_0 l0_0.length c0_0, .slice A0_1 l0_1.length c0_1]] w fun e w' => ∃ v0_ v1_ v2_ : Value, e = .returned (.tuple #[.agg #[v0_, v1_, v2_], .bool r4]) ∧ Kd.R (Kd.int .i64) 3 w' w.heap.size (fun k_ => some k_ ≠ (v1_ : Value).ownBlock ∧ some k_ ≠ (v2_ : Value).ownBlock) v0_ r1 ∧ Kd.R (Kd.int .i64) 3 w' w.heap.size (fun k_ => some k_ ≠ (v0_ : Value).ownBlock ∧ some k_ ≠ (v2_ : Value).ownBlock) v1_ r2 ∧ Kd.R (Kd.int .i64) 3 w' w.heap.size (fun k_ => some k_ ≠ (v0_ : Value).ownBlock ∧ some k_ ≠ (v1_ : Value).ownBlock) v2_ r3 ∧ Below w.heap.size w w' := by
 have hu30 := Try.underlying30
 have hu64 := Try.underlying64
 have hu52 := Try.underlying52
 have HR0_0 := Aside0.mk hr0_0
 have HC0_0 := Aside0.mk hc0_0
 clear hr0_0 hc0_0
 have HR0_1 := Aside0.mk hr0_1
 have HC0_1 := Aside0.mk hc0_1
 clear hr0_1 hc0_1
 have HB := Aside0.mk (Below.refl w.heap.size w)
 have H : ((impl_IsSorts.f k l0_0 l0_1).bind fun t335 => (if t335 = true then ((impl_sortsAbove.f k l0_0 l0_1).bind fun t336 => (if 0 ≤ (l0_0.length : Int) then (if ((l0_0.length : Int) : Int).toNat ≤ 35184372088832 then (impl_newOrder.l0 k (l0_0.length : Int) t336 (t336.length : Int) 0 l0_0 l0_1 t336 (List.replicate ((l0_0.length : Int) : Int).toNat 0) (List.replicate ((l0_0.length : Int) : Int).toNat 0)) else (none)) else (none))) else (some (([] : List Int), ([] : List Int), ([] : List Int), false)))) = some (r1, r2, r3, r4) := h
 clear h
 replace H := Option.bind_eq_some_iff.mp H
 obtain ⟨t335, A20, H⟩ := H
 replace H : (if t335 = true then ((impl_sortsAbove.f k l0_0 l0_1).bind fun t336 => (if 0 ≤ (l0_0.length : Int) then (if ((l0_0.length : Int) : Int).toNat ≤ 35184372088832 then (impl_newOrder.l0 k (l0_0.length : Int) t336 (t336.length : Int) 0 l0_0 l0_1 t336 (List.replicate ((l0_0.length : Int) : Int).toNat 0) (List.replicate ((l0_0.length : Int) : Int).toNat 0)) else (none)) else (none))) else (some (([] : List Int), ([] : List Int), ([] : List Int), false))) = some (r1, r2, r3, r4) := H
 have A2 := Aside0.mk A20
 clear A20
 by_cases c3 : t335 = true
 ·subst c3
  have H1 : ((impl_sortsAbove.f k l0_0 l0_1).bind fun t336 => (if 0 ≤ (l0_0.length : Int) then (if ((l0_0.length : Int) : Int).toNat ≤ 35184372088832 then (impl_newOrder.l0 k (l0_0.length : Int) t336 (t336.length : Int) 0 l0_0 l0_1 t336 (List.replicate ((l0_0.length : Int) : Int).toNat 0) (List.replicate ((l0_0.length : Int) : Int).toNat 0)) else (none)) else (none))) = some (r1, r2, r3, r4) := by rw [if_pos rfl] at H; exact H
  clear H
  have H := H1
  clear H1
  replace H := Option.bind_eq_some_iff.mp H
  obtain ⟨t336, A40, H⟩ := H
  replace H : (if 0 ≤ (l0_0.length : Int) then (if ((l0_0.length : Int) : Int).toNat ≤ 35184372088832 then (impl_newOrder.l0 k (l0_0.length : Int) t336 (t336.length : Int) 0 l0_0 l0_1 t336 (List.replicate ((l0_0.length : Int) : Int).toNat 0) (List.replicate ((l0_0.length : Int) : Int).toNat 0)) else (none)) else (none)) = some (r1, r2, r3, r4) := H
  have A4 := Aside0.mk A40
  clear A40
  by_cases c5 : 0 ≤ (l0_0.length : Int)
  ·rw [if_pos c5] at H
   have c5b0 := eq_true c5
   have c5b1 : decide (0 ≤ (l0_0.length : Int)) = true := decide_eq_true c5
   clear c5
   by_cases c6 : ((l0_0.length : Int) : Int).toNat ≤ 35184372088832
   ·rw [if_pos c6] at H
    have c6b0 := eq_true c6
    have c6b1 : decide (((l0_0.length : Int) : Int).toNat ≤ 35184372088832) = true := decide_eq_true c6
    clear c6
    obtain ⟨y339, hy339⟩ : ∃ y_ : List Int, y_ = (List.replicate ((l0_0.length : Int) : Int).toNat 0) := ⟨_, rfl⟩
    replace H : (impl_newOrder.l0 k (l0_0.length : Int) t336 (t336.length : Int) 0 l0_0 l0_1 t336 y339 (List.replicate ((l0_0.length : Int) : Int).toNat 0)) = some (r1, r2, r3, r4) := by first | (rw [hy339]; with_reducible exact H) | (have H2_ := (Option.bind_some _ _).symm.trans H; rw [hy339]; with_reducible exact H2_) | (have H2_ := (Option.bind_some _ _).symm.trans H; with_reducible exact H2_) | with_reducible exact H | (rw [hy339]; exact H) | exact H
    have Ny339 := Aside0.mk hy339
    clear hy339
    obtain ⟨y342, hy342⟩ : ∃ y_ : List Int, y_ = (List.replicate ((l0_0.length : Int) : Int).toNat 0) := ⟨_, rfl⟩
    replace H : (impl_newOrder.l0 k (l0_0.length : Int) t336 (t336.length : Int) 0 l0_0 l0_1 t336 y339 y342) = some (r1, r2, r3, r4) := by first | (rw [hy342]; with_reducible exact H) | (have H2_ := (Option.bind_some _ _).symm.trans H; rw [hy342]; with_reducible exact H2_) | (have H2_ := (Option.bind_some _ _).symm.trans H; with_reducible exact H2_) | with_reducible exact H | (rw [hy342]; exact H) | exact H
    have Ny342 := Aside0.mk hy342
    clear hy342
    have H' := Aside0.mk H
    clear H
    go_enter Try.func52, Try.ntmps52
    try go_wp2_with (first | ((with_reducible refine gate_dst (N := 1) rfl ?_); refine box_event ?hg (N := 1) ?hd (cs := #[.slice A0_0 l0_0.length c0_0, .slice A0_1 l0_1.length c0_1]) (t := 30) ?hr ?_; (case hd => rfl); (case hg => rfl); (case hr => first | (go_simp; done) | (go_simp; rfl)); intro gb333 hg w7 hbox hb; have n0_ := Aside0.mk (below_step impl_newOrder.a15 hb); have n1_ := Aside0.mk (hbox); have n2_ := Aside0.mk ((by rw [hg]; exact (below_size impl_newOrder.a15) : w.heap.size ≤ gb333)); have n3_ := Aside0.mk ((by rw [hg]; exact (below_size impl_newOrder.a15) : w.heap.size ≤ gb333)); clear HB; have HB := n0_; have BK333 := n1_; have GW333 := n2_; have GE333 := n3_; clear n0_ n1_ n2_ n3_; clear hb hbox hg) | ((with_reducible refine gate_dst (N := 2) rfl ?_); refine box_event ?hg (N := 2) ?hd (cs := #[.slice none 0 0, .slice none 0 0, .slice none 0 0]) (t := 64) ?hr ?_; (case hd => rfl); (case hg => rfl); (case hr => first | (go_simp; done) | (go_simp; rfl)); intro gb334 hg w8 hbox hb; have n0_ := Aside0.mk (blk_below (g := gb333) (o := .cells #[.slice A0_0 l0_0.length c0_0, .slice A0_1 l0_1.length c0_1] 30 (0, 0)) impl_newOrder.a2 hb); have n1_ := Aside0.mk (below_step impl_newOrder.a14 hb); have n2_ := Aside0.mk (hbox); have n3_ := Aside0.mk ((by rw [hg]; exact (below_size impl_newOrder.a14) : w.heap.size ≤ gb334)); have n4_ := Aside0.mk ((by rw [hg]; exact (below_size impl_newOrder.a14) : w.heap.size ≤ gb334)); have n5_ := Aside0.mk ((by rw [hg]; exact Nat.ne_of_lt (blk_lt (g := gb333) (o := .cells #[.slice A0_0 l0_0.length c0_0, .slice A0_1 l0_1.length c0_1] 30 (0, 0)) impl_newOrder.a2) : gb333 ≠ gb334)); have n6_ := Aside0.mk ((by rw [hg]; exact Nat.ne_of_gt (blk_lt (g := gb333) (o := .cells #[.slice A0_0 l0_0.length c0_0, .slice A0_1 l0_1.length c0_1] 30 (0, 0)) impl_newOrder.a2) : gb334 ≠ gb333)); clear BK333; clear HB; have BK333 := n0_; have HB := n1_; have BK334 := n2_; have GW334 := n3_; have GE334 := n4_; have NB333_334 := n5_; have NB334_333 := n6_; clear n0_ n1_ n2_ n3_ n4_ n5_ n6_; clear hb hbox hg; have hnb9 := NB333_334.out; have hnc9 := NB334_333.out; have hcz10_0 : w8.cell? ⟨gb333, 0, none⟩ = some (.slice A0_0 l0_0.length c0_0) := (blk_cell BK333.out 0).trans rfl; have hcz10_1 : w8.cell? ⟨gb333, 1, none⟩ = some (.slice A0_1 l0_1.length c0_1) := (blk_cell BK333.out 1).trans rfl; have hfz10_0 := blk_frozen BK333.out 0; have hfz10_1 := blk_frozen BK333.out 1) | ((with_reducible refine gate_callee (f := 15) rfl ?_); refine goesL_ (some 14) rfl rfl Try.func15 impl_newOrder.a29 rfl #[.agg #[.slice A0_0 l0_0.length c0_0, .slice A0_1 l0_1.length c0_1]] rfl impl_newOrder.a10 ?_; (with_reducible refine (impl_IsSorts.calls k _ _ l0_0 _ _ l0_1 true _ ?side1 ?side2 ?side3 ?side4 A2.out).mono ?_); (case side1 => repeat (first | exact (Kd.C_below HR0_0.out HB.out) | (with_reducible refine Kd.C_alloc ?_ _) | (with_reducible refine Kd.C_drewN ?_ _) | (with_reducible refine Kd.C_drew ?_))); (case side2 => exact HC0_0.out); (case side3 => repeat (first | exact (Kd.C_below HR0_1.out HB.out) | (with_reducible refine Kd.C_alloc ?_ _) | (with_reducible refine Kd.C_drewN ?_ _) | (with_reducible refine Kd.C_drew ?_))); (case side4 => exact HC0_1.out); rintro e w11 ⟨rfl, hb⟩; refine ⟨_, rfl, ?_⟩; have n0_ := Aside0.mk (blk_below (g := gb333) (o := .cells #[.slice A0_0 l0_0.length c0_0, .slice A0_1 l0_1.length c0_1] 30 (0, 0)) impl_newOrder.a2 hb); have n1_ := Aside0.mk (blk_below (g := gb334) (o := .cells #[.slice none 0 0, .slice none 0 0, .slice none 0 0] 64 (0, 0)) impl_newOrder.a3 hb); have n2_ := Aside0.mk (below_step impl_newOrder.a1 hb); clear BK333; clear BK334; clear HB; have BK333 := n0_; have BK334 := n1_; have HB := n2_; clear n0_ n1_ n2_; (try clear hb); (try clear hb2); (try clear hk); (try clear hi); have hcz12_0 : w11.cell? ⟨gb333, 0, none⟩ = some (.slice A0_0 l0_0.length c0_0) := (blk_cell BK333.out 0).trans rfl; have hcz12_1 : w11.cell? ⟨gb333, 1, none⟩ = some (.slice A0_1 l0_1.length c0_1) := (blk_cell BK333.out 1).trans rfl; have hfz12_0 := blk_frozen BK333.out 0; have hfz12_1 := blk_frozen BK333.out 1))
    have n0_ := Aside0.mk (blk_drew BK333.out)
    have n1_ := Aside0.mk (blk_drew BK334.out)
    have n2_ := Aside0.mk (below_drew1 HB.out)
    clear BK333
    clear BK334
    clear HB
    have BK333 := n0_
    have BK334 := n1_
    have HB := n2_
    clear n0_ n1_ n2_
    refine start_ (n := 9) (S := fun w' => w'.cell? ⟨gb333, 0, none⟩ = some (.slice A0_0 l0_0.length c0_0) ∧ w'.cell? ⟨gb333, 1, none⟩ = some (.slice A0_1 l0_1.length c0_1)) (ds := []) #[false, false, false, false, false, false, false, false, false] impl_newOrder.a29 rfl rfl ⟨(blk_cell BK333.out 0).trans rfl, (blk_cell BK333.out 1).trans rfl⟩ (fun hHeld => ?_); refine with_tabW impl_newOrder.tab4 impl_newOrder.bits4 (fun HT_ HW_ => ?_)
    generalize w11.drew = w13 at BK333 BK334 HB hHeld ⊢
    refine pureS 2 22 HT_ rfl rfl ?_
    refine pureS 4 24 HT_ rfl rfl ?_
    refine takeS 0 20 HT_ HW_ rfl rfl hHeld ?_ (by rintro w' ⟨s0, s1⟩; go_simp; with_reducible rfl)
    refine join_ (σ := Value × Value × Value × Nat) 1 #[true, true, true, true, true, true, true, true, false] (fun s_ => [(21, s_.1), (23, s_.2.1), (25, s_.2.2.1), (5, .pointer (some ⟨s_.2.2.2, 0, none⟩)), (26, .agg #[s_.1, s_.2.1, s_.2.2.1])]) (fun s_ w' => (w'.cell? ⟨gb333, 0, none⟩ = some (.slice A0_0 l0_0.length c0_0) ∧ w'.cell? ⟨gb333, 1, none⟩ = some (.slice A0_1 l0_1.length c0_1)) ∧ (Kd.R (Kd.int .i64) 3 w' w.heap.size (fun k_ => some k_ ≠ (s_.2.1 : Value).ownBlock ∧ some k_ ≠ (s_.2.2.1 : Value).ownBlock) s_.1 t336) ∧ (Kd.R (Kd.int .i64) 3 w' w.heap.size (fun k_ => some k_ ≠ (s_.1 : Value).ownBlock ∧ some k_ ≠ (s_.2.2.1 : Value).ownBlock) s_.2.1 y339) ∧ (Kd.R (Kd.int .i64) 3 w' w.heap.size (fun k_ => some k_ ≠ (s_.1 : Value).ownBlock ∧ some k_ ≠ (s_.2.1 : Value).ownBlock) s_.2.2.1 y342) ∧ (w'.heap[gb333]? = some (.cells #[.slice A0_0 l0_0.length c0_0, .slice A0_1 l0_1.length c0_1] 30 (0, 0))) ∧ (w'.heap[gb334]? = some (.cells #[.slice none 0 0, .slice none 0 0, .slice none 0 0] 64 (0, 0))) ∧ (w'.heap[s_.2.2.2]? = some (.cells #[.slice none 0 0, .slice none 0 0, .slice none 0 0] 64 (0, 0))) ∧ (w.heap.size ≤ s_.2.2.2) ∧ (w.heap.size ≤ s_.2.2.2) ∧ (gb333 ≠ s_.2.2.2) ∧ (s_.2.2.2 ≠ gb333) ∧ (gb334 ≠ s_.2.2.2) ∧ (s_.2.2.2 ≠ gb334) ∧ (Below w.heap.size w w')) ?_ ?_
    rotate_left
    ·intro hJ1_3_5_7
     refine join_ (σ := Value × Value × Value) 2 #[true, true, true, true, true, true, true, false, false] (fun s_ => [(21, s_.1), (23, s_.2.1), (25, s_.2.2), (26, .agg #[s_.1, s_.2.1, s_.2.2])]) (fun s_ w' => (w'.cell? ⟨gb333, 0, none⟩ = some (.slice A0_0 l0_0.length c0_0) ∧ w'.cell? ⟨gb333, 1, none⟩ = some (.slice A0_1 l0_1.length c0_1)) ∧ (Kd.R (Kd.int .i64) 3 w' w.heap.size (fun k_ => some k_ ≠ (s_.2.1 : Value).ownBlock ∧ some k_ ≠ (s_.2.2 : Value).ownBlock) s_.1 t336) ∧ (Kd.R (Kd.int .i64) 3 w' w.heap.size (fun k_ => some k_ ≠ (s_.1 : Value).ownBlock ∧ some k_ ≠ (s_.2.2 : Value).ownBlock) s_.2.1 y339) ∧ (Kd.R (Kd.int .i64) 3 w' w.heap.size (fun k_ => some k_ ≠ (s_.1 : Value).ownBlock ∧ some k_ ≠ (s_.2.1 : Value).ownBlock) s_.2.2 y342) ∧ (w'.heap[gb333]? = some (.cells #[.slice A0_0 l0_0.length c0_0, .slice A0_1 l0_1.length c0_1] 30 (0, 0))) ∧ (w'.heap[gb334]? = some (.cells #[.slice none 0 0, .slice none 0 0, .slice none 0 0] 64 (0, 0))) ∧ (Below w.heap.size w w')) ?_ ?_
     rotate_left
     ·intro hJ1_3_5
      refine join_ (σ := Value × Value × Nat) 3 #[true, true, true, true, true, false, false, true, false] (fun s_ => [(21, s_.1), (23, s_.2.1), (5, .pointer (some ⟨s_.2.2, 0, none⟩))]) (fun s_ w' => (w'.cell? ⟨gb333, 0, none⟩ = some (.slice A0_0 l0_0.length c0_0) ∧ w'.cell? ⟨gb333, 1, none⟩ = some (.slice A0_1 l0_1.length c0_1)) ∧ (Kd.R (Kd.int .i64) 3 w' w.heap.size (fun k_ => some k_ ≠ (s_.2.1 : Value).ownBlock) s_.1 t336) ∧ (Kd.R (Kd.int .i64) 3 w' w.heap.size (fun k_ => some k_ ≠ (s_.1 : Value).ownBlock) s_.2.1 y339) ∧ (w'.heap[gb333]? = some (.cells #[.slice A0_0 l0_0.length c0_0, .slice A0_1 l0_1.length c0_1] 30 (0, 0))) ∧ (w'.heap[gb334]? = some (.cells #[.slice none 0 0, .slice none 0 0, .slice none 0 0] 64 (0, 0))) ∧ (w'.heap[s_.2.2]? = some (.cells #[.slice none 0 0, .slice none 0 0, .slice none 0 0] 64 (0, 0))) ∧ (w.heap.size ≤ s_.2.2) ∧ (w.heap.size ≤ s_.2.2) ∧ (gb333 ≠ s_.2.2) ∧ (s_.2.2 ≠ gb333) ∧ (gb334 ≠ s_.2.2) ∧ (s_.2.2 ≠ gb334) ∧ (Below w.heap.size w w')) ?_ ?_
      rotate_left
      ·intro hJ1_3_7
       refine join_ (σ := Value × Value × Nat) 3 #[true, true, true, false, true, true, false, true, false] (fun s_ => [(21, s_.1), (25, s_.2.1), (5, .pointer (some ⟨s_.2.2, 0, none⟩))]) (fun s_ w' => (w'.cell? ⟨gb333, 0, none⟩ = some (.slice A0_0 l0_0.length c0_0) ∧ w'.cell? ⟨gb333, 1, none⟩ = some (.slice A0_1 l0_1.length c0_1)) ∧ (Kd.R (Kd.int .i64) 3 w' w.heap.size (fun k_ => some k_ ≠ (s_.2.1 : Value).ownBlock) s_.1 t336) ∧ (Kd.R (Kd.int .i64) 3 w' w.heap.size (fun k_ => some k_ ≠ (s_.1 : Value).ownBlock) s_.2.1 y342) ∧ (w'.heap[gb333]? = some (.cells #[.slice A0_0 l0_0.length c0_0, .slice A0_1 l0_1.length c0_1] 30 (0, 0))) ∧ (w'.heap[gb334]? = some (.cells #[.slice none 0 0, .slice none 0 0, .slice none 0 0] 64 (0, 0))) ∧ (w'.heap[s_.2.2]? = some (.cells #[.slice none 0 0, .slice none 0 0, .slice none 0 0] 64 (0, 0))) ∧ (w.heap.size ≤ s_.2.2) ∧ (w.heap.size ≤ s_.2.2) ∧ (gb333 ≠ s_.2.2) ∧ (s_.2.2 ≠ gb333) ∧ (gb334 ≠ s_.2.2) ∧ (s_.2.2 ≠ gb334) ∧ (Below w.heap.size w w')) ?_ ?_
       rotate_left
       ·intro hJ1_5_7
        refine join_ (σ := Value × Value × Nat) 3 #[true, false, true, true, true, true, false, true, false] (fun s_ => [(23, s_.1), (25, s_.2.1), (5, .pointer (some ⟨s_.2.2, 0, none⟩))]) (fun s_ w' => (w'.cell? ⟨gb333, 0, none⟩ = some (.slice A0_0 l0_0.length c0_0) ∧ w'.cell? ⟨gb333, 1, none⟩ = some (.slice A0_1 l0_1.length c0_1)) ∧ (Kd.R (Kd.int .i64) 3 w' w.heap.size (fun k_ => some k_ ≠ (s_.2.1 : Value).ownBlock) s_.1 y339) ∧ (Kd.R (Kd.int .i64) 3 w' w.heap.size (fun k_ => some k_ ≠ (s_.1 : Value).ownBlock) s_.2.1 y342) ∧ (w'.heap[gb333]? = some (.cells #[.slice A0_0 l0_0.length c0_0, .slice A0_1 l0_1.length c0_1] 30 (0, 0))) ∧ (w'.heap[gb334]? = some (.cells #[.slice none 0 0, .slice none 0 0, .slice none 0 0] 64 (0, 0))) ∧ (w'.heap[s_.2.2]? = some (.cells #[.slice none 0 0, .slice none 0 0, .slice none 0 0] 64 (0, 0))) ∧ (w.heap.size ≤ s_.2.2) ∧ (w.heap.size ≤ s_.2.2) ∧ (gb333 ≠ s_.2.2) ∧ (s_.2.2 ≠ gb333) ∧ (gb334 ≠ s_.2.2) ∧ (s_.2.2 ≠ gb334) ∧ (Below w.heap.size w w')) ?_ ?_
        rotate_left
        ·intro hJ3_5_7
         refine join_ (σ := Value × Value) 4 #[true, true, true, true, true, false, false, false, false] (fun s_ => [(21, s_.1), (23, s_.2)]) (fun s_ w' => (w'.cell? ⟨gb333, 0, none⟩ = some (.slice A0_0 l0_0.length c0_0) ∧ w'.cell? ⟨gb333, 1, none⟩ = some (.slice A0_1 l0_1.length c0_1)) ∧ (Kd.R (Kd.int .i64) 3 w' w.heap.size (fun k_ => some k_ ≠ (s_.2 : Value).ownBlock) s_.1 t336) ∧ (Kd.R (Kd.int .i64) 3 w' w.heap.size (fun k_ => some k_ ≠ (s_.1 : Value).ownBlock) s_.2 y339) ∧ (w'.heap[gb333]? = some (.cells #[.slice A0_0 l0_0.length c0_0, .slice A0_1 l0_1.length c0_1] 30 (0, 0))) ∧ (w'.heap[gb334]? = some (.cells #[.slice none 0 0, .slice none 0 0, .slice none 0 0] 64 (0, 0))) ∧ (Below w.heap.size w w')) ?_ ?_
         rotate_left
         ·intro hJ1_3
          refine join_ (σ := Value × Value) 4 #[true, true, true, false, true, true, false, false, false] (fun s_ => [(21, s_.1), (25, s_.2)]) (fun s_ w' => (w'.cell? ⟨gb333, 0, none⟩ = some (.slice A0_0 l0_0.length c0_0) ∧ w'.cell? ⟨gb333, 1, none⟩ = some (.slice A0_1 l0_1.length c0_1)) ∧ (Kd.R (Kd.int .i64) 3 w' w.heap.size (fun k_ => some k_ ≠ (s_.2 : Value).ownBlock) s_.1 t336) ∧ (Kd.R (Kd.int .i64) 3 w' w.heap.size (fun k_ => some k_ ≠ (s_.1 : Value).ownBlock) s_.2 y342) ∧ (w'.heap[gb333]? = some (.cells #[.slice A0_0 l0_0.length c0_0, .slice A0_1 l0_1.length c0_1] 30 (0, 0))) ∧ (w'.heap[gb334]? = some (.cells #[.slice none 0 0, .slice none 0 0, .slice none 0 0] 64 (0, 0))) ∧ (Below w.heap.size w w')) ?_ ?_
          rotate_left
          ·intro hJ1_5
           refine join_ (σ := Value × Nat) 4 #[true, true, true, false, true, false, false, true, false] (fun s_ => [(21, s_.1), (5, .pointer (some ⟨s_.2, 0, none⟩))]) (fun s_ w' => (w'.cell? ⟨gb333, 0, none⟩ = some (.slice A0_0 l0_0.length c0_0) ∧ w'.cell? ⟨gb333, 1, none⟩ = some (.slice A0_1 l0_1.length c0_1)) ∧ (Kd.R (Kd.int .i64) 3 w' w.heap.size (fun _ => True) s_.1 t336) ∧ (w'.heap[gb333]? = some (.cells #[.slice A0_0 l0_0.length c0_0, .slice A0_1 l0_1.length c0_1] 30 (0, 0))) ∧ (w'.heap[gb334]? = some (.cells #[.slice none 0 0, .slice none 0 0, .slice none 0 0] 64 (0, 0))) ∧ (w'.heap[s_.2]? = some (.cells #[.slice none 0 0, .slice none 0 0, .slice none 0 0] 64 (0, 0))) ∧ (w.heap.size ≤ s_.2) ∧ (w.heap.size ≤ s_.2) ∧ (gb333 ≠ s_.2) ∧ (s_.2 ≠ gb333) ∧ (gb334 ≠ s_.2) ∧ (s_.2 ≠ gb334) ∧ (Below w.heap.size w w')) ?_ ?_
           rotate_left
           ·intro hJ1_7
            refine join_ (σ := Value × Value) 4 #[true, false, true, true, true, true, false, false, false] (fun s_ => [(23, s_.1), (25, s_.2)]) (fun s_ w' => (w'.cell? ⟨gb333, 0, none⟩ = some (.slice A0_0 l0_0.length c0_0) ∧ w'.cell? ⟨gb333, 1, none⟩ = some (.slice A0_1 l0_1.length c0_1)) ∧ (Kd.R (Kd.int .i64) 3 w' w.heap.size (fun k_ => some k_ ≠ (s_.2 : Value).ownBlock) s_.1 y339) ∧ (Kd.R (Kd.int .i64) 3 w' w.heap.size (fun k_ => some k_ ≠ (s_.1 : Value).ownBlock) s_.2 y342) ∧ (w'.heap[gb333]? = some (.cells #[.slice A0_0 l0_0.length c0_0, .slice A0_1 l0_1.length c0_1] 30 (0, 0))) ∧ (w'.heap[gb334]? = some (.cells #[.slice none 0 0, .slice none 0 0, .slice none 0 0] 64 (0, 0))) ∧ (Below w.heap.size w w')) ?_ ?_
            rotate_left
            ·intro hJ3_5
             refine join_ (σ := Value × Nat) 4 #[true, false, true, true, true, false, false, true, false] (fun s_ => [(23, s_.1), (5, .pointer (some ⟨s_.2, 0, none⟩))]) (fun s_ w' => (w'.cell? ⟨gb333, 0, none⟩ = some (.slice A0_0 l0_0.length c0_0) ∧ w'.cell? ⟨gb333, 1, none⟩ = some (.slice A0_1 l0_1.length c0_1)) ∧ (Kd.R (Kd.int .i64) 3 w' w.heap.size (fun _ => True) s_.1 y339) ∧ (w'.heap[gb333]? = some (.cells #[.slice A0_0 l0_0.length c0_0, .slice A0_1 l0_1.length c0_1] 30 (0, 0))) ∧ (w'.heap[gb334]? = some (.cells #[.slice none 0 0, .slice none 0 0, .slice none 0 0] 64 (0, 0))) ∧ (w'.heap[s_.2]? = some (.cells #[.slice none 0 0, .slice none 0 0, .slice none 0 0] 64 (0, 0))) ∧ (w.heap.size ≤ s_.2) ∧ (w.heap.size ≤ s_.2) ∧ (gb333 ≠ s_.2) ∧ (s_.2 ≠ gb333) ∧ (gb334 ≠ s_.2) ∧ (s_.2 ≠ gb334) ∧ (Below w.heap.size w w')) ?_ ?_
             rotate_left
             ·intro hJ3_7
              refine join_ (σ := Value × Nat) 4 #[true, false, true, false, true, true, false, true, false] (fun s_ => [(25, s_.1), (5, .pointer (some ⟨s_.2, 0, none⟩))]) (fun s_ w' => (w'.cell? ⟨gb333, 0, none⟩ = some (.slice A0_0 l0_0.length c0_0) ∧ w'.cell? ⟨gb333, 1, none⟩ = some (.slice A0_1 l0_1.length c0_1)) ∧ (Kd.R (Kd.int .i64) 3 w' w.heap.size (fun _ => True) s_.1 y342) ∧ (w'.heap[gb333]? = some (.cells #[.slice A0_0 l0_0.length c0_0, .slice A0_1 l0_1.length c0_1] 30 (0, 0))) ∧ (w'.heap[gb334]? = some (.cells #[.slice none 0 0, .slice none 0 0, .slice none 0 0] 64 (0, 0))) ∧ (w'.heap[s_.2]? = some (.cells #[.slice none 0 0, .slice none 0 0, .slice none 0 0] 64 (0, 0))) ∧ (w.heap.size ≤ s_.2) ∧ (w.heap.size ≤ s_.2) ∧ (gb333 ≠ s_.2) ∧ (s_.2 ≠ gb333) ∧ (gb334 ≠ s_.2) ∧ (s_.2 ≠ gb334) ∧ (Below w.heap.size w w')) ?_ ?_
              rotate_left
              ·intro hJ5_7
               refine join_ (σ := Value) 5 #[true, true, true, false, true, false, false, false, false] (fun s_ => [(21, s_)]) (fun s_ w' => (w'.cell? ⟨gb333, 0, none⟩ = some (.slice A0_0 l0_0.length c0_0) ∧ w'.cell? ⟨gb333, 1, none⟩ = some (.slice A0_1 l0_1.length c0_1)) ∧ (Kd.R (Kd.int .i64) 3 w' w.heap.size (fun _ => True) s_ t336) ∧ (w'.heap[gb333]? = some (.cells #[.slice A0_0 l0_0.length c0_0, .slice A0_1 l0_1.length c0_1] 30 (0, 0))) ∧ (w'.heap[gb334]? = some (.cells #[.slice none 0 0, .slice none 0 0, .slice none 0 0] 64 (0, 0))) ∧ (Below w.heap.size w w')) ?_ ?_
               rotate_left
               ·intro hJ1
                refine join_ (σ := Value) 5 #[true, false, true, true, true, false, false, false, false] (fun s_ => [(23, s_)]) (fun s_ w' => (w'.cell? ⟨gb333, 0, none⟩ = some (.slice A0_0 l0_0.length c0_0) ∧ w'.cell? ⟨gb333, 1, none⟩ = some (.slice A0_1 l0_1.length c0_1)) ∧ (Kd.R (Kd.int .i64) 3 w' w.heap.size (fun _ => True) s_ y339) ∧ (w'.heap[gb333]? = some (.cells #[.slice A0_0 l0_0.length c0_0, .slice A0_1 l0_1.length c0_1] 30 (0, 0))) ∧ (w'.heap[gb334]? = some (.cells #[.slice none 0 0, .slice none 0 0, .slice none 0 0] 64 (0, 0))) ∧ (Below w.heap.size w w')) ?_ ?_
                rotate_left
                ·intro hJ3
                 refine join_ (σ := Value) 5 #[true, false, true, false, true, true, false, false, false] (fun s_ => [(25, s_)]) (fun s_ w' => (w'.cell? ⟨gb333, 0, none⟩ = some (.slice A0_0 l0_0.length c0_0) ∧ w'.cell? ⟨gb333, 1, none⟩ = some (.slice A0_1 l0_1.length c0_1)) ∧ (Kd.R (Kd.int .i64) 3 w' w.heap.size (fun _ => True) s_ y342) ∧ (w'.heap[gb333]? = some (.cells #[.slice A0_0 l0_0.length c0_0, .slice A0_1 l0_1.length c0_1] 30 (0, 0))) ∧ (w'.heap[gb334]? = some (.cells #[.slice none 0 0, .slice none 0 0, .slice none 0 0] 64 (0, 0))) ∧ (Below w.heap.size w w')) ?_ ?_
                 rotate_left
                 ·intro hJ5
                  refine join_ (σ := Nat) 5 #[true, false, true, false, true, false, false, true, false] (fun s_ => [(5, .pointer (some ⟨s_, 0, none⟩))]) (fun s_ w' => (w'.cell? ⟨gb333, 0, none⟩ = some (.slice A0_0 l0_0.length c0_0) ∧ w'.cell? ⟨gb333, 1, none⟩ = some (.slice A0_1 l0_1.length c0_1)) ∧ (w'.heap[gb333]? = some (.cells #[.slice A0_0 l0_0.length c0_0, .slice A0_1 l0_1.length c0_1] 30 (0, 0))) ∧ (w'.heap[gb334]? = some (.cells #[.slice none 0 0, .slice none 0 0, .slice none 0 0] 64 (0, 0))) ∧ (w'.heap[s_]? = some (.cells #[.slice none 0 0, .slice none 0 0, .slice none 0 0] 64 (0, 0))) ∧ (w.heap.size ≤ s_) ∧ (w.heap.size ≤ s_) ∧ (gb333 ≠ s_) ∧ (s_ ≠ gb333) ∧ (gb334 ≠ s_) ∧ (s_ ≠ gb334) ∧ (Below w.heap.size w w')) ?_ ?_
                  rotate_left
                  ·intro hJ7
                   refine four_ (i := 1) (j := 3) (k := 5) (m := 7) (Ni := some 21) (Nj := some 23) (Nk := some 25) (Nm := some 5) #[true, true, true, false, true, false, false, false, false] #[true, false, true, true, true, false, false, false, false] #[true, false, true, false, true, true, false, false, false] #[true, false, true, false, true, false, false, true, false] rfl rfl rfl rfl rfl rfl rfl rfl (four_of HT_.out impl_newOrder.a29) impl_newOrder.a30 impl_newOrder.a30 impl_newOrder.a30 impl_newOrder.a30 (fun K hK => ?_) (fun K hK => ?_) (fun K hK => ?_) (fun K hK => ?_)
                   ·skip
                    refine goes_ Try.func46 impl_newOrder.a29 rfl #[.agg #[.slice A0_0 l0_0.length c0_0, .slice A0_1 l0_1.length c0_1]] (by rfl) rfl rfl impl_newOrder.a10 ?_
                    with_reducible refine (impl_sortsAbove.calls k _ _ l0_0 _ _ l0_1 t336 _ ?side1 ?side2 ?side3 ?side4 A4.out).mono ?_
                    (case side1 => repeat (first | exact (Kd.C_below HR0_0.out HB.out) | (with_reducible refine Kd.C_alloc ?_ _) | (with_reducible refine Kd.C_drewN ?_ _) | (with_reducible refine Kd.C_drew ?_)))
                    (case side2 => exact HC0_0.out)
                    (case side3 => repeat (first | exact (Kd.C_below HR0_1.out HB.out) | (with_reducible refine Kd.C_alloc ?_ _) | (with_reducible refine Kd.C_drewN ?_ _) | (with_reducible refine Kd.C_drew ?_)))
                    (case side4 => exact HC0_1.out)
                    rintro e w14 ⟨v337, rfl, ho0, hb⟩
                    refine ⟨_, rfl, ?_⟩
                    have n0_ := Aside0.mk (Kd.R_lower ho0 (below_size impl_newOrder.a1))
                    have n1_ := Aside0.mk (blk_below (g := gb333) (o := .cells #[.slice A0_0 l0_0.length c0_0, .slice A0_1 l0_1.length c0_1] 30 (0, 0)) impl_newOrder.a2 hb)
                    have n2_ := Aside0.mk (blk_below (g := gb334) (o := .cells #[.slice none 0 0, .slice none 0 0, .slice none 0 0] 64 (0, 0)) impl_newOrder.a3 hb)
                    have n3_ := Aside0.mk (below_step impl_newOrder.a1 hb)
                    clear BK333
                    clear BK334
                    clear HB
                    have HO338 := n0_
                    have BK333 := n1_
                    have BK334 := n2_
                    have HB := n3_
                    clear n0_ n1_ n2_ n3_
                    (try clear hb)
                    (try clear hb2)
                    (try clear hk)
                    (try clear hi)
                    (try clear ho0)
                    refine hK.out _ _ ⟨(blk_cell BK333.out 0).trans rfl, (blk_cell BK333.out 1).trans rfl⟩ (fun hHeld => ?_)
                    clear hK K
                    refine norm_ (a' := ?_) ?_ ?_
                    rotate_left
                    ·show Act.put _ (some 21) _ = _
                     simp only [Act.put, List.setIfInBounds_toArray, List.set_cons_zero, List.set_cons_succ, i64_w, i32_w]
                     rfl
                    exact norm_ impl_newOrder.a4 (hJ1 (v337) _ ⟨hHeld, impl_newOrder.a6, impl_newOrder.a2, impl_newOrder.a3, impl_newOrder.a1⟩)
                   ·skip
                    refine Kd.R_make_step (Kd.int .i64) _ 3 (by rfl) (N := 23) rfl 44 _ _ rfl (l0_0.length : Int) rfl rfl Try.underlying44 (.int .i64 0) 8 info3 rfl impl_newOrder.a30 (by omega) 0 (ok := fun _ => True) (okp := fun _ => True) rfl (fun _ hk => hk) trivial (of_decide_eq_true impl_newOrder.a9) (Nat.le_trans (Nat.mul_le_mul_right _ (of_decide_eq_true impl_newOrder.a9 : (l0_0.length : Int).toNat ≤ 35184372088832)) (by omega)) (Below.refl _ _) (Nat.le_refl _) ?_
                    intro v340 w14 ho15 hb hg_ hnew_
                    clear hg_ hnew_
                    (first | rw [← Ny339.out] at ho15 | (simp only [Int.reduceToNat] at ho15; rw [← Ny339.out] at ho15))
                    have n0_ := Aside0.mk (Kd.R_lower ho15 (below_size impl_newOrder.a1))
                    have n1_ := Aside0.mk (blk_below (g := gb333) (o := .cells #[.slice A0_0 l0_0.length c0_0, .slice A0_1 l0_1.length c0_1] 30 (0, 0)) impl_newOrder.a2 hb)
                    have n2_ := Aside0.mk (blk_below (g := gb334) (o := .cells #[.slice none 0 0, .slice none 0 0, .slice none 0 0] 64 (0, 0)) impl_newOrder.a3 hb)
                    have n3_ := Aside0.mk (below_step impl_newOrder.a1 hb)
                    clear BK333
                    clear BK334
                    clear HB
                    have HO341 := n0_
                    have BK333 := n1_
                    have BK334 := n2_
                    have HB := n3_
                    clear n0_ n1_ n2_ n3_
                    clear hb ho15
                    refine hK.out _ _ ⟨(blk_cell BK333.out 0).trans rfl, (blk_cell BK333.out 1).trans rfl⟩ (fun hHeld => ?_)
                    clear hK K
                    refine norm_ (a' := ?_) ?_ ?_
                    rotate_left
                    ·show Act.put _ (some 23) _ = _
                     simp only [Act.put, List.setIfInBounds_toArray, List.set_cons_zero, List.set_cons_succ, i64_w, i32_w]
                     rfl
                    exact norm_ impl_newOrder.a4 (hJ3 (v340) _ ⟨hHeld, impl_newOrder.a7, impl_newOrder.a2, impl_newOrder.a3, impl_newOrder.a1⟩)
                   ·skip
                    refine Kd.R_make_step (Kd.int .i64) _ 3 (by rfl) (N := 25) rfl 44 _ _ rfl (l0_0.length : Int) rfl rfl Try.underlying44 (.int .i64 0) 8 info3 rfl impl_newOrder.a30 (by omega) 0 (ok := fun _ => True) (okp := fun _ => True) rfl (fun _ hk => hk) trivial (of_decide_eq_true impl_newOrder.a9) (Nat.le_trans (Nat.mul_le_mul_right _ (of_decide_eq_true impl_newOrder.a9 : (l0_0.length : Int).toNat ≤ 35184372088832)) (by omega)) (Below.refl _ _) (Nat.le_refl _) ?_
                    intro v343 w14 ho15 hb hg_ hnew_
                    clear hg_ hnew_
                    (first | rw [← Ny342.out] at ho15 | (simp only [Int.reduceToNat] at ho15; rw [← Ny342.out] at ho15))
                    have n0_ := Aside0.mk (Kd.R_lower ho15 (below_size impl_newOrder.a1))
                    have n1_ := Aside0.mk (blk_below (g := gb333) (o := .cells #[.slice A0_0 l0_0.length c0_0, .slice A0_1 l0_1.length c0_1] 30 (0, 0)) impl_newOrder.a2 hb)
                    have n2_ := Aside0.mk (blk_below (g := gb334) (o := .cells #[.slice none 0 0, .slice none 0 0, .slice none 0 0] 64 (0, 0)) impl_newOrder.a3 hb)
                    have n3_ := Aside0.mk (below_step impl_newOrder.a1 hb)
                    clear BK333
                    clear BK334
                    clear HB
                    have HO344 := n0_
                    have BK333 := n1_
                    have BK334 := n2_
                    have HB := n3_
                    clear n0_ n1_ n2_ n3_
                    clear hb ho15
                    refine hK.out _ _ ⟨(blk_cell BK333.out 0).trans rfl, (blk_cell BK333.out 1).trans rfl⟩ (fun hHeld => ?_)
                    clear hK K
                    refine norm_ (a' := ?_) ?_ ?_
                    rotate_left
                    ·show Act.put _ (some 25) _ = _
                     simp only [Act.put, List.setIfInBounds_toArray, List.set_cons_zero, List.set_cons_succ, i64_w, i32_w]
                     rfl
                    exact norm_ impl_newOrder.a4 (hJ5 (v343) _ ⟨hHeld, impl_newOrder.a8, impl_newOrder.a2, impl_newOrder.a3, impl_newOrder.a1⟩)
                   ·skip
                    refine box_step ?hg (N := 5) ?hd (cs := #[.slice none 0 0, .slice none 0 0, .slice none 0 0]) (t := 64) ?hr ?_; (case hd => rfl); (case hg => rfl); (case hr => first | (go_simp; done) | (go_simp; rfl))
                    intro gb345 hg w14 hbox hb
                    have n0_ := Aside0.mk (blk_below (g := gb333) (o := .cells #[.slice A0_0 l0_0.length c0_0, .slice A0_1 l0_1.length c0_1] 30 (0, 0)) impl_newOrder.a2 hb)
                    have n1_ := Aside0.mk (blk_below (g := gb334) (o := .cells #[.slice none 0 0, .slice none 0 0, .slice none 0 0] 64 (0, 0)) impl_newOrder.a3 hb)
                    have n2_ := Aside0.mk (below_step impl_newOrder.a1 hb)
                    have n3_ := Aside0.mk (hbox)
                    have n4_ := Aside0.mk ((by rw [hg]; exact (below_size impl_newOrder.a1) : w.heap.size ≤ gb345))
                    have n5_ := Aside0.mk ((by rw [hg]; exact (below_size impl_newOrder.a1) : w.heap.size ≤ gb345))
                    have n6_ := Aside0.mk ((by rw [hg]; exact Nat.ne_of_lt (blk_lt (g := gb333) (o := .cells #[.slice A0_0 l0_0.length c0_0, .slice A0_1 l0_1.length c0_1] 30 (0, 0)) impl_newOrder.a2) : gb333 ≠ gb345))
                    have n7_ := Aside0.mk ((by rw [hg]; exact Nat.ne_of_gt (blk_lt (g := gb333) (o := .cells #[.slice A0_0 l0_0.length c0_0, .slice A0_1 l0_1.length c0_1] 30 (0, 0)) impl_newOrder.a2) : gb345 ≠ gb333))
                    have n8_ := Aside0.mk ((by rw [hg]; exact Nat.ne_of_lt (blk_lt (g := gb334) (o := .cells #[.slice none 0 0, .slice none 0 0, .slice none 0 0] 64 (0, 0)) impl_newOrder.a3) : gb334 ≠ gb345))
                    have n9_ := Aside0.mk ((by rw [hg]; exact Nat.ne_of_gt (blk_lt (g := gb334) (o := .cells #[.slice none 0 0, .slice none 0 0, .slice none 0 0] 64 (0, 0)) impl_newOrder.a3) : gb345 ≠ gb334))
                    clear BK333
                    clear BK334
                    clear HB
                    have BK333 := n0_
                    have BK334 := n1_
                    have HB := n2_
                    have BK345 := n3_
                    have GW345 := n4_
                    have GE345 := n5_
                    have NB333_345 := n6_
                    have NB345_333 := n7_
                    have NB334_345 := n8_
                    have NB345_334 := n9_
                    clear n0_ n1_ n2_ n3_ n4_ n5_ n6_ n7_ n8_ n9_
                    clear hb hbox hg
                    refine hK.out _ _ ⟨(blk_cell BK333.out 0).trans rfl, (blk_cell BK333.out 1).trans rfl⟩ (fun hHeld => ?_)
                    clear hK K
                    refine norm_ (a' := ?_) ?_ ?_
                    rotate_left
                    ·show Act.put _ (some 5) _ = _
                     simp only [Act.put, List.setIfInBounds_toArray, List.set_cons_zero, List.set_cons_succ, i64_w, i32_w]
                     rfl
                    exact norm_ impl_newOrder.a4 (hJ7 (gb345) _ ⟨hHeld, impl_newOrder.a2, impl_newOrder.a3, impl_newOrder.a5, GW345.out, GE345.out, NB333_345.out, NB345_333.out, NB334_345.out, NB345_334.out, impl_newOrder.a0⟩)
                  ·skip
                   rintro gb345 w15 ⟨hS_, h0_, h1_, h2_, h3_, h4_, h5_, h6_, h7_, h8_, h9_⟩
                   have n0_ : Aside0 (w15.heap[gb333]? = some (.cells #[.slice A0_0 l0_0.length c0_0, .slice A0_1 l0_1.length c0_1] 30 (0, 0))) := ⟨h0_⟩
                   have n1_ : Aside0 (w15.heap[gb334]? = some (.cells #[.slice none 0 0, .slice none 0 0, .slice none 0 0] 64 (0, 0))) := ⟨h1_⟩
                   have n2_ : Aside0 (w15.heap[gb345]? = some (.cells #[.slice none 0 0, .slice none 0 0, .slice none 0 0] 64 (0, 0))) := ⟨h2_⟩
                   have n3_ : Aside0 (w.heap.size ≤ gb345) := ⟨h3_⟩
                   have n4_ : Aside0 (w.heap.size ≤ gb345) := ⟨h4_⟩
                   have n5_ : Aside0 (gb333 ≠ gb345) := ⟨h5_⟩
                   have n6_ : Aside0 (gb345 ≠ gb333) := ⟨h6_⟩
                   have n7_ : Aside0 (gb334 ≠ gb345) := ⟨h7_⟩
                   have n8_ : Aside0 (gb345 ≠ gb334) := ⟨h8_⟩
                   have n9_ : Aside0 (Below w.heap.size w w15) := ⟨h9_⟩
                   clear BK333
                   clear BK334
                   clear HB
                   clear h0_ h1_ h2_ h3_ h4_ h5_ h6_ h7_ h8_ h9_
                   have BK333 := n0_
                   have BK334 := n1_
                   have BK345 := n2_
                   have GW345 := n3_
                   have GE345 := n4_
                   have NB333_345 := n5_
                   have NB345_333 := n6_
                   have NB334_345 := n7_
                   have NB345_334 := n8_
                   have HB := n9_
                   clear n0_ n1_ n2_ n3_ n4_ n5_ n6_ n7_ n8_ n9_
                   have hHeld : w15.cell? ⟨gb333, 0, none⟩ = some (.slice A0_0 l0_0.length c0_0) ∧ w15.cell? ⟨gb333, 1, none⟩ = some (.slice A0_1 l0_1.length c0_1) := hS_
                   refine norm_ (a' := ?_) ?_ ?_
                   rotate_left
                   ·simp only [putAll, Act.put, List.setIfInBounds_toArray, List.set_cons_zero, List.set_cons_succ]
                    rfl
                   refine three_ (i := 1) (j := 3) (k := 5) (Ni := some 21) (Nj := some 23) (Nk := some 25) #[true, true, true, false, true, false, false, true, false] #[true, false, true, true, true, false, false, true, false] #[true, false, true, false, true, true, false, true, false] rfl rfl rfl rfl rfl rfl (three_of HT_.out impl_newOrder.a29) impl_newOrder.a30 impl_newOrder.a30 impl_newOrder.a30 (fun K hK => ?_) (fun K hK => ?_) (fun K hK => ?_)
                   ·skip
                    refine goes_ Try.func46 impl_newOrder.a29 rfl #[.agg #[.slice A0_0 l0_0.length c0_0, .slice A0_1 l0_1.length c0_1]] (by rfl) rfl rfl impl_newOrder.a10 ?_
                    with_reducible refine (impl_sortsAbove.calls k _ _ l0_0 _ _ l0_1 t336 _ ?side1 ?side2 ?side3 ?side4 A4.out).mono ?_
                    (case side1 => repeat (first | exact (Kd.C_below HR0_0.out HB.out) | (with_reducible refine Kd.C_alloc ?_ _) | (with_reducible refine Kd.C_drewN ?_ _) | (with_reducible refine Kd.C_drew ?_)))
                    (case side2 => exact HC0_0.out)
                    (case side3 => repeat (first | exact (Kd.C_below HR0_1.out HB.out) | (with_reducible refine Kd.C_alloc ?_ _) | (with_reducible refine Kd.C_drewN ?_ _) | (with_reducible refine Kd.C_drew ?_)))
                    (case side4 => exact HC0_1.out)
                    rintro e w16 ⟨v337, rfl, ho0, hb⟩
                    refine ⟨_, rfl, ?_⟩
                    have n0_ := Aside0.mk (Kd.R_lower ho0 (below_size impl_newOrder.a0))
                    have n1_ := Aside0.mk (blk_below (g := gb333) (o := .cells #[.slice A0_0 l0_0.length c0_0, .slice A0_1 l0_1.length c0_1] 30 (0, 0)) impl_newOrder.a2 hb)
                    have n2_ := Aside0.mk (blk_below (g := gb334) (o := .cells #[.slice none 0 0, .slice none 0 0, .slice none 0 0] 64 (0, 0)) impl_newOrder.a3 hb)
                    have n3_ := Aside0.mk (blk_below (g := gb345) (o := .cells #[.slice none 0 0, .slice none 0 0, .slice none 0 0] 64 (0, 0)) impl_newOrder.a5 hb)
                    have n4_ := Aside0.mk (below_step impl_newOrder.a0 hb)
                    clear BK333
                    clear BK334
                    clear BK345
                    clear HB
                    have HO338 := n0_
                    have BK333 := n1_
                    have BK334 := n2_
                    have BK345 := n3_
                    have HB := n4_
                    clear n0_ n1_ n2_ n3_ n4_
                    (try clear hb)
                    (try clear hb2)
                    (try clear hk)
                    (try clear hi)
                    (try clear ho0)
                    refine hK.out _ _ ⟨(blk_cell BK333.out 0).trans rfl, (blk_cell BK333.out 1).trans rfl⟩ (fun hHeld => ?_)
                    clear hK K
                    refine norm_ (a' := ?_) ?_ ?_
                    rotate_left
                    ·show Act.put _ (some 21) _ = _
                     simp only [Act.put, List.setIfInBounds_toArray, List.set_cons_zero, List.set_cons_succ, i64_w, i32_w]
                     rfl
                    exact norm_ impl_newOrder.a4 (hJ1_7 (v337, gb345) _ ⟨hHeld, impl_newOrder.a6, impl_newOrder.a2, impl_newOrder.a3, impl_newOrder.a5, GW345.out, GE345.out, NB333_345.out, NB345_333.out, NB334_345.out, NB345_334.out, impl_newOrder.a0⟩)
                   ·skip
                    refine Kd.R_make_step (Kd.int .i64) _ 3 (by rfl) (N := 23) rfl 44 _ _ rfl (l0_0.length : Int) rfl rfl Try.underlying44 (.int .i64 0) 8 info3 rfl impl_newOrder.a30 (by omega) 0 (ok := fun _ => True) (okp := fun _ => True) rfl (fun _ hk => hk) trivial (of_decide_eq_true impl_newOrder.a9) (Nat.le_trans (Nat.mul_le_mul_right _ (of_decide_eq_true impl_newOrder.a9 : (l0_0.length : Int).toNat ≤ 35184372088832)) (by omega)) (Below.refl _ _) (Nat.le_refl _) ?_
                    intro v340 w16 ho17 hb hg_ hnew_
                    clear hg_ hnew_
                    (first | rw [← Ny339.out] at ho17 | (simp only [Int.reduceToNat] at ho17; rw [← Ny339.out] at ho17))
                    have n0_ := Aside0.mk (Kd.R_lower ho17 (below_size impl_newOrder.a0))
                    have n1_ := Aside0.mk (blk_below (g := gb333) (o := .cells #[.slice A0_0 l0_0.length c0_0, .slice A0_1 l0_1.length c0_1] 30 (0, 0)) impl_newOrder.a2 hb)
                    have n2_ := Aside0.mk (blk_below (g := gb334) (o := .cells #[.slice none 0 0, .slice none 0 0, .slice none 0 0] 64 (0, 0)) impl_newOrder.a3 hb)
                    have n3_ := Aside0.mk (blk_below (g := gb345) (o := .cells #[.slice none 0 0, .slice none 0 0, .slice none 0 0] 64 (0, 0)) impl_newOrder.a5 hb)
                    have n4_ := Aside0.mk (below_step impl_newOrder.a0 hb)
                    clear BK333
                    clear BK334
                    clear BK345
                    clear HB
                    have HO341 := n0_
                    have BK333 := n1_
                    have BK334 := n2_
                    have BK345 := n3_
                    have HB := n4_
                    clear n0_ n1_ n2_ n3_ n4_
                    clear hb ho17
                    refine hK.out _ _ ⟨(blk_cell BK333.out 0).trans rfl, (blk_cell BK333.out 1).trans rfl⟩ (fun hHeld => ?_)
                    clear hK K
                    refine norm_ (a' := ?_) ?_ ?_
                    rotate_left
                    ·show Act.put _ (some 23) _ = _
                     simp only [Act.put, List.setIfInBounds_toArray, List.set_cons_zero, List.set_cons_succ, i64_w, i32_w]
                     rfl
                    exact norm_ impl_newOrder.a4 (hJ3_7 (v340, gb345) _ ⟨hHeld, impl_newOrder.a7, impl_newOrder.a2, impl_newOrder.a3, impl_newOrder.a5, GW345.out, GE345.out, NB333_345.out, NB345_333.out, NB334_345.out, NB345_334.out, impl_newOrder.a0⟩)
                   ·skip
                    refine Kd.R_make_step (Kd.int .i64) _ 3 (by rfl) (N := 25) rfl 44 _ _ rfl (l0_0.length : Int) rfl rfl Try.underlying44 (.int .i64 0) 8 info3 rfl impl_newOrder.a30 (by omega) 0 (ok := fun _ => True) (okp := fun _ => True) rfl (fun _ hk => hk) trivial (of_decide_eq_true impl_newOrder.a9) (Nat.le_trans (Nat.mul_le_mul_right _ (of_decide_eq_true impl_newOrder.a9 : (l0_0.length : Int).toNat ≤ 35184372088832)) (by omega)) (Below.refl _ _) (Nat.le_refl _) ?_
                    intro v343 w16 ho17 hb hg_ hnew_
                    clear hg_ hnew_
                    (first | rw [← Ny342.out] at ho17 | (simp only [Int.reduceToNat] at ho17; rw [← Ny342.out] at ho17))
                    have n0_ := Aside0.mk (Kd.R_lower ho17 (below_size impl_newOrder.a0))
                    have n1_ := Aside0.mk (blk_below (g := gb333) (o := .cells #[.slice A0_0 l0_0.length c0_0, .slice A0_1 l0_1.length c0_1] 30 (0, 0)) impl_newOrder.a2 hb)
                    have n2_ := Aside0.mk (blk_below (g := gb334) (o := .cells #[.slice none 0 0, .slice none 0 0, .slice none 0 0] 64 (0, 0)) impl_newOrder.a3 hb)
                    have n3_ := Aside0.mk (blk_below (g := gb345) (o := .cells #[.slice none 0 0, .slice none 0 0, .slice none 0 0] 64 (0, 0)) impl_newOrder.a5 hb)
                    have n4_ := Aside0.mk (below_step impl_newOrder.a0 hb)
                    clear BK333
                    clear BK334
                    clear BK345
                    clear HB
                    have HO344 := n0_
                    have BK333 := n1_
                    have BK334 := n2_
                    have BK345 := n3_
                    have HB := n4_
                    clear n0_ n1_ n2_ n3_ n4_
                    clear hb ho17
                    refine hK.out _ _ ⟨(blk_cell BK333.out 0).trans rfl, (blk_cell BK333.out 1).trans rfl⟩ (fun hHeld => ?_)
                    clear hK K
                    refine norm_ (a' := ?_) ?_ ?_
                    rotate_left
                    ·show Act.put _ (some 25) _ = _
                     simp only [Act.put, List.setIfInBounds_toArray, List.set_cons_zero, List.set_cons_succ, i64_w, i32_w]
                     rfl
                    exact norm_ impl_newOrder.a4 (hJ5_7 (v343, gb345) _ ⟨hHeld, impl_newOrder.a8, impl_newOrder.a2, impl_newOrder.a3, impl_newOrder.a5, GW345.out, GE345.out, NB333_345.out, NB345_333.out, NB334_345.out, NB345_334.out, impl_newOrder.a0⟩)
                 ·skip
                  rintro v343 w16 ⟨hS_, h0_, h1_, h2_, h3_⟩
                  have n0_ : Aside0 (Kd.R (Kd.int .i64) 3 w16 w.heap.size (fun _ => True) v343 y342) := ⟨h0_⟩
                  have n1_ : Aside0 (w16.heap[gb333]? = some (.cells #[.slice A0_0 l0_0.length c0_0, .slice A0_1 l0_1.length c0_1] 30 (0, 0))) := ⟨h1_⟩
                  have n2_ : Aside0 (w16.heap[gb334]? = some (.cells #[.slice none 0 0, .slice none 0 0, .slice none 0 0] 64 (0, 0))) := ⟨h2_⟩
                  have n3_ : Aside0 (Below w.heap.size w w16) := ⟨h3_⟩
                  clear BK333
                  clear BK334
                  clear HB
                  clear h0_ h1_ h2_ h3_
                  have HO344 := n0_
                  have BK333 := n1_
                  have BK334 := n2_
                  have HB := n3_
                  clear n0_ n1_ n2_ n3_
                  have hHeld : w16.cell? ⟨gb333, 0, none⟩ = some (.slice A0_0 l0_0.length c0_0) ∧ w16.cell? ⟨gb333, 1, none⟩ = some (.slice A0_1 l0_1.length c0_1) := hS_
                  refine norm_ (a' := ?_) ?_ ?_
                  rotate_left
                  ·simp only [putAll, Act.put, List.setIfInBounds_toArray, List.set_cons_zero, List.set_cons_succ]
                   rfl
                  refine three_ (i := 1) (j := 3) (k := 7) (Ni := some 21) (Nj := some 23) (Nk := some 5) #[true, true, true, false, true, true, false, false, false] #[true, false, true, true, true, true, false, false, false] #[true, false, true, false, true, true, false, true, false] rfl rfl rfl rfl rfl rfl (three_of HT_.out impl_newOrder.a29) impl_newOrder.a30 impl_newOrder.a30 impl_newOrder.a30 (fun K hK => ?_) (fun K hK => ?_) (fun K hK => ?_)
                  ·skip
                   refine goes_ Try.func46 impl_newOrder.a29 rfl #[.agg #[.slice A0_0 l0_0.length c0_0, .slice A0_1 l0_1.length c0_1]] (by rfl) rfl rfl impl_newOrder.a10 ?_
                   with_reducible refine (impl_sortsAbove.calls k _ _ l0_0 _ _ l0_1 t336 _ ?side1 ?side2 ?side3 ?side4 A4.out).mono ?_
                   (case side1 => repeat (first | exact (Kd.C_below HR0_0.out HB.out) | (with_reducible refine Kd.C_alloc ?_ _) | (with_reducible refine Kd.C_drewN ?_ _) | (with_reducible refine Kd.C_drew ?_)))
                   (case side2 => exact HC0_0.out)
                   (case side3 => repeat (first | exact (Kd.C_below HR0_1.out HB.out) | (with_reducible refine Kd.C_alloc ?_ _) | (with_reducible refine Kd.C_drewN ?_ _) | (with_reducible refine Kd.C_drew ?_)))
                   (case side4 => exact HC0_1.out)
                   rintro e w17 ⟨v337, rfl, ho0, hb⟩
                   refine ⟨_, rfl, ?_⟩
                   have n0_ := Aside0.mk (Kd.R_elder' impl_newOrder.a8 (Kd.R_base ho0) hb)
                   have n1_ := Aside0.mk (Kd.R_lower (Kd.R_new' ho0 (Kd.R_lt impl_newOrder.a8)) (below_size impl_newOrder.a1))
                   have n2_ := Aside0.mk (blk_below (g := gb333) (o := .cells #[.slice A0_0 l0_0.length c0_0, .slice A0_1 l0_1.length c0_1] 30 (0, 0)) impl_newOrder.a2 hb)
                   have n3_ := Aside0.mk (blk_below (g := gb334) (o := .cells #[.slice none 0 0, .slice none 0 0, .slice none 0 0] 64 (0, 0)) impl_newOrder.a3 hb)
                   have n4_ := Aside0.mk (below_step impl_newOrder.a1 hb)
                   clear HO344
                   clear BK333
                   clear BK334
                   clear HB
                   have HO344 := n0_
                   have HO338 := n1_
                   have BK333 := n2_
                   have BK334 := n3_
                   have HB := n4_
                   clear n0_ n1_ n2_ n3_ n4_
                   (try clear hb)
                   (try clear hb2)
                   (try clear hk)
                   (try clear hi)
                   (try clear ho0)
                   refine hK.out _ _ ⟨(blk_cell BK333.out 0).trans rfl, (blk_cell BK333.out 1).trans rfl⟩ (fun hHeld => ?_)
                   clear hK K
                   refine norm_ (a' := ?_) ?_ ?_
                   rotate_left
                   ·show Act.put _ (some 21) _ = _
                    simp only [Act.put, List.setIfInBounds_toArray, List.set_cons_zero, List.set_cons_succ, i64_w, i32_w]
                    rfl
                   exact norm_ impl_newOrder.a4 (hJ1_5 (v337, v343) _ ⟨hHeld, impl_newOrder.a11, impl_newOrder.a12, impl_newOrder.a2, impl_newOrder.a3, impl_newOrder.a1⟩)
                  ·skip
                   refine Kd.R_make_step (Kd.int .i64) _ 3 (by rfl) (N := 23) rfl 44 _ _ rfl (l0_0.length : Int) rfl rfl Try.underlying44 (.int .i64 0) 8 info3 rfl impl_newOrder.a30 (by omega) 0 (ok := fun _ => True) (okp := fun _ => True) rfl (fun _ hk => hk) trivial (of_decide_eq_true impl_newOrder.a9) (Nat.le_trans (Nat.mul_le_mul_right _ (of_decide_eq_true impl_newOrder.a9 : (l0_0.length : Int).toNat ≤ 35184372088832)) (by omega)) (Below.refl _ _) (Nat.le_refl _) ?_
                   intro v340 w17 ho18 hb hg_ hnew_
                   clear hg_ hnew_
                   (first | rw [← Ny339.out] at ho18 | (simp only [Int.reduceToNat] at ho18; rw [← Ny339.out] at ho18))
                   have n0_ := Aside0.mk (Kd.R_elder' impl_newOrder.a8 (Kd.R_base ho18) hb)
                   have n1_ := Aside0.mk (Kd.R_lower (Kd.R_new' ho18 (Kd.R_lt impl_newOrder.a8)) (below_size impl_newOrder.a1))
                   have n2_ := Aside0.mk (blk_below (g := gb333) (o := .cells #[.slice A0_0 l0_0.length c0_0, .slice A0_1 l0_1.length c0_1] 30 (0, 0)) impl_newOrder.a2 hb)
                   have n3_ := Aside0.mk (blk_below (g := gb334) (o := .cells #[.slice none 0 0, .slice none 0 0, .slice none 0 0] 64 (0, 0)) impl_newOrder.a3 hb)
                   have n4_ := Aside0.mk (below_step impl_newOrder.a1 hb)
                   clear HO344
                   clear BK333
                   clear BK334
                   clear HB
                   have HO344 := n0_
                   have HO341 := n1_
                   have BK333 := n2_
                   have BK334 := n3_
                   have HB := n4_
                   clear n0_ n1_ n2_ n3_ n4_
                   clear hb ho18
                   refine hK.out _ _ ⟨(blk_cell BK333.out 0).trans rfl, (blk_cell BK333.out 1).trans rfl⟩ (fun hHeld => ?_)
                   clear hK K
                   refine norm_ (a' := ?_) ?_ ?_
                   rotate_left
                   ·show Act.put _ (some 23) _ = _
                    simp only [Act.put, List.setIfInBounds_toArray, List.set_cons_zero, List.set_cons_succ, i64_w, i32_w]
                    rfl
                   exact norm_ impl_newOrder.a4 (hJ3_5 (v340, v343) _ ⟨hHeld, impl_newOrder.a13, impl_newOrder.a12, impl_newOrder.a2, impl_newOrder.a3, impl_newOrder.a1⟩)
                  ·skip
                   refine box_step ?hg (N := 5) ?hd (cs := #[.slice none 0 0, .slice none 0 0, .slice none 0 0]) (t := 64) ?hr ?_; (case hd => rfl); (case hg => rfl); (case hr => first | (go_simp; done) | (go_simp; rfl))
                   intro gb345 hg w17 hbox hb
                   have n0_ := Aside0.mk (Kd.R_below impl_newOrder.a8 hb)
                   have n1_ := Aside0.mk (blk_below (g := gb333) (o := .cells #[.slice A0_0 l0_0.length c0_0, .slice A0_1 l0_1.length c0_1] 30 (0, 0)) impl_newOrder.a2 hb)
                   have n2_ := Aside0.mk (blk_below (g := gb334) (o := .cells #[.slice none 0 0, .slice none 0 0, .slice none 0 0] 64 (0, 0)) impl_newOrder.a3 hb)
                   have n3_ := Aside0.mk (below_step impl_newOrder.a1 hb)
                   have n4_ := Aside0.mk (hbox)
                   have n5_ := Aside0.mk ((by rw [hg]; exact (below_size impl_newOrder.a1) : w.heap.size ≤ gb345))
                   have n6_ := Aside0.mk ((by rw [hg]; exact (below_size impl_newOrder.a1) : w.heap.size ≤ gb345))
                   have n7_ := Aside0.mk ((by rw [hg]; exact Nat.ne_of_lt (blk_lt (g := gb333) (o := .cells #[.slice A0_0 l0_0.length c0_0, .slice A0_1 l0_1.length c0_1] 30 (0, 0)) impl_newOrder.a2) : gb333 ≠ gb345))
                   have n8_ := Aside0.mk ((by rw [hg]; exact Nat.ne_of_gt (blk_lt (g := gb333) (o := .cells #[.slice A0_0 l0_0.length c0_0, .slice A0_1 l0_1.length c0_1] 30 (0, 0)) impl_newOrder.a2) : gb345 ≠ gb333))
                   have n9_ := Aside0.mk ((by rw [hg]; exact Nat.ne_of_lt (blk_lt (g := gb334) (o := .cells #[.slice none 0 0, .slice none 0 0, .slice none 0 0] 64 (0, 0)) impl_newOrder.a3) : gb334 ≠ gb345))
                   have n10_ := Aside0.mk ((by rw [hg]; exact Nat.ne_of_gt (blk_lt (g := gb334) (o := .cells #[.slice none 0 0, .slice none 0 0, .slice none 0 0] 64 (0, 0)) impl_newOrder.a3) : gb345 ≠ gb334))
                   clear HO344
                   clear BK333
                   clear BK334
                   clear HB
                   have HO344 := n0_
                   have BK333 := n1_
                   have BK334 := n2_
                   have HB := n3_
                   have BK345 := n4_
                   have GW345 := n5_
                   have GE345 := n6_
                   have NB333_345 := n7_
                   have NB345_333 := n8_
                   have NB334_345 := n9_
                   have NB345_334 := n10_
                   clear n0_ n1_ n2_ n3_ n4_ n5_ n6_ n7_ n8_ n9_ n10_
                   clear hb hbox hg
                   refine hK.out _ _ ⟨(blk_cell BK333.out 0).trans rfl, (blk_cell BK333.out 1).trans rfl⟩ (fun hHeld => ?_)
                   clear hK K
                   refine norm_ (a' := ?_) ?_ ?_
                   rotate_left
                   ·show Act.put _ (some 5) _ = _
                    simp only [Act.put, List.setIfInBounds_toArray, List.set_cons_zero, List.set_cons_succ, i64_w, i32_w]
                    rfl
                   exact norm_ impl_newOrder.a4 (hJ5_7 (v343, gb345) _ ⟨hHeld, impl_newOrder.a8, impl_newOrder.a2, impl_newOrder.a3, impl_newOrder.a5, GW345.out, GE345.out, NB333_345.out, NB345_333.out, NB334_345.out, NB345_334.out, impl_newOrder.a0⟩)
                ·skip
                 rintro v340 w16 ⟨hS_, h0_, h1_, h2_, h3_⟩
                 have n0_ : Aside0 (Kd.R (Kd.int .i64) 3 w16 w.heap.size (fun _ => True) v340 y339) := ⟨h0_⟩
                 have n1_ : Aside0 (w16.heap[gb333]? = some (.cells #[.slice A0_0 l0_0.length c0_0, .slice A0_1 l0_1.length c0_1] 30 (0, 0))) := ⟨h1_⟩
                 have n2_ : Aside0 (w16.heap[gb334]? = some (.cells #[.slice none 0 0, .slice none 0 0, .slice none 0 0] 64 (0, 0))) := ⟨h2_⟩
                 have n3_ : Aside0 (Below w.heap.size w w16) := ⟨h3_⟩
                 clear BK333
                 clear BK334
                 clear HB
                 clear h0_ h1_ h2_ h3_
                 have HO341 := n0_
                 have BK333 := n1_
                 have BK334 := n2_
                 have HB := n3_
                 clear n0_ n1_ n2_ n3_
                 have hHeld : w16.cell? ⟨gb333, 0, none⟩ = some (.slice A0_0 l0_0.length c0_0) ∧ w16.cell? ⟨gb333, 1, none⟩ = some (.slice A0_1 l0_1.length c0_1) := hS_
                 refine norm_ (a' := ?_) ?_ ?_
                 rotate_left
                 ·simp only [putAll, Act.put, List.setIfInBounds_toArray, List.set_cons_zero, List.set_cons_succ]
                  rfl
                 refine three_ (i := 1) (j := 5) (k := 7) (Ni := some 21) (Nj := some 25) (Nk := some 5) #[true, true, true, true, true, false, false, false, false] #[true, false, true, true, true, true, false, false, false] #[true, false, true, true, true, false, false, true, false] rfl rfl rfl rfl rfl rfl (three_of HT_.out impl_newOrder.a29) impl_newOrder.a30 impl_newOrder.a30 impl_newOrder.a30 (fun K hK => ?_) (fun K hK => ?_) (fun K hK => ?_)
                 ·skip
                  refine goes_ Try.func46 impl_newOrder.a29 rfl #[.agg #[.slice A0_0 l0_0.length c0_0, .slice A0_1 l0_1.length c0_1]] (by rfl) rfl rfl impl_newOrder.a10 ?_
                  with_reducible refine (impl_sortsAbove.calls k _ _ l0_0 _ _ l0_1 t336 _ ?side1 ?side2 ?side3 ?side4 A4.out).mono ?_
                  (case side1 => repeat (first | exact (Kd.C_below HR0_0.out HB.out) | (with_reducible refine Kd.C_alloc ?_ _) | (with_reducible refine Kd.C_drewN ?_ _) | (with_reducible refine Kd.C_drew ?_)))
                  (case side2 => exact HC0_0.out)
                  (case side3 => repeat (first | exact (Kd.C_below HR0_1.out HB.out) | (with_reducible refine Kd.C_alloc ?_ _) | (with_reducible refine Kd.C_drewN ?_ _) | (with_reducible refine Kd.C_drew ?_)))
                  (case side4 => exact HC0_1.out)
                  rintro e w17 ⟨v337, rfl, ho0, hb⟩
                  refine ⟨_, rfl, ?_⟩
                  have n0_ := Aside0.mk (Kd.R_elder' impl_newOrder.a7 (Kd.R_base ho0) hb)
                  have n1_ := Aside0.mk (Kd.R_lower (Kd.R_new' ho0 (Kd.R_lt impl_newOrder.a7)) (below_size impl_newOrder.a1))
                  have n2_ := Aside0.mk (blk_below (g := gb333) (o := .cells #[.slice A0_0 l0_0.length c0_0, .slice A0_1 l0_1.length c0_1] 30 (0, 0)) impl_newOrder.a2 hb)
                  have n3_ := Aside0.mk (blk_below (g := gb334) (o := .cells #[.slice none 0 0, .slice none 0 0, .slice none 0 0] 64 (0, 0)) impl_newOrder.a3 hb)
                  have n4_ := Aside0.mk (below_step impl_newOrder.a1 hb)
                  clear HO341
                  clear BK333
                  clear BK334
                  clear HB
                  have HO341 := n0_
                  have HO338 := n1_
                  have BK333 := n2_
                  have BK334 := n3_
                  have HB := n4_
                  clear n0_ n1_ n2_ n3_ n4_
                  (try clear hb)
                  (try clear hb2)
                  (try clear hk)
                  (try clear hi)
                  (try clear ho0)
                  refine hK.out _ _ ⟨(blk_cell BK333.out 0).trans rfl, (blk_cell BK333.out 1).trans rfl⟩ (fun hHeld => ?_)
                  clear hK K
                  refine norm_ (a' := ?_) ?_ ?_
                  rotate_left
                  ·show Act.put _ (some 21) _ = _
                   simp only [Act.put, List.setIfInBounds_toArray, List.set_cons_zero, List.set_cons_succ, i64_w, i32_w]
                   rfl
                  exact norm_ impl_newOrder.a4 (hJ1_3 (v337, v340) _ ⟨hHeld, impl_newOrder.a11, impl_newOrder.a13, impl_newOrder.a2, impl_newOrder.a3, impl_newOrder.a1⟩)
                 ·skip
                  refine Kd.R_make_step (Kd.int .i64) _ 3 (by rfl) (N := 25) rfl 44 _ _ rfl (l0_0.length : Int) rfl rfl Try.underlying44 (.int .i64 0) 8 info3 rfl impl_newOrder.a30 (by omega) 0 (ok := fun _ => True) (okp := fun _ => True) rfl (fun _ hk => hk) trivial (of_decide_eq_true impl_newOrder.a9) (Nat.le_trans (Nat.mul_le_mul_right _ (of_decide_eq_true impl_newOrder.a9 : (l0_0.length : Int).toNat ≤ 35184372088832)) (by omega)) (Below.refl _ _) (Nat.le_refl _) ?_
                  intro v343 w17 ho18 hb hg_ hnew_
                  clear hg_ hnew_
                  (first | rw [← Ny342.out] at ho18 | (simp only [Int.reduceToNat] at ho18; rw [← Ny342.out] at ho18))
                  have n0_ := Aside0.mk (Kd.R_elder' impl_newOrder.a7 (Kd.R_base ho18) hb)
                  have n1_ := Aside0.mk (Kd.R_lower (Kd.R_new' ho18 (Kd.R_lt impl_newOrder.a7)) (below_size impl_newOrder.a1))
                  have n2_ := Aside0.mk (blk_below (g := gb333) (o := .cells #[.slice A0_0 l0_0.length c0_0, .slice A0_1 l0_1.length c0_1] 30 (0, 0)) impl_newOrder.a2 hb)
                  have n3_ := Aside0.mk (blk_below (g := gb334) (o := .cells #[.slice none 0 0, .slice none 0 0, .slice none 0 0] 64 (0, 0)) impl_newOrder.a3 hb)
                  have n4_ := Aside0.mk (below_step impl_newOrder.a1 hb)
                  clear HO341
                  clear BK333
                  clear BK334
                  clear HB
                  have HO341 := n0_
                  have HO344 := n1_
                  have BK333 := n2_
                  have BK334 := n3_
                  have HB := n4_
                  clear n0_ n1_ n2_ n3_ n4_
                  clear hb ho18
                  refine hK.out _ _ ⟨(blk_cell BK333.out 0).trans rfl, (blk_cell BK333.out 1).trans rfl⟩ (fun hHeld => ?_)
                  clear hK K
                  refine norm_ (a' := ?_) ?_ ?_
                  rotate_left
                  ·show Act.put _ (some 25) _ = _
                   simp only [Act.put, List.setIfInBounds_toArray, List.set_cons_zero, List.set_cons_succ, i64_w, i32_w]
                   rfl
                  exact norm_ impl_newOrder.a4 (hJ3_5 (v340, v343) _ ⟨hHeld, impl_newOrder.a13, impl_newOrder.a12, impl_newOrder.a2, impl_newOrder.a3, impl_newOrder.a1⟩)
                 ·skip
                  refine box_step ?hg (N := 5) ?hd (cs := #[.slice none 0 0, .slice none 0 0, .slice none 0 0]) (t := 64) ?hr ?_; (case hd => rfl); (case hg => rfl); (case hr => first | (go_simp; done) | (go_simp; rfl))
                  intro gb345 hg w17 hbox hb
                  have n0_ := Aside0.mk (Kd.R_below impl_newOrder.a7 hb)
                  have n1_ := Aside0.mk (blk_below (g := gb333) (o := .cells #[.slice A0_0 l0_0.length c0_0, .slice A0_1 l0_1.length c0_1] 30 (0, 0)) impl_newOrder.a2 hb)
                  have n2_ := Aside0.mk (blk_below (g := gb334) (o := .cells #[.slice none 0 0, .slice none 0 0, .slice none 0 0] 64 (0, 0)) impl_newOrder.a3 hb)
                  have n3_ := Aside0.mk (below_step impl_newOrder.a1 hb)
                  have n4_ := Aside0.mk (hbox)
                  have n5_ := Aside0.mk ((by rw [hg]; exact (below_size impl_newOrder.a1) : w.heap.size ≤ gb345))
                  have n6_ := Aside0.mk ((by rw [hg]; exact (below_size impl_newOrder.a1) : w.heap.size ≤ gb345))
                  have n7_ := Aside0.mk ((by rw [hg]; exact Nat.ne_of_lt (blk_lt (g := gb333) (o := .cells #[.slice A0_0 l0_0.length c0_0, .slice A0_1 l0_1.length c0_1] 30 (0, 0)) impl_newOrder.a2) : gb333 ≠ gb345))
                  have n8_ := Aside0.mk ((by rw [hg]; exact Nat.ne_of_gt (blk_lt (g := gb333) (o := .cells #[.slice A0_0 l0_0.length c0_0, .slice A0_1 l0_1.length c0_1] 30 (0, 0)) impl_newOrder.a2) : gb345 ≠ gb333))
                  have n9_ := Aside0.mk ((by rw [hg]; exact Nat.ne_of_lt (blk_lt (g := gb334) (o := .cells #[.slice none 0 0, .slice none 0 0, .slice none 0 0] 64 (0, 0)) impl_newOrder.a3) : gb334 ≠ gb345))
                  have n10_ := Aside0.mk ((by rw [hg]; exact Nat.ne_of_gt (blk_lt (g := gb334) (o := .cells #[.slice none 0 0, .slice none 0 0, .slice none 0 0] 64 (0, 0)) impl_newOrder.a3) : gb345 ≠ gb334))
                  clear HO341
                  clear BK333
                  clear BK334
                  clear HB
                  have HO341 := n0_
                  have BK333 := n1_
                  have BK334 := n2_
                  have HB := n3_
                  have BK345 := n4_
                  have GW345 := n5_
                  have GE345 := n6_
                  have NB333_345 := n7_
                  have NB345_333 := n8_
                  have NB334_345 := n9_
                  have NB345_334 := n10_
                  clear n0_ n1_ n2_ n3_ n4_ n5_ n6_ n7_ n8_ n9_ n10_
                  clear hb hbox hg
                  refine hK.out _ _ ⟨(blk_cell BK333.out 0).trans rfl, (blk_cell BK333.out 1).trans rfl⟩ (fun hHeld => ?_)
                  clear hK K
                  refine norm_ (a' := ?_) ?_ ?_
                  rotate_left
                  ·show Act.put _ (some 5) _ = _
                   simp only [Act.put, List.setIfInBounds_toArray, List.set_cons_zero, List.set_cons_succ, i64_w, i32_w]
                   rfl
                  exact norm_ impl_newOrder.a4 (hJ3_7 (v340, gb345) _ ⟨hHeld, impl_newOrder.a7, impl_newOrder.a2, impl_newOrder.a3, impl_newOrder.a5, GW345.out, GE345.out, NB333_345.out, NB345_333.out, NB334_345.out, NB345_334.out, impl_newOrder.a0⟩)
               ·skip
                rintro v337 w15 ⟨hS_, h0_, h1_, h2_, h3_⟩
                have n0_ : Aside0 (Kd.R (Kd.int .i64) 3 w15 w.heap.size (fun _ => True) v337 t336) := ⟨h0_⟩
                have n1_ : Aside0 (w15.heap[gb333]? = some (.cells #[.slice A0_0 l0_0.length c0_0, .slice A0_1 l0_1.length c0_1] 30 (0, 0))) := ⟨h1_⟩
                have n2_ : Aside0 (w15.heap[gb334]? = some (.cells #[.slice none 0 0, .slice none 0 0, .slice none 0 0] 64 (0, 0))) := ⟨h2_⟩
                have n3_ : Aside0 (Below w.heap.size w w15) := ⟨h3_⟩
                clear BK333
                clear BK334
                clear HB
                clear h0_ h1_ h2_ h3_
                have HO338 := n0_
                have BK333 := n1_
                have BK334 := n2_
                have HB := n3_
                clear n0_ n1_ n2_ n3_
                have hHeld : w15.cell? ⟨gb333, 0, none⟩ = some (.slice A0_0 l0_0.length c0_0) ∧ w15.cell? ⟨gb333, 1, none⟩ = some (.slice A0_1 l0_1.length c0_1) := hS_
                refine norm_ (a' := ?_) ?_ ?_
                rotate_left
                ·simp only [putAll, Act.put, List.setIfInBounds_toArray, List.set_cons_zero, List.set_cons_succ]
                 rfl
                refine three_ (i := 3) (j := 5) (k := 7) (Ni := some 23) (Nj := some 25) (Nk := some 5) #[true, true, true, true, true, false, false, false, false] #[true, true, true, false, true, true, false, false, false] #[true, true, true, false, true, false, false, true, false] rfl rfl rfl rfl rfl rfl (three_of HT_.out impl_newOrder.a29) impl_newOrder.a30 impl_newOrder.a30 impl_newOrder.a30 (fun K hK => ?_) (fun K hK => ?_) (fun K hK => ?_)
                ·skip
                 refine Kd.R_make_step (Kd.int .i64) _ 3 (by rfl) (N := 23) rfl 44 _ _ rfl (l0_0.length : Int) rfl rfl Try.underlying44 (.int .i64 0) 8 info3 rfl impl_newOrder.a30 (by omega) 0 (ok := fun _ => True) (okp := fun _ => True) rfl (fun _ hk => hk) trivial (of_decide_eq_true impl_newOrder.a9) (Nat.le_trans (Nat.mul_le_mul_right _ (of_decide_eq_true impl_newOrder.a9 : (l0_0.length : Int).toNat ≤ 35184372088832)) (by omega)) (Below.refl _ _) (Nat.le_refl _) ?_
                 intro v340 w16 ho17 hb hg_ hnew_
                 clear hg_ hnew_
                 (first | rw [← Ny339.out] at ho17 | (simp only [Int.reduceToNat] at ho17; rw [← Ny339.out] at ho17))
                 have n0_ := Aside0.mk (Kd.R_elder' impl_newOrder.a6 (Kd.R_base ho17) hb)
                 have n1_ := Aside0.mk (Kd.R_lower (Kd.R_new' ho17 (Kd.R_lt impl_newOrder.a6)) (below_size impl_newOrder.a1))
                 have n2_ := Aside0.mk (blk_below (g := gb333) (o := .cells #[.slice A0_0 l0_0.length c0_0, .slice A0_1 l0_1.length c0_1] 30 (0, 0)) impl_newOrder.a2 hb)
                 have n3_ := Aside0.mk (blk_below (g := gb334) (o := .cells #[.slice none 0 0, .slice none 0 0, .slice none 0 0] 64 (0, 0)) impl_newOrder.a3 hb)
                 have n4_ := Aside0.mk (below_step impl_newOrder.a1 hb)
                 clear HO338
                 clear BK333
                 clear BK334
                 clear HB
                 have HO338 := n0_
                 have HO341 := n1_
                 have BK333 := n2_
                 have BK334 := n3_
                 have HB := n4_
                 clear n0_ n1_ n2_ n3_ n4_
                 clear hb ho17
                 refine hK.out _ _ ⟨(blk_cell BK333.out 0).trans rfl, (blk_cell BK333.out 1).trans rfl⟩ (fun hHeld => ?_)
                 clear hK K
                 refine norm_ (a' := ?_) ?_ ?_
                 rotate_left
                 ·show Act.put _ (some 23) _ = _
                  simp only [Act.put, List.setIfInBounds_toArray, List.set_cons_zero, List.set_cons_succ, i64_w, i32_w]
                  rfl
                 exact norm_ impl_newOrder.a4 (hJ1_3 (v337, v340) _ ⟨hHeld, impl_newOrder.a11, impl_newOrder.a13, impl_newOrder.a2, impl_newOrder.a3, impl_newOrder.a1⟩)
                ·skip
                 refine Kd.R_make_step (Kd.int .i64) _ 3 (by rfl) (N := 25) rfl 44 _ _ rfl (l0_0.length : Int) rfl rfl Try.underlying44 (.int .i64 0) 8 info3 rfl impl_newOrder.a30 (by omega) 0 (ok := fun _ => True) (okp := fun _ => True) rfl (fun _ hk => hk) trivial (of_decide_eq_true impl_newOrder.a9) (Nat.le_trans (Nat.mul_le_mul_right _ (of_decide_eq_true impl_newOrder.a9 : (l0_0.length : Int).toNat ≤ 35184372088832)) (by omega)) (Below.refl _ _) (Nat.le_refl _) ?_
                 intro v343 w16 ho17 hb hg_ hnew_
                 clear hg_ hnew_
                 (first | rw [← Ny342.out] at ho17 | (simp only [Int.reduceToNat] at ho17; rw [← Ny342.out] at ho17))
                 have n0_ := Aside0.mk (Kd.R_elder' impl_newOrder.a6 (Kd.R_base ho17) hb)
                 have n1_ := Aside0.mk (Kd.R_lower (Kd.R_new' ho17 (Kd.R_lt impl_newOrder.a6)) (below_size impl_newOrder.a1))
                 have n2_ := Aside0.mk (blk_below (g := gb333) (o := .cells #[.slice A0_0 l0_0.length c0_0, .slice A0_1 l0_1.length c0_1] 30 (0, 0)) impl_newOrder.a2 hb)
                 have n3_ := Aside0.mk (blk_below (g := gb334) (o := .cells #[.slice none 0 0, .slice none 0 0, .slice none 0 0] 64 (0, 0)) impl_newOrder.a3 hb)
                 have n4_ := Aside0.mk (below_step impl_newOrder.a1 hb)
                 clear HO338
                 clear BK333
                 clear BK334
                 clear HB
                 have HO338 := n0_
                 have HO344 := n1_
                 have BK333 := n2_
                 have BK334 := n3_
                 have HB := n4_
                 clear n0_ n1_ n2_ n3_ n4_
                 clear hb ho17
                 refine hK.out _ _ ⟨(blk_cell BK333.out 0).trans rfl, (blk_cell BK333.out 1).trans rfl⟩ (fun hHeld => ?_)
                 clear hK K
                 refine norm_ (a' := ?_) ?_ ?_
                 rotate_left
                 ·show Act.put _ (some 25) _ = _
                  simp only [Act.put, List.setIfInBounds_toArray, List.set_cons_zero, List.set_cons_succ, i64_w, i32_w]
                  rfl
                 exact norm_ impl_newOrder.a4 (hJ1_5 (v337, v343) _ ⟨hHeld, impl_newOrder.a11, impl_newOrder.a12, impl_newOrder.a2, impl_newOrder.a3, impl_newOrder.a1⟩)
                ·skip
                 refine box_step ?hg (N := 5) ?hd (cs := #[.slice none 0 0, .slice none 0 0, .slice none 0 0]) (t := 64) ?hr ?_; (case hd => rfl); (case hg => rfl); (case hr => first | (go_simp; done) | (go_simp; rfl))
                 intro gb345 hg w16 hbox hb
                 have n0_ := Aside0.mk (Kd.R_below impl_newOrder.a6 hb)
                 have n1_ := Aside0.mk (blk_below (g := gb333) (o := .cells #[.slice A0_0 l0_0.length c0_0, .slice A0_1 l0_1.length c0_1] 30 (0, 0)) impl_newOrder.a2 hb)
                 have n2_ := Aside0.mk (blk_below (g := gb334) (o := .cells #[.slice none 0 0, .slice none 0 0, .slice none 0 0] 64 (0, 0)) impl_newOrder.a3 hb)
                 have n3_ := Aside0.mk (below_step impl_newOrder.a1 hb)
                 have n4_ := Aside0.mk (hbox)
                 have n5_ := Aside0.mk ((by rw [hg]; exact (below_size impl_newOrder.a1) : w.heap.size ≤ gb345))
                 have n6_ := Aside0.mk ((by rw [hg]; exact (below_size impl_newOrder.a1) : w.heap.size ≤ gb345))
                 have n7_ := Aside0.mk ((by rw [hg]; exact Nat.ne_of_lt (blk_lt (g := gb333) (o := .cells #[.slice A0_0 l0_0.length c0_0, .slice A0_1 l0_1.length c0_1] 30 (0, 0)) impl_newOrder.a2) : gb333 ≠ gb345))
                 have n8_ := Aside0.mk ((by rw [hg]; exact Nat.ne_of_gt (blk_lt (g := gb333) (o := .cells #[.slice A0_0 l0_0.length c0_0, .slice A0_1 l0_1.length c0_1] 30 (0, 0)) impl_newOrder.a2) : gb345 ≠ gb333))
                 have n9_ := Aside0.mk ((by rw [hg]; exact Nat.ne_of_lt (blk_lt (g := gb334) (o := .cells #[.slice none 0 0, .slice none 0 0, .slice none 0 0] 64 (0, 0)) impl_newOrder.a3) : gb334 ≠ gb345))
                 have n10_ := Aside0.mk ((by rw [hg]; exact Nat.ne_of_gt (blk_lt (g := gb334) (o := .cells #[.slice none 0 0, .slice none 0 0, .slice none 0 0] 64 (0, 0)) impl_newOrder.a3) : gb345 ≠ gb334))
                 clear HO338
                 clear BK333
                 clear BK334
                 clear HB
                 have HO338 := n0_
                 have BK333 := n1_
                 have BK334 := n2_
                 have HB := n3_
                 have BK345 := n4_
                 have GW345 := n5_
                 have GE345 := n6_
                 have NB333_345 := n7_
                 have NB345_333 := n8_
                 have NB334_345 := n9_
                 have NB345_334 := n10_
                 clear n0_ n1_ n2_ n3_ n4_ n5_ n6_ n7_ n8_ n9_ n10_
                 clear hb hbox hg
                 refine hK.out _ _ ⟨(blk_cell BK333.out 0).trans rfl, (blk_cell BK333.out 1).trans rfl⟩ (fun hHeld => ?_)
                 clear hK K
                 refine norm_ (a' := ?_) ?_ ?_
                 rotate_left
                 ·show Act.put _ (some 5) _ = _
                  simp only [Act.put, List.setIfInBounds_toArray, List.set_cons_zero, List.set_cons_succ, i64_w, i32_w]
                  rfl
                 exact norm_ impl_newOrder.a4 (hJ1_7 (v337, gb345) _ ⟨hHeld, impl_newOrder.a6, impl_newOrder.a2, impl_newOrder.a3, impl_newOrder.a5, GW345.out, GE345.out, NB333_345.out, NB345_333.out, NB334_345.out, NB345_334.out, impl_newOrder.a0⟩)
              ·skip
               rintro ⟨v343, gb345⟩ w17 ⟨hS_, h0_, h1_, h2_, h3_, h4_, h5_, h6_, h7_, h8_, h9_, h10_⟩
               have n0_ : Aside0 (Kd.R (Kd.int .i64) 3 w17 w.heap.size (fun _ => True) v343 y342) := ⟨h0_⟩
               have n1_ : Aside0 (w17.heap[gb333]? = some (.cells #[.slice A0_0 l0_0.length c0_0, .slice A0_1 l0_1.length c0_1] 30 (0, 0))) := ⟨h1_⟩
               have n2_ : Aside0 (w17.heap[gb334]? = some (.cells #[.slice none 0 0, .slice none 0 0, .slice none 0 0] 64 (0, 0))) := ⟨h2_⟩
               have n3_ : Aside0 (w17.heap[gb345]? = some (.cells #[.slice none 0 0, .slice none 0 0, .slice none 0 0] 64 (0, 0))) := ⟨h3_⟩
               have n4_ : Aside0 (w.heap.size ≤ gb345) := ⟨h4_⟩
               have n5_ : Aside0 (w.heap.size ≤ gb345) := ⟨h5_⟩
               have n6_ : Aside0 (gb333 ≠ gb345) := ⟨h6_⟩
               have n7_ : Aside0 (gb345 ≠ gb333) := ⟨h7_⟩
               have n8_ : Aside0 (gb334 ≠ gb345) := ⟨h8_⟩
               have n9_ : Aside0 (gb345 ≠ gb334) := ⟨h9_⟩
               have n10_ : Aside0 (Below w.heap.size w w17) := ⟨h10_⟩
               clear BK333
               clear BK334
               clear HB
               clear h0_ h1_ h2_ h3_ h4_ h5_ h6_ h7_ h8_ h9_ h10_
               have HO344 := n0_
               have BK333 := n1_
               have BK334 := n2_
               have BK345 := n3_
               have GW345 := n4_
               have GE345 := n5_
               have NB333_345 := n6_
               have NB345_333 := n7_
               have NB334_345 := n8_
               have NB345_334 := n9_
               have HB := n10_
               clear n0_ n1_ n2_ n3_ n4_ n5_ n6_ n7_ n8_ n9_ n10_
               have hHeld : w17.cell? ⟨gb333, 0, none⟩ = some (.slice A0_0 l0_0.length c0_0) ∧ w17.cell? ⟨gb333, 1, none⟩ = some (.slice A0_1 l0_1.length c0_1) := hS_
               refine norm_ (a' := ?_) ?_ ?_
               rotate_left
               ·simp only [putAll, Act.put, List.setIfInBounds_toArray, List.set_cons_zero, List.set_cons_succ]
                rfl
               refine two_ (i := 1) (j := 3) (Ni := some 21) (Nj := some 23) #[true, true, true, false, true, true, false, true, false] #[true, false, true, true, true, true, false, true, false] rfl rfl rfl rfl (two_of HT_.out impl_newOrder.a29) impl_newOrder.a30 impl_newOrder.a30 (fun K hK => ?_) (fun K hK => ?_)
               ·skip
                refine goes_ Try.func46 impl_newOrder.a29 rfl #[.agg #[.slice A0_0 l0_0.length c0_0, .slice A0_1 l0_1.length c0_1]] (by rfl) rfl rfl impl_newOrder.a10 ?_
                with_reducible refine (impl_sortsAbove.calls k _ _ l0_0 _ _ l0_1 t336 _ ?side1 ?side2 ?side3 ?side4 A4.out).mono ?_
                (case side1 => repeat (first | exact (Kd.C_below HR0_0.out HB.out) | (with_reducible refine Kd.C_alloc ?_ _) | (with_reducible refine Kd.C_drewN ?_ _) | (with_reducible refine Kd.C_drew ?_)))
                (case side2 => exact HC0_0.out)
                (case side3 => repeat (first | exact (Kd.C_below HR0_1.out HB.out) | (with_reducible refine Kd.C_alloc ?_ _) | (with_reducible refine Kd.C_drewN ?_ _) | (with_reducible refine Kd.C_drew ?_)))
                (case side4 => exact HC0_1.out)
                rintro e w18 ⟨v337, rfl, ho0, hb⟩
                refine ⟨_, rfl, ?_⟩
                have n0_ := Aside0.mk (Kd.R_elder' impl_newOrder.a8 (Kd.R_base ho0) hb)
                have n1_ := Aside0.mk (Kd.R_lower (Kd.R_new' ho0 (Kd.R_lt impl_newOrder.a8)) (below_size impl_newOrder.a0))
                have n2_ := Aside0.mk (blk_below (g := gb333) (o := .cells #[.slice A0_0 l0_0.length c0_0, .slice A0_1 l0_1.length c0_1] 30 (0, 0)) impl_newOrder.a2 hb)
                have n3_ := Aside0.mk (blk_below (g := gb334) (o := .cells #[.slice none 0 0, .slice none 0 0, .slice none 0 0] 64 (0, 0)) impl_newOrder.a3 hb)
                have n4_ := Aside0.mk (blk_below (g := gb345) (o := .cells #[.slice none 0 0, .slice none 0 0, .slice none 0 0] 64 (0, 0)) impl_newOrder.a5 hb)
                have n5_ := Aside0.mk (below_step impl_newOrder.a0 hb)
                clear HO344
                clear BK333
                clear BK334
                clear BK345
                clear HB
                have HO344 := n0_
                have HO338 := n1_
                have BK333 := n2_
                have BK334 := n3_
                have BK345 := n4_
                have HB := n5_
                clear n0_ n1_ n2_ n3_ n4_ n5_
                (try clear hb)
                (try clear hb2)
                (try clear hk)
                (try clear hi)
                (try clear ho0)
                refine hK.out _ _ ⟨(blk_cell BK333.out 0).trans rfl, (blk_cell BK333.out 1).trans rfl⟩ (fun hHeld => ?_)
                clear hK K
                refine norm_ (a' := ?_) ?_ ?_
                rotate_left
                ·show Act.put _ (some 21) _ = _
                 simp only [Act.put, List.setIfInBounds_toArray, List.set_cons_zero, List.set_cons_succ, i64_w, i32_w]
                 rfl
                exact norm_ impl_newOrder.a4 (hJ1_5_7 (v337, v343, gb345) _ ⟨hHeld, impl_newOrder.a11, impl_newOrder.a12, impl_newOrder.a2, impl_newOrder.a3, impl_newOrder.a5, GW345.out, GE345.out, NB333_345.out, NB345_333.out, NB334_345.out, NB345_334.out, impl_newOrder.a0⟩)
               ·skip
                refine Kd.R_make_step (Kd.int .i64) _ 3 (by rfl) (N := 23) rfl 44 _ _ rfl (l0_0.length : Int) rfl rfl Try.underlying44 (.int .i64 0) 8 info3 rfl impl_newOrder.a30 (by omega) 0 (ok := fun _ => True) (okp := fun _ => True) rfl (fun _ hk => hk) trivial (of_decide_eq_true impl_newOrder.a9) (Nat.le_trans (Nat.mul_le_mul_right _ (of_decide_eq_true impl_newOrder.a9 : (l0_0.length : Int).toNat ≤ 35184372088832)) (by omega)) (Below.refl _ _) (Nat.le_refl _) ?_
                intro v340 w18 ho19 hb hg_ hnew_
                clear hg_ hnew_
                (first | rw [← Ny339.out] at ho19 | (simp only [Int.reduceToNat] at ho19; rw [← Ny339.out] at ho19))
                have n0_ := Aside0.mk (Kd.R_elder' impl_newOrder.a8 (Kd.R_base ho19) hb)
                have n1_ := Aside0.mk (Kd.R_lower (Kd.R_new' ho19 (Kd.R_lt impl_newOrder.a8)) (below_size impl_newOrder.a0))
                have n2_ := Aside0.mk (blk_below (g := gb333) (o := .cells #[.slice A0_0 l0_0.length c0_0, .slice A0_1 l0_1.length c0_1] 30 (0, 0)) impl_newOrder.a2 hb)
                have n3_ := Aside0.mk (blk_below (g := gb334) (o := .cells #[.slice none 0 0, .slice none 0 0, .slice none 0 0] 64 (0, 0)) impl_newOrder.a3 hb)
                have n4_ := Aside0.mk (blk_below (g := gb345) (o := .cells #[.slice none 0 0, .slice none 0 0, .slice none 0 0] 64 (0, 0)) impl_newOrder.a5 hb)
                have n5_ := Aside0.mk (below_step impl_newOrder.a0 hb)
                clear HO344
                clear BK333
                clear BK334
                clear BK345
                clear HB
                have HO344 := n0_
                have HO341 := n1_
                have BK333 := n2_
                have BK334 := n3_
                have BK345 := n4_
                have HB := n5_
                clear n0_ n1_ n2_ n3_ n4_ n5_
                clear hb ho19
                refine hK.out _ _ ⟨(blk_cell BK333.out 0).trans rfl, (blk_cell BK333.out 1).trans rfl⟩ (fun hHeld => ?_)
                clear hK K
                refine norm_ (a' := ?_) ?_ ?_
                rotate_left
                ·show Act.put _ (some 23) _ = _
                 simp only [Act.put, List.setIfInBounds_toArray, List.set_cons_zero, List.set_cons_succ, i64_w, i32_w]
                 rfl
                exact norm_ impl_newOrder.a4 (hJ3_5_7 (v340, v343, gb345) _ ⟨hHeld, impl_newOrder.a13, impl_newOrder.a12, impl_newOrder.a2, impl_newOrder.a3, impl_newOrder.a5, GW345.out, GE345.out, NB333_345.out, NB345_333.out, NB334_345.out, NB345_334.out, impl_newOrder.a0⟩)
             ·skip
              rintro ⟨v340, gb345⟩ w17 ⟨hS_, h0_, h1_, h2_, h3_, h4_, h5_, h6_, h7_, h8_, h9_, h10_⟩
              have n0_ : Aside0 (Kd.R (Kd.int .i64) 3 w17 w.heap.size (fun _ => True) v340 y339) := ⟨h0_⟩
              have n1_ : Aside0 (w17.heap[gb333]? = some (.cells #[.slice A0_0 l0_0.length c0_0, .slice A0_1 l0_1.length c0_1] 30 (0, 0))) := ⟨h1_⟩
              have n2_ : Aside0 (w17.heap[gb334]? = some (.cells #[.slice none 0 0, .slice none 0 0, .slice none 0 0] 64 (0, 0))) := ⟨h2_⟩
              have n3_ : Aside0 (w17.heap[gb345]? = some (.cells #[.slice none 0 0, .slice none 0 0, .slice none 0 0] 64 (0, 0))) := ⟨h3_⟩
              have n4_ : Aside0 (w.heap.size ≤ gb345) := ⟨h4_⟩
              have n5_ : Aside0 (w.heap.size ≤ gb345) := ⟨h5_⟩
              have n6_ : Aside0 (gb333 ≠ gb345) := ⟨h6_⟩
              have n7_ : Aside0 (gb345 ≠ gb333) := ⟨h7_⟩
              have n8_ : Aside0 (gb334 ≠ gb345) := ⟨h8_⟩
              have n9_ : Aside0 (gb345 ≠ gb334) := ⟨h9_⟩
              have n10_ : Aside0 (Below w.heap.size w w17) := ⟨h10_⟩
              clear BK333
              clear BK334
              clear HB
              clear h0_ h1_ h2_ h3_ h4_ h5_ h6_ h7_ h8_ h9_ h10_
              have HO341 := n0_
              have BK333 := n1_
              have BK334 := n2_
              have BK345 := n3_
              have GW345 := n4_
              have GE345 := n5_
              have NB333_345 := n6_
              have NB345_333 := n7_
              have NB334_345 := n8_
              have NB345_334 := n9_
              have HB := n10_
              clear n0_ n1_ n2_ n3_ n4_ n5_ n6_ n7_ n8_ n9_ n10_
              have hHeld : w17.cell? ⟨gb333, 0, none⟩ = some (.slice A0_0 l0_0.length c0_0) ∧ w17.cell? ⟨gb333, 1, none⟩ = some (.slice A0_1 l0_1.length c0_1) := hS_
              refine norm_ (a' := ?_) ?_ ?_
              rotate_left
              ·simp only [putAll, Act.put, List.setIfInBounds_toArray, List.set_cons_zero, List.set_cons_succ]
               rfl
              refine two_ (i := 1) (j := 5) (Ni := some 21) (Nj := some 25) #[true, true, true, true, true, false, false, true, false] #[true, false, true, true, true, true, false, true, false] rfl rfl rfl rfl (two_of HT_.out impl_newOrder.a29) impl_newOrder.a30 impl_newOrder.a30 (fun K hK => ?_) (fun K hK => ?_)
              ·skip
               refine goes_ Try.func46 impl_newOrder.a29 rfl #[.agg #[.slice A0_0 l0_0.length c0_0, .slice A0_1 l0_1.length c0_1]] (by rfl) rfl rfl impl_newOrder.a10 ?_
               with_reducible refine (impl_sortsAbove.calls k _ _ l0_0 _ _ l0_1 t336 _ ?side1 ?side2 ?side3 ?side4 A4.out).mono ?_
               (case side1 => repeat (first | exact (Kd.C_below HR0_0.out HB.out) | (with_reducible refine Kd.C_alloc ?_ _) | (with_reducible refine Kd.C_drewN ?_ _) | (with_reducible refine Kd.C_drew ?_)))
               (case side2 => exact HC0_0.out)
               (case side3 => repeat (first | exact (Kd.C_below HR0_1.out HB.out) | (with_reducible refine Kd.C_alloc ?_ _) | (with_reducible refine Kd.C_drewN ?_ _) | (with_reducible refine Kd.C_drew ?_)))
               (case side4 => exact HC0_1.out)
               rintro e w18 ⟨v337, rfl, ho0, hb⟩
               refine ⟨_, rfl, ?_⟩
               have n0_ := Aside0.mk (Kd.R_elder' impl_newOrder.a7 (Kd.R_base ho0) hb)
               have n1_ := Aside0.mk (Kd.R_lower (Kd.R_new' ho0 (Kd.R_lt impl_newOrder.a7)) (below_size impl_newOrder.a0))
               have n2_ := Aside0.mk (blk_below (g := gb333) (o := .cells #[.slice A0_0 l0_0.length c0_0, .slice A0_1 l0_1.length c0_1] 30 (0, 0)) impl_newOrder.a2 hb)
               have n3_ := Aside0.mk (blk_below (g := gb334) (o := .cells #[.slice none 0 0, .slice none 0 0, .slice none 0 0] 64 (0, 0)) impl_newOrder.a3 hb)
               have n4_ := Aside0.mk (blk_below (g := gb345) (o := .cells #[.slice none 0 0, .slice none 0 0, .slice none 0 0] 64 (0, 0)) impl_newOrder.a5 hb)
               have n5_ := Aside0.mk (below_step impl_newOrder.a0 hb)
               clear HO341
               clear BK333
               clear BK334
               clear BK345
               clear HB
               have HO341 := n0_
               have HO338 := n1_
               have BK333 := n2_
               have BK334 := n3_
               have BK345 := n4_
               have HB := n5_
               clear n0_ n1_ n2_ n3_ n4_ n5_
               (try clear hb)
               (try clear hb2)
               (try clear hk)
               (try clear hi)
               (try clear ho0)
               refine hK.out _ _ ⟨(blk_cell BK333.out 0).trans rfl, (blk_cell BK333.out 1).trans rfl⟩ (fun hHeld => ?_)
               clear hK K
               refine norm_ (a' := ?_) ?_ ?_
               rotate_left
               ·show Act.put _ (some 21) _ = _
                simp only [Act.put, List.setIfInBounds_toArray, List.set_cons_zero, List.set_cons_succ, i64_w, i32_w]
                rfl
               exact norm_ impl_newOrder.a4 (hJ1_3_7 (v337, v340, gb345) _ ⟨hHeld, impl_newOrder.a11, impl_newOrder.a13, impl_newOrder.a2, impl_newOrder.a3, impl_newOrder.a5, GW345.out, GE345.out, NB333_345.out, NB345_333.out, NB334_345.out, NB345_334.out, impl_newOrder.a0⟩)
              ·skip
               refine Kd.R_make_step (Kd.int .i64) _ 3 (by rfl) (N := 25) rfl 44 _ _ rfl (l0_0.length : Int) rfl rfl Try.underlying44 (.int .i64 0) 8 info3 rfl impl_newOrder.a30 (by omega) 0 (ok := fun _ => True) (okp := fun _ => True) rfl (fun _ hk => hk) trivial (of_decide_eq_true impl_newOrder.a9) (Nat.le_trans (Nat.mul_le_mul_right _ (of_decide_eq_true impl_newOrder.a9 : (l0_0.length : Int).toNat ≤ 35184372088832)) (by omega)) (Below.refl _ _) (Nat.le_refl _) ?_
               intro v343 w18 ho19 hb hg_ hnew_
               clear hg_ hnew_
               (first | rw [← Ny342.out] at ho19 | (simp only [Int.reduceToNat] at ho19; rw [← Ny342.out] at ho19))
               have n0_ := Aside0.mk (Kd.R_elder' impl_newOrder.a7 (Kd.R_base ho19) hb)
               have n1_ := Aside0.mk (Kd.R_lower (Kd.R_new' ho19 (Kd.R_lt impl_newOrder.a7)) (below_size impl_newOrder.a0))
               have n2_ := Aside0.mk (blk_below (g := gb333) (o := .cells #[.slice A0_0 l0_0.length c0_0, .slice A0_1 l0_1.length c0_1] 30 (0, 0)) impl_newOrder.a2 hb)
               have n3_ := Aside0.mk (blk_below (g := gb334) (o := .cells #[.slice none 0 0, .slice none 0 0, .slice none 0 0] 64 (0, 0)) impl_newOrder.a3 hb)
               have n4_ := Aside0.mk (blk_below (g := gb345) (o := .cells #[.slice none 0 0, .slice none 0 0, .slice none 0 0] 64 (0, 0)) impl_newOrder.a5 hb)
               have n5_ := Aside0.mk (below_step impl_newOrder.a0 hb)
               clear HO341
               clear BK333
               clear BK334
               clear BK345
               clear HB
               have HO341 := n0_
               have HO344 := n1_
               have BK333 := n2_
               have BK334 := n3_
               have BK345 := n4_
               have HB := n5_
               clear n0_ n1_ n2_ n3_ n4_ n5_
               clear hb ho19
               refine hK.out _ _ ⟨(blk_cell BK333.out 0).trans rfl, (blk_cell BK333.out 1).trans rfl⟩ (fun hHeld => ?_)
               clear hK K
               refine norm_ (a' := ?_) ?_ ?_
               rotate_left
               ·show Act.put _ (some 25) _ = _
                simp only [Act.put, List.setIfInBounds_toArray, List.set_cons_zero, List.set_cons_succ, i64_w, i32_w]
                rfl
               exact norm_ impl_newOrder.a4 (hJ3_5_7 (v340, v343, gb345) _ ⟨hHeld, impl_newOrder.a13, impl_newOrder.a12, impl_newOrder.a2, impl_newOrder.a3, impl_newOrder.a5, GW345.out, GE345.out, NB333_345.out, NB345_333.out, NB334_345.out, NB345_334.out, impl_newOrder.a0⟩)
            ·skip
             rintro ⟨v340, v343⟩ w18 ⟨hS_, h0_, h1_, h2_, h3_, h4_⟩
             have n0_ : Aside0 (Kd.R (Kd.int .i64) 3 w18 w.heap.size (fun k_ => some k_ ≠ (v343 : Value).ownBlock) v340 y339) := ⟨h0_⟩
             have n1_ : Aside0 (Kd.R (Kd.int .i64) 3 w18 w.heap.size (fun k_ => some k_ ≠ (v340 : Value).ownBlock) v343 y342) := ⟨h1_⟩
             have n2_ : Aside0 (w18.heap[gb333]? = some (.cells #[.slice A0_0 l0_0.length c0_0, .slice A0_1 l0_1.length c0_1] 30 (0, 0))) := ⟨h2_⟩
             have n3_ : Aside0 (w18.heap[gb334]? = some (.cells #[.slice none 0 0, .slice none 0 0, .slice none 0 0] 64 (0, 0))) := ⟨h3_⟩
             have n4_ : Aside0 (Below w.heap.size w w18) := ⟨h4_⟩
             clear BK333
             clear BK334
             clear HB
             clear h0_ h1_ h2_ h3_ h4_
             have HO341 := n0_
             have HO344 := n1_
             have BK333 := n2_
             have BK334 := n3_
             have HB := n4_
             clear n0_ n1_ n2_ n3_ n4_
             have hHeld : w18.cell? ⟨gb333, 0, none⟩ = some (.slice A0_0 l0_0.length c0_0) ∧ w18.cell? ⟨gb333, 1, none⟩ = some (.slice A0_1 l0_1.length c0_1) := hS_
             refine norm_ (a' := ?_) ?_ ?_
             rotate_left
             ·simp only [putAll, Act.put, List.setIfInBounds_toArray, List.set_cons_zero, List.set_cons_succ]
              rfl
             refine two_ (i := 1) (j := 7) (Ni := some 21) (Nj := some 5) #[true, true, true, true, true, true, false, false, false] #[true, false, true, true, true, true, false, true, false] rfl rfl rfl rfl (two_of HT_.out impl_newOrder.a29) impl_newOrder.a30 impl_newOrder.a30 (fun K hK => ?_) (fun K hK => ?_)
             ·skip
              refine goes_ Try.func46 impl_newOrder.a29 rfl #[.agg #[.slice A0_0 l0_0.length c0_0, .slice A0_1 l0_1.length c0_1]] (by rfl) rfl rfl impl_newOrder.a10 ?_
              with_reducible refine (impl_sortsAbove.calls k _ _ l0_0 _ _ l0_1 t336 _ ?side1 ?side2 ?side3 ?side4 A4.out).mono ?_
              (case side1 => repeat (first | exact (Kd.C_below HR0_0.out HB.out) | (with_reducible refine Kd.C_alloc ?_ _) | (with_reducible refine Kd.C_drewN ?_ _) | (with_reducible refine Kd.C_drew ?_)))
              (case side2 => exact HC0_0.out)
              (case side3 => repeat (first | exact (Kd.C_below HR0_1.out HB.out) | (with_reducible refine Kd.C_alloc ?_ _) | (with_reducible refine Kd.C_drewN ?_ _) | (with_reducible refine Kd.C_drew ?_)))
              (case side4 => exact HC0_1.out)
              rintro e w19 ⟨v337, rfl, ho0, hb⟩
              refine ⟨_, rfl, ?_⟩
              have n0_ := Aside0.mk (Kd.R_elder' impl_newOrder.a7 (Kd.R_base ho0) hb)
              have n1_ := Aside0.mk (Kd.R_elder' impl_newOrder.a8 (Kd.R_base ho0) hb)
              have n2_ := Aside0.mk (Kd.R_lower (Kd.R_new' (Kd.R_new' ho0 (Kd.R_lt impl_newOrder.a7)) (Kd.R_lt impl_newOrder.a8)) (below_size impl_newOrder.a1))
              have n3_ := Aside0.mk (blk_below (g := gb333) (o := .cells #[.slice A0_0 l0_0.length c0_0, .slice A0_1 l0_1.length c0_1] 30 (0, 0)) impl_newOrder.a2 hb)
              have n4_ := Aside0.mk (blk_below (g := gb334) (o := .cells #[.slice none 0 0, .slice none 0 0, .slice none 0 0] 64 (0, 0)) impl_newOrder.a3 hb)
              have n5_ := Aside0.mk (below_step impl_newOrder.a1 hb)
              clear HO341
              clear HO344
              clear BK333
              clear BK334
              clear HB
              have HO341 := n0_
              have HO344 := n1_
              have HO338 := n2_
              have BK333 := n3_
              have BK334 := n4_
              have HB := n5_
              clear n0_ n1_ n2_ n3_ n4_ n5_
              (try clear hb)
              (try clear hb2)
              (try clear hk)
              (try clear hi)
              (try clear ho0)
              obtain ⟨Ao20, co20, eo20⟩ := Kd.R_slice HO344.out
              (first | subst eo20 | (injection eo20 with f1_ f2_ f3_; have f4_ := f1_.symm; have f5_ := f3_.symm; clear f1_ f2_ f3_; subst f4_; subst f5_))
              obtain ⟨Ao21, co21, eo21⟩ := Kd.R_slice HO341.out
              (first | subst eo21 | (injection eo21 with f1_ f2_ f3_; have f4_ := f1_.symm; have f5_ := f3_.symm; clear f1_ f2_ f3_; subst f4_; subst f5_))
              obtain ⟨Ao22, co22, eo22⟩ := Kd.R_slice HO338.out
              (first | subst eo22 | (injection eo22 with f1_ f2_ f3_; have f4_ := f1_.symm; have f5_ := f3_.symm; clear f1_ f2_ f3_; subst f4_; subst f5_))
              refine hK.out _ _ ⟨(blk_cell BK333.out 0).trans rfl, (blk_cell BK333.out 1).trans rfl⟩ (fun hHeld => ?_)
              clear hK K
              refine norm_ (a' := ?_) ?_ ?_
              rotate_left
              ·show Act.put _ (some 21) _ = _
               simp only [Act.put, List.setIfInBounds_toArray, List.set_cons_zero, List.set_cons_succ, i64_w, i32_w]
               rfl
              refine pureS 6 26 HT_ rfl rfl ?_
              exact norm_ impl_newOrder.a4 (hJ1_3_5 (.slice Ao22 t336.length co22, .slice Ao21 y339.length co21, .slice Ao20 y342.length co20) _ ⟨hHeld, (by (with_reducible repeat (first | apply Kd.R_alloc | apply Kd.R_drewN | apply Kd.R_drew)); exact Kd.R_mono HO338.out (fun _ hk => ⟨hk.1.2, hk.2⟩)), (by (with_reducible repeat (first | apply Kd.R_alloc | apply Kd.R_drewN | apply Kd.R_drew)); exact Kd.R_mono HO341.out (fun _ hk => ⟨hk.2, hk.1⟩)), (by (with_reducible repeat (first | apply Kd.R_alloc | apply Kd.R_drewN | apply Kd.R_drew)); exact Kd.R_mono HO344.out (fun _ hk => ⟨hk.2, hk.1⟩)), impl_newOrder.a2, impl_newOrder.a3, impl_newOrder.a1⟩)
             ·skip
              refine box_step ?hg (N := 5) ?hd (cs := #[.slice none 0 0, .slice none 0 0, .slice none 0 0]) (t := 64) ?hr ?_; (case hd => rfl); (case hg => rfl); (case hr => first | (go_simp; done) | (go_simp; rfl))
              intro gb345 hg w19 hbox hb
              have n0_ := Aside0.mk (Kd.R_below impl_newOrder.a7 hb)
              have n1_ := Aside0.mk (Kd.R_below impl_newOrder.a8 hb)
              have n2_ := Aside0.mk (blk_below (g := gb333) (o := .cells #[.slice A0_0 l0_0.length c0_0, .slice A0_1 l0_1.length c0_1] 30 (0, 0)) impl_newOrder.a2 hb)
              have n3_ := Aside0.mk (blk_below (g := gb334) (o := .cells #[.slice none 0 0, .slice none 0 0, .slice none 0 0] 64 (0, 0)) impl_newOrder.a3 hb)
              have n4_ := Aside0.mk (below_step impl_newOrder.a1 hb)
              have n5_ := Aside0.mk (hbox)
              have n6_ := Aside0.mk ((by rw [hg]; exact (below_size impl_newOrder.a1) : w.heap.size ≤ gb345))
              have n7_ := Aside0.mk ((by rw [hg]; exact (below_size impl_newOrder.a1) : w.heap.size ≤ gb345))
              have n8_ := Aside0.mk ((by rw [hg]; exact Nat.ne_of_lt (blk_lt (g := gb333) (o := .cells #[.slice A0_0 l0_0.length c0_0, .slice A0_1 l0_1.length c0_1] 30 (0, 0)) impl_newOrder.a2) : gb333 ≠ gb345))
              have n9_ := Aside0.mk ((by rw [hg]; exact Nat.ne_of_gt (blk_lt (g := gb333) (o := .cells #[.slice A0_0 l0_0.length c0_0, .slice A0_1 l0_1.length c0_1] 30 (0, 0)) impl_newOrder.a2) : gb345 ≠ gb333))
              have n10_ := Aside0.mk ((by rw [hg]; exact Nat.ne_of_lt (blk_lt (g := gb334) (o := .cells #[.slice none 0 0, .slice none 0 0, .slice none 0 0] 64 (0, 0)) impl_newOrder.a3) : gb334 ≠ gb345))
              have n11_ := Aside0.mk ((by rw [hg]; exact Nat.ne_of_gt (blk_lt (g := gb334) (o := .cells #[.slice none 0 0, .slice none 0 0, .slice none 0 0] 64 (0, 0)) impl_newOrder.a3) : gb345 ≠ gb334))
              clear HO341
              clear HO344
              clear BK333
              clear BK334
              clear HB
              have HO341 := n0_
              have HO344 := n1_
              have BK333 := n2_
              have BK334 := n3_
              have HB := n4_
              have BK345 := n5_
              have GW345 := n6_
              have GE345 := n7_
              have NB333_345 := n8_
              have NB345_333 := n9_
              have NB334_345 := n10_
              have NB345_334 := n11_
              clear n0_ n1_ n2_ n3_ n4_ n5_ n6_ n7_ n8_ n9_ n10_ n11_
              clear hb hbox hg
              refine hK.out _ _ ⟨(blk_cell BK333.out 0).trans rfl, (blk_cell BK333.out 1).trans rfl⟩ (fun hHeld => ?_)
              clear hK K
              refine norm_ (a' := ?_) ?_ ?_
              rotate_left
              ·show Act.put _ (some 5) _ = _
               simp only [Act.put, List.setIfInBounds_toArray, List.set_cons_zero, List.set_cons_succ, i64_w, i32_w]
               rfl
              exact norm_ impl_newOrder.a4 (hJ3_5_7 (v340, v343, gb345) _ ⟨hHeld, impl_newOrder.a7, impl_newOrder.a8, impl_newOrder.a2, impl_newOrder.a3, impl_newOrder.a5, GW345.out, GE345.out, NB333_345.out, NB345_333.out, NB334_345.out, NB345_334.out, impl_newOrder.a0⟩)
           ·skip
            rintro ⟨v337, gb345⟩ w16 ⟨hS_, h0_, h1_, h2_, h3_, h4_, h5_, h6_, h7_, h8_, h9_, h10_⟩
            have n0_ : Aside0 (Kd.R (Kd.int .i64) 3 w16 w.heap.size (fun _ => True) v337 t336) := ⟨h0_⟩
            have n1_ : Aside0 (w16.heap[gb333]? = some (.cells #[.slice A0_0 l0_0.length c0_0, .slice A0_1 l0_1.length c0_1] 30 (0, 0))) := ⟨h1_⟩
            have n2_ : Aside0 (w16.heap[gb334]? = some (.cells #[.slice none 0 0, .slice none 0 0, .slice none 0 0] 64 (0, 0))) := ⟨h2_⟩
            have n3_ : Aside0 (w16.heap[gb345]? = some (.cells #[.slice none 0 0, .slice none 0 0, .slice none 0 0] 64 (0, 0))) := ⟨h3_⟩
            have n4_ : Aside0 (w.heap.size ≤ gb345) := ⟨h4_⟩
            have n5_ : Aside0 (w.heap.size ≤ gb345) := ⟨h5_⟩
            have n6_ : Aside0 (gb333 ≠ gb345) := ⟨h6_⟩
            have n7_ : Aside0 (gb345 ≠ gb333) := ⟨h7_⟩
            have n8_ : Aside0 (gb334 ≠ gb345) := ⟨h8_⟩
            have n9_ : Aside0 (gb345 ≠ gb334) := ⟨h9_⟩
            have n10_ : Aside0 (Below w.heap.size w w16) := ⟨h10_⟩
            clear BK333
            clear BK334
            clear HB
            clear h0_ h1_ h2_ h3_ h4_ h5_ h6_ h7_ h8_ h9_ h10_
            have HO338 := n0_
            have BK333 := n1_
            have BK334 := n2_
            have BK345 := n3_
            have GW345 := n4_
            have GE345 := n5_
            have NB333_345 := n6_
            have NB345_333 := n7_
            have NB334_345 := n8_
            have NB345_334 := n9_
            have HB := n10_
            clear n0_ n1_ n2_ n3_ n4_ n5_ n6_ n7_ n8_ n9_ n10_
            have hHeld : w16.cell? ⟨gb333, 0, none⟩ = some (.slice A0_0 l0_0.length c0_0) ∧ w16.cell? ⟨gb333, 1, none⟩ = some (.slice A0_1 l0_1.length c0_1) := hS_
            refine norm_ (a' := ?_) ?_ ?_
            rotate_left
            ·simp only [putAll, Act.put, List.setIfInBounds_toArray, List.set_cons_zero, List.set_cons_succ]
             rfl
            refine two_ (i := 3) (j := 5) (Ni := some 23) (Nj := some 25) #[true, true, true, true, true, false, false, true, false] #[true, true, true, false, true, true, false, true, false] rfl rfl rfl rfl (two_of HT_.out impl_newOrder.a29) impl_newOrder.a30 impl_newOrder.a30 (fun K hK => ?_) (fun K hK => ?_)
            ·skip
             refine Kd.R_make_step (Kd.int .i64) _ 3 (by rfl) (N := 23) rfl 44 _ _ rfl (l0_0.length : Int) rfl rfl Try.underlying44 (.int .i64 0) 8 info3 rfl impl_newOrder.a30 (by omega) 0 (ok := fun _ => True) (okp := fun _ => True) rfl (fun _ hk => hk) trivial (of_decide_eq_true impl_newOrder.a9) (Nat.le_trans (Nat.mul_le_mul_right _ (of_decide_eq_true impl_newOrder.a9 : (l0_0.length : Int).toNat ≤ 35184372088832)) (by omega)) (Below.refl _ _) (Nat.le_refl _) ?_
             intro v340 w17 ho18 hb hg_ hnew_
             clear hg_ hnew_
             (first | rw [← Ny339.out] at ho18 | (simp only [Int.reduceToNat] at ho18; rw [← Ny339.out] at ho18))
             have n0_ := Aside0.mk (Kd.R_elder' impl_newOrder.a6 (Kd.R_base ho18) hb)
             have n1_ := Aside0.mk (Kd.R_lower (Kd.R_new' ho18 (Kd.R_lt impl_newOrder.a6)) (below_size impl_newOrder.a0))
             have n2_ := Aside0.mk (blk_below (g := gb333) (o := .cells #[.slice A0_0 l0_0.length c0_0, .slice A0_1 l0_1.length c0_1] 30 (0, 0)) impl_newOrder.a2 hb)
             have n3_ := Aside0.mk (blk_below (g := gb334) (o := .cells #[.slice none 0 0, .slice none 0 0, .slice none 0 0] 64 (0, 0)) impl_newOrder.a3 hb)
             have n4_ := Aside0.mk (blk_below (g := gb345) (o := .cells #[.slice none 0 0, .slice none 0 0, .slice none 0 0] 64 (0, 0)) impl_newOrder.a5 hb)
             have n5_ := Aside0.mk (below_step impl_newOrder.a0 hb)
             clear HO338
             clear BK333
             clear BK334
             clear BK345
             clear HB
             have HO338 := n0_
             have HO341 := n1_
             have BK333 := n2_
             have BK334 := n3_
             have BK345 := n4_
             have HB := n5_
             clear n0_ n1_ n2_ n3_ n4_ n5_
             clear hb ho18
             refine hK.out _ _ ⟨(blk_cell BK333.out 0).trans rfl, (blk_cell BK333.out 1).trans rfl⟩ (fun hHeld => ?_)
             clear hK K
             refine norm_ (a' := ?_) ?_ ?_
             rotate_left
             ·show Act.put _ (some 23) _ = _
              simp only [Act.put, List.setIfInBounds_toArray, List.set_cons_zero, List.set_cons_succ, i64_w, i32_w]
              rfl
             exact norm_ impl_newOrder.a4 (hJ1_3_7 (v337, v340, gb345) _ ⟨hHeld, impl_newOrder.a11, impl_newOrder.a13, impl_newOrder.a2, impl_newOrder.a3, impl_newOrder.a5, GW345.out, GE345.out, NB333_345.out, NB345_333.out, NB334_345.out, NB345_334.out, impl_newOrder.a0⟩)
            ·skip
             refine Kd.R_make_step (Kd.int .i64) _ 3 (by rfl) (N := 25) rfl 44 _ _ rfl (l0_0.length : Int) rfl rfl Try.underlying44 (.int .i64 0) 8 info3 rfl impl_newOrder.a30 (by omega) 0 (ok := fun _ => True) (okp := fun _ => True) rfl (fun _ hk => hk) trivial (of_decide_eq_true impl_newOrder.a9) (Nat.le_trans (Nat.mul_le_mul_right _ (of_decide_eq_true impl_newOrder.a9 : (l0_0.length : Int).toNat ≤ 35184372088832)) (by omega)) (Below.refl _ _) (Nat.le_refl _) ?_
             intro v343 w17 ho18 hb hg_ hnew_
             clear hg_ hnew_
             (first | rw [← Ny342.out] at ho18 | (simp only [Int.reduceToNat] at ho18; rw [← Ny342.out] at ho18))
             have n0_ := Aside0.mk (Kd.R_elder' impl_newOrder.a6 (Kd.R_base ho18) hb)
             have n1_ := Aside0.mk (Kd.R_lower (Kd.R_new' ho18 (Kd.R_lt impl_newOrder.a6)) (below_size impl_newOrder.a0))
             have n2_ := Aside0.mk (blk_below (g := gb333) (o := .cells #[.slice A0_0 l0_0.length c0_0, .slice A0_1 l0_1.length c0_1] 30 (0, 0)) impl_newOrder.a2 hb)
             have n3_ := Aside0.mk (blk_below (g := gb334) (o := .cells #[.slice none 0 0, .slice none 0 0, .slice none 0 0] 64 (0, 0)) impl_newOrder.a3 hb)
             have n4_ := Aside0.mk (blk_below (g := gb345) (o := .cells #[.slice none 0 0, .slice none 0 0, .slice none 0 0] 64 (0, 0)) impl_newOrder.a5 hb)
             have n5_ := Aside0.mk (below_step impl_newOrder.a0 hb)
             clear HO338
             clear BK333
             clear BK334
             clear BK345
             clear HB
             have HO338 := n0_
             have HO344 := n1_
             have BK333 := n2_
             have BK334 := n3_
             have BK345 := n4_
             have HB := n5_
             clear n0_ n1_ n2_ n3_ n4_ n5_
             clear hb ho18
             refine hK.out _ _ ⟨(blk_cell BK333.out 0).trans rfl, (blk_cell BK333.out 1).trans rfl⟩ (fun hHeld => ?_)
             clear hK K
             refine norm_ (a' := ?_) ?_ ?_
             rotate_left
             ·show Act.put _ (some 25) _ = _
              simp only [Act.put, List.setIfInBounds_toArray, List.set_cons_zero, List.set_cons_succ, i64_w, i32_w]
              rfl
             exact norm_ impl_newOrder.a4 (hJ1_5_7 (v337, v343, gb345) _ ⟨hHeld, impl_newOrder.a11, impl_newOrder.a12, impl_newOrder.a2, impl_newOrder.a3, impl_newOrder.a5, GW345.out, GE345.out, NB333_345.out, NB345_333.out, NB334_345.out, NB345_334.out, impl_newOrder.a0⟩)
          ·skip
           rintro ⟨v337, v343⟩ w17 ⟨hS_, h0_, h1_, h2_, h3_, h4_⟩
           have n0_ : Aside0 (Kd.R (Kd.int .i64) 3 w17 w.heap.size (fun k_ => some k_ ≠ (v343 : Value).ownBlock) v337 t336) := ⟨h0_⟩
           have n1_ : Aside0 (Kd.R (Kd.int .i64) 3 w17 w.heap.size (fun k_ => some k_ ≠ (v337 : Value).ownBlock) v343 y342) := ⟨h1_⟩
           have n2_ : Aside0 (w17.heap[gb333]? = some (.cells #[.slice A0_0 l0_0.length c0_0, .slice A0_1 l0_1.length c0_1] 30 (0, 0))) := ⟨h2_⟩
           have n3_ : Aside0 (w17.heap[gb334]? = some (.cells #[.slice none 0 0, .slice none 0 0, .slice none 0 0] 64 (0, 0))) := ⟨h3_⟩
           have n4_ : Aside0 (Below w.heap.size w w17) := ⟨h4_⟩
           clear BK333
           clear BK334
           clear HB
           clear h0_ h1_ h2_ h3_ h4_
           have HO338 := n0_
           have HO344 := n1_
           have BK333 := n2_
           have BK334 := n3_
           have HB := n4_
           clear n0_ n1_ n2_ n3_ n4_
           have hHeld : w17.cell? ⟨gb333, 0, none⟩ = some (.slice A0_0 l0_0.length c0_0) ∧ w17.cell? ⟨gb333, 1, none⟩ = some (.slice A0_1 l0_1.length c0_1) := hS_
           refine norm_ (a' := ?_) ?_ ?_
           rotate_left
           ·simp only [putAll, Act.put, List.setIfInBounds_toArray, List.set_cons_zero, List.set_cons_succ]
            rfl
           refine two_ (i := 3) (j := 7) (Ni := some 23) (Nj := some 5) #[true, true, true, true, true, true, false, false, false] #[true, true, true, false, true, true, false, true, false] rfl rfl rfl rfl (two_of HT_.out impl_newOrder.a29) impl_newOrder.a30 impl_newOrder.a30 (fun K hK => ?_) (fun K hK => ?_)
           ·skip
            refine Kd.R_make_step (Kd.int .i64) _ 3 (by rfl) (N := 23) rfl 44 _ _ rfl (l0_0.length : Int) rfl rfl Try.underlying44 (.int .i64 0) 8 info3 rfl impl_newOrder.a30 (by omega) 0 (ok := fun _ => True) (okp := fun _ => True) rfl (fun _ hk => hk) trivial (of_decide_eq_true impl_newOrder.a9) (Nat.le_trans (Nat.mul_le_mul_right _ (of_decide_eq_true impl_newOrder.a9 : (l0_0.length : Int).toNat ≤ 35184372088832)) (by omega)) (Below.refl _ _) (Nat.le_refl _) ?_
            intro v340 w18 ho19 hb hg_ hnew_
            clear hg_ hnew_
            (first | rw [← Ny339.out] at ho19 | (simp only [Int.reduceToNat] at ho19; rw [← Ny339.out] at ho19))
            have n0_ := Aside0.mk (Kd.R_elder' impl_newOrder.a6 (Kd.R_base ho19) hb)
            have n1_ := Aside0.mk (Kd.R_elder' impl_newOrder.a8 (Kd.R_base ho19) hb)
            have n2_ := Aside0.mk (Kd.R_lower (Kd.R_new' (Kd.R_new' ho19 (Kd.R_lt impl_newOrder.a6)) (Kd.R_lt impl_newOrder.a8)) (below_size impl_newOrder.a1))
            have n3_ := Aside0.mk (blk_below (g := gb333) (o := .cells #[.slice A0_0 l0_0.length c0_0, .slice A0_1 l0_1.length c0_1] 30 (0, 0)) impl_newOrder.a2 hb)
            have n4_ := Aside0.mk (blk_below (g := gb334) (o := .cells #[.slice none 0 0, .slice none 0 0, .slice none 0 0] 64 (0, 0)) impl_newOrder.a3 hb)
            have n5_ := Aside0.mk (below_step impl_newOrder.a1 hb)
            clear HO338
            clear HO344
            clear BK333
            clear BK334
            clear HB
            have HO338 := n0_
            have HO344 := n1_
            have HO341 := n2_
            have BK333 := n3_
            have BK334 := n4_
            have HB := n5_
            clear n0_ n1_ n2_ n3_ n4_ n5_
            clear hb ho19
            obtain ⟨Ao20, co20, eo20⟩ := Kd.R_slice HO344.out
            (first | subst eo20 | (injection eo20 with f1_ f2_ f3_; have f4_ := f1_.symm; have f5_ := f3_.symm; clear f1_ f2_ f3_; subst f4_; subst f5_))
            obtain ⟨Ao21, co21, eo21⟩ := Kd.R_slice HO341.out
            (first | subst eo21 | (injection eo21 with f1_ f2_ f3_; have f4_ := f1_.symm; have f5_ := f3_.symm; clear f1_ f2_ f3_; subst f4_; subst f5_))
            obtain ⟨Ao22, co22, eo22⟩ := Kd.R_slice HO338.out
            (first | subst eo22 | (injection eo22 with f1_ f2_ f3_; have f4_ := f1_.symm; have f5_ := f3_.symm; clear f1_ f2_ f3_; subst f4_; subst f5_))
            refine hK.out _ _ ⟨(blk_cell BK333.out 0).trans rfl, (blk_cell BK333.out 1).trans rfl⟩ (fun hHeld => ?_)
            clear hK K
            refine norm_ (a' := ?_) ?_ ?_
            rotate_left
            ·show Act.put _ (some 23) _ = _
             simp only [Act.put, List.setIfInBounds_toArray, List.set_cons_zero, List.set_cons_succ, i64_w, i32_w]
             rfl
            refine pureS 6 26 HT_ rfl rfl ?_
            exact norm_ impl_newOrder.a4 (hJ1_3_5 (.slice Ao22 t336.length co22, .slice Ao21 y339.length co21, .slice Ao20 y342.length co20) _ ⟨hHeld, (by (with_reducible repeat (first | apply Kd.R_alloc | apply Kd.R_drewN | apply Kd.R_drew)); exact Kd.R_mono HO338.out (fun _ hk => ⟨hk.2, hk.1⟩)), (by (with_reducible repeat (first | apply Kd.R_alloc | apply Kd.R_drewN | apply Kd.R_drew)); exact Kd.R_mono HO341.out (fun _ hk => ⟨hk.1.2, hk.2⟩)), impl_newOrder.a8, impl_newOrder.a2, impl_newOrder.a3, impl_newOrder.a1⟩)
           ·skip
            refine box_step ?hg (N := 5) ?hd (cs := #[.slice none 0 0, .slice none 0 0, .slice none 0 0]) (t := 64) ?hr ?_; (case hd => rfl); (case hg => rfl); (case hr => first | (go_simp; done) | (go_simp; rfl))
            intro gb345 hg w18 hbox hb
            have n0_ := Aside0.mk (Kd.R_below impl_newOrder.a6 hb)
            have n1_ := Aside0.mk (Kd.R_below impl_newOrder.a8 hb)
            have n2_ := Aside0.mk (blk_below (g := gb333) (o := .cells #[.slice A0_0 l0_0.length c0_0, .slice A0_1 l0_1.length c0_1] 30 (0, 0)) impl_newOrder.a2 hb)
            have n3_ := Aside0.mk (blk_below (g := gb334) (o := .cells #[.slice none 0 0, .slice none 0 0, .slice none 0 0] 64 (0, 0)) impl_newOrder.a3 hb)
            have n4_ := Aside0.mk (below_step impl_newOrder.a1 hb)
            have n5_ := Aside0.mk (hbox)
            have n6_ := Aside0.mk ((by rw [hg]; exact (below_size impl_newOrder.a1) : w.heap.size ≤ gb345))
            have n7_ := Aside0.mk ((by rw [hg]; exact (below_size impl_newOrder.a1) : w.heap.size ≤ gb345))
            have n8_ := Aside0.mk ((by rw [hg]; exact Nat.ne_of_lt (blk_lt (g := gb333) (o := .cells #[.slice A0_0 l0_0.length c0_0, .slice A0_1 l0_1.length c0_1] 30 (0, 0)) impl_newOrder.a2) : gb333 ≠ gb345))
            have n9_ := Aside0.mk ((by rw [hg]; exact Nat.ne_of_gt (blk_lt (g := gb333) (o := .cells #[.slice A0_0 l0_0.length c0_0, .slice A0_1 l0_1.length c0_1] 30 (0, 0)) impl_newOrder.a2) : gb345 ≠ gb333))
            have n10_ := Aside0.mk ((by rw [hg]; exact Nat.ne_of_lt (blk_lt (g := gb334) (o := .cells #[.slice none 0 0, .slice none 0 0, .slice none 0 0] 64 (0, 0)) impl_newOrder.a3) : gb334 ≠ gb345))
            have n11_ := Aside0.mk ((by rw [hg]; exact Nat.ne_of_gt (blk_lt (g := gb334) (o := .cells #[.slice none 0 0, .slice none 0 0, .slice none 0 0] 64 (0, 0)) impl_newOrder.a3) : gb345 ≠ gb334))
            clear HO338
            clear HO344
            clear BK333
            clear BK334
            clear HB
            have HO338 := n0_
            have HO344 := n1_
            have BK333 := n2_
            have BK334 := n3_
            have HB := n4_
            have BK345 := n5_
            have GW345 := n6_
            have GE345 := n7_
            have NB333_345 := n8_
            have NB345_333 := n9_
            have NB334_345 := n10_
            have NB345_334 := n11_
            clear n0_ n1_ n2_ n3_ n4_ n5_ n6_ n7_ n8_ n9_ n10_ n11_
            clear hb hbox hg
            refine hK.out _ _ ⟨(blk_cell BK333.out 0).trans rfl, (blk_cell BK333.out 1).trans rfl⟩ (fun hHeld => ?_)
            clear hK K
            refine norm_ (a' := ?_) ?_ ?_
            rotate_left
            ·show Act.put _ (some 5) _ = _
             simp only [Act.put, List.setIfInBounds_toArray, List.set_cons_zero, List.set_cons_succ, i64_w, i32_w]
             rfl
            exact norm_ impl_newOrder.a4 (hJ1_5_7 (v337, v343, gb345) _ ⟨hHeld, impl_newOrder.a6, impl_newOrder.a8, impl_newOrder.a2, impl_newOrder.a3, impl_newOrder.a5, GW345.out, GE345.out, NB333_345.out, NB345_333.out, NB334_345.out, NB345_334.out, impl_newOrder.a0⟩)
         ·skip
          rintro ⟨v337, v340⟩ w17 ⟨hS_, h0_, h1_, h2_, h3_, h4_⟩
          have n0_ : Aside0 (Kd.R (Kd.int .i64) 3 w17 w.heap.size (fun k_ => some k_ ≠ (v340 : Value).ownBlock) v337 t336) := ⟨h0_⟩
          have n1_ : Aside0 (Kd.R (Kd.int .i64) 3 w17 w.heap.size (fun k_ => some k_ ≠ (v337 : Value).ownBlock) v340 y339) := ⟨h1_⟩
          have n2_ : Aside0 (w17.heap[gb333]? = some (.cells #[.slice A0_0 l0_0.length c0_0, .slice A0_1 l0_1.length c0_1] 30 (0, 0))) := ⟨h2_⟩
          have n3_ : Aside0 (w17.heap[gb334]? = some (.cells #[.slice none 0 0, .slice none 0 0, .slice none 0 0] 64 (0, 0))) := ⟨h3_⟩
          have n4_ : Aside0 (Below w.heap.size w w17) := ⟨h4_⟩
          clear BK333
          clear BK334
          clear HB
          clear h0_ h1_ h2_ h3_ h4_
          have HO338 := n0_
          have HO341 := n1_
          have BK333 := n2_
          have BK334 := n3_
          have HB := n4_
          clear n0_ n1_ n2_ n3_ n4_
          have hHeld : w17.cell? ⟨gb333, 0, none⟩ = some (.slice A0_0 l0_0.length c0_0) ∧ w17.cell? ⟨gb333, 1, none⟩ = some (.slice A0_1 l0_1.length c0_1) := hS_
          refine norm_ (a' := ?_) ?_ ?_
          rotate_left
          ·simp only [putAll, Act.put, List.setIfInBounds_toArray, List.set_cons_zero, List.set_cons_succ]
           rfl
          refine two_ (i := 5) (j := 7) (Ni := some 25) (Nj := some 5) #[true, true, true, true, true, true, false, false, false] #[true, true, true, true, true, false, false, true, false] rfl rfl rfl rfl (two_of HT_.out impl_newOrder.a29) impl_newOrder.a30 impl_newOrder.a30 (fun K hK => ?_) (fun K hK => ?_)
          ·skip
           refine Kd.R_make_step (Kd.int .i64) _ 3 (by rfl) (N := 25) rfl 44 _ _ rfl (l0_0.length : Int) rfl rfl Try.underlying44 (.int .i64 0) 8 info3 rfl impl_newOrder.a30 (by omega) 0 (ok := fun _ => True) (okp := fun _ => True) rfl (fun _ hk => hk) trivial (of_decide_eq_true impl_newOrder.a9) (Nat.le_trans (Nat.mul_le_mul_right _ (of_decide_eq_true impl_newOrder.a9 : (l0_0.length : Int).toNat ≤ 35184372088832)) (by omega)) (Below.refl _ _) (Nat.le_refl _) ?_
           intro v343 w18 ho19 hb hg_ hnew_
           clear hg_ hnew_
           (first | rw [← Ny342.out] at ho19 | (simp only [Int.reduceToNat] at ho19; rw [← Ny342.out] at ho19))
           have n0_ := Aside0.mk (Kd.R_elder' impl_newOrder.a6 (Kd.R_base ho19) hb)
           have n1_ := Aside0.mk (Kd.R_elder' impl_newOrder.a7 (Kd.R_base ho19) hb)
           have n2_ := Aside0.mk (Kd.R_lower (Kd.R_new' (Kd.R_new' ho19 (Kd.R_lt impl_newOrder.a6)) (Kd.R_lt impl_newOrder.a7)) (below_size impl_newOrder.a1))
           have n3_ := Aside0.mk (blk_below (g := gb333) (o := .cells #[.slice A0_0 l0_0.length c0_0, .slice A0_1 l0_1.length c0_1] 30 (0, 0)) impl_newOrder.a2 hb)
           have n4_ := Aside0.mk (blk_below (g := gb334) (o := .cells #[.slice none 0 0, .slice none 0 0, .slice none 0 0] 64 (0, 0)) impl_newOrder.a3 hb)
           have n5_ := Aside0.mk (below_step impl_newOrder.a1 hb)
           clear HO338
           clear HO341
           clear BK333
           clear BK334
           clear HB
           have HO338 := n0_
           have HO341 := n1_
           have HO344 := n2_
           have BK333 := n3_
           have BK334 := n4_
           have HB := n5_
           clear n0_ n1_ n2_ n3_ n4_ n5_
           clear hb ho19
           obtain ⟨Ao20, co20, eo20⟩ := Kd.R_slice HO344.out
           (first | subst eo20 | (injection eo20 with f1_ f2_ f3_; have f4_ := f1_.symm; have f5_ := f3_.symm; clear f1_ f2_ f3_; subst f4_; subst f5_))
           obtain ⟨Ao21, co21, eo21⟩ := Kd.R_slice HO341.out
           (first | subst eo21 | (injection eo21 with f1_ f2_ f3_; have f4_ := f1_.symm; have f5_ := f3_.symm; clear f1_ f2_ f3_; subst f4_; subst f5_))
           obtain ⟨Ao22, co22, eo22⟩ := Kd.R_slice HO338.out
           (first | subst eo22 | (injection eo22 with f1_ f2_ f3_; have f4_ := f1_.symm; have f5_ := f3_.symm; clear f1_ f2_ f3_; subst f4_; subst f5_))
           refine hK.out _ _ ⟨(blk_cell BK333.out 0).trans rfl, (blk_cell BK333.out 1).trans rfl⟩ (fun hHeld => ?_)
           clear hK K
           refine norm_ (a' := ?_) ?_ ?_
           rotate_left
           ·show Act.put _ (some 25) _ = _
            simp only [Act.put, List.setIfInBounds_toArray, List.set_cons_zero, List.set_cons_succ, i64_w, i32_w]
            rfl
           refine pureS 6 26 HT_ rfl rfl ?_
           exact norm_ impl_newOrder.a4 (hJ1_3_5 (.slice Ao22 t336.length co22, .slice Ao21 y339.length co21, .slice Ao20 y342.length co20) _ ⟨hHeld, impl_newOrder.a6, impl_newOrder.a7, (by (with_reducible repeat (first | apply Kd.R_alloc | apply Kd.R_drewN | apply Kd.R_drew)); exact Kd.R_mono HO344.out (fun _ hk => ⟨hk.1.2, hk.2⟩)), impl_newOrder.a2, impl_newOrder.a3, impl_newOrder.a1⟩)
          ·skip
           refine box_step ?hg (N := 5) ?hd (cs := #[.slice none 0 0, .slice none 0 0, .slice none 0 0]) (t := 64) ?hr ?_; (case hd => rfl); (case hg => rfl); (case hr => first | (go_simp; done) | (go_simp; rfl))
           intro gb345 hg w18 hbox hb
           have n0_ := Aside0.mk (Kd.R_below impl_newOrder.a6 hb)
           have n1_ := Aside0.mk (Kd.R_below impl_newOrder.a7 hb)
           have n2_ := Aside0.mk (blk_below (g := gb333) (o := .cells #[.slice A0_0 l0_0.length c0_0, .slice A0_1 l0_1.length c0_1] 30 (0, 0)) impl_newOrder.a2 hb)
           have n3_ := Aside0.mk (blk_below (g := gb334) (o := .cells #[.slice none 0 0, .slice none 0 0, .slice none 0 0] 64 (0, 0)) impl_newOrder.a3 hb)
           have n4_ := Aside0.mk (below_step impl_newOrder.a1 hb)
           have n5_ := Aside0.mk (hbox)
           have n6_ := Aside0.mk ((by rw [hg]; exact (below_size impl_newOrder.a1) : w.heap.size ≤ gb345))
           have n7_ := Aside0.mk ((by rw [hg]; exact (below_size impl_newOrder.a1) : w.heap.size ≤ gb345))
           have n8_ := Aside0.mk ((by rw [hg]; exact Nat.ne_of_lt (blk_lt (g := gb333) (o := .cells #[.slice A0_0 l0_0.length c0_0, .slice A0_1 l0_1.length c0_1] 30 (0, 0)) impl_newOrder.a2) : gb333 ≠ gb345))
           have n9_ := Aside0.mk ((by rw [hg]; exact Nat.ne_of_gt (blk_lt (g := gb333) (o := .cells #[.slice A0_0 l0_0.length c0_0, .slice A0_1 l0_1.length c0_1] 30 (0, 0)) impl_newOrder.a2) : gb345 ≠ gb333))
           have n10_ := Aside0.mk ((by rw [hg]; exact Nat.ne_of_lt (blk_lt (g := gb334) (o := .cells #[.slice none 0 0, .slice none 0 0, .slice none 0 0] 64 (0, 0)) impl_newOrder.a3) : gb334 ≠ gb345))
           have n11_ := Aside0.mk ((by rw [hg]; exact Nat.ne_of_gt (blk_lt (g := gb334) (o := .cells #[.slice none 0 0, .slice none 0 0, .slice none 0 0] 64 (0, 0)) impl_newOrder.a3) : gb345 ≠ gb334))
           clear HO338
           clear HO341
           clear BK333
           clear BK334
           clear HB
           have HO338 := n0_
           have HO341 := n1_
           have BK333 := n2_
           have BK334 := n3_
           have HB := n4_
           have BK345 := n5_
           have GW345 := n6_
           have GE345 := n7_
           have NB333_345 := n8_
           have NB345_333 := n9_
           have NB334_345 := n10_
           have NB345_334 := n11_
           clear n0_ n1_ n2_ n3_ n4_ n5_ n6_ n7_ n8_ n9_ n10_ n11_
           clear hb hbox hg
           refine hK.out _ _ ⟨(blk_cell BK333.out 0).trans rfl, (blk_cell BK333.out 1).trans rfl⟩ (fun hHeld => ?_)
           clear hK K
           refine norm_ (a' := ?_) ?_ ?_
           rotate_left
           ·show Act.put _ (some 5) _ = _
            simp only [Act.put, List.setIfInBounds_toArray, List.set_cons_zero, List.set_cons_succ, i64_w, i32_w]
            rfl
           exact norm_ impl_newOrder.a4 (hJ1_3_7 (v337, v340, gb345) _ ⟨hHeld, impl_newOrder.a6, impl_newOrder.a7, impl_newOrder.a2, impl_newOrder.a3, impl_newOrder.a5, GW345.out, GE345.out, NB333_345.out, NB345_333.out, NB334_345.out, NB345_334.out, impl_newOrder.a0⟩)
        ·skip
         rintro ⟨v340, v343, gb345⟩ w19 ⟨hS_, h0_, h1_, h2_, h3_, h4_, h5_, h6_, h7_, h8_, h9_, h10_, h11_⟩
         have n0_ : Aside0 (Kd.R (Kd.int .i64) 3 w19 w.heap.size (fun k_ => some k_ ≠ (v343 : Value).ownBlock) v340 y339) := ⟨h0_⟩
         have n1_ : Aside0 (Kd.R (Kd.int .i64) 3 w19 w.heap.size (fun k_ => some k_ ≠ (v340 : Value).ownBlock) v343 y342) := ⟨h1_⟩
         have n2_ : Aside0 (w19.heap[gb333]? = some (.cells #[.slice A0_0 l0_0.length c0_0, .slice A0_1 l0_1.length c0_1] 30 (0, 0))) := ⟨h2_⟩
         have n3_ : Aside0 (w19.heap[gb334]? = some (.cells #[.slice none 0 0, .slice none 0 0, .slice none 0 0] 64 (0, 0))) := ⟨h3_⟩
         have n4_ : Aside0 (w19.heap[gb345]? = some (.cells #[.slice none 0 0, .slice none 0 0, .slice none 0 0] 64 (0, 0))) := ⟨h4_⟩
         have n5_ : Aside0 (w.heap.size ≤ gb345) := ⟨h5_⟩
         have n6_ : Aside0 (w.heap.size ≤ gb345) := ⟨h6_⟩
         have n7_ : Aside0 (gb333 ≠ gb345) := ⟨h7_⟩
         have n8_ : Aside0 (gb345 ≠ gb333) := ⟨h8_⟩
         have n9_ : Aside0 (gb334 ≠ gb345) := ⟨h9_⟩
         have n10_ : Aside0 (gb345 ≠ gb334) := ⟨h10_⟩
         have n11_ : Aside0 (Below w.heap.size w w19) := ⟨h11_⟩
         clear BK333
         clear BK334
         clear HB
         clear h0_ h1_ h2_ h3_ h4_ h5_ h6_ h7_ h8_ h9_ h10_ h11_
         have HO341 := n0_
         have HO344 := n1_
         have BK333 := n2_
         have BK334 := n3_
         have BK345 := n4_
         have GW345 := n5_
         have GE345 := n6_
         have NB333_345 := n7_
         have NB345_333 := n8_
         have NB334_345 := n9_
         have NB345_334 := n10_
         have HB := n11_
         clear n0_ n1_ n2_ n3_ n4_ n5_ n6_ n7_ n8_ n9_ n10_ n11_
         have hHeld : w19.cell? ⟨gb333, 0, none⟩ = some (.slice A0_0 l0_0.length c0_0) ∧ w19.cell? ⟨gb333, 1, none⟩ = some (.slice A0_1 l0_1.length c0_1) := hS_
         refine norm_ (a' := ?_) ?_ ?_
         rotate_left
         ·simp only [putAll, Act.put, List.setIfInBounds_toArray, List.set_cons_zero, List.set_cons_succ]
          rfl
         refine one_ (i := 1) (N := some 21) #[true, true, true, true, true, true, false, true, false] rfl rfl (one_of HT_.out impl_newOrder.a29) impl_newOrder.a30 (fun K hK => ?_)
         refine goes_ Try.func46 impl_newOrder.a29 rfl #[.agg #[.slice A0_0 l0_0.length c0_0, .slice A0_1 l0_1.length c0_1]] (by rfl) rfl rfl impl_newOrder.a10 ?_
         with_reducible refine (impl_sortsAbove.calls k _ _ l0_0 _ _ l0_1 t336 _ ?side1 ?side2 ?side3 ?side4 A4.out).mono ?_
         (case side1 => repeat (first | exact (Kd.C_below HR0_0.out HB.out) | (with_reducible refine Kd.C_alloc ?_ _) | (with_reducible refine Kd.C_drewN ?_ _) | (with_reducible refine Kd.C_drew ?_)))
         (case side2 => exact HC0_0.out)
         (case side3 => repeat (first | exact (Kd.C_below HR0_1.out HB.out) | (with_reducible refine Kd.C_alloc ?_ _) | (with_reducible refine Kd.C_drewN ?_ _) | (with_reducible refine Kd.C_drew ?_)))
         (case side4 => exact HC0_1.out)
         rintro e w20 ⟨v337, rfl, ho0, hb⟩
         refine ⟨_, rfl, ?_⟩
         have n0_ := Aside0.mk (Kd.R_elder' impl_newOrder.a7 (Kd.R_base ho0) hb)
         have n1_ := Aside0.mk (Kd.R_elder' impl_newOrder.a8 (Kd.R_base ho0) hb)
         have n2_ := Aside0.mk (Kd.R_lower (Kd.R_new' (Kd.R_new' ho0 (Kd.R_lt impl_newOrder.a7)) (Kd.R_lt impl_newOrder.a8)) (below_size impl_newOrder.a0))
         have n3_ := Aside0.mk (blk_below (g := gb333) (o := .cells #[.slice A0_0 l0_0.length c0_0, .slice A0_1 l0_1.length c0_1] 30 (0, 0)) impl_newOrder.a2 hb)
         have n4_ := Aside0.mk (blk_below (g := gb334) (o := .cells #[.slice none 0 0, .slice none 0 0, .slice none 0 0] 64 (0, 0)) impl_newOrder.a3 hb)
         have n5_ := Aside0.mk (blk_below (g := gb345) (o := .cells #[.slice none 0 0, .slice none 0 0, .slice none 0 0] 64 (0, 0)) impl_newOrder.a5 hb)
         have n6_ := Aside0.mk (below_step impl_newOrder.a0 hb)
         clear HO341
         clear HO344
         clear BK333
         clear BK334
         clear BK345
         clear HB
         have HO341 := n0_
         have HO344 := n1_
         have HO338 := n2_
         have BK333 := n3_
         have BK334 := n4_
         have BK345 := n5_
         have HB := n6_
         clear n0_ n1_ n2_ n3_ n4_ n5_ n6_
         (try clear hb)
         (try clear hb2)
         (try clear hk)
         (try clear hi)
         (try clear ho0)
         obtain ⟨Ao21, co21, eo21⟩ := Kd.R_slice HO344.out
         (first | subst eo21 | (injection eo21 with f1_ f2_ f3_; have f4_ := f1_.symm; have f5_ := f3_.symm; clear f1_ f2_ f3_; subst f4_; subst f5_))
         obtain ⟨Ao22, co22, eo22⟩ := Kd.R_slice HO341.out
         (first | subst eo22 | (injection eo22 with f1_ f2_ f3_; have f4_ := f1_.symm; have f5_ := f3_.symm; clear f1_ f2_ f3_; subst f4_; subst f5_))
         obtain ⟨Ao23, co23, eo23⟩ := Kd.R_slice HO338.out
         (first | subst eo23 | (injection eo23 with f1_ f2_ f3_; have f4_ := f1_.symm; have f5_ := f3_.symm; clear f1_ f2_ f3_; subst f4_; subst f5_))
         refine hK.out _ _ ⟨(blk_cell BK333.out 0).trans rfl, (blk_cell BK333.out 1).trans rfl⟩ (fun hHeld => ?_)
         clear hK K
         refine norm_ (a' := ?_) ?_ ?_
         rotate_left
         ·show Act.put _ (some 21) _ = _
          simp only [Act.put, List.setIfInBounds_toArray, List.set_cons_zero, List.set_cons_succ, i64_w, i32_w]
          rfl
         refine pureS 6 26 HT_ rfl rfl ?_
         exact norm_ impl_newOrder.a4 (hJ1_3_5_7 (.slice Ao23 t336.length co23, .slice Ao22 y339.length co22, .slice Ao21 y342.length co21, gb345) _ ⟨hHeld, (by (with_reducible repeat (first | apply Kd.R_alloc | apply Kd.R_drewN | apply Kd.R_drew)); exact Kd.R_mono HO338.out (fun _ hk => ⟨hk.1.2, hk.2⟩)), (by (with_reducible repeat (first | apply Kd.R_alloc | apply Kd.R_drewN | apply Kd.R_drew)); exact Kd.R_mono HO341.out (fun _ hk => ⟨hk.2, hk.1⟩)), (by (with_reducible repeat (first | apply Kd.R_alloc | apply Kd.R_drewN | apply Kd.R_drew)); exact Kd.R_mono HO344.out (fun _ hk => ⟨hk.2, hk.1⟩)), impl_newOrder.a2, impl_newOrder.a3, impl_newOrder.a5, GW345.out, GE345.out, NB333_345.out, NB345_333.out, NB334_345.out, NB345_334.out, impl_newOrder.a0⟩)
       ·skip
        rintro ⟨v337, v343, gb345⟩ w18 ⟨hS_, h0_, h1_, h2_, h3_, h4_, h5_, h6_, h7_, h8_, h9_, h10_, h11_⟩
        have n0_ : Aside0 (Kd.R (Kd.int .i64) 3 w18 w.heap.size (fun k_ => some k_ ≠ (v343 : Value).ownBlock) v337 t336) := ⟨h0_⟩
        have n1_ : Aside0 (Kd.R (Kd.int .i64) 3 w18 w.heap.size (fun k_ => some k_ ≠ (v337 : Value).ownBlock) v343 y342) := ⟨h1_⟩
        have n2_ : Aside0 (w18.heap[gb333]? = some (.cells #[.slice A0_0 l0_0.length c0_0, .slice A0_1 l0_1.length c0_1] 30 (0, 0))) := ⟨h2_⟩
        have n3_ : Aside0 (w18.heap[gb334]? = some (.cells #[.slice none 0 0, .slice none 0 0, .slice none 0 0] 64 (0, 0))) := ⟨h3_⟩
        have n4_ : Aside0 (w18.heap[gb345]? = some (.cells #[.slice none 0 0, .slice none 0 0, .slice none 0 0] 64 (0, 0))) := ⟨h4_⟩
        have n5_ : Aside0 (w.heap.size ≤ gb345) := ⟨h5_⟩
        have n6_ : Aside0 (w.heap.size ≤ gb345) := ⟨h6_⟩
        have n7_ : Aside0 (gb333 ≠ gb345) := ⟨h7_⟩
        have n8_ : Aside0 (gb345 ≠ gb333) := ⟨h8_⟩
        have n9_ : Aside0 (gb334 ≠ gb345) := ⟨h9_⟩
        have n10_ : Aside0 (gb345 ≠ gb334) := ⟨h10_⟩
        have n11_ : Aside0 (Below w.heap.size w w18) := ⟨h11_⟩
        clear BK333
        clear BK334
        clear HB
        clear h0_ h1_ h2_ h3_ h4_ h5_ h6_ h7_ h8_ h9_ h10_ h11_
        have HO338 := n0_
        have HO344 := n1_
        have BK333 := n2_
        have BK334 := n3_
        have BK345 := n4_
        have GW345 := n5_
        have GE345 := n6_
        have NB333_345 := n7_
        have NB345_333 := n8_
        have NB334_345 := n9_
        have NB345_334 := n10_
        have HB := n11_
        clear n0_ n1_ n2_ n3_ n4_ n5_ n6_ n7_ n8_ n9_ n10_ n11_
        have hHeld : w18.cell? ⟨gb333, 0, none⟩ = some (.slice A0_0 l0_0.length c0_0) ∧ w18.cell? ⟨gb333, 1, none⟩ = some (.slice A0_1 l0_1.length c0_1) := hS_
        refine norm_ (a' := ?_) ?_ ?_
        rotate_left
        ·simp only [putAll, Act.put, List.setIfInBounds_toArray, List.set_cons_zero, List.set_cons_succ]
         rfl
        refine one_ (i := 3) (N := some 23) #[true, true, true, true, true, true, false, true, false] rfl rfl (one_of HT_.out impl_newOrder.a29) impl_newOrder.a30 (fun K hK => ?_)
        refine Kd.R_make_step (Kd.int .i64) _ 3 (by rfl) (N := 23) rfl 44 _ _ rfl (l0_0.length : Int) rfl rfl Try.underlying44 (.int .i64 0) 8 info3 rfl impl_newOrder.a30 (by omega) 0 (ok := fun _ => True) (okp := fun _ => True) rfl (fun _ hk => hk) trivial (of_decide_eq_true impl_newOrder.a9) (Nat.le_trans (Nat.mul_le_mul_right _ (of_decide_eq_true impl_newOrder.a9 : (l0_0.length : Int).toNat ≤ 35184372088832)) (by omega)) (Below.refl _ _) (Nat.le_refl _) ?_
        intro v340 w19 ho20 hb hg_ hnew_
        clear hg_ hnew_
        (first | rw [← Ny339.out] at ho20 | (simp only [Int.reduceToNat] at ho20; rw [← Ny339.out] at ho20))
        have n0_ := Aside0.mk (Kd.R_elder' impl_newOrder.a6 (Kd.R_base ho20) hb)
        have n1_ := Aside0.mk (Kd.R_elder' impl_newOrder.a8 (Kd.R_base ho20) hb)
        have n2_ := Aside0.mk (Kd.R_lower (Kd.R_new' (Kd.R_new' ho20 (Kd.R_lt impl_newOrder.a6)) (Kd.R_lt impl_newOrder.a8)) (below_size impl_newOrder.a0))
        have n3_ := Aside0.mk (blk_below (g := gb333) (o := .cells #[.slice A0_0 l0_0.length c0_0, .slice A0_1 l0_1.length c0_1] 30 (0, 0)) impl_newOrder.a2 hb)
        have n4_ := Aside0.mk (blk_below (g := gb334) (o := .cells #[.slice none 0 0, .slice none 0 0, .slice none 0 0] 64 (0, 0)) impl_newOrder.a3 hb)
        have n5_ := Aside0.mk (blk_below (g := gb345) (o := .cells #[.slice none 0 0, .slice none 0 0, .slice none 0 0] 64 (0, 0)) impl_newOrder.a5 hb)
        have n6_ := Aside0.mk (below_step impl_newOrder.a0 hb)
        clear HO338
        clear HO344
        clear BK333
        clear BK334
        clear BK345
        clear HB
        have HO338 := n0_
        have HO344 := n1_
        have HO341 := n2_
        have BK333 := n3_
        have BK334 := n4_
        have BK345 := n5_
        have HB := n6_
        clear n0_ n1_ n2_ n3_ n4_ n5_ n6_
        clear hb ho20
        obtain ⟨Ao21, co21, eo21⟩ := Kd.R_slice HO344.out
        (first | subst eo21 | (injection eo21 with f1_ f2_ f3_; have f4_ := f1_.symm; have f5_ := f3_.symm; clear f1_ f2_ f3_; subst f4_; subst f5_))
        obtain ⟨Ao22, co22, eo22⟩ := Kd.R_slice HO341.out
        (first | subst eo22 | (injection eo22 with f1_ f2_ f3_; have f4_ := f1_.symm; have f5_ := f3_.symm; clear f1_ f2_ f3_; subst f4_; subst f5_))
        obtain ⟨Ao23, co23, eo23⟩ := Kd.R_slice HO338.out
        (first | subst eo23 | (injection eo23 with f1_ f2_ f3_; have f4_ := f1_.symm; have f5_ := f3_.symm; clear f1_ f2_ f3_; subst f4_; subst f5_))
        refine hK.out _ _ ⟨(blk_cell BK333.out 0).trans rfl, (blk_cell BK333.out 1).trans rfl⟩ (fun hHeld => ?_)
        clear hK K
        refine norm_ (a' := ?_) ?_ ?_
        rotate_left
        ·show Act.put _ (some 23) _ = _
         simp only [Act.put, List.setIfInBounds_toArray, List.set_cons_zero, List.set_cons_succ, i64_w, i32_w]
         rfl
        refine pureS 6 26 HT_ rfl rfl ?_
        exact norm_ impl_newOrder.a4 (hJ1_3_5_7 (.slice Ao23 t336.length co23, .slice Ao22 y339.length co22, .slice Ao21 y342.length co21, gb345) _ ⟨hHeld, (by (with_reducible repeat (first | apply Kd.R_alloc | apply Kd.R_drewN | apply Kd.R_drew)); exact Kd.R_mono HO338.out (fun _ hk => ⟨hk.2, hk.1⟩)), (by (with_reducible repeat (first | apply Kd.R_alloc | apply Kd.R_drewN | apply Kd.R_drew)); exact Kd.R_mono HO341.out (fun _ hk => ⟨hk.1.2, hk.2⟩)), impl_newOrder.a8, impl_newOrder.a2, impl_newOrder.a3, impl_newOrder.a5, GW345.out, GE345.out, NB333_345.out, NB345_333.out, NB334_345.out, NB345_334.out, impl_newOrder.a0⟩)
      ·skip
       rintro ⟨v337, v340, gb345⟩ w18 ⟨hS_, h0_, h1_, h2_, h3_, h4_, h5_, h6_, h7_, h8_, h9_, h10_, h11_⟩
       have n0_ : Aside0 (Kd.R (Kd.int .i64) 3 w18 w.heap.size (fun k_ => some k_ ≠ (v340 : Value).ownBlock) v337 t336) := ⟨h0_⟩
       have n1_ : Aside0 (Kd.R (Kd.int .i64) 3 w18 w.heap.size (fun k_ => some k_ ≠ (v337 : Value).ownBlock) v340 y339) := ⟨h1_⟩
       have n2_ : Aside0 (w18.heap[gb333]? = some (.cells #[.slice A0_0 l0_0.length c0_0, .slice A0_1 l0_1.length c0_1] 30 (0, 0))) := ⟨h2_⟩
       have n3_ : Aside0 (w18.heap[gb334]? = some (.cells #[.slice none 0 0, .slice none 0 0, .slice none 0 0] 64 (0, 0))) := ⟨h3_⟩
       have n4_ : Aside0 (w18.heap[gb345]? = some (.cells #[.slice none 0 0, .slice none 0 0, .slice none 0 0] 64 (0, 0))) := ⟨h4_⟩
       have n5_ : Aside0 (w.heap.size ≤ gb345) := ⟨h5_⟩
       have n6_ : Aside0 (w.heap.size ≤ gb345) := ⟨h6_⟩
       have n7_ : Aside0 (gb333 ≠ gb345) := ⟨h7_⟩
       have n8_ : Aside0 (gb345 ≠ gb333) := ⟨h8_⟩
       have n9_ : Aside0 (gb334 ≠ gb345) := ⟨h9_⟩
       have n10_ : Aside0 (gb345 ≠ gb334) := ⟨h10_⟩
       have n11_ : Aside0 (Below w.heap.size w w18) := ⟨h11_⟩
       clear BK333
       clear BK334
       clear HB
       clear h0_ h1_ h2_ h3_ h4_ h5_ h6_ h7_ h8_ h9_ h10_ h11_
       have HO338 := n0_
       have HO341 := n1_
       have BK333 := n2_
       have BK334 := n3_
       have BK345 := n4_
       have GW345 := n5_
       have GE345 := n6_
       have NB333_345 := n7_
       have NB345_333 := n8_
       have NB334_345 := n9_
       have NB345_334 := n10_
       have HB := n11_
       clear n0_ n1_ n2_ n3_ n4_ n5_ n6_ n7_ n8_ n9_ n10_ n11_
       have hHeld : w18.cell? ⟨gb333, 0, none⟩ = some (.slice A0_0 l0_0.length c0_0) ∧ w18.cell? ⟨gb333, 1, none⟩ = some (.slice A0_1 l0_1.length c0_1) := hS_
       refine norm_ (a' := ?_) ?_ ?_
       rotate_left
       ·simp only [putAll, Act.put, List.setIfInBounds_toArray, List.set_cons_zero, List.set_cons_succ]
        rfl
       refine one_ (i := 5) (N := some 25) #[true, true, true, true, true, true, false, true, false] rfl rfl (one_of HT_.out impl_newOrder.a29) impl_newOrder.a30 (fun K hK => ?_)
       refine Kd.R_make_step (Kd.int .i64) _ 3 (by rfl) (N := 25) rfl 44 _ _ rfl (l0_0.length : Int) rfl rfl Try.underlying44 (.int .i64 0) 8 info3 rfl impl_newOrder.a30 (by omega) 0 (ok := fun _ => True) (okp := fun _ => True) rfl (fun _ hk => hk) trivial (of_decide_eq_true impl_newOrder.a9) (Nat.le_trans (Nat.mul_le_mul_right _ (of_decide_eq_true impl_newOrder.a9 : (l0_0.length : Int).toNat ≤ 35184372088832)) (by omega)) (Below.refl _ _) (Nat.le_refl _) ?_
       intro v343 w19 ho20 hb hg_ hnew_
       clear hg_ hnew_
       (first | rw [← Ny342.out] at ho20 | (simp only [Int.reduceToNat] at ho20; rw [← Ny342.out] at ho20))
       have n0_ := Aside0.mk (Kd.R_elder' impl_newOrder.a6 (Kd.R_base ho20) hb)
       have n1_ := Aside0.mk (Kd.R_elder' impl_newOrder.a7 (Kd.R_base ho20) hb)
       have n2_ := Aside0.mk (Kd.R_lower (Kd.R_new' (Kd.R_new' ho20 (Kd.R_lt impl_newOrder.a6)) (Kd.R_lt impl_newOrder.a7)) (below_size impl_newOrder.a0))
       have n3_ := Aside0.mk (blk_below (g := gb333) (o := .cells #[.slice A0_0 l0_0.length c0_0, .slice A0_1 l0_1.length c0_1] 30 (0, 0)) impl_newOrder.a2 hb)
       have n4_ := Aside0.mk (blk_below (g := gb334) (o := .cells #[.slice none 0 0, .slice none 0 0, .slice none 0 0] 64 (0, 0)) impl_newOrder.a3 hb)
       have n5_ := Aside0.mk (blk_below (g := gb345) (o := .cells #[.slice none 0 0, .slice none 0 0, .slice none 0 0] 64 (0, 0)) impl_newOrder.a5 hb)
       have n6_ := Aside0.mk (below_step impl_newOrder.a0 hb)
       clear HO338
       clear HO341
       clear BK333
       clear BK334
       clear BK345
       clear HB
       have HO338 := n0_
       have HO341 := n1_
       have HO344 := n2_
       have BK333 := n3_
       have BK334 := n4_
       have BK345 := n5_
       have HB := n6_
       clear n0_ n1_ n2_ n3_ n4_ n5_ n6_
       clear hb ho20
       obtain ⟨Ao21, co21, eo21⟩ := Kd.R_slice HO344.out
       (first | subst eo21 | (injection eo21 with f1_ f2_ f3_; have f4_ := f1_.symm; have f5_ := f3_.symm; clear f1_ f2_ f3_; subst f4_; subst f5_))
       obtain ⟨Ao22, co22, eo22⟩ := Kd.R_slice HO341.out
       (first | subst eo22 | (injection eo22 with f1_ f2_ f3_; have f4_ := f1_.symm; have f5_ := f3_.symm; clear f1_ f2_ f3_; subst f4_; subst f5_))
       obtain ⟨Ao23, co23, eo23⟩ := Kd.R_slice HO338.out
       (first | subst eo23 | (injection eo23 with f1_ f2_ f3_; have f4_ := f1_.symm; have f5_ := f3_.symm; clear f1_ f2_ f3_; subst f4_; subst f5_))
       refine hK.out _ _ ⟨(blk_cell BK333.out 0).trans rfl, (blk_cell BK333.out 1).trans rfl⟩ (fun hHeld => ?_)
       clear hK K
       refine norm_ (a' := ?_) ?_ ?_
       rotate_left
       ·show Act.put _ (some 25) _ = _
        simp only [Act.put, List.setIfInBounds_toArray, List.set_cons_zero, List.set_cons_succ, i64_w, i32_w]
        rfl
       refine pureS 6 26 HT_ rfl rfl ?_
       exact norm_ impl_newOrder.a4 (hJ1_3_5_7 (.slice Ao23 t336.length co23, .slice Ao22 y339.length co22, .slice Ao21 y342.length co21, gb345) _ ⟨hHeld, impl_newOrder.a6, impl_newOrder.a7, (by (with_reducible repeat (first | apply Kd.R_alloc | apply Kd.R_drewN | apply Kd.R_drew)); exact Kd.R_mono HO344.out (fun _ hk => ⟨hk.1.2, hk.2⟩)), impl_newOrder.a2, impl_newOrder.a3, impl_newOrder.a5, GW345.out, GE345.out, NB333_345.out, NB345_333.out, NB334_345.out, NB345_334.out, impl_newOrder.a0⟩)
     ·skip
      rintro ⟨v337, v340, v343⟩ w22 ⟨hS_, h0_, h1_, h2_, h3_, h4_, h5_⟩
      have n0_ : Aside0 (Kd.R (Kd.int .i64) 3 w22 w.heap.size (fun k_ => some k_ ≠ (v340 : Value).ownBlock ∧ some k_ ≠ (v343 : Value).ownBlock) v337 t336) := ⟨h0_⟩
      have n1_ : Aside0 (Kd.R (Kd.int .i64) 3 w22 w.heap.size (fun k_ => some k_ ≠ (v337 : Value).ownBlock ∧ some k_ ≠ (v343 : Value).ownBlock) v340 y339) := ⟨h1_⟩
      have n2_ : Aside0 (Kd.R (Kd.int .i64) 3 w22 w.heap.size (fun k_ => some k_ ≠ (v337 : Value).ownBlock ∧ some k_ ≠ (v340 : Value).ownBlock) v343 y342) := ⟨h2_⟩
      have n3_ : Aside0 (w22.heap[gb333]? = some (.cells #[.slice A0_0 l0_0.length c0_0, .slice A0_1 l0_1.length c0_1] 30 (0, 0))) := ⟨h3_⟩
      have n4_ : Aside0 (w22.heap[gb334]? = some (.cells #[.slice none 0 0, .slice none 0 0, .slice none 0 0] 64 (0, 0))) := ⟨h4_⟩
      have n5_ : Aside0 (Below w.heap.size w w22) := ⟨h5_⟩
      clear BK333
      clear BK334
      clear HB
      clear h0_ h1_ h2_ h3_ h4_ h5_
      have HO338 := n0_
      have HO341 := n1_
      have HO344 := n2_
      have BK333 := n3_
      have BK334 := n4_
      have HB := n5_
      clear n0_ n1_ n2_ n3_ n4_ n5_
      have hHeld : w22.cell? ⟨gb333, 0, none⟩ = some (.slice A0_0 l0_0.length c0_0) ∧ w22.cell? ⟨gb333, 1, none⟩ = some (.slice A0_1 l0_1.length c0_1) := hS_
      obtain ⟨Ao23, co23, eo23⟩ := Kd.R_slice HO344.out
      (first | subst eo23 | (injection eo23 with f1_ f2_ f3_; have f4_ := f1_.symm; have f5_ := f3_.symm; clear f1_ f2_ f3_; subst f4_; subst f5_))
      obtain ⟨Ao24, co24, eo24⟩ := Kd.R_slice HO341.out
      (first | subst eo24 | (injection eo24 with f1_ f2_ f3_; have f4_ := f1_.symm; have f5_ := f3_.symm; clear f1_ f2_ f3_; subst f4_; subst f5_))
      obtain ⟨Ao25, co25, eo25⟩ := Kd.R_slice HO338.out
      (first | subst eo25 | (injection eo25 with f1_ f2_ f3_; have f4_ := f1_.symm; have f5_ := f3_.symm; clear f1_ f2_ f3_; subst f4_; subst f5_))
      refine norm_ (a' := ?_) ?_ ?_
      rotate_left
      ·simp only [putAll, Act.put, List.setIfInBounds_toArray, List.set_cons_zero, List.set_cons_succ]
       rfl
      refine one_ (i := 7) (N := some 5) #[true, true, true, true, true, true, true, true, false] rfl rfl (one_of HT_.out impl_newOrder.a29) impl_newOrder.a30 (fun K hK => ?_)
      refine box_step ?hg (N := 5) ?hd (cs := #[.slice none 0 0, .slice none 0 0, .slice none 0 0]) (t := 64) ?hr ?_; (case hd => rfl); (case hg => rfl); (case hr => first | (go_simp; done) | (go_simp; rfl))
      intro gb345 hg w26 hbox hb
      have n0_ := Aside0.mk (Kd.R_below impl_newOrder.a6 hb)
      have n1_ := Aside0.mk (Kd.R_below impl_newOrder.a7 hb)
      have n2_ := Aside0.mk (Kd.R_below impl_newOrder.a8 hb)
      have n3_ := Aside0.mk (blk_below (g := gb333) (o := .cells #[.slice A0_0 l0_0.length c0_0, .slice A0_1 l0_1.length c0_1] 30 (0, 0)) impl_newOrder.a2 hb)
      have n4_ := Aside0.mk (blk_below (g := gb334) (o := .cells #[.slice none 0 0, .slice none 0 0, .slice none 0 0] 64 (0, 0)) impl_newOrder.a3 hb)
      have n5_ := Aside0.mk (below_step impl_newOrder.a1 hb)
      have n6_ := Aside0.mk (hbox)
      have n7_ := Aside0.mk ((by rw [hg]; exact (below_size impl_newOrder.a1) : w.heap.size ≤ gb345))
      have n8_ := Aside0.mk ((by rw [hg]; exact (below_size impl_newOrder.a1) : w.heap.size ≤ gb345))
      have n9_ := Aside0.mk ((by rw [hg]; exact Nat.ne_of_lt (blk_lt (g := gb333) (o := .cells #[.slice A0_0 l0_0.length c0_0, .slice A0_1 l0_1.length c0_1] 30 (0, 0)) impl_newOrder.a2) : gb333 ≠ gb345))
      have n10_ := Aside0.mk ((by rw [hg]; exact Nat.ne_of_gt (blk_lt (g := gb333) (o := .cells #[.slice A0_0 l0_0.length c0_0, .slice A0_1 l0_1.length c0_1] 30 (0, 0)) impl_newOrder.a2) : gb345 ≠ gb333))
      have n11_ := Aside0.mk ((by rw [hg]; exact Nat.ne_of_lt (blk_lt (g := gb334) (o := .cells #[.slice none 0 0, .slice none 0 0, .slice none 0 0] 64 (0, 0)) impl_newOrder.a3) : gb334 ≠ gb345))
      have n12_ := Aside0.mk ((by rw [hg]; exact Nat.ne_of_gt (blk_lt (g := gb334) (o := .cells #[.slice none 0 0, .slice none 0 0, .slice none 0 0] 64 (0, 0)) impl_newOrder.a3) : gb345 ≠ gb334))
      clear HO338
      clear HO341
      clear HO344
      clear BK333
      clear BK334
      clear HB
      have HO338 := n0_
      have HO341 := n1_
      have HO344 := n2_
      have BK333 := n3_
      have BK334 := n4_
      have HB := n5_
      have BK345 := n6_
      have GW345 := n7_
      have GE345 := n8_
      have NB333_345 := n9_
      have NB345_333 := n10_
      have NB334_345 := n11_
      have NB345_334 := n12_
      clear n0_ n1_ n2_ n3_ n4_ n5_ n6_ n7_ n8_ n9_ n10_ n11_ n12_
      clear hb hbox hg
      refine hK.out _ _ ⟨(blk_cell BK333.out 0).trans rfl, (blk_cell BK333.out 1).trans rfl⟩ (fun hHeld => ?_)
      clear hK K
      refine norm_ (a' := ?_) ?_ ?_
      rotate_left
      ·show Act.put _ (some 5) _ = _
       simp only [Act.put, List.setIfInBounds_toArray, List.set_cons_zero, List.set_cons_succ, i64_w, i32_w]
       rfl
      exact norm_ impl_newOrder.a4 (hJ1_3_5_7 (.slice Ao25 t336.length co25, .slice Ao24 y339.length co24, .slice Ao23 y342.length co23, gb345) _ ⟨hHeld, impl_newOrder.a6, impl_newOrder.a7, impl_newOrder.a8, impl_newOrder.a2, impl_newOrder.a3, impl_newOrder.a5, GW345.out, GE345.out, NB333_345.out, NB345_333.out, NB334_345.out, NB345_334.out, impl_newOrder.a0⟩)
    rintro ⟨v337, v340, v343, gb345⟩ w23 ⟨hS_, h0_, h1_, h2_, h3_, h4_, h5_, h6_, h7_, h8_, h9_, h10_, h11_, h12_⟩
    have n0_ : Aside0 (Kd.R (Kd.int .i64) 3 w23 w.heap.size (fun k_ => some k_ ≠ (v340 : Value).ownBlock ∧ some k_ ≠ (v343 : Value).ownBlock) v337 t336) := ⟨h0_⟩
    have n1_ : Aside0 (Kd.R (Kd.int .i64) 3 w23 w.heap.size (fun k_ => some k_ ≠ (v337 : Value).ownBlock ∧ some k_ ≠ (v343 : Value).ownBlock) v340 y339) := ⟨h1_⟩
    have n2_ : Aside0 (Kd.R (Kd.int .i64) 3 w23 w.heap.size (fun k_ => some k_ ≠ (v337 : Value).ownBlock ∧ some k_ ≠ (v340 : Value).ownBlock) v343 y342) := ⟨h2_⟩
    have n3_ : Aside0 (w23.heap[gb333]? = some (.cells #[.slice A0_0 l0_0.length c0_0, .slice A0_1 l0_1.length c0_1] 30 (0, 0))) := ⟨h3_⟩
    have n4_ : Aside0 (w23.heap[gb334]? = some (.cells #[.slice none 0 0, .slice none 0 0, .slice none 0 0] 64 (0, 0))) := ⟨h4_⟩
    have n5_ : Aside0 (w23.heap[gb345]? = some (.cells #[.slice none 0 0, .slice none 0 0, .slice none 0 0] 64 (0, 0))) := ⟨h5_⟩
    have n6_ : Aside0 (w.heap.size ≤ gb345) := ⟨h6_⟩
    have n7_ : Aside0 (w.heap.size ≤ gb345) := ⟨h7_⟩
    have n8_ : Aside0 (gb333 ≠ gb345) := ⟨h8_⟩
    have n9_ : Aside0 (gb345 ≠ gb333) := ⟨h9_⟩
    have n10_ : Aside0 (gb334 ≠ gb345) := ⟨h10_⟩
    have n11_ : Aside0 (gb345 ≠ gb334) := ⟨h11_⟩
    have n12_ : Aside0 (Below w.heap.size w w23) := ⟨h12_⟩
    clear BK333
    clear BK334
    clear HB
    clear h0_ h1_ h2_ h3_ h4_ h5_ h6_ h7_ h8_ h9_ h10_ h11_ h12_
    have HO338 := n0_
    have HO341 := n1_
    have HO344 := n2_
    have BK333 := n3_
    have BK334 := n4_
    have BK345 := n5_
    have GW345 := n6_
    have GE345 := n7_
    have NB333_345 := n8_
    have NB345_333 := n9_
    have NB334_345 := n10_
    have NB345_334 := n11_
    have HB := n12_
    clear n0_ n1_ n2_ n3_ n4_ n5_ n6_ n7_ n8_ n9_ n10_ n11_ n12_
    have hHeld : w23.cell? ⟨gb333, 0, none⟩ = some (.slice A0_0 l0_0.length c0_0) ∧ w23.cell? ⟨gb333, 1, none⟩ = some (.slice A0_1 l0_1.length c0_1) := hS_
    obtain ⟨Ao24, co24, eo24⟩ := Kd.R_slice HO344.out
    (first | subst eo24 | (injection eo24 with f1_ f2_ f3_; have f4_ := f1_.symm; have f5_ := f3_.symm; clear f1_ f2_ f3_; subst f4_; subst f5_))
    obtain ⟨Ao25, co25, eo25⟩ := Kd.R_slice HO341.out
    (first | subst eo25 | (injection eo25 with f1_ f2_ f3_; have f4_ := f1_.symm; have f5_ := f3_.symm; clear f1_ f2_ f3_; subst f4_; subst f5_))
    obtain ⟨Ao26, co26, eo26⟩ := Kd.R_slice HO338.out
    (first | subst eo26 | (injection eo26 with f1_ f2_ f3_; have f4_ := f1_.symm; have f5_ := f3_.symm; clear f1_ f2_ f3_; subst f4_; subst f5_))
    refine norm_ (a' := ?_) ?_ ?_
    rotate_left
    ·simp only [putAll, Act.put, List.setIfInBounds_toArray, List.set_cons_zero, List.set_cons_succ]
     rfl
    refine one_ (i := 8) (N := none) #[true, true, true, true, true, true, true, true, true] rfl rfl (one_of HT_.out impl_newOrder.a29) impl_newOrder.a30 (fun K hK => ?_)
    have hs27 : w23.cell? ⟨gb345, 0, none⟩ = some (.slice none 0 0) := (blk_cell BK345.out 0).trans rfl
    have hfs27 := blk_frozen BK345.out 0
    have hns27_0 := NB333_345.out
    have hns27_1 := NB334_345.out
    have hms27_0 := NB345_333.out
    have hms27_1 := NB345_334.out
    have hs28 : w23.cell? ⟨gb345, 1, none⟩ = some (.slice none 0 0) := (blk_cell BK345.out 1).trans rfl
    have hfs28 := blk_frozen BK345.out 1
    have hns28_0 := NB333_345.out
    have hns28_1 := NB334_345.out
    have hms28_0 := NB345_333.out
    have hms28_1 := NB345_334.out
    have hs29 : w23.cell? ⟨gb345, 2, none⟩ = some (.slice none 0 0) := (blk_cell BK345.out 2).trans rfl
    have hfs29 := blk_frozen BK345.out 2
    have hns29_0 := NB333_345.out
    have hns29_1 := NB334_345.out
    have hms29_0 := NB345_333.out
    have hms29_1 := NB345_334.out
    refine skip_ (w1 := ?_) (by rfl) rfl ?_ ?_
    rotate_left
    ·go_simp
     rfl
    refine hK.out _ _ ⟨((cell_far (p := ⟨gb345, _, none⟩) NB333_345.out _).trans (((cell_far (p := ⟨gb345, _, none⟩) NB333_345.out _).trans (((cell_far (p := ⟨gb345, _, none⟩) NB333_345.out _).trans (hHeld.1)))))), ((cell_far (p := ⟨gb345, _, none⟩) NB333_345.out _).trans (((cell_far (p := ⟨gb345, _, none⟩) NB333_345.out _).trans (((cell_far (p := ⟨gb345, _, none⟩) NB333_345.out _).trans (hHeld.2))))))⟩ (fun hHeld => ?_)
    clear hK K
    refine done_ (done_of HT_.out impl_newOrder.a29) ?_
    have hnb30 := NB345_333.out
    have hnc30 := NB333_345.out
    have hnb31 := NB345_334.out
    have hnc31 := NB334_345.out
    have hcz32_0 : w23.cell? ⟨gb345, 0, none⟩ = some (.slice none 0 0) := (blk_cell BK345.out 0).trans rfl
    have hcz32_1 : w23.cell? ⟨gb345, 1, none⟩ = some (.slice none 0 0) := (blk_cell BK345.out 1).trans rfl
    have hcz32_2 : w23.cell? ⟨gb345, 2, none⟩ = some (.slice none 0 0) := (blk_cell BK345.out 2).trans rfl
    have hfz32_0 := blk_frozen BK345.out 0
    have hfz32_1 := blk_frozen BK345.out 1
    have hfz32_2 := blk_frozen BK345.out 2
    try go_wp2
    go_loopg [30] k (fun kq v30 w' => ∃ (x28_1 : List Int) (x30_1 : Int) (x346000_1 : List Int) (x346001_1 : List Int) (x346002_1 : List Int) (u346000 : Value) (u346001 : Value) (u346002 : Value), v30 = .int .i64 x30_1 ∧ Aside0 (impl_newOrder.l0 kq (l0_0.length : Int) x28_1 (t336.length : Int) x30_1 l0_0 l0_1 x346000_1 x346001_1 x346002_1 = some (r1, r2, r3, r4)) ∧ Aside0 (kq ≤ k) ∧ Aside0 (Kd.R (Kd.int .i64) 3 w' w.heap.size (fun k_ => some k_ ≠ (u346001 : Value).ownBlock ∧ some k_ ≠ (u346002 : Value).ownBlock) (.slice Ao26 t336.length co26) x28_1) ∧ Aside0 (Kd.R (Kd.int .i64) 3 w' w.heap.size (fun k_ => some k_ ≠ (u346001 : Value).ownBlock ∧ some k_ ≠ (u346002 : Value).ownBlock) u346000 x346000_1) ∧ Aside0 (Kd.R (Kd.int .i64) 3 w' w.heap.size (fun k_ => some k_ ≠ ((.slice Ao26 t336.length co26) : Value).ownBlock ∧ some k_ ≠ (u346000 : Value).ownBlock ∧ some k_ ≠ (u346002 : Value).ownBlock) u346001 x346001_1) ∧ Aside0 (Kd.R (Kd.int .i64) 3 w' w.heap.size (fun k_ => some k_ ≠ ((.slice Ao26 t336.length co26) : Value).ownBlock ∧ some k_ ≠ (u346000 : Value).ownBlock ∧ some k_ ≠ (u346001 : Value).ownBlock) u346002 x346002_1) ∧ Aside0 (w'.heap[gb333]? = some (.cells #[(.slice A0_0 l0_0.length c0_0), (.slice A0_1 l0_1.length c0_1)] 30 (0, 0))) ∧ Aside0 (w'.heap[gb334]? = some (.cells #[(.slice none 0 0), (.slice none 0 0), (.slice none 0 0)] 64 (0, 0))) ∧ Aside0 (w'.heap[gb345]? = some (.cells #[u346000, u346001, u346002] 64 (0, 0))) ∧ Aside0 (Below w.heap.size w w'))
    case atStart => exact ⟨(t336), (0), (t336), (y339), (y342), (.slice Ao26 t336.length co26), (.slice Ao25 y339.length co25), (.slice Ao24 y342.length co24), impl_newOrder.a24, H', ⟨Nat.le_refl _⟩, ⟨impl_newOrder.a19⟩, ⟨impl_newOrder.a19⟩, ⟨by (with_reducible repeat (first | apply Kd.R_alloc | apply Kd.R_drewN | apply Kd.R_drew)); exact Kd.R_mono (Kd.R_far (p := ⟨gb345, 2, none⟩) (Kd.R_far (p := ⟨gb345, 1, none⟩) (Kd.R_far (p := ⟨gb345, 0, none⟩) (Kd.R_types HO341.out BK345.out impl_newOrder.a30) (fun _ hk => hk.2) (.slice Ao26 t336.length co26)) (fun _ hk => hk.2) (.slice Ao25 y339.length co25)) (fun _ hk => hk.2) (.slice Ao24 y342.length co24)) (fun _ hk => ⟨hk.1.1, ⟨hk.1.1, hk.1.2⟩⟩)⟩, ⟨by (with_reducible repeat (first | apply Kd.R_alloc | apply Kd.R_drewN | apply Kd.R_drew)); exact Kd.R_mono (Kd.R_far (p := ⟨gb345, 2, none⟩) (Kd.R_far (p := ⟨gb345, 1, none⟩) (Kd.R_far (p := ⟨gb345, 0, none⟩) (Kd.R_types HO344.out BK345.out impl_newOrder.a30) (fun _ hk => hk.2) (.slice Ao26 t336.length co26)) (fun _ hk => hk.2) (.slice Ao25 y339.length co25)) (fun _ hk => hk.2) (.slice Ao24 y342.length co24)) (fun _ hk => ⟨hk.1.1, ⟨hk.1.1, hk.1.2⟩⟩)⟩, ⟨by (with_reducible repeat (first | refine blk_drewN ?_ _ | refine blk_drew ?_ | refine blk_alloc ?_ _)); refine blk_far ?_ NB333_345.out _; (with_reducible repeat (first | refine blk_drewN ?_ _ | refine blk_drew ?_ | refine blk_alloc ?_ _)); refine blk_far ?_ NB333_345.out _; (with_reducible repeat (first | refine blk_drewN ?_ _ | refine blk_drew ?_ | refine blk_alloc ?_ _)); refine blk_far ?_ NB333_345.out _; (with_reducible repeat (first | refine blk_drewN ?_ _ | refine blk_drew ?_ | refine blk_alloc ?_ _)); exact BK333.out⟩, ⟨by (with_reducible repeat (first | refine blk_drewN ?_ _ | refine blk_drew ?_ | refine blk_alloc ?_ _)); refine blk_far ?_ NB334_345.out _; (with_reducible repeat (first | refine blk_drewN ?_ _ | refine blk_drew ?_ | refine blk_alloc ?_ _)); refine blk_far ?_ NB334_345.out _; (with_reducible repeat (first | refine blk_drewN ?_ _ | refine blk_drew ?_ | refine blk_alloc ?_ _)); refine blk_far ?_ NB334_345.out _; (with_reducible repeat (first | refine blk_drewN ?_ _ | refine blk_drew ?_ | refine blk_alloc ?_ _)); exact BK334.out⟩, ⟨by (with_reducible repeat (first | refine blk_drewN ?_ _ | refine blk_drew ?_ | refine blk_alloc ?_ _)); refine blk_put (cs := #[.slice Ao26 t336.length co26, .slice Ao25 y339.length co25, .slice none 0 0]) ?_ 2 _ rfl; (with_reducible repeat (first | refine blk_drewN ?_ _ | refine blk_drew ?_ | refine blk_alloc ?_ _)); refine blk_put (cs := #[.slice Ao26 t336.length co26, .slice none 0 0, .slice none 0 0]) ?_ 1 _ rfl; (with_reducible repeat (first | refine blk_drewN ?_ _ | refine blk_drew ?_ | refine blk_alloc ?_ _)); refine blk_put (cs := #[.slice none 0 0, .slice none 0 0, .slice none 0 0]) ?_ 0 _ rfl; (with_reducible repeat (first | refine blk_drewN ?_ _ | refine blk_drew ?_ | refine blk_alloc ?_ _)); exact BK345.out⟩, ⟨impl_newOrder.a0⟩⟩
    case round =>
     clear H'
     try clear p2
     try clear c3
     try clear c4
     try clear c30
     try clear c31
     try clear hcz32_0
     try clear hcz32_1
     try clear hcz32_2
     try clear hfz32_0
     try clear hfz32_1
     try clear hfz32_2
     obtain ⟨x28_1, x30_1, x346000_1, x346001_1, x346002_1, u346000, u346001, u346002, rfl, HA, HK1, HO_28, HO_346000, HO_346001, HO_346002, BK333, BK334, BK345, HB⟩ := hrel
     have hl28_1 := (Kd.R_reads' HO_28.out).1
     rw [hl28_1] at HO_28
     (try simp only [hl28_1])
     (try simp only [hl28_1] at BK333)
     (try simp only [hl28_1] at BK334)
     (try simp only [hl28_1] at BK345)
     (try simp only [hl28_1] at HO_346000)
     (try simp only [hl28_1] at HO_346001)
     (try simp only [hl28_1] at HO_346002)
     cases gk with
     | zero => exact absurd HA.out (by simp [impl_newOrder.l0])
     | succ k1 =>
      have H := HA.out
      clear HA
      simp only [impl_newOrder.l0] at H
      by_cases c33 : x30_1 < (t336.length : Int)
      ·rw [if_pos c33] at H
       have c33b0 : decide (x30_1 < (t336.length : Int)) = true := decide_eq_true c33
       (try (have c33b1 := c33b0; simp only [hl28_1] at c33b1))
       clear c33
       by_cases c34 : 0 ≤ x30_1
       ·rw [if_pos c34] at H
        have c34b0 : decide (0 ≤ x30_1) = true := decide_eq_true c34
        clear c34
        by_cases c35 : x30_1 < (x28_1.length : Int)
        ·rw [if_pos c35] at H
         have c35b0 : decide (x30_1 < (x28_1.length : Int)) = true := decide_eq_true c35
         (try (have c35b1 := c35b0; simp only [hl28_1] at c35b1))
         clear c35
         replace H := Option.bind_eq_some_iff.mp H
         obtain ⟨t347, A360, H⟩ := H
         replace H : (impl_newOrder.l1 k1 (l0_0.length : Int) x30_1 x28_1 (t336.length : Int) x30_1 t347 (t347.length : Int) 0 l0_0 l0_1 x346000_1 x346001_1 x346002_1) = some (r1, r2, r3, r4) := H
         have A36 := Aside0.mk A360
         clear A360
         have H' := Aside0.mk H
         clear H
         have p346 : 0 ≤ (x30_1 : Int) := of_decide_eq_true impl_newOrder.a9
         have q346 : x30_1 < (x28_1.length : Int) := of_decide_eq_true impl_newOrder.a9
         obtain ⟨ad346, e346, hx346_0⟩ := Kd.at_int (Kd.R_reads' HO_28.out).2.2 x30_1 p346 q346
         cases e346
         replace p346 := eq_true p346
         replace q346 := eq_true q346
         go_wp2_with (first | ((with_reducible refine gate_callee (f := 67) rfl ?_); refine goesL_ (some 36) rfl rfl Try.func67 impl_newOrder.a29 rfl #[.int .i64 (rd x28_1 x30_1)] rfl impl_newOrder.a10 ?_; (with_reducible refine (impl_ListOf.calls k1 (rd x28_1 x30_1) t347 _ A36.out).mono ?_); rintro e w37 ⟨v348, rfl, ho0, hb⟩; refine ⟨_, rfl, ?_⟩; have n0_ := Aside0.mk (Kd.R_elder' (by (with_reducible repeat (first | apply Kd.R_alloc | apply Kd.R_drewN | apply Kd.R_drew)); exact HO_28.out) (Kd.R_base ho0) hb); have n1_ := Aside0.mk (Kd.R_elder' impl_newOrder.a20 (Kd.R_base ho0) hb); have n2_ := Aside0.mk (Kd.R_elder' impl_newOrder.a21 (Kd.R_base ho0) hb); have n3_ := Aside0.mk (Kd.R_elder' impl_newOrder.a31 (Kd.R_base ho0) hb); have n4_ := Aside0.mk (Kd.R_lower (Kd.R_new' (Kd.R_new' (Kd.R_new' (Kd.R_new' ho0 (Kd.R_lt (by (with_reducible repeat (first | apply Kd.R_alloc | apply Kd.R_drewN | apply Kd.R_drew)); exact HO_28.out))) (Kd.R_lt impl_newOrder.a20)) (Kd.R_lt impl_newOrder.a21)) (Kd.R_lt impl_newOrder.a31)) (below_size impl_newOrder.a0)); have n5_ := Aside0.mk (blk_below (g := gb333) (o := .cells #[.slice A0_0 l0_0.length c0_0, .slice A0_1 l0_1.length c0_1] 30 (0, 0)) impl_newOrder.a2 hb); have n6_ := Aside0.mk (blk_below (g := gb334) (o := .cells #[.slice none 0 0, .slice none 0 0, .slice none 0 0] 64 (0, 0)) impl_newOrder.a3 hb); have n7_ := Aside0.mk (blk_below (g := gb345) (o := .cells #[u346000, u346001, u346002] 64 (0, 0)) impl_newOrder.a5 hb); have n8_ := Aside0.mk (below_step impl_newOrder.a0 hb); clear HO_28; clear HO_346000; clear HO_346001; clear HO_346002; clear BK333; clear BK334; clear BK345; clear HB; have HO_28 := n0_; have HO_346000 := n1_; have HO_346001 := n2_; have HO_346002 := n3_; have HO349 := n4_; have BK333 := n5_; have BK334 := n6_; have BK345 := n7_; have HB := n8_; clear n0_ n1_ n2_ n3_ n4_ n5_ n6_ n7_ n8_; (try clear hb); (try clear hb2); (try clear hk); (try clear hi); (try clear ho0); obtain ⟨Ao38, co38, eo38⟩ := Kd.R_slice HO349.out; subst eo38))
         go_loopg [38] k1 (fun kq v38 w' => ∃ (x28_2 : List Int) (x36_2 : List Int) (x38_2 : Int) (x346000_2 : List Int) (x346001_2 : List Int) (x346002_2 : List Int) (u346000 : Value) (u346001 : Value) (u346002 : Value), v38 = .int .i64 x38_2 ∧ Aside0 (impl_newOrder.l1 kq (l0_0.length : Int) x30_1 x28_2 (t336.length : Int) x30_1 x36_2 (t347.length : Int) x38_2 l0_0 l0_1 x346000_2 x346001_2 x346002_2 = some (r1, r2, r3, r4)) ∧ Aside0 (kq ≤ k1) ∧ Aside0 (Kd.R (Kd.int .i64) 3 w' w.heap.size (fun k_ => some k_ ≠ ((.slice Ao38 t347.length co38) : Value).ownBlock ∧ some k_ ≠ (u346001 : Value).ownBlock ∧ some k_ ≠ (u346002 : Value).ownBlock) (.slice (some ad346) x28_1.length co26) x28_2) ∧ Aside0 (Kd.R (Kd.int .i64) 3 w' w.heap.size (fun k_ => some k_ ≠ ((.slice (some ad346) x28_1.length co26) : Value).ownBlock ∧ some k_ ≠ (u346000 : Value).ownBlock ∧ some k_ ≠ (u346001 : Value).ownBlock ∧ some k_ ≠ (u346002 : Value).ownBlock) (.slice Ao38 t347.length co38) x36_2) ∧ Aside0 (Kd.R (Kd.int .i64) 3 w' w.heap.size (fun k_ => some k_ ≠ ((.slice Ao38 t347.length co38) : Value).ownBlock ∧ some k_ ≠ (u346001 : Value).ownBlock ∧ some k_ ≠ (u346002 : Value).ownBlock) u346000 x346000_2) ∧ Aside0 (Kd.R (Kd.int .i64) 3 w' w.heap.size (fun k_ => some k_ ≠ ((.slice (some ad346) x28_1.length co26) : Value).ownBlock ∧ some k_ ≠ ((.slice Ao38 t347.length co38) : Value).ownBlock ∧ some k_ ≠ (u346000 : Value).ownBlock ∧ some k_ ≠ (u346002 : Value).ownBlock) u346001 x346001_2) ∧ Aside0 (Kd.R (Kd.int .i64) 3 w' w.heap.size (fun k_ => some k_ ≠ ((.slice (some ad346) x28_1.length co26) : Value).ownBlock ∧ some k_ ≠ ((.slice Ao38 t347.length co38) : Value).ownBlock ∧ some k_ ≠ (u346000 : Value).ownBlock ∧ some k_ ≠ (u346001 : Value).ownBlock) u346002 x346002_2) ∧ Aside0 (w'.heap[gb333]? = some (.cells #[(.slice A0_0 l0_0.length c0_0), (.slice A0_1 l0_1.length c0_1)] 30 (0, 0))) ∧ Aside0 (w'.heap[gb334]? = some (.cells #[(.slice none 0 0), (.slice none 0 0), (.slice none 0 0)] 64 (0, 0))) ∧ Aside0 (w'.heap[gb345]? = some (.cells #[u346000, u346001, u346002] 64 (0, 0))) ∧ Aside0 (Below w.heap.size w w'))
         case atStart => exact ⟨(x28_1), (t347), (0), (x346000_1), (x346001_1), (x346002_1), (u346000), (u346001), (u346002), impl_newOrder.a24, H', ⟨Nat.le_refl _⟩, ⟨by (try simp only [hl28_1]); (with_reducible repeat (first | apply Kd.R_alloc | apply Kd.R_drewN | apply Kd.R_drew)); exact Kd.R_mono HO_28.out (fun _ hk => ⟨hk.2, ⟨hk.1.1, hk.1.2⟩⟩)⟩, ⟨by (try simp only [hl28_1]); (with_reducible repeat (first | apply Kd.R_alloc | apply Kd.R_drewN | apply Kd.R_drew)); exact Kd.R_mono HO349.out (fun _ hk => ⟨hk.1.1.1.2, ⟨hk.1.1.2, ⟨hk.1.2, hk.2⟩⟩⟩)⟩, ⟨by (try simp only [hl28_1]); (with_reducible repeat (first | apply Kd.R_alloc | apply Kd.R_drewN | apply Kd.R_drew)); exact Kd.R_mono HO_346000.out (fun _ hk => ⟨hk.2, ⟨hk.1.1, hk.1.2⟩⟩)⟩, ⟨by (try simp only [hl28_1]); (with_reducible repeat (first | apply Kd.R_alloc | apply Kd.R_drewN | apply Kd.R_drew)); exact Kd.R_mono HO_346001.out (fun _ hk => ⟨hk.1.1, ⟨hk.2, ⟨hk.1.2.1, hk.1.2.2⟩⟩⟩)⟩, ⟨by (try simp only [hl28_1]); (with_reducible repeat (first | apply Kd.R_alloc | apply Kd.R_drewN | apply Kd.R_drew)); exact Kd.R_mono HO_346002.out (fun _ hk => ⟨hk.1.1, ⟨hk.2, ⟨hk.1.2.1, hk.1.2.2⟩⟩⟩)⟩, ⟨impl_newOrder.a16⟩, ⟨impl_newOrder.a17⟩, ⟨impl_newOrder.a18⟩, ⟨impl_newOrder.a0⟩⟩
         case round =>
          clear H'
          try clear p2
          try clear c3
          try clear p3
          try clear q3
          try clear hx3
          try clear c4
          try clear c6
          try clear c30
          try clear c31
          try clear c33
          try clear c33b0
          try clear c34
          try clear c34b0
          try clear p34
          try clear q34
          try clear hx34
          try clear c35
          try clear c35b0
          try clear hcz32_0
          try clear hcz32_1
          try clear hcz32_2
          try clear hfz32_0
          try clear hfz32_1
          try clear hfz32_2
          try clear hx346_0
          try clear p2
          try clear p346
          try clear q346
          obtain ⟨x28_2, x36_2, x38_2, x346000_2, x346001_2, x346002_2, u346000, u346001, u346002, rfl, HA, HK2, HO_28, HO_36, HO_346000, HO_346001, HO_346002, BK333, BK334, BK345, HB⟩ := hrel
          have hl28_2 := (Kd.R_reads' HO_28.out).1
          rw [hl28_2] at HO_28
          (try simp only [hl28_2])
          (try simp only [hl28_2] at BK333)
          (try simp only [hl28_2] at BK334)
          (try simp only [hl28_2] at BK345)
          (try simp only [hl28_2] at HO_36)
          (try simp only [hl28_2] at HO_346000)
          (try simp only [hl28_2] at HO_346001)
          (try simp only [hl28_2] at HO_346002)
          have hl36_2 := (Kd.R_reads' HO_36.out).1
          rw [hl36_2] at HO_36
          (try simp only [hl36_2])
          (try simp only [hl36_2] at BK333)
          (try simp only [hl36_2] at BK334)
          (try simp only [hl36_2] at BK345)
          (try simp only [hl36_2] at HO_28)
          (try simp only [hl36_2] at HO_346000)
          (try simp only [hl36_2] at HO_346001)
          (try simp only [hl36_2] at HO_346002)
          cases gk with
          | zero => exact absurd HA.out (by simp [impl_newOrder.l1])
          | succ k2 =>
           have H := HA.out
           clear HA
           simp only [impl_newOrder.l1] at H
           by_cases c39 : x38_2 < (t347.length : Int)
           ·rw [if_pos c39] at H
            have c39b0 : decide (x38_2 < (t347.length : Int)) = true := decide_eq_true c39
            (try (have c39b1 := c39b0; simp only [hl28_1, hl28_2, hl36_2] at c39b1))
            clear c39
            by_cases c40 : 0 ≤ x38_2
            ·rw [if_pos c40] at H
             have c40b0 : decide (0 ≤ x38_2) = true := decide_eq_true c40
             clear c40
             by_cases c41 : x38_2 < (x36_2.length : Int)
             ·rw [if_pos c41] at H
              have c41b0 : decide (x38_2 < (x36_2.length : Int)) = true := decide_eq_true c41
              (try (have c41b1 := c41b0; simp only [hl28_1, hl28_2, hl36_2] at c41b1))
              clear c41
              by_cases c42 : 0 ≤ (rd x36_2 x38_2)
              ·rw [if_pos c42] at H
               have c42b0 : decide (0 ≤ (rd x36_2 x38_2)) = true := decide_eq_true c42
               clear c42
               by_cases c43 : (rd x36_2 x38_2) < (x346001_2.length : Int)
               ·rw [if_pos c43] at H
                have c43b0 : decide ((rd x36_2 x38_2) < (x346001_2.length : Int)) = true := decide_eq_true c43
                (try (have c43b1 := c43b0; simp only [hl28_1, hl28_2, hl36_2] at c43b1))
                clear c43
                by_cases c44 : 0 ≤ x30_1
                ·rw [if_pos c44] at H
                 have c44b0 := eq_true c44
                 have c44b1 : decide (0 ≤ x30_1) = true := decide_eq_true c44
                 clear c44
                 obtain ⟨ji45, hji45⟩ : ∃ j_ : Int, (shl .i64 1 x30_1) = j_ := ⟨_, rfl⟩
                 replace H : (impl_newOrder.l1 k2 (l0_0.length : Int) x30_1 x28_2 (t336.length : Int) x30_1 x36_2 (t347.length : Int) (wrap64 (x38_2 + 1)) l0_0 l0_1 x346000_2 (x346001_2.set ((rd x36_2 x38_2) : Int).toNat (Go.bits .or .i64 (rd x346001_2 (rd x36_2 x38_2)) (ji45))) x346002_2) = some (r1, r2, r3, r4) := by first | (rw [hji45] at H; exact H) | (simp only [hji45] at H ⊢; exact H)
                 have hji45_ : (IntKind.i64.wrap (1 * 2 ^ min x30_1.toNat 64)) = ji45 := hji45
                 have hji45z : x30_1 ≤ 64 → (IntKind.i64.wrap (1 * 2 ^ x30_1.toNat)) = ji45 := shl_small hji45
                 have hji45u : (IntKind.i64.wrap (2 ^ min x30_1.toNat 64)) = ji45 := by have h_ := hji45_; rw [Int.one_mul] at h_; exact h_
                 have hji45v : x30_1 ≤ 64 → (IntKind.i64.wrap (2 ^ x30_1.toNat)) = ji45 := fun hle_ => by have h_ := hji45z hle_; rw [Int.one_mul] at h_; exact h_
                 have hji45y : (wrap64 (1 * 2 ^ min x30_1.toNat 64)) = ji45 := (i64_w _).symm.trans hji45_
                 have hji45x : x30_1 ≤ 64 → (wrap64 (1 * 2 ^ x30_1.toNat)) = ji45 := fun h_ => (i64_w _).symm.trans (hji45z h_)
                 obtain ⟨y352, hy352⟩ : ∃ y_ : List Int, y_ = (x346001_2.set ((rd x36_2 x38_2) : Int).toNat (Go.bits .or .i64 (rd x346001_2 (rd x36_2 x38_2)) (ji45))) := ⟨_, rfl⟩
                 replace H : (impl_newOrder.l1 k2 (l0_0.length : Int) x30_1 x28_2 (t336.length : Int) x30_1 x36_2 (t347.length : Int) (wrap64 (x38_2 + 1)) l0_0 l0_1 x346000_2 y352 x346002_2) = some (r1, r2, r3, r4) := by first | (rw [hy352]; with_reducible exact H) | (have H2_ := (Option.bind_some _ _).symm.trans H; rw [hy352]; with_reducible exact H2_) | (have H2_ := (Option.bind_some _ _).symm.trans H; with_reducible exact H2_) | with_reducible exact H | (rw [hy352]; exact H) | exact H
                 have Ny352 := Aside0.mk hy352
                 clear hy352
                 have H' := Aside0.mk H
                 clear H
                 have p350 : 0 ≤ (x38_2 : Int) := of_decide_eq_true impl_newOrder.a9
                 have q350 : x38_2 < (x36_2.length : Int) := of_decide_eq_true impl_newOrder.a9
                 obtain ⟨ad350, e350, hx350_0⟩ := Kd.at_int (Kd.R_reads' HO_36.out).2.2 x38_2 p350 q350
                 cases e350
                 replace p350 := eq_true p350
                 replace q350 := eq_true q350
                 try go_wp2
                 have n0_ := Aside0.mk (Kd.R_drew HO_28.out)
                 have n1_ := Aside0.mk (Kd.R_drew HO_36.out)
                 have n2_ := Aside0.mk (Kd.R_drew HO_346000.out)
                 have n3_ := Aside0.mk (Kd.R_drew HO_346001.out)
                 have n4_ := Aside0.mk (Kd.R_drew HO_346002.out)
                 have n5_ := Aside0.mk (blk_drew BK333.out)
                 have n6_ := Aside0.mk (blk_drew BK334.out)
                 have n7_ := Aside0.mk (blk_drew BK345.out)
                 have n8_ := Aside0.mk (below_drew1 HB.out)
                 clear HO_28
                 clear HO_36
                 clear HO_346000
                 clear HO_346001
                 clear HO_346002
                 clear BK333
                 clear BK334
                 clear BK345
                 clear HB
                 have HO_28 := n0_
                 have HO_36 := n1_
                 have HO_346000 := n2_
                 have HO_346001 := n3_
                 have HO_346002 := n4_
                 have BK333 := n5_
                 have BK334 := n6_
                 have BK345 := n7_
                 have HB := n8_
                 clear n0_ n1_ n2_ n3_ n4_ n5_ n6_ n7_ n8_
                 obtain ⟨Ao48, co48, eo48⟩ := Kd.R_slice HO_346001.out
                 (first | subst eo48 | (injection eo48 with f1_ f2_ f3_; have f4_ := f1_.symm; have f5_ := f3_.symm; clear f1_ f2_ f3_; subst f4_; subst f5_))
                 have p351 : 0 ≤ ((rd x36_2 x38_2) : Int) := of_decide_eq_true impl_newOrder.a9
                 have q351 : (rd x36_2 x38_2) < (x346001_2.length : Int) := of_decide_eq_true impl_newOrder.a9
                 obtain ⟨ad351, e351, hx351_0⟩ := Kd.at_int (Kd.R_reads' HO_346001.out).2.2 (rd x36_2 x38_2) p351 q351
                 cases e351
                 replace p351 := eq_true p351
                 replace q351 := eq_true q351
                 have p46 : 0 ≤ ((rd x36_2 x38_2) : Int) := of_decide_eq_true impl_newOrder.a9
                 have q46 : ((rd x36_2 x38_2) : Int) < ((x346001_2.length : Int) : Int) := of_decide_eq_true impl_newOrder.a9
                 obtain ⟨go46, co46, eo46, gb46, gl46, cl46, HG46⟩ := Kd.R_form HO_346001.out (by omega)
                 (first | cases eo46 | (injection eo46 with ea_ en_ ec_; (first | subst ea_ | (injection ea_ with ea_; subst ea_)); subst ec_; clear en_))
                 have GB46 := Aside0.mk gb46
                 have GG46 := Aside0.mk HG46
                 clear gb46 gl46 HG46
                 (first | simp only [add_plain] at hx351_0 | skip)
                 obtain ⟨hx46_0, hf46_0⟩ := Kd.R_celln 0 HO_346001.out ((rd x36_2 x38_2) : Int) p46 q46
                 replace p46 := eq_true p46
                 replace q46 := eq_true q46
                 have HP49 := Kd.R_putn HO_346001.out ((rd x36_2 x38_2) : Int) (Go.bits .or .i64 (rd x346001_2 (rd x36_2 x38_2)) (ji45))
                 rw [← Ny352.out] at HP49
                 have HQ49 := Aside0.mk HP49
                 clear HP49
                 refine start_ (n := 13) (S := fun w' => w'.cell? ⟨gb345, 0, none⟩ = some (u346000) ∧ w'.cell? ⟨gb345, 1, none⟩ = some (.slice (some ⟨go46, 0, none⟩) x346001_2.length co48) ∧ w'.cell? ⟨gb345, 2, none⟩ = some (u346002) ∧ w'.cell? ⟨go46, ((rd x36_2 x38_2)).toNat, none⟩ = some (.int .i64 (rd x346001_2 (rd x36_2 x38_2)))) (ds := [12]) #[false, false, false, false, false, false, false, false, false, false, false, false, false] impl_newOrder.a29 rfl rfl ⟨(blk_cell BK345.out 0).trans rfl, (blk_cell BK345.out 1).trans rfl, (blk_cell BK345.out 2).trans rfl, hx351_0⟩ (fun hHeld => ?_); refine with_tabW impl_newOrder.tab11 impl_newOrder.bits11 (fun HT_ HW_ => ?_)
                 generalize wr.drew = w47 at HO_28 HO_36 HO_346000 HO_346001 HO_346002 BK333 BK334 BK345 HB GG46 HQ49 hf46_0 hx351_0 hx46_0 hHeld ⊢
                 refine pureS 0 42 HT_ rfl rfl ?_
                 refine pureS 2 44 HT_ rfl rfl ?_
                 refine pureS 3 45 HT_ rfl rfl ?_
                 refine pureS 5 47 HT_ rfl rfl ?_
                 refine pureS 8 50 HT_ rfl rfl ?_
                 refine pureS 9 51 HT_ rfl rfl ?_
                 refine takeS 1 43 HT_ HW_ rfl rfl hHeld ?_ (by rintro w' ⟨s0, s1, s2, s3⟩; go_simp; with_reducible rfl)
                 refine takeS 4 46 HT_ HW_ rfl rfl hHeld ?_ (by rintro w' ⟨s0, s1, s2, s3⟩; go_simp; with_reducible rfl)
                 refine pureS 6 48 HT_ rfl rfl ?_
                 refine takeS 7 49 HT_ HW_ rfl rfl hHeld ?_ (by rintro w' ⟨s0, s1, s2, s3⟩; go_simp; with_reducible rfl)
                 refine pureS 10 52 HT_ rfl rfl ?_
                 refine pureS 11 53 HT_ rfl rfl ?_
                 refine last_ (i := 12) (N := none) #[true, true, true, true, true, true, true, true, true, true, true, true, true] rfl rfl (one_of HT_.out impl_newOrder.a29) impl_newOrder.a30 (fun K hK => ?_)
                 refine skip_ (w1 := ?_) (by rfl) rfl ?_ ?_
                 rotate_left
                 ·go_simp
                  rfl
                 refine hK.out _ _ ?_
                 clear hK K
                 refine done_ (done_of HT_.out impl_newOrder.a29) ?_
                 try go_wp2
                 (try simp only [← hl28_2, ← hl36_2])
                 go_roundg k2
                 case measure => have := HK1.out; have := HK2.out; omega
                 case rel => exact ⟨(x28_2), (x36_2), (wrap64 (x38_2 + 1)), (x346000_2), (y352), (x346002_2), (u346000), (.slice (some ⟨go46, 0, none⟩) x346001_2.length co48), (u346002), impl_newOrder.a24, H', ⟨by have := HK1.out; have := HK2.out; omega⟩, ⟨by (try simp only [hl28_1]); (try simp only [hl28_2]); (try simp only [hl36_2]); (with_reducible repeat (first | apply Kd.R_alloc | apply Kd.R_drewN | apply Kd.R_drew)); exact Kd.R_mono (Kd.R_far (p := ⟨go46, ((rd x36_2 x38_2) : Int).toNat, none⟩) (Kd.R_mono HO_28.out (fun k_ hk => (⟨hk, fun e_ => hk.2.1 (by rw [e_]; rfl)⟩ : _ ∧ k_ ≠ go46))) (fun _ hk => hk.2) (.int .i64 (Go.bits .or .i64 (rd x346001_2 (rd x36_2 x38_2)) (ji45)))) (fun _ hk => ⟨hk.1.1, ⟨hk.1.2.1, hk.1.2.2⟩⟩)⟩, ⟨by (try simp only [hl28_1]); (try simp only [hl28_2]); (try simp only [hl36_2]); (with_reducible repeat (first | apply Kd.R_alloc | apply Kd.R_drewN | apply Kd.R_drew)); exact Kd.R_mono (Kd.R_far (p := ⟨go46, ((rd x36_2 x38_2) : Int).toNat, none⟩) (Kd.R_mono HO_36.out (fun k_ hk => (⟨hk, fun e_ => hk.2.2.1 (by rw [e_]; rfl)⟩ : _ ∧ k_ ≠ go46))) (fun _ hk => hk.2) (.int .i64 (Go.bits .or .i64 (rd x346001_2 (rd x36_2 x38_2)) (ji45)))) (fun _ hk => ⟨hk.1.1, ⟨hk.1.2.1, ⟨hk.1.2.2.1, hk.1.2.2.2⟩⟩⟩)⟩, ⟨by (try simp only [hl28_1]); (try simp only [hl28_2]); (try simp only [hl36_2]); (with_reducible repeat (first | apply Kd.R_alloc | apply Kd.R_drewN | apply Kd.R_drew)); exact Kd.R_mono (Kd.R_far (p := ⟨go46, ((rd x36_2 x38_2) : Int).toNat, none⟩) (Kd.R_mono HO_346000.out (fun k_ hk => (⟨hk, fun e_ => hk.2.1 (by rw [e_]; rfl)⟩ : _ ∧ k_ ≠ go46))) (fun _ hk => hk.2) (.int .i64 (Go.bits .or .i64 (rd x346001_2 (rd x36_2 x38_2)) (ji45)))) (fun _ hk => ⟨hk.1.1, ⟨hk.1.2.1, hk.1.2.2⟩⟩)⟩, ⟨by (try simp only [hl28_1]); (try simp only [hl28_2]); (try simp only [hl36_2]); (with_reducible repeat (first | apply Kd.R_alloc | apply Kd.R_drewN | apply Kd.R_drew)); exact HQ49.out⟩, ⟨by (try simp only [hl28_1]); (try simp only [hl28_2]); (try simp only [hl36_2]); (with_reducible repeat (first | apply Kd.R_alloc | apply Kd.R_drewN | apply Kd.R_drew)); exact Kd.R_mono (Kd.R_far (p := ⟨go46, ((rd x36_2 x38_2) : Int).toNat, none⟩) (Kd.R_mono HO_346002.out (fun k_ hk => (⟨hk, fun e_ => hk.2.2.2 (by rw [e_]; rfl)⟩ : _ ∧ k_ ≠ go46))) (fun _ hk => hk.2) (.int .i64 (Go.bits .or .i64 (rd x346001_2 (rd x36_2 x38_2)) (ji45)))) (fun _ hk => ⟨hk.1.1, ⟨hk.1.2.1, ⟨hk.1.2.2.1, hk.1.2.2.2⟩⟩⟩)⟩, ⟨by (try simp only [hl28_1]); (try simp only [hl28_2]); (try simp only [hl36_2]); (with_reducible repeat (first | refine blk_drewN ?_ _ | refine blk_drew ?_ | refine blk_alloc ?_ _)); refine blk_far ?_ (by have h_ := Kd.R_ne HO_346001.out BK333.out impl_newOrder.a30; intro e_; exact h_ (by rw [e_]; rfl)) _; (with_reducible repeat (first | refine blk_drewN ?_ _ | refine blk_drew ?_ | refine blk_alloc ?_ _)); exact BK333.out⟩, ⟨by (try simp only [hl28_1]); (try simp only [hl28_2]); (try simp only [hl36_2]); (with_reducible repeat (first | refine blk_drewN ?_ _ | refine blk_drew ?_ | refine blk_alloc ?_ _)); refine blk_far ?_ (by have h_ := Kd.R_ne HO_346001.out BK334.out impl_newOrder.a30; intro e_; exact h_ (by rw [e_]; rfl)) _; (with_reducible repeat (first | refine blk_drewN ?_ _ | refine blk_drew ?_ | refine blk_alloc ?_ _)); exact BK334.out⟩, ⟨by (try simp only [hl28_1]); (try simp only [hl28_2]); (try simp only [hl36_2]); (with_reducible repeat (first | refine blk_drewN ?_ _ | refine blk_drew ?_ | refine blk_alloc ?_ _)); refine blk_far ?_ (by have h_ := Kd.R_ne HO_346001.out BK345.out impl_newOrder.a30; intro e_; exact h_ (by rw [e_]; rfl)) _; (with_reducible repeat (first | refine blk_drewN ?_ _ | refine blk_drew ?_ | refine blk_alloc ?_ _)); exact BK345.out⟩, ⟨by repeat (first | (with_reducible first | exact HB.out | apply below_alloc | apply pw_below_drewN | apply below_drew1 | refine below_set ?_ GB46.out | refine below_set ?_ GE333.out | refine below_set ?_ GE334.out | refine below_set ?_ GE345.out) | exact HB.out)⟩⟩
                ·rw [if_neg c44] at H
                 exact absurd H (by simp)
               ·rw [if_neg c43] at H
                exact absurd H (by simp)
              ·rw [if_neg c42] at H
               exact absurd H (by simp)
             ·rw [if_neg c41] at H
              exact absurd H (by simp)
            ·rw [if_neg c40] at H
             exact absurd H (by simp)
           ·rw [if_neg c39] at H
            have c39b0 : decide (x38_2 < (t347.length : Int)) = false := decide_eq_false c39
            (try (have c39b1 := c39b0; simp only [hl28_1, hl28_2, hl36_2] at c39b1))
            clear c39
            by_cases c50 : 0 ≤ x30_1
            ·rw [if_pos c50] at H
             have c50b0 : decide (0 ≤ x30_1) = true := decide_eq_true c50
             clear c50
             by_cases c51 : x30_1 < (x346002_2.length : Int)
             ·rw [if_pos c51] at H
              have c51b0 : decide (x30_1 < (x346002_2.length : Int)) = true := decide_eq_true c51
              (try (have c51b1 := c51b0; simp only [hl28_1, hl28_2, hl36_2] at c51b1))
              clear c51
              obtain ⟨y353, hy353⟩ : ∃ y_ : List Int, y_ = (x346002_2.set (x30_1 : Int).toNat x30_1) := ⟨_, rfl⟩
              replace H : (impl_newOrder.l0 k2 (l0_0.length : Int) x28_2 (t336.length : Int) (wrap64 (x30_1 + 1)) l0_0 l0_1 x346000_2 x346001_2 y353) = some (r1, r2, r3, r4) := by first | (rw [hy353]; with_reducible exact H) | (have H2_ := (Option.bind_some _ _).symm.trans H; rw [hy353]; with_reducible exact H2_) | (have H2_ := (Option.bind_some _ _).symm.trans H; with_reducible exact H2_) | with_reducible exact H | (rw [hy353]; exact H) | exact H
              have Ny353 := Aside0.mk hy353
              clear hy353
              have H' := Aside0.mk H
              clear H
              have hnb53 := NB345_333.out
              have hnc53 := NB333_345.out
              have hnb54 := NB345_334.out
              have hnc54 := NB334_345.out
              have hcz55_0 : wr.cell? ⟨gb345, 0, none⟩ = some (u346000) := (blk_cell BK345.out 0).trans rfl
              have hcz55_1 : wr.cell? ⟨gb345, 1, none⟩ = some (u346001) := (blk_cell BK345.out 1).trans rfl
              have hcz55_2 : wr.cell? ⟨gb345, 2, none⟩ = some (u346002) := (blk_cell BK345.out 2).trans rfl
              have hfz55_0 := blk_frozen BK345.out 0
              have hfz55_1 := blk_frozen BK345.out 1
              have hfz55_2 := blk_frozen BK345.out 2
              have p52 : 0 ≤ (x30_1 : Int) := of_decide_eq_true impl_newOrder.a9
              have q52 : (x30_1 : Int) < ((x346002_2.length : Int) : Int) := of_decide_eq_true impl_newOrder.a9
              obtain ⟨go52, co52, eo52, gb52, gl52, cl52, HG52⟩ := Kd.R_form HO_346002.out (by omega)
              (first | cases eo52 | (injection eo52 with ea_ en_ ec_; (first | subst ea_ | (injection ea_ with ea_; subst ea_)); subst ec_; clear en_))
              have GB52 := Aside0.mk gb52
              have GG52 := Aside0.mk HG52
              clear gb52 gl52 HG52
              obtain ⟨hx52_0, hf52_0⟩ := Kd.R_celln 0 HO_346002.out (x30_1 : Int) p52 q52
              replace p52 := eq_true p52
              replace q52 := eq_true q52
              have HP56 := Kd.R_putg HO_346002.out (x30_1 : Int) x30_1
              go_wp2_with (first | ((with_reducible refine gate_store (t := 3) (p := 59) rfl ?_); refine store_event (t := 3) (p := 59) (v := ?vo_w57) (w1 := (wr.setCell ⟨go52, (x30_1 : Int).toNat, none⟩ (.int .i64 x30_1))) ?hg ?ho ?hn ?hr ?_; (case ho => rfl); (case hg => rfl); (case hn => rfl); (case hr => first | (go_simp; done) | (go_simp; rfl)); intro w57 hw; have hg : wr.grownBy w57 (some go52) := (by rw [hw]; exact HP56.2); have hp_ : Kd.R (Kd.int .i64) 3 w57 w.heap.size (fun k_ => some k_ ≠ (.slice (some ad346) x28_2.length co26 : Value).ownBlock ∧ some k_ ≠ (.slice Ao38 x36_2.length co38 : Value).ownBlock ∧ some k_ ≠ (u346000 : Value).ownBlock ∧ some k_ ≠ (u346001 : Value).ownBlock) (.slice (some ⟨go52, 0, none⟩) x346002_2.length co52) y353 := (by rw [hw, Ny353.out]; exact HP56.1); clear HP56; have n0_ := Aside0.mk (Kd.R_after (v := (.slice (some ⟨go52, 0, none⟩) x346002_2.length co52)) (v1 := (.slice (some ⟨go52, 0, none⟩) x346002_2.length co52)) (ok := (fun k_ => some k_ ≠ (.slice Ao38 x36_2.length co38 : Value).ownBlock ∧ some k_ ≠ (u346001 : Value).ownBlock)) (by (with_reducible repeat (first | apply Kd.R_alloc | apply Kd.R_drewN | apply Kd.R_drew)); exact Kd.R_mono HO_28.out (fun _ hk => ⟨⟨hk.1, hk.2.1⟩, hk.2.2⟩)) hg (.inl rfl)); have n1_ := Aside0.mk (Kd.R_after (v := (.slice (some ⟨go52, 0, none⟩) x346002_2.length co52)) (v1 := (.slice (some ⟨go52, 0, none⟩) x346002_2.length co52)) (ok := (fun k_ => some k_ ≠ (.slice (some ad346) x28_2.length co26 : Value).ownBlock ∧ some k_ ≠ (u346000 : Value).ownBlock ∧ some k_ ≠ (u346001 : Value).ownBlock)) (by (with_reducible repeat (first | apply Kd.R_alloc | apply Kd.R_drewN | apply Kd.R_drew)); exact Kd.R_mono HO_36.out (fun _ hk => ⟨⟨hk.1, ⟨hk.2.1, hk.2.2.1⟩⟩, hk.2.2.2⟩)) hg (.inl rfl)); have n2_ := Aside0.mk (Kd.R_after (v := (.slice (some ⟨go52, 0, none⟩) x346002_2.length co52)) (v1 := (.slice (some ⟨go52, 0, none⟩) x346002_2.length co52)) (ok := (fun k_ => some k_ ≠ (.slice Ao38 x36_2.length co38 : Value).ownBlock ∧ some k_ ≠ (u346001 : Value).ownBlock)) (by (with_reducible repeat (first | apply Kd.R_alloc | apply Kd.R_drewN | apply Kd.R_drew)); exact Kd.R_mono HO_346000.out (fun _ hk => ⟨⟨hk.1, hk.2.1⟩, hk.2.2⟩)) hg (.inl rfl)); have n3_ := Aside0.mk (Kd.R_after (v := (.slice (some ⟨go52, 0, none⟩) x346002_2.length co52)) (v1 := (.slice (some ⟨go52, 0, none⟩) x346002_2.length co52)) (ok := (fun k_ => some k_ ≠ (.slice (some ad346) x28_2.length co26 : Value).ownBlock ∧ some k_ ≠ (.slice Ao38 x36_2.length co38 : Value).ownBlock ∧ some k_ ≠ (u346000 : Value).ownBlock)) (by (with_reducible repeat (first | apply Kd.R_alloc | apply Kd.R_drewN | apply Kd.R_drew)); exact Kd.R_mono HO_346001.out (fun _ hk => ⟨⟨hk.1, ⟨hk.2.1, hk.2.2.1⟩⟩, hk.2.2.2⟩)) hg (.inl rfl)); have n4_ := Aside0.mk (hp_); have n5_ := Aside0.mk (blk_grown (g := gb333) (o := .cells #[.slice A0_0 l0_0.length c0_0, .slice A0_1 l0_1.length c0_1] 30 (0, 0)) impl_newOrder.a2 hg (Kd.R_ne HO_346002.out BK333.out impl_newOrder.a30)); have n6_ := Aside0.mk (blk_grown (g := gb334) (o := .cells #[.slice none 0 0, .slice none 0 0, .slice none 0 0] 64 (0, 0)) impl_newOrder.a3 hg (Kd.R_ne HO_346002.out BK334.out impl_newOrder.a30)); have n7_ := Aside0.mk (blk_grown (g := gb345) (o := .cells #[u346000, u346001, .slice (some ⟨go52, 0, none⟩) x346002_2.length co52] 64 (0, 0)) impl_newOrder.a5 hg (Kd.R_ne HO_346002.out BK345.out impl_newOrder.a30)); have n8_ := Aside0.mk ((by rw [hw]; exact below_set (HB.out) GB52.out : Below w.heap.size w w57)); clear HO_28; clear HO_36; clear HO_346000; clear HO_346001; clear HO_346002; clear BK333; clear BK334; clear BK345; clear HB; have HO_28 := n0_; have HO_36 := n1_; have HO_346000 := n2_; have HO_346001 := n3_; have HO_346002 := n4_; have BK333 := n5_; have BK334 := n6_; have BK345 := n7_; have HB := n8_; clear n0_ n1_ n2_ n3_ n4_ n5_ n6_ n7_ n8_; clear hg hw hp_))
              (try simp only [← hl28_1, ← hl28_2, ← hl36_2])
              go_roundg k2
              case measure => have := HK1.out; have := HK2.out; omega
              case rel => exact ⟨(x28_2), (wrap64 (x30_1 + 1)), (x346000_2), (x346001_2), (y353), (u346000), (u346001), (.slice (some ⟨go52, 0, none⟩) x346002_2.length co52), impl_newOrder.a24, H', ⟨by have := HK1.out; have := HK2.out; omega⟩, ⟨by (try simp only [hl28_1]); (try simp only [hl28_2]); (try simp only [hl36_2]); (with_reducible repeat (first | apply Kd.R_alloc | apply Kd.R_drewN | apply Kd.R_drew)); exact Kd.R_mono HO_28.out (fun _ hk => ⟨hk.1.2, hk.2⟩)⟩, ⟨by (try simp only [hl28_1]); (try simp only [hl28_2]); (try simp only [hl36_2]); (with_reducible repeat (first | apply Kd.R_alloc | apply Kd.R_drewN | apply Kd.R_drew)); exact Kd.R_mono HO_346000.out (fun _ hk => ⟨hk.1.2, hk.2⟩)⟩, ⟨by (try simp only [hl28_1]); (try simp only [hl28_2]); (try simp only [hl36_2]); (with_reducible repeat (first | apply Kd.R_alloc | apply Kd.R_drewN | apply Kd.R_drew)); exact Kd.R_mono HO_346001.out (fun _ hk => ⟨hk.1.1, ⟨hk.1.2.2, hk.2⟩⟩)⟩, ⟨by (try simp only [hl28_1]); (try simp only [hl28_2]); (try simp only [hl36_2]); (with_reducible repeat (first | apply Kd.R_alloc | apply Kd.R_drewN | apply Kd.R_drew)); exact Kd.R_mono HO_346002.out (fun _ hk => ⟨hk.1, ⟨hk.2.2.1, hk.2.2.2⟩⟩)⟩, ⟨by (try simp only [hl28_1]); (try simp only [hl28_2]); (try simp only [hl36_2]); (with_reducible repeat (first | refine blk_drewN ?_ _ | refine blk_drew ?_ | refine blk_alloc ?_ _)); exact BK333.out⟩, ⟨by (try simp only [hl28_1]); (try simp only [hl28_2]); (try simp only [hl36_2]); (with_reducible repeat (first | refine blk_drewN ?_ _ | refine blk_drew ?_ | refine blk_alloc ?_ _)); exact BK334.out⟩, ⟨by (try simp only [hl28_1]); (try simp only [hl28_2]); (try simp only [hl36_2]); (with_reducible repeat (first | refine blk_drewN ?_ _ | refine blk_drew ?_ | refine blk_alloc ?_ _)); exact BK345.out⟩, ⟨impl_newOrder.a0⟩⟩
             ·rw [if_neg c51] at H
              exact absurd H (by simp)
            ·rw [if_neg c50] at H
             exact absurd H (by simp)
        ·rw [if_neg c35] at H
         exact absurd H (by simp)
       ·rw [if_neg c34] at H
        exact absurd H (by simp)
      ·rw [if_neg c33] at H
       have c33b0 : decide (x30_1 < (t336.length : Int)) = false := decide_eq_false c33
       (try (have c33b1 := c33b0; simp only [hl28_1] at c33b1))
       clear c33
       have H' := Aside0.mk H
       clear H
       go_wp2
       go_loopg [62] k1 (fun kq v62 w' => ∃ (x62_2 : Int) (x346000_2 : List Int) (x346001_2 : List Int) (x346002_2 : List Int) (u346000 : Value) (u346001 : Value) (u346002 : Value), v62 = .int .i64 x62_2 ∧ Aside0 (impl_newOrder.l2 kq (l0_0.length : Int) x62_2 l0_0 l0_1 x346000_2 x346001_2 x346002_2 = some (r1, r2, r3, r4)) ∧ Aside0 (kq ≤ k1) ∧ Aside0 (Kd.R (Kd.int .i64) 3 w' w.heap.size (fun k_ => some k_ ≠ (u346001 : Value).ownBlock ∧ some k_ ≠ (u346002 : Value).ownBlock) u346000 x346000_2) ∧ Aside0 (Kd.R (Kd.int .i64) 3 w' w.heap.size (fun k_ => some k_ ≠ (u346000 : Value).ownBlock ∧ some k_ ≠ (u346002 : Value).ownBlock) u346001 x346001_2) ∧ Aside0 (Kd.R (Kd.int .i64) 3 w' w.heap.size (fun k_ => some k_ ≠ (u346000 : Value).ownBlock ∧ some k_ ≠ (u346001 : Value).ownBlock) u346002 x346002_2) ∧ Aside0 (w'.heap[gb333]? = some (.cells #[(.slice A0_0 l0_0.length c0_0), (.slice A0_1 l0_1.length c0_1)] 30 (0, 0))) ∧ Aside0 (w'.heap[gb334]? = some (.cells #[(.slice none 0 0), (.slice none 0 0), (.slice none 0 0)] 64 (0, 0))) ∧ Aside0 (w'.heap[gb345]? = some (.cells #[u346000, u346001, u346002] 64 (0, 0))) ∧ Aside0 (Below w.heap.size w w'))
       case atStart => exact ⟨(0), (x346000_1), (x346001_1), (x346002_1), (u346000), (u346001), (u346002), impl_newOrder.a24, H', ⟨Nat.le_refl _⟩, ⟨impl_newOrder.a22⟩, ⟨by (try simp only [hl28_1]); (with_reducible repeat (first | apply Kd.R_alloc | apply Kd.R_drewN | apply Kd.R_drew)); exact Kd.R_mono HO_346001.out (fun _ hk => ⟨hk.2.1, hk.2.2⟩)⟩, ⟨by (try simp only [hl28_1]); (with_reducible repeat (first | apply Kd.R_alloc | apply Kd.R_drewN | apply Kd.R_drew)); exact Kd.R_mono HO_346002.out (fun _ hk => ⟨hk.2.1, hk.2.2⟩)⟩, ⟨impl_newOrder.a16⟩, ⟨impl_newOrder.a17⟩, ⟨impl_newOrder.a18⟩, ⟨impl_newOrder.a0⟩⟩
       case round =>
        clear H'
        try clear p2
        try clear c3
        try clear p3
        try clear q3
        try clear hx3
        try clear c4
        try clear p4
        try clear q4
        try clear hx4
        try clear hf4
        try clear c5
        try clear p5
        try clear q5
        try clear hx5
        try clear hf5
        try clear c6
        try clear p6
        try clear c30
        try clear c31
        try clear c33
        try clear c33b0
        try clear c34
        try clear c34b0
        try clear p34
        try clear q34
        try clear hx34
        try clear c35
        try clear c35b0
        try clear p35
        try clear q35
        try clear hx35
        try clear c39
        try clear c39b0
        try clear c40
        try clear c40b0
        try clear c41
        try clear c41b0
        try clear c42
        try clear c42b0
        try clear c43
        try clear c43b0
        try clear c44
        try clear c44b0
        try clear c44b1
        try clear p46
        try clear q46
        try clear hx46
        try clear hf46
        try clear c50
        try clear c50b0
        try clear c51
        try clear c51b0
        try clear p52
        try clear q52
        try clear hx52
        try clear hf52
        try clear c53
        try clear c54
        try clear hcz32_0
        try clear hcz32_1
        try clear hcz32_2
        try clear hcz55_0
        try clear hcz55_1
        try clear hcz55_2
        try clear hfz32_0
        try clear hfz32_1
        try clear hfz32_2
        try clear hfz55_0
        try clear hfz55_1
        try clear hfz55_2
        try clear hx346_0
        try clear hx350_0
        try clear hx351_0
        try clear hx46_0
        try clear hx52_0
        try clear p2
        try clear p3
        try clear p34
        try clear p346
        try clear p350
        try clear p351
        try clear p46
        try clear p52
        try clear q3
        try clear q34
        try clear q346
        try clear q350
        try clear q351
        try clear q46
        try clear q52
        obtain ⟨x62_2, x346000_2, x346001_2, x346002_2, u346000, u346001, u346002, rfl, HA, HK2, HO_346000, HO_346001, HO_346002, BK333, BK334, BK345, HB⟩ := hrel
        cases gk with
        | zero => exact absurd HA.out (by simp [impl_newOrder.l2])
        | succ k2 =>
         have H := HA.out
         clear HA
         simp only [impl_newOrder.l2] at H
         by_cases c58 : x62_2 < (l0_0.length : Int)
         ·rw [if_pos c58] at H
          have c58b0 : decide (x62_2 < (l0_0.length : Int)) = true := decide_eq_true c58
          (try (have c58b1 := c58b0; simp only [hl28_1] at c58b1))
          clear c58
          have H' := Aside0.mk H
          clear H
          have hnb59 := NB333_334.out
          have hnc59 := NB334_333.out
          have hnb60 := NB333_345.out
          have hnc60 := NB345_333.out
          have hcz61_0 : wr.cell? ⟨gb333, 0, none⟩ = some (.slice A0_0 l0_0.length c0_0) := (blk_cell BK333.out 0).trans rfl
          have hcz61_1 : wr.cell? ⟨gb333, 1, none⟩ = some (.slice A0_1 l0_1.length c0_1) := (blk_cell BK333.out 1).trans rfl
          have hfz61_0 := blk_frozen BK333.out 0
          have hfz61_1 := blk_frozen BK333.out 1
          go_wp2
          go_loopg [67] k2 (fun kq v67 w' => ∃ (x67_3 : Int) (x346000_3 : List Int) (x346001_3 : List Int) (x346002_3 : List Int) (u346000 : Value) (u346001 : Value) (u346002 : Value), v67 = .int .i64 x67_3 ∧ Aside0 (impl_newOrder.l3 kq (l0_0.length : Int) x62_2 l0_1 (l0_1.length : Int) x67_3 l0_0 l0_1 x346000_3 x346001_3 x346002_3 = some (r1, r2, r3, r4)) ∧ Aside0 (kq ≤ k2) ∧ Aside0 (Kd.R (Kd.int .i64) 3 w' w.heap.size (fun k_ => some k_ ≠ (u346001 : Value).ownBlock ∧ some k_ ≠ (u346002 : Value).ownBlock) u346000 x346000_3) ∧ Aside0 (Kd.R (Kd.int .i64) 3 w' w.heap.size (fun k_ => some k_ ≠ (u346000 : Value).ownBlock ∧ some k_ ≠ (u346002 : Value).ownBlock) u346001 x346001_3) ∧ Aside0 (Kd.R (Kd.int .i64) 3 w' w.heap.size (fun k_ => some k_ ≠ (u346000 : Value).ownBlock ∧ some k_ ≠ (u346001 : Value).ownBlock) u346002 x346002_3) ∧ Aside0 (w'.heap[gb333]? = some (.cells #[(.slice A0_0 l0_0.length c0_0), (.slice A0_1 l0_1.length c0_1)] 30 (0, 0))) ∧ Aside0 (w'.heap[gb334]? = some (.cells #[(.slice none 0 0), (.slice none 0 0), (.slice none 0 0)] 64 (0, 0))) ∧ Aside0 (w'.heap[gb345]? = some (.cells #[u346000, u346001, u346002] 64 (0, 0))) ∧ Aside0 (Below w.heap.size w w'))
          case atStart => exact ⟨(0), (x346000_2), (x346001_2), (x346002_2), (u346000), (u346001), (u346002), impl_newOrder.a24, H', ⟨Nat.le_refl _⟩, ⟨impl_newOrder.a22⟩, ⟨impl_newOrder.a26⟩, ⟨impl_newOrder.a27⟩, ⟨impl_newOrder.a16⟩, ⟨impl_newOrder.a17⟩, ⟨impl_newOrder.a18⟩, ⟨impl_newOrder.a0⟩⟩
          case round =>
           clear H'
           try clear p2
           try clear c3
           try clear p3
           try clear q3
           try clear hx3
           try clear c4
           try clear p4
           try clear q4
           try clear hx4
           try clear hf4
           try clear c5
           try clear p5
           try clear q5
           try clear hx5
           try clear hf5
           try clear c6
           try clear p6
           try clear c30
           try clear c31
           try clear c33
           try clear c33b0
           try clear c34
           try clear c34b0
           try clear p34
           try clear q34
           try clear hx34
           try clear c35
           try clear c35b0
           try clear p35
           try clear q35
           try clear hx35
           try clear c39
           try clear c39b0
           try clear c40
           try clear c40b0
           try clear c41
           try clear c41b0
           try clear c42
           try clear c42b0
           try clear c43
           try clear c43b0
           try clear c44
           try clear c44b0
           try clear c44b1
           try clear p46
           try clear q46
           try clear hx46
           try clear hf46
           try clear c50
           try clear c50b0
           try clear c51
           try clear c51b0
           try clear p52
           try clear q52
           try clear hx52
           try clear hf52
           try clear c53
           try clear c54
           try clear c58
           try clear c58b0
           try clear c59
           try clear c60
           try clear hcz32_0
           try clear hcz32_1
           try clear hcz32_2
           try clear hcz55_0
           try clear hcz55_1
           try clear hcz55_2
           try clear hcz61_0
           try clear hcz61_1
           try clear hfz32_0
           try clear hfz32_1
           try clear hfz32_2
           try clear hfz55_0
           try clear hfz55_1
           try clear hfz55_2
           try clear hfz61_0
           try clear hfz61_1
           try clear hx346_0
           try clear hx350_0
           try clear hx351_0
           try clear hx46_0
           try clear hx52_0
           try clear p2
           try clear p3
           try clear p34
           try clear p346
           try clear p35
           try clear p350
           try clear p351
           try clear p4
           try clear p46
           try clear p5
           try clear p52
           try clear p6
           try clear q3
           try clear q34
           try clear q346
           try clear q35
           try clear q350
           try clear q351
           try clear q4
           try clear q46
           try clear q5
           try clear q52
           obtain ⟨x67_3, x346000_3, x346001_3, x346002_3, u346000, u346001, u346002, rfl, HA, HK3, HO_346000, HO_346001, HO_346002, BK333, BK334, BK345, HB⟩ := hrel
           cases gk with
           | zero => exact absurd HA.out (by simp [impl_newOrder.l3])
           | succ k3 =>
            have H := HA.out
            clear HA
            simp only [impl_newOrder.l3] at H
            by_cases c62 : x67_3 < (l0_1.length : Int)
            ·rw [if_pos c62] at H
             have c62b0 : decide (x67_3 < (l0_1.length : Int)) = true := decide_eq_true c62
             (try (have c62b1 := c62b0; simp only [hl28_1] at c62b1))
             clear c62
             by_cases c63 : 0 ≤ x67_3
             ·rw [if_pos c63] at H
              have c63b0 : decide (0 ≤ x67_3) = true := decide_eq_true c63
              clear c63
              by_cases c64 : x67_3 < (l0_1.length : Int)
              ·rw [if_pos c64] at H
               have c64b0 : decide (x67_3 < (l0_1.length : Int)) = true := decide_eq_true c64
               (try (have c64b1 := c64b0; simp only [hl28_1] at c64b1))
               clear c64
               by_cases c65 : 0 ≤ ((rd_T52 l0_1 x67_3).f0)
               ·rw [if_pos c65] at H
                have c65b0 : decide (0 ≤ ((rd_T52 l0_1 x67_3).f0)) = true := decide_eq_true c65
                clear c65
                by_cases c66 : ((rd_T52 l0_1 x67_3).f0) < (x346002_3.length : Int)
                ·rw [if_pos c66] at H
                 have c66b0 : decide (((rd_T52 l0_1 x67_3).f0) < (x346002_3.length : Int)) = true := decide_eq_true c66
                 (try (have c66b1 := c66b0; simp only [hl28_1] at c66b1))
                 clear c66
                 by_cases c67 : 0 ≤ ((rd_T52 l0_1 x67_3).f1)
                 ·rw [if_pos c67] at H
                  have c67b0 : decide (0 ≤ ((rd_T52 l0_1 x67_3).f1)) = true := decide_eq_true c67
                  clear c67
                  by_cases c68 : ((rd_T52 l0_1 x67_3).f1) < (x346002_3.length : Int)
                  ·rw [if_pos c68] at H
                   have c68b0 : decide (((rd_T52 l0_1 x67_3).f1) < (x346002_3.length : Int)) = true := decide_eq_true c68
                   (try (have c68b1 := c68b0; simp only [hl28_1] at c68b1))
                   clear c68
                   obtain ⟨ji69, hji69⟩ : ∃ j_ : Int, (mn (rd x346002_3 ((rd_T52 l0_1 x67_3).f0)) (rd x346002_3 ((rd_T52 l0_1 x67_3).f1))) = j_ := ⟨_, rfl⟩
                   replace H : (impl_newOrder.l3 k3 (l0_0.length : Int) x62_2 l0_1 (l0_1.length : Int) (wrap64 (x67_3 + 1)) l0_0 l0_1 x346000_3 x346001_3 ((x346002_3.set (((rd_T52 l0_1 x67_3).f0) : Int).toNat (ji69)).set (((rd_T52 l0_1 x67_3).f1) : Int).toNat (ji69))) = some (r1, r2, r3, r4) := by first | (rw [hji69] at H; exact H) | (simp only [hji69] at H ⊢; exact H)
                   have hji69_ : (if (rd x346002_3 ((rd_T52 l0_1 x67_3).f1)) < (rd x346002_3 ((rd_T52 l0_1 x67_3).f0)) then (rd x346002_3 ((rd_T52 l0_1 x67_3).f1)) else (rd x346002_3 ((rd_T52 l0_1 x67_3).f0))) = ji69 := hji69
                   obtain ⟨y358, hy358⟩ : ∃ y_ : List Int, y_ = (x346002_3.set (((rd_T52 l0_1 x67_3).f0) : Int).toNat (ji69)) := ⟨_, rfl⟩
                   replace H : (impl_newOrder.l3 k3 (l0_0.length : Int) x62_2 l0_1 (l0_1.length : Int) (wrap64 (x67_3 + 1)) l0_0 l0_1 x346000_3 x346001_3 (y358.set (((rd_T52 l0_1 x67_3).f1) : Int).toNat (ji69))) = some (r1, r2, r3, r4) := by first | (rw [hy358]; with_reducible exact H) | (have H2_ := (Option.bind_some _ _).symm.trans H; rw [hy358]; with_reducible exact H2_) | (have H2_ := (Option.bind_some _ _).symm.trans H; with_reducible exact H2_) | with_reducible exact H | (rw [hy358]; exact H) | exact H
                   have Ny358 := Aside0.mk hy358
                   clear hy358
                   obtain ⟨y359, hy359⟩ : ∃ y_ : List Int, y_ = (y358.set (((rd_T52 l0_1 x67_3).f1) : Int).toNat (ji69)) := ⟨_, rfl⟩
                   replace H : (impl_newOrder.l3 k3 (l0_0.length : Int) x62_2 l0_1 (l0_1.length : Int) (wrap64 (x67_3 + 1)) l0_0 l0_1 x346000_3 x346001_3 y359) = some (r1, r2, r3, r4) := by first | (rw [hy359]; with_reducible exact H) | (have H2_ := (Option.bind_some _ _).symm.trans H; rw [hy359]; with_reducible exact H2_) | (have H2_ := (Option.bind_some _ _).symm.trans H; with_reducible exact H2_) | with_reducible exact H | (rw [hy359]; exact H) | exact H
                   have Ny359 := Aside0.mk hy359
                   clear hy359
                   have H' := Aside0.mk H
                   clear H
                   have p354 : 0 ≤ (x67_3 : Int) := of_decide_eq_true impl_newOrder.a9
                   have q354 : x67_3 < (l0_1.length : Int) := of_decide_eq_true impl_newOrder.a9
                   obtain ⟨ad354, e354, hx354_0, hx354_1⟩ := at_T52 HR0_1.out x67_3 p354 q354
                   cases e354
                   replace hx354_0 := (HB.out.cell (World.block_lt_of_cell? w _ hx354_0)).trans hx354_0
                   replace hx354_1 := (HB.out.cell (World.block_lt_of_cell? w _ hx354_1)).trans hx354_1
                   replace p354 := eq_true p354
                   replace q354 := eq_true q354
                   try go_wp2_with (first | ((with_reducible refine gate_dst (N := 11) rfl ?_); refine box_event ?hg (N := 11) ?hd (cs := #[.int .i64 0, .int .i64 0]) (t := 52) ?hr ?_; (case hd => rfl); (case hg => rfl); (case hr => first | (go_simp; done) | (go_simp; rfl)); intro gb355 hg w72 hbox hb; have n0_ := Aside0.mk (Kd.R_below impl_newOrder.a20 hb); have n1_ := Aside0.mk (Kd.R_below impl_newOrder.a21 hb); have n2_ := Aside0.mk (Kd.R_below impl_newOrder.a31 hb); have n3_ := Aside0.mk (blk_below (g := gb333) (o := .cells #[.slice A0_0 l0_0.length c0_0, .slice (some ad354) l0_1.length c0_1] 30 (0, 0)) impl_newOrder.a2 hb); have n4_ := Aside0.mk (blk_below (g := gb334) (o := .cells #[.slice none 0 0, .slice none 0 0, .slice none 0 0] 64 (0, 0)) impl_newOrder.a3 hb); have n5_ := Aside0.mk (blk_below (g := gb345) (o := .cells #[u346000, u346001, u346002] 64 (0, 0)) impl_newOrder.a5 hb); have n6_ := Aside0.mk (below_step impl_newOrder.a0 hb); have n7_ := Aside0.mk (hbox); have n8_ := Aside0.mk ((by rw [hg]; exact (below_size impl_newOrder.a0) : w.heap.size ≤ gb355)); have n9_ := Aside0.mk ((by rw [hg]; exact (below_size impl_newOrder.a0) : w.heap.size ≤ gb355)); have n10_ := Aside0.mk ((by rw [hg]; exact Nat.ne_of_lt (blk_lt (g := gb333) (o := .cells #[.slice A0_0 l0_0.length c0_0, .slice (some ad354) l0_1.length c0_1] 30 (0, 0)) impl_newOrder.a2) : gb333 ≠ gb355)); have n11_ := Aside0.mk ((by rw [hg]; exact Nat.ne_of_gt (blk_lt (g := gb333) (o := .cells #[.slice A0_0 l0_0.length c0_0, .slice (some ad354) l0_1.length c0_1] 30 (0, 0)) impl_newOrder.a2) : gb355 ≠ gb333)); have n12_ := Aside0.mk ((by rw [hg]; exact Nat.ne_of_lt (blk_lt (g := gb334) (o := .cells #[.slice none 0 0, .slice none 0 0, .slice none 0 0] 64 (0, 0)) impl_newOrder.a3) : gb334 ≠ gb355)); have n13_ := Aside0.mk ((by rw [hg]; exact Nat.ne_of_gt (blk_lt (g := gb334) (o := .cells #[.slice none 0 0, .slice none 0 0, .slice none 0 0] 64 (0, 0)) impl_newOrder.a3) : gb355 ≠ gb334)); have n14_ := Aside0.mk ((by rw [hg]; exact Nat.ne_of_lt (blk_lt (g := gb345) (o := .cells #[u346000, u346001, u346002] 64 (0, 0)) impl_newOrder.a5) : gb345 ≠ gb355)); have n15_ := Aside0.mk ((by rw [hg]; exact Nat.ne_of_gt (blk_lt (g := gb345) (o := .cells #[u346000, u346001, u346002] 64 (0, 0)) impl_newOrder.a5) : gb355 ≠ gb345)); clear HO_346000; clear HO_346001; clear HO_346002; clear BK333; clear BK334; clear BK345; clear HB; have HO_346000 := n0_; have HO_346001 := n1_; have HO_346002 := n2_; have BK333 := n3_; have BK334 := n4_; have BK345 := n5_; have HB := n6_; have BK355 := n7_; have GW355 := n8_; have GE355 := n9_; have NB333_355 := n10_; have NB355_333 := n11_; have NB334_355 := n12_; have NB355_334 := n13_; have NB345_355 := n14_; have NB355_345 := n15_; clear n0_ n1_ n2_ n3_ n4_ n5_ n6_ n7_ n8_ n9_ n10_ n11_ n12_ n13_ n14_ n15_; clear hb hbox hg; have hnb73 := NB355_333.out; have hnc73 := NB333_355.out; have hnb74 := NB355_334.out; have hnc74 := NB334_355.out; have hnb75 := NB355_345.out; have hnc75 := NB345_355.out; have hcz76_0 : w72.cell? ⟨gb355, 0, none⟩ = some (.int .i64 0) := (blk_cell BK355.out 0).trans rfl; have hcz76_1 : w72.cell? ⟨gb355, 1, none⟩ = some (.int .i64 0) := (blk_cell BK355.out 1).trans rfl; have hfz76_0 := blk_frozen BK355.out 0; have hfz76_1 := blk_frozen BK355.out 1))
                   have n0_ : Aside0 (Kd.R (Kd.int .i64) 3 ((w72.setCell ⟨gb355, 0, none⟩ (.int .i64 ((rd_T52 l0_1 x67_3).f0))).setCell ⟨gb355, 1, none⟩ (.int .i64 ((rd_T52 l0_1 x67_3).f1))) w.heap.size (fun k_ => some k_ ≠ (u346001 : Value).ownBlock ∧ some k_ ≠ (u346002 : Value).ownBlock) u346000 x346000_3) := ⟨by (with_reducible repeat (first | apply Kd.R_alloc | apply Kd.R_drewN | apply Kd.R_drew)); exact Kd.R_mono (Kd.R_far (p := ⟨gb355, 1, none⟩) (Kd.R_far (p := ⟨gb355, 0, none⟩) (Kd.R_types HO_346000.out BK355.out impl_newOrder.a30) (fun _ hk => hk.2) (.int .i64 ((rd_T52 l0_1 x67_3).f0))) (fun _ hk => hk.2) (.int .i64 ((rd_T52 l0_1 x67_3).f1))) (fun _ hk => ⟨hk.1.1, hk.1.2⟩)⟩
                   have n1_ : Aside0 (Kd.R (Kd.int .i64) 3 ((w72.setCell ⟨gb355, 0, none⟩ (.int .i64 ((rd_T52 l0_1 x67_3).f0))).setCell ⟨gb355, 1, none⟩ (.int .i64 ((rd_T52 l0_1 x67_3).f1))) w.heap.size (fun k_ => some k_ ≠ (u346000 : Value).ownBlock ∧ some k_ ≠ (u346002 : Value).ownBlock) u346001 x346001_3) := ⟨by (with_reducible repeat (first | apply Kd.R_alloc | apply Kd.R_drewN | apply Kd.R_drew)); exact Kd.R_mono (Kd.R_far (p := ⟨gb355, 1, none⟩) (Kd.R_far (p := ⟨gb355, 0, none⟩) (Kd.R_types HO_346001.out BK355.out impl_newOrder.a30) (fun _ hk => hk.2) (.int .i64 ((rd_T52 l0_1 x67_3).f0))) (fun _ hk => hk.2) (.int .i64 ((rd_T52 l0_1 x67_3).f1))) (fun _ hk => ⟨hk.1.1, hk.1.2⟩)⟩
                   have n2_ : Aside0 (Kd.R (Kd.int .i64) 3 ((w72.setCell ⟨gb355, 0, none⟩ (.int .i64 ((rd_T52 l0_1 x67_3).f0))).setCell ⟨gb355, 1, none⟩ (.int .i64 ((rd_T52 l0_1 x67_3).f1))) w.heap.size (fun k_ => some k_ ≠ (u346000 : Value).ownBlock ∧ some k_ ≠ (u346001 : Value).ownBlock) u346002 x346002_3) := ⟨by (with_reducible repeat (first | apply Kd.R_alloc | apply Kd.R_drewN | apply Kd.R_drew)); exact Kd.R_mono (Kd.R_far (p := ⟨gb355, 1, none⟩) (Kd.R_far (p := ⟨gb355, 0, none⟩) (Kd.R_types HO_346002.out BK355.out impl_newOrder.a30) (fun _ hk => hk.2) (.int .i64 ((rd_T52 l0_1 x67_3).f0))) (fun _ hk => hk.2) (.int .i64 ((rd_T52 l0_1 x67_3).f1))) (fun _ hk => ⟨hk.1.1, hk.1.2⟩)⟩
                   have n3_ : Aside0 (((w72.setCell ⟨gb355, 0, none⟩ (.int .i64 ((rd_T52 l0_1 x67_3).f0))).setCell ⟨gb355, 1, none⟩ (.int .i64 ((rd_T52 l0_1 x67_3).f1))).heap[gb333]? = some (.cells #[.slice A0_0 l0_0.length c0_0, .slice (some ad354) l0_1.length c0_1] 30 (0, 0))) := ⟨by (with_reducible repeat (first | refine blk_drewN ?_ _ | refine blk_drew ?_ | refine blk_alloc ?_ _)); refine blk_far ?_ NB333_355.out _; (with_reducible repeat (first | refine blk_drewN ?_ _ | refine blk_drew ?_ | refine blk_alloc ?_ _)); refine blk_far ?_ NB333_355.out _; (with_reducible repeat (first | refine blk_drewN ?_ _ | refine blk_drew ?_ | refine blk_alloc ?_ _)); exact BK333.out⟩
                   have n4_ : Aside0 (((w72.setCell ⟨gb355, 0, none⟩ (.int .i64 ((rd_T52 l0_1 x67_3).f0))).setCell ⟨gb355, 1, none⟩ (.int .i64 ((rd_T52 l0_1 x67_3).f1))).heap[gb334]? = some (.cells #[.slice none 0 0, .slice none 0 0, .slice none 0 0] 64 (0, 0))) := ⟨by (with_reducible repeat (first | refine blk_drewN ?_ _ | refine blk_drew ?_ | refine blk_alloc ?_ _)); refine blk_far ?_ NB334_355.out _; (with_reducible repeat (first | refine blk_drewN ?_ _ | refine blk_drew ?_ | refine blk_alloc ?_ _)); refine blk_far ?_ NB334_355.out _; (with_reducible repeat (first | refine blk_drewN ?_ _ | refine blk_drew ?_ | refine blk_alloc ?_ _)); exact BK334.out⟩
                   have n5_ : Aside0 (((w72.setCell ⟨gb355, 0, none⟩ (.int .i64 ((rd_T52 l0_1 x67_3).f0))).setCell ⟨gb355, 1, none⟩ (.int .i64 ((rd_T52 l0_1 x67_3).f1))).heap[gb345]? = some (.cells #[u346000, u346001, u346002] 64 (0, 0))) := ⟨by (with_reducible repeat (first | refine blk_drewN ?_ _ | refine blk_drew ?_ | refine blk_alloc ?_ _)); refine blk_far ?_ NB345_355.out _; (with_reducible repeat (first | refine blk_drewN ?_ _ | refine blk_drew ?_ | refine blk_alloc ?_ _)); refine blk_far ?_ NB345_355.out _; (with_reducible repeat (first | refine blk_drewN ?_ _ | refine blk_drew ?_ | refine blk_alloc ?_ _)); exact BK345.out⟩
                   have n6_ : Aside0 (((w72.setCell ⟨gb355, 0, none⟩ (.int .i64 ((rd_T52 l0_1 x67_3).f0))).setCell ⟨gb355, 1, none⟩ (.int .i64 ((rd_T52 l0_1 x67_3).f1))).heap[gb355]? = some (.cells #[.int .i64 ((rd_T52 l0_1 x67_3).f0), .int .i64 ((rd_T52 l0_1 x67_3).f1)] 52 (0, 0))) := ⟨by (with_reducible repeat (first | refine blk_drewN ?_ _ | refine blk_drew ?_ | refine blk_alloc ?_ _)); refine blk_put (cs := #[.int .i64 ((rd_T52 l0_1 x67_3).f0), .int .i64 0]) ?_ 1 _ rfl; (with_reducible repeat (first | refine blk_drewN ?_ _ | refine blk_drew ?_ | refine blk_alloc ?_ _)); refine blk_put (cs := #[.int .i64 0, .int .i64 0]) ?_ 0 _ rfl; (with_reducible repeat (first | refine blk_drewN ?_ _ | refine blk_drew ?_ | refine blk_alloc ?_ _)); exact BK355.out⟩
                   have n7_ : Aside0 (Below w.heap.size w ((w72.setCell ⟨gb355, 0, none⟩ (.int .i64 ((rd_T52 l0_1 x67_3).f0))).setCell ⟨gb355, 1, none⟩ (.int .i64 ((rd_T52 l0_1 x67_3).f1)))) := ⟨impl_newOrder.a28⟩
                   (try clear HO_346000)
                   (try clear HO_346001)
                   (try clear HO_346002)
                   (try clear BK333)
                   (try clear BK334)
                   (try clear BK345)
                   (try clear BK355)
                   (try clear HB)
                   generalize ((w72.setCell ⟨gb355, 0, none⟩ (.int .i64 ((rd_T52 l0_1 x67_3).f0))).setCell ⟨gb355, 1, none⟩ (.int .i64 ((rd_T52 l0_1 x67_3).f1))) = w77 at n0_ n1_ n2_ n3_ n4_ n5_ n6_ n7_ ⊢
                   have HO_346000 := n0_
                   have HO_346001 := n1_
                   have HO_346002 := n2_
                   have BK333 := n3_
                   have BK334 := n4_
                   have BK345 := n5_
                   have BK355 := n6_
                   have HB := n7_
                   clear n0_ n1_ n2_ n3_ n4_ n5_ n6_ n7_
                   have n0_ := Aside0.mk (Kd.R_drew HO_346000.out)
                   have n1_ := Aside0.mk (Kd.R_drew HO_346001.out)
                   have n2_ := Aside0.mk (Kd.R_drew HO_346002.out)
                   have n3_ := Aside0.mk (blk_drew BK333.out)
                   have n4_ := Aside0.mk (blk_drew BK334.out)
                   have n5_ := Aside0.mk (blk_drew BK345.out)
                   have n6_ := Aside0.mk (blk_drew BK355.out)
                   have n7_ := Aside0.mk (below_drew1 HB.out)
                   clear HO_346000
                   clear HO_346001
                   clear HO_346002
                   clear BK333
                   clear BK334
                   clear BK345
                   clear BK355
                   clear HB
                   have HO_346000 := n0_
                   have HO_346001 := n1_
                   have HO_346002 := n2_
                   have BK333 := n3_
                   have BK334 := n4_
                   have BK345 := n5_
                   have BK355 := n6_
                   have HB := n7_
                   clear n0_ n1_ n2_ n3_ n4_ n5_ n6_ n7_
                   obtain ⟨Ao79, co79, eo79⟩ := Kd.R_slice HO_346002.out
                   (first | subst eo79 | (injection eo79 with f1_ f2_ f3_; have f4_ := f1_.symm; have f5_ := f3_.symm; clear f1_ f2_ f3_; subst f4_; subst f5_))
                   have p356 : 0 ≤ (((rd_T52 l0_1 x67_3).f0) : Int) := of_decide_eq_true impl_newOrder.a9
                   have q356 : ((rd_T52 l0_1 x67_3).f0) < (x346002_3.length : Int) := of_decide_eq_true impl_newOrder.a9
                   obtain ⟨ad356, e356, hx356_0⟩ := Kd.at_int (Kd.R_reads' HO_346002.out).2.2 ((rd_T52 l0_1 x67_3).f0) p356 q356
                   cases e356
                   replace p356 := eq_true p356
                   replace q356 := eq_true q356
                   have p357 : 0 ≤ (((rd_T52 l0_1 x67_3).f1) : Int) := of_decide_eq_true impl_newOrder.a9
                   have q357 : ((rd_T52 l0_1 x67_3).f1) < (x346002_3.length : Int) := of_decide_eq_true impl_newOrder.a9
                   obtain ⟨ad357, e357, hx357_0⟩ := Kd.at_int (Kd.R_reads' HO_346002.out).2.2 ((rd_T52 l0_1 x67_3).f1) p357 q357
                   obtain rfl : ad356 = ad357 := (by injection e357)
                   replace p357 := eq_true p357
                   replace q357 := eq_true q357
                   refine start_ (n := 14) (S := fun w' => w'.cell? ⟨gb345, 0, none⟩ = some (u346000) ∧ w'.cell? ⟨gb345, 1, none⟩ = some (u346001) ∧ w'.cell? ⟨gb345, 2, none⟩ = some (.slice (some ad356) x346002_3.length co79) ∧ w'.cell? ⟨gb355, 0, none⟩ = some (.int .i64 ((rd_T52 l0_1 x67_3).f0)) ∧ w'.cell? ⟨gb355, 1, none⟩ = some (.int .i64 ((rd_T52 l0_1 x67_3).f1)) ∧ w'.cell? (ad356.add (((rd_T52 l0_1 x67_3).f0)).toNat) = some (.int .i64 (rd x346002_3 ((rd_T52 l0_1 x67_3).f0))) ∧ w'.cell? (ad356.add (((rd_T52 l0_1 x67_3).f1)).toNat) = some (.int .i64 (rd x346002_3 ((rd_T52 l0_1 x67_3).f1)))) (ds := []) #[false, false, false, false, false, false, false, false, false, false, false, false, false, false] impl_newOrder.a29 rfl rfl ⟨(blk_cell BK345.out 0).trans rfl, (blk_cell BK345.out 1).trans rfl, (blk_cell BK345.out 2).trans rfl, (blk_cell BK355.out 0).trans rfl, (blk_cell BK355.out 1).trans rfl, hx356_0, hx357_0⟩ (fun hHeld => ?_); refine with_tabW impl_newOrder.tab20 impl_newOrder.bits20 (fun HT_ HW_ => ?_)
                   generalize w77.drew = w78 at HO_346000 HO_346001 HO_346002 BK333 BK334 BK345 BK355 HB hx356_0 hx357_0 hHeld ⊢
                   refine pureS 0 71 HT_ rfl rfl ?_
                   refine pureS 2 73 HT_ rfl rfl ?_
                   refine pureS 6 77 HT_ rfl rfl ?_
                   refine pureS 8 79 HT_ rfl rfl ?_
                   refine takeS 1 72 HT_ HW_ rfl rfl hHeld ?_ impl_newOrder.a23
                   refine takeS 3 74 HT_ HW_ rfl rfl hHeld ?_ impl_newOrder.a23
                   refine pureS 4 75 HT_ rfl rfl ?_
                   refine takeS 5 76 HT_ HW_ rfl rfl hHeld ?_ impl_newOrder.a23
                   refine takeS 7 78 HT_ HW_ rfl rfl hHeld ?_ impl_newOrder.a23
                   refine takeS 9 80 HT_ HW_ rfl rfl hHeld ?_ impl_newOrder.a23
                   refine pureS 10 81 HT_ rfl rfl ?_
                   refine takeS 11 82 HT_ HW_ rfl rfl hHeld ?_ impl_newOrder.a23
                   refine pureS 12 83 HT_ rfl rfl ?_
                   refine pureS 13 12 HT_ rfl rfl ?_
                   refine done_ (done_of HT_.out impl_newOrder.a29) ?_
                   have hnb80 := NB345_333.out
                   have hnc80 := NB333_345.out
                   have hnb81 := NB345_334.out
                   have hnc81 := NB334_345.out
                   have hcz82_0 : w78.cell? ⟨gb345, 0, none⟩ = some (u346000) := (blk_cell BK345.out 0).trans rfl
                   have hcz82_1 : w78.cell? ⟨gb345, 1, none⟩ = some (u346001) := (blk_cell BK345.out 1).trans rfl
                   have hcz82_2 : w78.cell? ⟨gb345, 2, none⟩ = some (.slice (some ad356) x346002_3.length co79) := (blk_cell BK345.out 2).trans rfl
                   have hfz82_0 := blk_frozen BK345.out 0
                   have hfz82_1 := blk_frozen BK345.out 1
                   have hfz82_2 := blk_frozen BK345.out 2
                   have hcz83_0 : w78.cell? ⟨gb355, 0, none⟩ = some (.int .i64 ((rd_T52 l0_1 x67_3).f0)) := (blk_cell BK355.out 0).trans rfl
                   have hcz83_1 : w78.cell? ⟨gb355, 1, none⟩ = some (.int .i64 ((rd_T52 l0_1 x67_3).f1)) := (blk_cell BK355.out 1).trans rfl
                   have hfz83_0 := blk_frozen BK355.out 0
                   have hfz83_1 := blk_frozen BK355.out 1
                   have p70 : 0 ≤ (((rd_T52 l0_1 x67_3).f0) : Int) := of_decide_eq_true impl_newOrder.a9
                   have q70 : (((rd_T52 l0_1 x67_3).f0) : Int) < ((x346002_3.length : Int) : Int) := of_decide_eq_true impl_newOrder.a9
                   obtain ⟨go70, co70, eo70, gb70, gl70, cl70, HG70⟩ := Kd.R_form HO_346002.out (by omega)
                   (first | cases eo70 | (injection eo70 with ea_ en_ ec_; (first | subst ea_ | (injection ea_ with ea_; subst ea_)); subst ec_; clear en_))
                   have GB70 := Aside0.mk gb70
                   have GG70 := Aside0.mk HG70
                   clear gb70 gl70 HG70
                   (first | simp only [add_plain] at hx356_0 | skip)
                   (first | simp only [add_plain] at hx357_0 | skip)
                   obtain ⟨hx70_0, hf70_0⟩ := Kd.R_celln 0 HO_346002.out (((rd_T52 l0_1 x67_3).f0) : Int) p70 q70
                   replace p70 := eq_true p70
                   replace q70 := eq_true q70
                   obtain ⟨hy84_, hz84_⟩ := Kd.R_celln 0 HO_346002.out (((rd_T52 l0_1 x67_3).f0) : Int) (of_decide_eq_true impl_newOrder.a9) (of_decide_eq_true impl_newOrder.a9)
                   have HP84 := Kd.R_putg HO_346002.out (((rd_T52 l0_1 x67_3).f0) : Int) ji69
                   try go_wp2_with (first | ((with_reducible refine gate_store (t := 3) (p := 89) rfl ?_); refine store_event (t := 3) (p := 89) (v := ?vo_w85) (w1 := (w78.setCell ⟨go70, (((rd_T52 l0_1 x67_3).f0) : Int).toNat, none⟩ (.int .i64 ji69))) ?hg ?ho ?hn ?hr ?_; (case ho => rfl); (case hg => rfl); (case hn => rfl); (case hr => first | (go_simp; done) | (go_simp; rfl)); intro w85 hw; have hg : w78.grownBy w85 (some go70) := (by rw [hw]; exact HP84.2); have hp_ : Kd.R (Kd.int .i64) 3 w85 w.heap.size (fun k_ => some k_ ≠ (u346000 : Value).ownBlock ∧ some k_ ≠ (u346001 : Value).ownBlock) (.slice (some ⟨go70, 0, none⟩) x346002_3.length co79) y358 := (by rw [hw, Ny358.out]; exact HP84.1); clear HP84; have n0_ := Aside0.mk (Kd.R_after (v := (.slice (some ⟨go70, 0, none⟩) x346002_3.length co79)) (v1 := (.slice (some ⟨go70, 0, none⟩) x346002_3.length co79)) (ok := (fun k_ => some k_ ≠ (u346001 : Value).ownBlock)) impl_newOrder.a20 hg (.inl rfl)); have n1_ := Aside0.mk (Kd.R_after (v := (.slice (some ⟨go70, 0, none⟩) x346002_3.length co79)) (v1 := (.slice (some ⟨go70, 0, none⟩) x346002_3.length co79)) (ok := (fun k_ => some k_ ≠ (u346000 : Value).ownBlock)) impl_newOrder.a21 hg (.inl rfl)); have n2_ := Aside0.mk (hp_); have n3_ := Aside0.mk (blk_grown (g := gb333) (o := .cells #[.slice A0_0 l0_0.length c0_0, .slice (some ad354) l0_1.length c0_1] 30 (0, 0)) impl_newOrder.a2 hg (Kd.R_ne HO_346002.out BK333.out impl_newOrder.a30)); have n4_ := Aside0.mk (blk_grown (g := gb334) (o := .cells #[.slice none 0 0, .slice none 0 0, .slice none 0 0] 64 (0, 0)) impl_newOrder.a3 hg (Kd.R_ne HO_346002.out BK334.out impl_newOrder.a30)); have n5_ := Aside0.mk (blk_grown (g := gb345) (o := .cells #[u346000, u346001, .slice (some ⟨go70, 0, none⟩) x346002_3.length co79] 64 (0, 0)) impl_newOrder.a5 hg (Kd.R_ne HO_346002.out BK345.out impl_newOrder.a30)); have n6_ := Aside0.mk (blk_grown (g := gb355) (o := .cells #[.int .i64 ((rd_T52 l0_1 x67_3).f0), .int .i64 ((rd_T52 l0_1 x67_3).f1)] 52 (0, 0)) (by (with_reducible repeat (first | refine blk_drewN ?_ _ | refine blk_drew ?_ | refine blk_alloc ?_ _)); exact BK355.out) hg (Kd.R_ne HO_346002.out BK355.out impl_newOrder.a30)); have n7_ := Aside0.mk ((by rw [hw]; exact below_set (HB.out) GB70.out : Below w.heap.size w w85)); clear HO_346000; clear HO_346001; clear HO_346002; clear BK333; clear BK334; clear BK345; clear BK355; clear HB; have HO_346000 := n0_; have HO_346001 := n1_; have HO_346002 := n2_; have BK333 := n3_; have BK334 := n4_; have BK345 := n5_; have BK355 := n6_; have HB := n7_; clear n0_ n1_ n2_ n3_ n4_ n5_ n6_ n7_; clear hg hw hp_; have hcz86_0 : w85.cell? ⟨gb345, 0, none⟩ = some (u346000) := (blk_cell BK345.out 0).trans rfl; have hcz86_1 : w85.cell? ⟨gb345, 1, none⟩ = some (u346001) := (blk_cell BK345.out 1).trans rfl; have hcz86_2 : w85.cell? ⟨gb345, 2, none⟩ = some (.slice (some ⟨go70, 0, none⟩) x346002_3.length co79) := (blk_cell BK345.out 2).trans rfl; have hfz86_0 := blk_frozen BK345.out 0; have hfz86_1 := blk_frozen BK345.out 1; have hfz86_2 := blk_frozen BK345.out 2; have hcz87_0 : w85.cell? ⟨gb355, 0, none⟩ = some (.int .i64 ((rd_T52 l0_1 x67_3).f0)) := (blk_cell BK355.out 0).trans rfl; have hcz87_1 : w85.cell? ⟨gb355, 1, none⟩ = some (.int .i64 ((rd_T52 l0_1 x67_3).f1)) := (blk_cell BK355.out 1).trans rfl; have hfz87_0 := blk_frozen BK355.out 0; have hfz87_1 := blk_frozen BK355.out 1; have p71 : 0 ≤ (((rd_T52 l0_1 x67_3).f1) : Int) := of_decide_eq_true impl_newOrder.a9; have q71 : (((rd_T52 l0_1 x67_3).f1) : Int) < ((x346002_3.length : Int) : Int) := of_decide_eq_true impl_newOrder.a9; obtain ⟨hx71_0, hf71_0⟩ := Kd.R_celln 0 HO_346002.out (((rd_T52 l0_1 x67_3).f1) : Int) p71 q71; replace p71 := eq_true p71; replace q71 := eq_true q71; obtain ⟨hy88_, hz88_⟩ := Kd.R_celln 0 HO_346002.out (((rd_T52 l0_1 x67_3).f1) : Int) (of_decide_eq_true impl_newOrder.a9) (of_decide_eq_true impl_newOrder.a9); have HP88 := Kd.R_putg HO_346002.out (((rd_T52 l0_1 x67_3).f1) : Int) ji69) | ((with_reducible refine gate_store (t := 3) (p := 95) rfl ?_); refine store_event (t := 3) (p := 95) (v := ?vo_w89) (w1 := (w85.setCell ⟨go70, (((rd_T52 l0_1 x67_3).f1) : Int).toNat, none⟩ (.int .i64 ji69))) ?hg ?ho ?hn ?hr ?_; (case ho => rfl); (case hg => rfl); (case hn => rfl); (case hr => first | (go_simp; done) | (go_simp; rfl)); intro w89 hw; have hg : w85.grownBy w89 (some go70) := (by rw [hw]; exact HP88.2); have hp_ : Kd.R (Kd.int .i64) 3 w89 w.heap.size (fun k_ => some k_ ≠ (u346000 : Value).ownBlock ∧ some k_ ≠ (u346001 : Value).ownBlock) (.slice (some ⟨go70, 0, none⟩) x346002_3.length co79) y359 := (by rw [hw, Ny359.out]; exact HP88.1); clear HP88; have n0_ := Aside0.mk (Kd.R_after (v := (.slice (some ⟨go70, 0, none⟩) x346002_3.length co79)) (v1 := (.slice (some ⟨go70, 0, none⟩) x346002_3.length co79)) (ok := (fun k_ => some k_ ≠ (u346001 : Value).ownBlock)) impl_newOrder.a20 hg (.inl rfl)); have n1_ := Aside0.mk (Kd.R_after (v := (.slice (some ⟨go70, 0, none⟩) x346002_3.length co79)) (v1 := (.slice (some ⟨go70, 0, none⟩) x346002_3.length co79)) (ok := (fun k_ => some k_ ≠ (u346000 : Value).ownBlock)) impl_newOrder.a21 hg (.inl rfl)); have n2_ := Aside0.mk (hp_); have n3_ := Aside0.mk (blk_grown (g := gb333) (o := .cells #[.slice A0_0 l0_0.length c0_0, .slice (some ad354) l0_1.length c0_1] 30 (0, 0)) impl_newOrder.a2 hg (Kd.R_ne HO_346002.out BK333.out impl_newOrder.a30)); have n4_ := Aside0.mk (blk_grown (g := gb334) (o := .cells #[.slice none 0 0, .slice none 0 0, .slice none 0 0] 64 (0, 0)) impl_newOrder.a3 hg (Kd.R_ne HO_346002.out BK334.out impl_newOrder.a30)); have n5_ := Aside0.mk (blk_grown (g := gb345) (o := .cells #[u346000, u346001, .slice (some ⟨go70, 0, none⟩) x346002_3.length co79] 64 (0, 0)) impl_newOrder.a5 hg (Kd.R_ne HO_346002.out BK345.out impl_newOrder.a30)); have n6_ := Aside0.mk (blk_grown (g := gb355) (o := .cells #[.int .i64 ((rd_T52 l0_1 x67_3).f0), .int .i64 ((rd_T52 l0_1 x67_3).f1)] 52 (0, 0)) (by (with_reducible repeat (first | refine blk_drewN ?_ _ | refine blk_drew ?_ | refine blk_alloc ?_ _)); exact BK355.out) hg (Kd.R_ne HO_346002.out BK355.out impl_newOrder.a30)); have n7_ := Aside0.mk ((by rw [hw]; exact below_set (HB.out) GB70.out : Below w.heap.size w w89)); clear HO_346000; clear HO_346001; clear HO_346002; clear BK333; clear BK334; clear BK345; clear BK355; clear HB; have HO_346000 := n0_; have HO_346001 := n1_; have HO_346002 := n2_; have BK333 := n3_; have BK334 := n4_; have BK345 := n5_; have BK355 := n6_; have HB := n7_; clear n0_ n1_ n2_ n3_ n4_ n5_ n6_ n7_; clear hg hw hp_))
                   go_roundg k3
                   case measure => have := HK1.out; have := HK2.out; have := HK3.out; omega
                   case rel => exact ⟨(wrap64 (x67_3 + 1)), (x346000_3), (x346001_3), (y359), (u346000), (u346001), (.slice (some ⟨go70, 0, none⟩) x346002_3.length co79), impl_newOrder.a24, H', ⟨by have := HK1.out; have := HK2.out; have := HK3.out; omega⟩, ⟨impl_newOrder.a22⟩, ⟨impl_newOrder.a26⟩, ⟨impl_newOrder.a27⟩, ⟨impl_newOrder.a16⟩, ⟨impl_newOrder.a17⟩, ⟨impl_newOrder.a18⟩, ⟨impl_newOrder.a28⟩⟩
                  ·rw [if_neg c68] at H
                   exact absurd H (by simp)
                 ·rw [if_neg c67] at H
                  exact absurd H (by simp)
                ·rw [if_neg c66] at H
                 exact absurd H (by simp)
               ·rw [if_neg c65] at H
                exact absurd H (by simp)
              ·rw [if_neg c64] at H
               exact absurd H (by simp)
             ·rw [if_neg c63] at H
              exact absurd H (by simp)
            ·rw [if_neg c62] at H
             have c62b0 : decide (x67_3 < (l0_1.length : Int)) = false := decide_eq_false c62
             (try (have c62b1 := c62b0; simp only [hl28_1] at c62b1))
             clear c62
             have H' := Aside0.mk H
             clear H
             go_wp2
             go_roundg k3
             case measure => have := HK1.out; have := HK2.out; have := HK3.out; omega
             case rel => exact ⟨(wrap64 (x62_2 + 1)), (x346000_3), (x346001_3), (x346002_3), (u346000), (u346001), (u346002), impl_newOrder.a24, H', ⟨by have := HK1.out; have := HK2.out; have := HK3.out; omega⟩, ⟨impl_newOrder.a22⟩, ⟨impl_newOrder.a26⟩, ⟨impl_newOrder.a27⟩, ⟨impl_newOrder.a16⟩, ⟨impl_newOrder.a17⟩, ⟨impl_newOrder.a18⟩, ⟨impl_newOrder.a0⟩⟩
         ·rw [if_neg c58] at H
          have c58b0 : decide (x62_2 < (l0_0.length : Int)) = false := decide_eq_false c58
          (try (have c58b1 := c58b0; simp only [hl28_1] at c58b1))
          clear c58
          simp only [Option.some.injEq, Prod.mk.injEq] at H
          obtain ⟨rfl, rfl, rfl, rfl⟩ := H
          have hnb90 := NB345_333.out
          have hnc90 := NB333_345.out
          have hnb91 := NB345_334.out
          have hnc91 := NB334_345.out
          have hcz92_0 : wr.cell? ⟨gb345, 0, none⟩ = some (u346000) := (blk_cell BK345.out 0).trans rfl
          have hcz92_1 : wr.cell? ⟨gb345, 1, none⟩ = some (u346001) := (blk_cell BK345.out 1).trans rfl
          have hcz92_2 : wr.cell? ⟨gb345, 2, none⟩ = some (u346002) := (blk_cell BK345.out 2).trans rfl
          have hfz92_0 := blk_frozen BK345.out 0
          have hfz92_1 := blk_frozen BK345.out 1
          have hfz92_2 := blk_frozen BK345.out 2
          obtain ⟨Ao93, co93, eo93⟩ := Kd.R_slice HO_346000.out
          subst eo93
          have hnb94 := NB334_333.out
          have hnc94 := NB333_334.out
          have hcz95_0 : wr.cell? ⟨gb334, 0, none⟩ = some (.slice none 0 0) := (blk_cell BK334.out 0).trans rfl
          have hcz95_1 : wr.cell? ⟨gb334, 1, none⟩ = some (.slice none 0 0) := (blk_cell BK334.out 1).trans rfl
          have hcz95_2 : wr.cell? ⟨gb334, 2, none⟩ = some (.slice none 0 0) := (blk_cell BK334.out 2).trans rfl
          have hfz95_0 := blk_frozen BK334.out 0
          have hfz95_1 := blk_frozen BK334.out 1
          have hfz95_2 := blk_frozen BK334.out 2
          obtain ⟨Ao96, co96, eo96⟩ := Kd.R_slice HO_346001.out
          subst eo96
          obtain ⟨Ao97, co97, eo97⟩ := Kd.R_slice HO_346002.out
          subst eo97
          go_wp2
          refine bodyPost_ret (results_ct rfl _ _ gb334 64 #[.slice Ao93 x346000_2.length co93, .slice Ao96 x346001_2.length co96, .slice Ao97 x346002_2.length co97] (0, 0) _ rfl (by (with_reducible repeat (first | refine blk_drewN ?_ _ | refine blk_drew ?_ | refine blk_alloc ?_ _)); refine blk_put (cs := #[.slice Ao93 x346000_2.length co93, .slice Ao96 x346001_2.length co96, .slice none 0 0]) ?_ 2 _ rfl; (with_reducible repeat (first | refine blk_drewN ?_ _ | refine blk_drew ?_ | refine blk_alloc ?_ _)); refine blk_put (cs := #[.slice Ao93 x346000_2.length co93, .slice none 0 0, .slice none 0 0]) ?_ 1 _ rfl; (with_reducible repeat (first | refine blk_drewN ?_ _ | refine blk_drew ?_ | refine blk_alloc ?_ _)); refine blk_put (cs := #[.slice none 0 0, .slice none 0 0, .slice none 0 0]) ?_ 0 _ rfl; (with_reducible repeat (first | refine blk_drewN ?_ _ | refine blk_drew ?_ | refine blk_alloc ?_ _)); exact BK334.out) Try.underlying64 rfl impl_newOrder.a29) rfl ?_
          exact ⟨_, _, _, by first | rfl | (simp [errW_none, errW_some] <;> rfl) | (simp [*, errW_none, errW_some] <;> rfl), by (with_reducible repeat (first | apply Kd.R_alloc | apply Kd.R_drewN | apply Kd.R_drew)); exact Kd.R_mono (Kd.R_far (p := ⟨gb334, 2, none⟩) (Kd.R_far (p := ⟨gb334, 1, none⟩) (Kd.R_far (p := ⟨gb334, 0, none⟩) (Kd.R_types HO_346000.out BK334.out impl_newOrder.a30) (fun _ hk => hk.2) (.slice Ao93 x346000_2.length co93)) (fun _ hk => hk.2) (.slice Ao96 x346001_2.length co96)) (fun _ hk => hk.2) (.slice Ao97 x346002_2.length co97)) (fun _ hk => ⟨hk.1.1, hk.1.2⟩), by (with_reducible repeat (first | apply Kd.R_alloc | apply Kd.R_drewN | apply Kd.R_drew)); exact Kd.R_mono (Kd.R_far (p := ⟨gb334, 2, none⟩) (Kd.R_far (p := ⟨gb334, 1, none⟩) (Kd.R_far (p := ⟨gb334, 0, none⟩) (Kd.R_types HO_346001.out BK334.out impl_newOrder.a30) (fun _ hk => hk.2) (.slice Ao93 x346000_2.length co93)) (fun _ hk => hk.2) (.slice Ao96 x346001_2.length co96)) (fun _ hk => hk.2) (.slice Ao97 x346002_2.length co97)) (fun _ hk => ⟨hk.1.1, hk.1.2⟩), by (with_reducible repeat (first | apply Kd.R_alloc | apply Kd.R_drewN | apply Kd.R_drew)); exact Kd.R_mono (Kd.R_far (p := ⟨gb334, 2, none⟩) (Kd.R_far (p := ⟨gb334, 1, none⟩) (Kd.R_far (p := ⟨gb334, 0, none⟩) (Kd.R_types HO_346002.out BK334.out impl_newOrder.a30) (fun _ hk => hk.2) (.slice Ao93 x346000_2.length co93)) (fun _ hk => hk.2) (.slice Ao96 x346001_2.length co96)) (fun _ hk => hk.2) (.slice Ao97 x346002_2.length co97)) (fun _ hk => ⟨hk.1.1, hk.1.2⟩), impl_newOrder.a0⟩
   ·rw [if_neg c6] at H
    exact absurd H (by simp)
  ·rw [if_neg c5] at H
   exact absurd H (by simp)
 ·replace c3 := Bool.eq_false_iff.mpr c3
  subst c3
  have H1 : (some (([] : List Int), ([] : List Int), ([] : List Int), false)) = some (r1, r2, r3, r4) := by rw [if_neg (show ¬ (false = true) by decide)] at H; exact H
  clear H
  have H := H1
  clear H1
  simp only [Option.some.injEq, Prod.mk.injEq] at H
  obtain ⟨rfl, rfl, rfl, rfl⟩ := H
  go_enter Try.func52, Try.ntmps52
  go_wp2_with (first | ((with_reducible refine gate_dst (N := 1) rfl ?_); refine box_event ?hg (N := 1) ?hd (cs := #[.slice A0_0 l0_0.length c0_0, .slice A0_1 l0_1.length c0_1]) (t := 30) ?hr ?_; (case hd => rfl); (case hg => rfl); (case hr => first | (go_simp; done) | (go_simp; rfl)); intro gb333 hg w98 hbox hb; have n0_ := Aside0.mk (below_step impl_newOrder.a15 hb); have n1_ := Aside0.mk (hbox); have n2_ := Aside0.mk ((by rw [hg]; exact (below_size impl_newOrder.a15) : w.heap.size ≤ gb333)); have n3_ := Aside0.mk ((by rw [hg]; exact (below_size impl_newOrder.a15) : w.heap.size ≤ gb333)); clear HB; have HB := n0_; have BK333 := n1_; have GW333 := n2_; have GE333 := n3_; clear n0_ n1_ n2_ n3_; clear hb hbox hg) | ((with_reducible refine gate_dst (N := 2) rfl ?_); refine box_event ?hg (N := 2) ?hd (cs := #[.slice none 0 0, .slice none 0 0, .slice none 0 0]) (t := 64) ?hr ?_; (case hd => rfl); (case hg => rfl); (case hr => first | (go_simp; done) | (go_simp; rfl)); intro gb334 hg w99 hbox hb; have n0_ := Aside0.mk (blk_below (g := gb333) (o := .cells #[.slice A0_0 l0_0.length c0_0, .slice A0_1 l0_1.length c0_1] 30 (0, 0)) impl_newOrder.a2 hb); have n1_ := Aside0.mk (below_step impl_newOrder.a14 hb); have n2_ := Aside0.mk (hbox); have n3_ := Aside0.mk ((by rw [hg]; exact (below_size impl_newOrder.a14) : w.heap.size ≤ gb334)); have n4_ := Aside0.mk ((by rw [hg]; exact (below_size impl_newOrder.a14) : w.heap.size ≤ gb334)); have n5_ := Aside0.mk ((by rw [hg]; exact Nat.ne_of_lt (blk_lt (g := gb333) (o := .cells #[.slice A0_0 l0_0.length c0_0, .slice A0_1 l0_1.length c0_1] 30 (0, 0)) impl_newOrder.a2) : gb333 ≠ gb334)); have n6_ := Aside0.mk ((by rw [hg]; exact Nat.ne_of_gt (blk_lt (g := gb333) (o := .cells #[.slice A0_0 l0_0.length c0_0, .slice A0_1 l0_1.length c0_1] 30 (0, 0)) impl_newOrder.a2) : gb334 ≠ gb333)); clear BK333; clear HB; have BK333 := n0_; have HB := n1_; have BK334 := n2_; have GW334 := n3_; have GE334 := n4_; have NB333_334 := n5_; have NB334_333 := n6_; clear n0_ n1_ n2_ n3_ n4_ n5_ n6_; clear hb hbox hg; have hnb100 := NB333_334.out; have hnc100 := NB334_333.out; have hcz101_0 : w99.cell? ⟨gb333, 0, none⟩ = some (.slice A0_0 l0_0.length c0_0) := (blk_cell BK333.out 0).trans rfl; have hcz101_1 : w99.cell? ⟨gb333, 1, none⟩ = some (.slice A0_1 l0_1.length c0_1) := (blk_cell BK333.out 1).trans rfl; have hfz101_0 := blk_frozen BK333.out 0; have hfz101_1 := blk_frozen BK333.out 1) | ((with_reducible refine gate_callee (f := 15) rfl ?_); refine goesL_ (some 14) rfl rfl Try.func15 impl_newOrder.a29 rfl #[.agg #[.slice A0_0 l0_0.length c0_0, .slice A0_1 l0_1.length c0_1]] rfl impl_newOrder.a10 ?_; (with_reducible refine (impl_IsSorts.calls k _ _ l0_0 _ _ l0_1 false _ ?side1 ?side2 ?side3 ?side4 A2.out).mono ?_); (case side1 => repeat (first | exact (Kd.C_below HR0_0.out HB.out) | (with_reducible refine Kd.C_alloc ?_ _) | (with_reducible refine Kd.C_drewN ?_ _) | (with_reducible refine Kd.C_drew ?_))); (case side2 => exact HC0_0.out); (case side3 => repeat (first | exact (Kd.C_below HR0_1.out HB.out) | (with_reducible refine Kd.C_alloc ?_ _) | (with_reducible refine Kd.C_drewN ?_ _) | (with_reducible refine Kd.C_drew ?_))); (case side4 => exact HC0_1.out); rintro e w102 ⟨rfl, hb⟩; refine ⟨_, rfl, ?_⟩; have n0_ := Aside0.mk (blk_below (g := gb333) (o := .cells #[.slice A0_0 l0_0.length c0_0, .slice A0_1 l0_1.length c0_1] 30 (0, 0)) impl_newOrder.a2 hb); have n1_ := Aside0.mk (blk_below (g := gb334) (o := .cells #[.slice none 0 0, .slice none 0 0, .slice none 0 0] 64 (0, 0)) impl_newOrder.a3 hb); have n2_ := Aside0.mk (below_step impl_newOrder.a1 hb); clear BK333; clear BK334; clear HB; have BK333 := n0_; have BK334 := n1_; have HB := n2_; clear n0_ n1_ n2_; (try clear hb); (try clear hb2); (try clear hk); (try clear hi); have hcz103_0 : w102.cell? ⟨gb334, 0, none⟩ = some (.slice none 0 0) := (blk_cell BK334.out 0).trans rfl; have hcz103_1 : w102.cell? ⟨gb334, 1, none⟩ = some (.slice none 0 0) := (blk_cell BK334.out 1).trans rfl; have hcz103_2 : w102.cell? ⟨gb334, 2, none⟩ = some (.slice none 0 0) := (blk_cell BK334.out 2).trans rfl; have hfz103_0 := blk_frozen BK334.out 0; have hfz103_1 := blk_frozen BK334.out 1; have hfz103_2 := blk_frozen BK334.out 2))
  refine bodyPost_ret (results_ct rfl _ _ gb334 64 #[.slice none 0 0, .slice none 0 0, .slice none 0 0] (0, 0) _ rfl (by (with_reducible repeat (first | refine blk_drewN ?_ _ | refine blk_drew ?_ | refine blk_alloc ?_ _)); refine blk_put (cs := #[.slice none 0 0, .slice none 0 0, .slice none 0 0]) ?_ 2 _ rfl; (with_reducible repeat (first | refine blk_drewN ?_ _ | refine blk_drew ?_ | refine blk_alloc ?_ _)); refine blk_put (cs := #[.slice none 0 0, .slice none 0 0, .slice none 0 0]) ?_ 1 _ rfl; (with_reducible repeat (first | refine blk_drewN ?_ _ | refine blk_drew ?_ | refine blk_alloc ?_ _)); refine blk_put (cs := #[.slice none 0 0, .slice none 0 0, .slice none 0 0]) ?_ 0 _ rfl; (with_reducible repeat (first | refine blk_drewN ?_ _ | refine blk_drew ?_ | refine blk_alloc ?_ _)); exact BK334.out) Try.underlying64 rfl impl_newOrder.a29) rfl ?_
  exact ⟨_, _, _, by first | rfl | (simp [errW_none, errW_some] <;> rfl) | (simp [*, errW_none, errW_some] <;> rfl), impl_newOrder.a25, impl_newOrder.a25, impl_newOrder.a25, impl_newOrder.a1⟩

end Go.Proofs.Ytlpkicbmcpmemaa.Q

