/- Functions of the program as plain Lean functions, and that the calls come to what they say. -/
import Derived.Test.YtlpkicbmcpmemaaZQx0h2d4ba
import Derived.Test.YtlpkicbmcpmemaaZQx10h37438
import Derived.Test.YtlpkicbmcpmemaaZQx11h70f25
import Derived.Test.YtlpkicbmcpmemaaZFl1Newhfc456
import Derived.Test.YtlpkicbmcpmemaaZShorth9309d
namespace Go.Proofs.Ytlpkicbmcpmemaa.Q
open Go.RowKit Go.Proofs.YtlpkicbmcpmemaaW.PrintWords Go.Proofs.YtlpkicbmcpmemaaW.PrintLast Go.Proofs.YtlpkicbmcpmemaaW.PrintMore
attribute [local go_sem] max2_int min2_int max_two min_two max_three min_three max_four min_four   -- for this text's walks alone
set_option linter.unusedVariables false
set_option linter.unusedSimpArgs false

/-! ### spec_l3Draw: function 50 -/
theorem spec_l3Draw.a0 {P_ : Prop} (h_ : P_ := by repeat (first | (with_reducible first | exact HK.out | apply KeepBut.set_ | apply keep_drewN | apply keep_drew | apply keep_alloc | refine keep_far ?_ GW243.out _ | refine keep_far ?_ GW260.out _) | exact HK.out)) : P_ := h_
theorem spec_l3Draw.a1 {P_ : Prop} (h_ : P_ := by (with_reducible repeat (first | refine blk_drewN ?_ _ | refine blk_drew ?_ | refine blk_alloc ?_ _)); exact BK243.out) : P_ := h_
theorem spec_l3Draw.a2 {P_ : Prop} (h_ : P_ := by repeat (first | (with_reducible first | exact HI0.out | apply IsS77.alloc | apply IsS77.drewN | apply IsS77.drew | apply IsS77.set_1 | apply IsS77.set_2 | refine IsS77.far ?_ NB0_243.out _ | refine IsS77.far ?_ NB0_260.out _) | exact HI0.out)) : P_ := h_
theorem spec_l3Draw.a3 {P_ : Prop} (h_ : P_ := by repeat (first | (with_reducible first | exact HB.out | apply below_alloc | apply pw_below_drewN | apply below_drew1 | refine below_set ?_ (IsS77.ge HI0.out) | refine below_set ?_ GE243.out | refine below_set ?_ GE260.out) | exact HB.out)) : P_ := h_
theorem spec_l3Draw.a4 {P_ : Prop} (h_ : P_ := by (with_reducible repeat (first | apply Kd.R_alloc | apply Kd.R_drewN | apply Kd.R_drew)); exact HO_261001.out) : P_ := h_
theorem spec_l3Draw.a5 {P_ : Prop} (h_ : P_ := by (with_reducible repeat (first | refine blk_drewN ?_ _ | refine blk_drew ?_ | refine blk_alloc ?_ _)); exact BK260.out) : P_ := h_
theorem spec_l3Draw.a6 {P_ : Prop} (h_ : P_ := by (with_reducible repeat (first | apply Kd.R_alloc | apply Kd.R_drewN | apply Kd.R_drew)); exact HO_261000.out) : P_ := h_
theorem spec_l3Draw.a7 {P_ : Prop} (h_ : P_ := by (try simp only [List.map_toArray, List.map_cons, List.map_nil]); first | done | (simp only [hji3]; rfl) | rfl | (simp only [List.length_drop, List.length_take]; rfl)) : P_ := h_
theorem spec_l3Draw.a8 {P_ : Prop} (h_ : P_ := by repeat (first | (with_reducible first | exact HK.out | apply KeepBut.set_ | apply keep_drewN | apply keep_drew | apply keep_alloc | refine keep_far ?_ GW243.out _) | exact HK.out)) : P_ := h_
theorem spec_l3Draw.a9 {P_ : Prop} (h_ : P_ := by (try simp only [List.map_toArray, List.map_cons, List.map_nil]); first | done | rfl | (simp only [List.length_drop, List.length_take]; rfl)) : P_ := h_
theorem spec_l3Draw.a10 {P_ : Prop} (h_ : P_ := by (with_reducible repeat (first | refine blk_drewN ?_ _ | refine blk_drew ?_ | refine blk_alloc ?_ _)); refine blk_put (cs := #[.slice Ao17 y257.length co17, u261001]) ?_ 1 _ rfl; (with_reducible repeat (first | refine blk_drewN ?_ _ | refine blk_drew ?_ | refine blk_alloc ?_ _)); exact BK260.out) : P_ := h_
theorem spec_l3Draw.a11 {P_ : Prop} (h_ : P_ := by (with_reducible repeat (first | refine blk_drewN ?_ _ | refine blk_drew ?_ | refine blk_alloc ?_ _)); refine blk_far ?_ NB243_260.out _; (with_reducible repeat (first | refine blk_drewN ?_ _ | refine blk_drew ?_ | refine blk_alloc ?_ _)); exact BK243.out) : P_ := h_
theorem spec_l3Draw.a12 {P_ : Prop} (h_ : P_ := by (with_reducible repeat (first | refine blk_drewN ?_ _ | refine blk_drew ?_ | refine blk_alloc ?_ _)); refine blk_put (cs := #[.slice Ao17 y257.length co17, .slice none 0 0]) ?_ 1 _ rfl; (with_reducible repeat (first | refine blk_drewN ?_ _ | refine blk_drew ?_ | refine blk_alloc ?_ _)); refine blk_put (cs := #[.slice none 0 0, .slice none 0 0]) ?_ 0 _ rfl; (with_reducible repeat (first | refine blk_drewN ?_ _ | refine blk_drew ?_ | refine blk_alloc ?_ _)); refine blk_far ?_ NB243_260.out _; (with_reducible repeat (first | refine blk_drewN ?_ _ | refine blk_drew ?_ | refine blk_alloc ?_ _)); exact BK243.out) : P_ := h_
theorem spec_l3Draw.a13 {P_ : Prop} (h_ : P_ := by repeat (first | (with_reducible first | exact HI0.out | apply IsS77.alloc | apply IsS77.drewN | apply IsS77.drew | apply IsS77.set_1 | apply IsS77.set_2 | refine IsS77.far ?_ NB0_243.out _) | exact HI0.out)) : P_ := h_
theorem spec_l3Draw.a14 {P_ : Prop} (h_ : P_ := by repeat (first | (with_reducible first | exact HB.out | apply below_alloc | apply pw_below_drewN | apply below_drew1 | refine below_set ?_ (IsS77.ge HI0.out) | refine below_set ?_ GE243.out) | exact HB.out)) : P_ := h_
theorem spec_l3Draw.a15 {P_ : Prop} (h_ : P_ := by first | rfl | (simp [errW_none, errW_some] <;> rfl) | (simp only [← hji3]; first | rfl | (simp [errW_none, errW_some] <;> rfl)) | (simp [*, errW_none, errW_some] <;> rfl)) : P_ := h_
theorem spec_l3Draw.a16 {P_ : Prop} (h_ : P_ := by decide) : P_ := h_
theorem spec_l3Draw.a17 {P_ : Prop} (h_ : P_ := by (with_reducible repeat (first | apply Kd.R_alloc | apply Kd.R_drewN | apply Kd.R_drew)); exact HO252.out) : P_ := h_
theorem spec_l3Draw.a18 {P_ : Prop} (h_ : P_ := by repeat (first | (with_reducible first | exact HK.out | apply KeepBut.set_ | apply keep_drewN | apply keep_drew | apply keep_alloc) | exact HK.out)) : P_ := h_
theorem spec_l3Draw.a19 {P_ : Prop} (h_ : P_ := by kernel_rfl) : P_ := h_
theorem spec_l3Draw.a20 {P_ : Prop} (h_ : P_ := by first | rfl | (simp; done) | (simp [*]; done)) : P_ := h_
theorem spec_l3Draw.a21 {P_ : Prop} (h_ : P_ := by repeat (first | (with_reducible exact HR256.out) | (with_reducible refine Kd.C_alloc ?_ _) | (with_reducible refine Kd.C_drewN ?_ _) | (with_reducible refine Kd.C_drew ?_) | exact HR256.out)) : P_ := h_
def spec_l3Draw.l0 : Nat → Int → Int → Int → List Int → Int → Int → List ByteArray → List (S52) → Option (List ByteArray × (List (S52)) × Int × Int)
 | 0, _, _, _, _, _, _, _, _ => none
 | k + 1, x3, x5, x6, x1000, x1001, x1002, x261000, x261001 => if x6 < x5 then ((spec_l1Below.f x1000 x1001 x1002 x3).bind fun bt264 => ((spec_l1Below.f x1000 bt264.2.1 bt264.2.2 x3).bind fun bt267 => (if bt264.1 > bt267.1 then (if bt267.1 = bt264.1 then ((spec_l1Once.f x1000 bt267.2.1 bt267.2.2 20).bind fun bt270 => (if bt270.1 = true then (if x261001.length < 8796093022208 then (spec_l3Draw.l0 k x3 x5 (wrap64 (x6 + 1)) x1000 bt270.2.1 bt270.2.2 x261000 (x261001 ++ [(⟨bt267.1, bt264.1⟩ : S52)])) else (none)) else (spec_l3Draw.l0 k x3 x5 (wrap64 (x6 + 1)) x1000 bt270.2.1 bt270.2.2 x261000 x261001))) else (if x261001.length < 8796093022208 then (spec_l3Draw.l0 k x3 x5 (wrap64 (x6 + 1)) x1000 bt267.2.1 bt267.2.2 x261000 (x261001 ++ [(⟨bt267.1, bt264.1⟩ : S52)])) else (none))) else (if bt264.1 = bt267.1 then ((spec_l1Once.f x1000 bt267.2.1 bt267.2.2 20).bind fun bt279 => (if bt279.1 = true then (if x261001.length < 8796093022208 then (spec_l3Draw.l0 k x3 x5 (wrap64 (x6 + 1)) x1000 bt279.2.1 bt279.2.2 x261000 (x261001 ++ [(⟨bt264.1, bt267.1⟩ : S52)])) else (none)) else (spec_l3Draw.l0 k x3 x5 (wrap64 (x6 + 1)) x1000 bt279.2.1 bt279.2.2 x261000 x261001))) else (if x261001.length < 8796093022208 then (spec_l3Draw.l0 k x3 x5 (wrap64 (x6 + 1)) x1000 bt267.2.1 bt267.2.2 x261000 (x261001 ++ [(⟨bt264.1, bt267.1⟩ : S52)])) else (none)))))) else ((spec_l1Below.f x1000 x1001 x1002 30).bind fun bt288 => (if bt288.1 = 0 then ((spec_l1Pick.f x1000 bt288.2.1 bt288.2.2 (([(⟨#[]⟩ : ByteArray), (⟨#[66]⟩ : ByteArray), (⟨#[97, 32, 98]⟩ : ByteArray), (⟨#[120, 49]⟩ : ByteArray)] : List ByteArray))).bind fun bt294 => (if 0 < (x261000.length : Int) then (some ((x261000.set (0 : Int).toNat bt294.1), x261001, bt294.2.1, bt294.2.2)) else (none))) else (if bt288.1 = 1 then (if x261001.length < 8796093022208 then (some (x261000, (x261001 ++ [(⟨wrap64 (x3 - 1), 0⟩ : S52)]), bt288.2.1, bt288.2.2)) else (none)) else (if bt288.1 = 2 then ((spec_l1Below.f x1000 bt288.2.1 bt288.2.2 8).bind fun bt301 => ((spec_l1Below.f x1000 bt301.2.1 bt301.2.2 8).bind fun bt304 => (if x261001.length < 8796093022208 then (some (x261000, (x261001 ++ [(⟨wrap64 (bt301.1 - 1), bt304.1⟩ : S52)]), bt304.2.1, bt304.2.2)) else (none)))) else (some (x261000, x261001, bt288.2.1, bt288.2.2))))))
def spec_l3Draw.f (k : Nat) (s0_0 : List Int) (s0_1 : Int) (s0_2 : Int) : Option (List ByteArray × (List (S52)) × Int × Int) := (spec_l1Below.f s0_0 s0_1 s0_2 6).bind fun bt244 => ((some (([] : List ByteArray) : List ByteArray)).bind fun y247 => ((some (([(⟨#[65]⟩ : ByteArray), (⟨#[66]⟩ : ByteArray), (⟨#[67]⟩ : ByteArray), (⟨#[68]⟩ : ByteArray), (⟨#[69]⟩ : ByteArray), (⟨#[70]⟩ : ByteArray)] : List ByteArray) : List ByteArray)).bind fun y250 => (if 0 ≤ (wrap64 (1 + bt244.1)) then (if (wrap64 (1 + bt244.1)) ≤ (y250.length : Int) then ((some (y250.take ((wrap64 (1 + bt244.1)) : Int).toNat : List ByteArray)).bind fun y253 => (if y247.length + y253.length < 8796093022208 then ((spec_l1Below.f s0_0 bt244.2.1 bt244.2.2 6).bind fun bt261 => (spec_l3Draw.l0 k (wrap64 (1 + bt244.1)) bt261.1 0 s0_0 bt261.2.1 bt261.2.2 (y247 ++ y253) ([] : List (S52)))) else (none))) else (none)) else (none))))
def spec_l3Draw.T18 : Bool × List (List Nat × List Nat) := (true, [([], []), ([0], [0]), ([], []), ([2], [2]), ([3], [3]), ([], []), ([5, 3], [5]), ([4, 6], [4, 6]), ([7], [7]), ([1, 8, 6], [1, 8]), ([0, 1, 2, 3, 4, 5, 6, 7, 8, 9], []), ([10, 9, 9, 0, 1, 2, 3, 4, 5, 6, 7, 8, 9], [9, 10])])
def spec_l3Draw.B18 : List Nat := [0, 1, 0, 4, 12, 0, 44, 124, 252, 511, 1023, 2047]
theorem spec_l3Draw.tab18 : rtab .any (opsOf Try.f50 18) = spec_l3Draw.T18 := by kernel_rfl
theorem spec_l3Draw.bits18 : waitsOk spec_l3Draw.T18.2 spec_l3Draw.B18 = true := by kernel_rfl
set_option maxHeartbeats 8000000 in
set_option maxRecDepth 100000 in
theorem spec_l3Draw.calls (k : Nat) (g : Nat) (s0_0 : List Int) (s0_1 : Int) (s0_2 : Int) (r1 : List ByteArray) (r2 : List (S52)) (r3 : Int) (r4 : Int) (w0 w : World) (hI : IsS77 w0 w g s0_0 s0_1 s0_2) (hB : Below w0.heap.size w0 w) (h : spec_l3Draw.f k s0_0 s0_1 s0_2 = some (r1, r2, r3, r4)) :
  Calls Try.prog 50 #[.pointer (some ⟨g, 0, none⟩)] w fun e w' => ∃ v0_ v1_ : Value, e = .returned (.agg #[v0_, v1_]) ∧ Kd.R Kd.string 9 w' w.heap.size (fun _ => True) v0_ r1 ∧ Kd.R k52 52 w' w.heap.size (fun _ => True) v1_ r2 ∧ IsS77 w0 w' g s0_0 r3 r4 ∧ Below w0.heap.size w0 w' ∧ KeepBut w w' g none := by
 have hu30 := Try.underlying30
 have hu52 := Try.underlying52
 have HI0 := Aside0.mk hI
 have HK := Aside0.mk (KeepBut.refl w g none)
 have HL := Aside0.mk hB.size
 clear hI
 have HW0 := Aside0.mk hB.size
 have HB := Aside0.mk hB
 clear hB
 have H : ((spec_l1Below.f s0_0 s0_1 s0_2 6).bind fun bt244 => ((some (([] : List ByteArray) : List ByteArray)).bind fun y247 => ((some (([(⟨#[65]⟩ : ByteArray), (⟨#[66]⟩ : ByteArray), (⟨#[67]⟩ : ByteArray), (⟨#[68]⟩ : ByteArray), (⟨#[69]⟩ : ByteArray), (⟨#[70]⟩ : ByteArray)] : List ByteArray) : List ByteArray)).bind fun y250 => (if 0 ≤ (wrap64 (1 + bt244.1)) then (if (wrap64 (1 + bt244.1)) ≤ (y250.length : Int) then ((some (y250.take ((wrap64 (1 + bt244.1)) : Int).toNat : List ByteArray)).bind fun y253 => (if y247.length + y253.length < 8796093022208 then ((spec_l1Below.f s0_0 bt244.2.1 bt244.2.2 6).bind fun bt261 => (spec_l3Draw.l0 k (wrap64 (1 + bt244.1)) bt261.1 0 s0_0 bt261.2.1 bt261.2.2 (y247 ++ y253) ([] : List (S52)))) else (none))) else (none)) else (none))))) = some (r1, r2, r3, r4) := h
 clear h
 replace H := Option.bind_eq_some_iff.mp H
 obtain ⟨⟨t244, t245, t246⟩, A20, H⟩ := H
 replace H : ((some (([] : List ByteArray) : List ByteArray)).bind fun y247 => ((some (([(⟨#[65]⟩ : ByteArray), (⟨#[66]⟩ : ByteArray), (⟨#[67]⟩ : ByteArray), (⟨#[68]⟩ : ByteArray), (⟨#[69]⟩ : ByteArray), (⟨#[70]⟩ : ByteArray)] : List ByteArray) : List ByteArray)).bind fun y250 => (if 0 ≤ (wrap64 (1 + t244)) then (if (wrap64 (1 + t244)) ≤ (y250.length : Int) then ((some (y250.take ((wrap64 (1 + t244)) : Int).toNat : List ByteArray)).bind fun y253 => (if y247.length + y253.length < 8796093022208 then ((spec_l1Below.f s0_0 t245 t246 6).bind fun bt261 => (spec_l3Draw.l0 k (wrap64 (1 + t244)) bt261.1 0 s0_0 bt261.2.1 bt261.2.2 (y247 ++ y253) ([] : List (S52)))) else (none))) else (none)) else (none)))) = some (r1, r2, r3, r4) := H
 have A2 := Aside0.mk A20
 clear A20
 obtain ⟨y247, hy247⟩ : ∃ y_ : List ByteArray, y_ = (([] : List ByteArray)) := ⟨_, rfl⟩
 replace H : ((some (([(⟨#[65]⟩ : ByteArray), (⟨#[66]⟩ : ByteArray), (⟨#[67]⟩ : ByteArray), (⟨#[68]⟩ : ByteArray), (⟨#[69]⟩ : ByteArray), (⟨#[70]⟩ : ByteArray)] : List ByteArray) : List ByteArray)).bind fun y250 => (if 0 ≤ (wrap64 (1 + t244)) then (if (wrap64 (1 + t244)) ≤ (y250.length : Int) then ((some (y250.take ((wrap64 (1 + t244)) : Int).toNat : List ByteArray)).bind fun y253 => (if y247.length + y253.length < 8796093022208 then ((spec_l1Below.f s0_0 t245 t246 6).bind fun bt261 => (spec_l3Draw.l0 k (wrap64 (1 + t244)) bt261.1 0 s0_0 bt261.2.1 bt261.2.2 (y247 ++ y253) ([] : List (S52)))) else (none))) else (none)) else (none))) = some (r1, r2, r3, r4) := by first | (rw [hy247]; with_reducible exact H) | (have H2_ := (Option.bind_some _ _).symm.trans H; rw [hy247]; with_reducible exact H2_) | (have H2_ := (Option.bind_some _ _).symm.trans H; with_reducible exact H2_) | with_reducible exact H | (rw [hy247]; exact H) | exact H
 have Ny247 := Aside0.mk hy247
 clear hy247
 obtain ⟨y250, hy250⟩ : ∃ y_ : List ByteArray, y_ = (([(⟨#[65]⟩ : ByteArray), (⟨#[66]⟩ : ByteArray), (⟨#[67]⟩ : ByteArray), (⟨#[68]⟩ : ByteArray), (⟨#[69]⟩ : ByteArray), (⟨#[70]⟩ : ByteArray)] : List ByteArray)) := ⟨_, rfl⟩
 replace H : (if 0 ≤ (wrap64 (1 + t244)) then (if (wrap64 (1 + t244)) ≤ (y250.length : Int) then ((some (y250.take ((wrap64 (1 + t244)) : Int).toNat : List ByteArray)).bind fun y253 => (if y247.length + y253.length < 8796093022208 then ((spec_l1Below.f s0_0 t245 t246 6).bind fun bt261 => (spec_l3Draw.l0 k (wrap64 (1 + t244)) bt261.1 0 s0_0 bt261.2.1 bt261.2.2 (y247 ++ y253) ([] : List (S52)))) else (none))) else (none)) else (none)) = some (r1, r2, r3, r4) := by first | (rw [hy250]; with_reducible exact H) | (have H2_ := (Option.bind_some _ _).symm.trans H; rw [hy250]; with_reducible exact H2_) | (have H2_ := (Option.bind_some _ _).symm.trans H; with_reducible exact H2_) | with_reducible exact H | (rw [hy250]; exact H) | exact H
 have Ny250 := Aside0.mk hy250
 clear hy250
 obtain ⟨ji3, hji3⟩ : ∃ j_ : Int, (wrap64 (1 + t244)) = j_ := ⟨_, rfl⟩
 replace H : (if 0 ≤ (ji3) then (if (ji3) ≤ (y250.length : Int) then ((some (y250.take ((ji3) : Int).toNat : List ByteArray)).bind fun y253 => (if y247.length + y253.length < 8796093022208 then ((spec_l1Below.f s0_0 t245 t246 6).bind fun bt261 => (spec_l3Draw.l0 k ji3 bt261.1 0 s0_0 bt261.2.1 bt261.2.2 (y247 ++ y253) ([] : List (S52)))) else (none))) else (none)) else (none)) = some (r1, r2, r3, r4) := by first | (rw [hji3] at H; exact H) | (simp only [hji3] at H ⊢; exact H)
 (try rw [hji3] at A2)
 have hji3w : (IntKind.i64.wrap (1 + t244)) = ji3 := (i64_w _).trans hji3
 by_cases c4 : 0 ≤ (ji3)
 ·rw [if_pos c4] at H
  have c4b0 := eq_true c4
  have c4b1 : decide (0 ≤ (ji3)) = true := decide_eq_true c4
  clear c4
  by_cases c5 : (ji3) ≤ (y250.length : Int)
  ·rw [if_pos c5] at H
   have c5b0 := eq_true c5
   have c5b1 : decide ((ji3) ≤ (y250.length : Int)) = true := decide_eq_true c5
   clear c5
   obtain ⟨y253, hy253⟩ : ∃ y_ : List ByteArray, y_ = (y250.take ((ji3) : Int).toNat) := ⟨_, rfl⟩
   replace H : (if y247.length + y253.length < 8796093022208 then ((spec_l1Below.f s0_0 t245 t246 6).bind fun bt261 => (spec_l3Draw.l0 k ji3 bt261.1 0 s0_0 bt261.2.1 bt261.2.2 (y247 ++ y253) ([] : List (S52)))) else (none)) = some (r1, r2, r3, r4) := by first | (rw [hy253]; with_reducible exact H) | (have H2_ := (Option.bind_some _ _).symm.trans H; rw [hy253]; with_reducible exact H2_) | (have H2_ := (Option.bind_some _ _).symm.trans H; with_reducible exact H2_) | with_reducible exact H | (rw [hy253]; exact H) | exact H
   have Ny253 := Aside0.mk hy253
   clear hy253
   by_cases c6 : y247.length + y253.length < 8796093022208
   ·rw [if_pos c6] at H
    have LMc6 := Aside0.mk c6
    clear c6
    obtain ⟨y257, hy257⟩ : ∃ y_ : List ByteArray, y_ = (y247 ++ y253) := ⟨_, rfl⟩
    replace H : ((spec_l1Below.f s0_0 t245 t246 6).bind fun bt261 => (spec_l3Draw.l0 k ji3 bt261.1 0 s0_0 bt261.2.1 bt261.2.2 y257 ([] : List (S52)))) = some (r1, r2, r3, r4) := by first | (rw [hy257]; with_reducible exact H) | (have H2_ := (Option.bind_some _ _).symm.trans H; rw [hy257]; with_reducible exact H2_) | (have H2_ := (Option.bind_some _ _).symm.trans H; with_reducible exact H2_) | with_reducible exact H | (rw [hy257]; exact H) | exact H
    have Ny257 := Aside0.mk hy257
    clear hy257
    replace H := Option.bind_eq_some_iff.mp H
    obtain ⟨⟨t261, t262, t263⟩, A70, H⟩ := H
    replace H : (spec_l3Draw.l0 k ji3 t261 0 s0_0 t262 t263 y257 ([] : List (S52))) = some (r1, r2, r3, r4) := H
    have A7 := Aside0.mk A70
    clear A70
    have H' := Aside0.mk H
    clear H
    go_enter Try.func50, Try.ntmps50
    go_wp2_with (first | ((with_reducible refine gate_dst (N := 2) rfl ?_); refine box_event ?hg (N := 2) ?hd (cs := #[.slice none 0 0, .slice none 0 0]) (t := 30) ?hr ?_; (case hd => rfl); (case hg => rfl); (case hr => first | (go_simp; done) | (go_simp; rfl)); intro gb243 hg w8 hbox hb; have n0_ := Aside0.mk (IsS77.below (by repeat (first | (with_reducible first | exact HI0.out | apply IsS77.alloc | apply IsS77.drewN | apply IsS77.drew | apply IsS77.set_1 | apply IsS77.set_2) | exact HI0.out)) hb); have n1_ := Aside0.mk (KeepBut.trans spec_l3Draw.a18 (KeepBut.of_below hb g none) (.inl rfl)); have n2_ := Aside0.mk (below_step (by repeat (first | (with_reducible first | exact HB.out | apply below_alloc | apply pw_below_drewN | apply below_drew1 | refine below_set ?_ (IsS77.ge HI0.out)) | exact HB.out)) hb); have n3_ := Aside0.mk (hbox); have n4_ := Aside0.mk ((by rw [hg]; exact (keep_size (w := w) (g := g) (row := none) spec_l3Draw.a18) : w.heap.size ≤ gb243)); have n5_ := Aside0.mk ((Nat.le_trans HW0.out (by rw [hg]; exact (keep_size (w := w) (g := g) (row := none) spec_l3Draw.a18) : w.heap.size ≤ gb243) : w0.heap.size ≤ gb243)); have n6_ := Aside0.mk ((by rw [hg]; exact Nat.ne_of_lt (IsS77.lt (show IsS77 w0 _ g s0_0 s0_1 s0_2 from by repeat (first | (with_reducible first | exact HI0.out | apply IsS77.alloc | apply IsS77.drewN | apply IsS77.drew | apply IsS77.set_1 | apply IsS77.set_2) | exact HI0.out))) : g ≠ gb243)); have n7_ := Aside0.mk ((by rw [hg]; exact Nat.ne_of_gt (IsS77.lt (show IsS77 w0 _ g s0_0 s0_1 s0_2 from by repeat (first | (with_reducible first | exact HI0.out | apply IsS77.alloc | apply IsS77.drewN | apply IsS77.drew | apply IsS77.set_1 | apply IsS77.set_2) | exact HI0.out))) : gb243 ≠ g)); clear HI0; clear HK; clear HB; have HI0 := n0_; have HK := n1_; have HB := n2_; have BK243 := n3_; have GW243 := n4_; have GE243 := n5_; have NB0_243 := n6_; have NB243_0 := n7_; clear n0_ n1_ n2_ n3_ n4_ n5_ n6_ n7_; clear hb hbox hg) | ((with_reducible refine gate_callee (f := 51) rfl ?_); refine goesL_ (some 10) rfl rfl Try.func51 spec_l3Draw.a19 rfl #[.pointer (some ⟨g, 0, none⟩), .int .i64 6] rfl spec_l3Draw.a9 ?_; (with_reducible refine (spec_l1Below.calls g s0_0 s0_1 s0_2 6 t244 t245 t246 w0 _ ?side1 ?side2 A2.out).mono ?_); (case side1 => repeat (first | (with_reducible first | exact HI0.out | apply IsS77.alloc | apply IsS77.drewN | apply IsS77.drew | apply IsS77.set_1 | apply IsS77.set_2 | refine IsS77.far ?_ NB0_243.out _) | exact HI0.out)); (case side2 => repeat (first | (with_reducible first | exact HB.out | apply below_alloc | apply pw_below_drewN | apply below_drew1 | refine below_set ?_ (IsS77.ge HI0.out) | refine below_set ?_ GE243.out) | exact HB.out)); rintro e w9 ⟨rfl, hi, hb, hk⟩; refine ⟨_, rfl, ?_⟩; have n0_ := Aside0.mk (KeepBut.blk hk (g' := gb243) (o := .cells #[.slice none 0 0, .slice none 0 0] 30 (0, 0)) spec_l3Draw.a1 NB243_0.out (by simp)); have n1_ := Aside0.mk (KeepBut.trans spec_l3Draw.a8 hk (.inl rfl)); have n2_ := Aside0.mk (hb); have n3_ := Aside0.mk (hi); clear BK243; clear HK; clear HB; clear HI0; have BK243 := n0_; have HK := n1_; have HB := n2_; have HI0 := n3_; clear n0_ n1_ n2_ n3_; (try clear hb); (try clear hb2); (try clear hk); (try clear hi)) | ((with_reducible refine gate_dst (N := 12) rfl ?_); refine Kd.R_lit Kd.string _ 9 ?hg (N := 12) ?hd (xs := ([] : List ByteArray)) (inner := []) (ok := fun _ => True) (okp := fun _ => True) ?hr ?hp (fun _ hk => hk) trivial (Below.refl _ _) (Nat.le_refl _) (by simp) ?_; (case hd => rfl); (case hg => rfl); (case hr => first | (go_simp; done) | (go_simp; rfl)); (case hp => exact (Reps.none _ _)); intro v248 w10 ho11 hb hg_ hnew_; clear hg_ hnew_; (first | rw [← Ny247.out] at ho11 | (simp only [Int.reduceToNat] at ho11; rw [← Ny247.out] at ho11)); have n0_ := Aside0.mk (Kd.R_lower ho11 (keep_size (w := w) (g := g) (row := none) spec_l3Draw.a8)); have n1_ := Aside0.mk (IsS77.below spec_l3Draw.a13 hb); have n2_ := Aside0.mk (blk_below (g := gb243) (o := .cells #[.slice none 0 0, .slice none 0 0] 30 (0, 0)) spec_l3Draw.a1 hb); have n3_ := Aside0.mk (KeepBut.trans spec_l3Draw.a8 (KeepBut.of_below hb g none) (.inl rfl)); have n4_ := Aside0.mk (below_step spec_l3Draw.a14 hb); clear HI0; clear BK243; clear HK; clear HB; have HO249 := n0_; have HI0 := n1_; have BK243 := n2_; have HK := n3_; have HB := n4_; clear n0_ n1_ n2_ n3_ n4_; clear hb ho11) | ((with_reducible refine gate_dst (N := 13) rfl ?_); refine Kd.R_lit Kd.string _ 9 ?hg (N := 13) ?hd (xs := ([(⟨#[65]⟩ : ByteArray), (⟨#[66]⟩ : ByteArray), (⟨#[67]⟩ : ByteArray), (⟨#[68]⟩ : ByteArray), (⟨#[69]⟩ : ByteArray), (⟨#[70]⟩ : ByteArray)] : List ByteArray)) (inner := [.string (⟨#[65]⟩ : ByteArray), .string (⟨#[66]⟩ : ByteArray), .string (⟨#[67]⟩ : ByteArray), .string (⟨#[68]⟩ : ByteArray), .string (⟨#[69]⟩ : ByteArray), .string (⟨#[70]⟩ : ByteArray)]) (ok := fun _ => True) (okp := fun _ => True) ?hr ?hp (fun _ hk => hk) trivial (Below.refl _ _) (Nat.le_refl _) (by simp) ?_; (case hd => rfl); (case hg => rfl); (case hr => first | (go_simp; done) | (go_simp; rfl)); (case hp => exact (Reps.one (show Kd.M Kd.string _ _ _ (⟨#[65]⟩ : ByteArray) [.string (⟨#[65]⟩ : ByteArray)] from rfl) (Reps.one (show Kd.M Kd.string _ _ _ (⟨#[66]⟩ : ByteArray) [.string (⟨#[66]⟩ : ByteArray)] from rfl) (Reps.one (show Kd.M Kd.string _ _ _ (⟨#[67]⟩ : ByteArray) [.string (⟨#[67]⟩ : ByteArray)] from rfl) (Reps.one (show Kd.M Kd.string _ _ _ (⟨#[68]⟩ : ByteArray) [.string (⟨#[68]⟩ : ByteArray)] from rfl) (Reps.one (show Kd.M Kd.string _ _ _ (⟨#[69]⟩ : ByteArray) [.string (⟨#[69]⟩ : ByteArray)] from rfl) (Reps.one (show Kd.M Kd.string _ _ _ (⟨#[70]⟩ : ByteArray) [.string (⟨#[70]⟩ : ByteArray)] from rfl) (Reps.none _ _)))))))); intro v251 w12 ho13 hb hg_ hnew_; clear hg_ hnew_; (first | rw [← Ny250.out] at ho13 | (simp only [Int.reduceToNat] at ho13; rw [← Ny250.out] at ho13)); have n0_ := Aside0.mk (Kd.R_elder' (by (with_reducible repeat (first | apply Kd.R_alloc | apply Kd.R_drewN | apply Kd.R_drew)); exact HO249.out) (Kd.R_base ho13) hb); have n1_ := Aside0.mk (Kd.R_lower (Kd.R_new' ho13 (Kd.R_lt (by (with_reducible repeat (first | apply Kd.R_alloc | apply Kd.R_drewN | apply Kd.R_drew)); exact HO249.out))) (keep_size (w := w) (g := g) (row := none) spec_l3Draw.a8)); have n2_ := Aside0.mk (IsS77.below spec_l3Draw.a13 hb); have n3_ := Aside0.mk (blk_below (g := gb243) (o := .cells #[.slice none 0 0, .slice none 0 0] 30 (0, 0)) spec_l3Draw.a1 hb); have n4_ := Aside0.mk (KeepBut.trans spec_l3Draw.a8 (KeepBut.of_below hb g none) (.inl rfl)); have n5_ := Aside0.mk (below_step spec_l3Draw.a14 hb); clear HO249; clear HI0; clear BK243; clear HK; clear HB; have HO249 := n0_; have HO252 := n1_; have HI0 := n2_; have BK243 := n3_; have HK := n4_; have HB := n5_; clear n0_ n1_ n2_ n3_ n4_ n5_; clear hb ho13; obtain ⟨Ao15, co15, eo15⟩ := Kd.R_slice HO252.out; subst eo15; have q14 : ((ji3) : Int) ≤ ((y250.length : Int) : Int) := of_decide_eq_true (by first | (with_reducible assumption) | assumption); obtain ⟨i014, hi014, _, hsz14, _⟩ := info_parts info9; have hroom14 : y250.length ≤ co15 := (Kd.R_reads' HO252.out).2.1; have hC14 : Kd.C Kd.string _ Ao15 y250.length y250 := (Kd.R_reads' HO252.out).2.2; have hcut14 := cut_to (P := Try.prog) 22 9 .i64 Try.underlying22 hi014 Ao15 y250.length co15 (ji3) (of_decide_eq_true (by first | (with_reducible assumption) | assumption)) q14 hroom14; have hr14 := Kd.C_take (m := ((ji3) : Int).toNat) hC14 (by omega); have hy14 : y253.length = ((ji3) : Int).toNat := (by rw [Ny253.out, List.length_take]; omega); rw [← Ny253.out] at hr14; rw [← hy14] at hcut14; have HR256 := Aside0.mk hr14; have HC256 := Aside0.mk (show y253.length ≤ co15 from by omega); clear hr14 hC14 hroom14 hi014 hsz14; have KY14 := Aside0.mk hy14; clear hy14; have KL14 := Aside0.mk (show ((ji3) : Int).toNat ≤ y250.length from by omega); replace q14 := eq_true q14) | ((with_reducible refine gate_builtin (b := .append) (xs := #[.tmp 12, .tmp 15]) rfl ?_); at_builtin; refine Kd.R_append_rows Kd.string w.heap.size rfl (.tmp 12) (.tmp 15) 22 9 (.string ⟨#[]⟩) 16 rfl Try.underlying22 info9 rfl spec_l3Draw.a16 (by omega) v248 y247 y253 _ _ _ (fun k_ => some k_ ≠ (.slice Ao15 y250.length co15 : Value).ownBlock) (fun _ => False) rfl rfl ?aO ?aR (fun _ _ h => h) (fun _ h => h.elim) ?aF (Below.refl _ _) ?aS ?aL ?_; (case aR => repeat (first | exact spec_l3Draw.a21 | (with_reducible refine Kd.C_alloc ?_ _) | (with_reducible refine Kd.C_drewN ?_ _) | (with_reducible refine Kd.C_drew ?_))); (case aF => exact (fun k_ hk => Kd.fresh' (Kd.R_lt spec_l3Draw.a17) k_ hk)); (case aO => exact (by (with_reducible repeat (first | apply Kd.R_alloc | apply Kd.R_drewN | apply Kd.R_drew)); exact Kd.R_mono HO249.out (fun _ hk => hk.2))); (case aS => exact (keep_size (w := w) (g := g) (row := none) spec_l3Draw.a8)); (case aL => have := LMc6.out; omega); intro v258 w16 ho hb hg hat; rw [← Ny257.out] at ho; have n0_ := Aside0.mk (IsS77.grown spec_l3Draw.a13 hg (IsS77.own_ne HI0.out HO249.out spec_l3Draw.a16)); have n1_ := Aside0.mk (blk_grown (g := gb243) (o := .cells #[.slice none 0 0, .slice none 0 0] 30 (0, 0)) spec_l3Draw.a1 hg (Kd.R_ne HO249.out BK243.out spec_l3Draw.a16)); have n2_ := Aside0.mk (Kd.R_after (ok := (fun _ => True)) spec_l3Draw.a17 hg hat); have n3_ := Aside0.mk (below_weaken spec_l3Draw.a14 HL.out hb); have n4_ := Aside0.mk (KeepBut.trans spec_l3Draw.a8 (KeepBut.of_grown hg g) (Kd.R_base2 HO249.out)); have n5_ := Aside0.mk ((show Kd.C Kd.string w16 Ao15 y253.length y253 from by rw [Ny253.out]; exact Kd.C_take (m := ((ji3) : Int).toNat) ((Kd.R_reads' (Kd.R_after (ok := (fun _ => True)) spec_l3Draw.a17 hg hat)).2.2) KL14.out)); have n6_ := Aside0.mk (ho); clear HI0; clear BK243; clear HO252; clear HB; clear HK; clear HR256; clear HO249; have HI0 := n0_; have BK243 := n1_; have HO252 := n2_; have HB := n3_; have HK := n4_; have HR256 := n5_; have HO259 := n6_; clear n0_ n1_ n2_ n3_ n4_ n5_ n6_; clear ho hb hg hat; obtain ⟨Ao17, co17, eo17⟩ := Kd.R_slice HO259.out; subst eo17) | ((with_reducible refine gate_dst (N := 4) rfl ?_); refine box_event ?hg (N := 4) ?hd (cs := #[.slice none 0 0, .slice none 0 0]) (t := 30) ?hr ?_; (case hd => rfl); (case hg => rfl); (case hr => first | (go_simp; done) | (go_simp; rfl)); intro gb260 hg w18 hbox hb; have n0_ := Aside0.mk (Kd.R_below spec_l3Draw.a17 hb); have n1_ := Aside0.mk (Kd.R_below (by (with_reducible repeat (first | apply Kd.R_alloc | apply Kd.R_drewN | apply Kd.R_drew)); exact HO259.out) hb); have n2_ := Aside0.mk (IsS77.below spec_l3Draw.a13 hb); have n3_ := Aside0.mk (blk_below (g := gb243) (o := .cells #[.slice none 0 0, .slice none 0 0] 30 (0, 0)) spec_l3Draw.a1 hb); have n4_ := Aside0.mk (Kd.C_below spec_l3Draw.a21 hb); have n5_ := Aside0.mk (KeepBut.trans spec_l3Draw.a8 (KeepBut.of_below hb g none) (.inl rfl)); have n6_ := Aside0.mk (below_step spec_l3Draw.a14 hb); have n7_ := Aside0.mk (hbox); have n8_ := Aside0.mk ((by rw [hg]; exact (keep_size (w := w) (g := g) (row := none) spec_l3Draw.a8) : w.heap.size ≤ gb260)); have n9_ := Aside0.mk ((Nat.le_trans HW0.out (by rw [hg]; exact (keep_size (w := w) (g := g) (row := none) spec_l3Draw.a8) : w.heap.size ≤ gb260) : w0.heap.size ≤ gb260)); have n10_ := Aside0.mk ((by rw [hg]; exact Nat.ne_of_lt (blk_lt (g := gb243) (o := .cells #[.slice none 0 0, .slice none 0 0] 30 (0, 0)) spec_l3Draw.a1) : gb243 ≠ gb260)); have n11_ := Aside0.mk ((by rw [hg]; exact Nat.ne_of_gt (blk_lt (g := gb243) (o := .cells #[.slice none 0 0, .slice none 0 0] 30 (0, 0)) spec_l3Draw.a1) : gb260 ≠ gb243)); have n12_ := Aside0.mk ((by rw [hg]; exact Nat.ne_of_lt (IsS77.lt (show IsS77 w0 _ g s0_0 t245 t246 from by repeat (first | (with_reducible first | exact HI0.out | apply IsS77.alloc | apply IsS77.drewN | apply IsS77.drew | apply IsS77.set_1 | apply IsS77.set_2 | refine IsS77.far ?_ NB0_243.out _) | exact HI0.out))) : g ≠ gb260)); have n13_ := Aside0.mk ((by rw [hg]; exact Nat.ne_of_gt (IsS77.lt (show IsS77 w0 _ g s0_0 t245 t246 from by repeat (first | (with_reducible first | exact HI0.out | apply IsS77.alloc | apply IsS77.drewN | apply IsS77.drew | apply IsS77.set_1 | apply IsS77.set_2 | refine IsS77.far ?_ NB0_243.out _) | exact HI0.out))) : gb260 ≠ g)); clear HO252; clear HO259; clear HI0; clear BK243; clear HR256; clear HK; clear HB; have HO252 := n0_; have HO259 := n1_; have HI0 := n2_; have BK243 := n3_; have HR256 := n4_; have HK := n5_; have HB := n6_; have BK260 := n7_; have GW260 := n8_; have GE260 := n9_; have NB243_260 := n10_; have NB260_243 := n11_; have NB0_260 := n12_; have NB260_0 := n13_; clear n0_ n1_ n2_ n3_ n4_ n5_ n6_ n7_ n8_ n9_ n10_ n11_ n12_ n13_; clear hb hbox hg; have hnb19 := NB260_243.out; have hnc19 := NB243_260.out; have hnb20 := NB260_0.out; have hnc20 := NB0_260.out; have hcz21_0 : w18.cell? ⟨gb260, 0, none⟩ = some (.slice none 0 0) := (blk_cell BK260.out 0).trans rfl; have hcz21_1 : w18.cell? ⟨gb260, 1, none⟩ = some (.slice none 0 0) := (blk_cell BK260.out 1).trans rfl; have hfz21_0 := blk_frozen BK260.out 0; have hfz21_1 := blk_frozen BK260.out 1) | ((with_reducible refine gate_callee (f := 51) rfl ?_); refine goesL_ (some 19) rfl rfl Try.func51 spec_l3Draw.a19 rfl #[.pointer (some ⟨g, 0, none⟩), .int .i64 6] rfl spec_l3Draw.a9 ?_; (with_reducible refine (spec_l1Below.calls g s0_0 t245 t246 6 t261 t262 t263 w0 _ ?side1 ?side2 A7.out).mono ?_); (case side1 => repeat (first | (with_reducible first | exact HI0.out | apply IsS77.alloc | apply IsS77.drewN | apply IsS77.drew | apply IsS77.set_1 | apply IsS77.set_2 | refine IsS77.far ?_ NB0_243.out _ | refine IsS77.far ?_ NB0_260.out _) | exact HI0.out)); (case side2 => repeat (first | (with_reducible first | exact HB.out | apply below_alloc | apply pw_below_drewN | apply below_drew1 | refine below_set ?_ (IsS77.ge HI0.out) | refine below_set ?_ GE243.out | refine below_set ?_ GE260.out) | exact HB.out)); rintro e w22 ⟨rfl, hi, hb, hk⟩; refine ⟨_, rfl, ?_⟩; have n0_ := Aside0.mk (KeepBut.blk hk (g' := gb243) (o := .cells #[.slice none 0 0, .slice none 0 0] 30 (0, 0)) (by (with_reducible repeat (first | refine blk_drewN ?_ _ | refine blk_drew ?_ | refine blk_alloc ?_ _)); refine blk_far ?_ NB243_260.out _; (with_reducible repeat (first | refine blk_drewN ?_ _ | refine blk_drew ?_ | refine blk_alloc ?_ _)); refine blk_far ?_ NB243_260.out _; (with_reducible repeat (first | refine blk_drewN ?_ _ | refine blk_drew ?_ | refine blk_alloc ?_ _)); exact BK243.out) NB243_0.out (by simp)); have n1_ := Aside0.mk (Kd.R_mono (Kd.R_keep (IsS77.apart (show IsS77 w0 _ g s0_0 t245 t246 from by repeat (first | (with_reducible first | exact HI0.out | apply IsS77.alloc | apply IsS77.drewN | apply IsS77.drew | apply IsS77.set_1 | apply IsS77.set_2 | refine IsS77.far ?_ NB0_243.out _ | refine IsS77.far ?_ NB0_260.out _) | exact HI0.out)) (by (with_reducible repeat (first | apply Kd.R_alloc | apply Kd.R_drewN | apply Kd.R_drew)); exact (Kd.R_mono (Kd.R_far (p := ⟨gb260, 1, none⟩) (Kd.R_far (p := ⟨gb260, 0, none⟩) (Kd.R_types HO252.out BK260.out spec_l3Draw.a16) (fun _ hk => hk.2) (.slice Ao17 y257.length co17)) (fun _ hk => hk.2) (.slice none 0 0)) (fun _ h_ => h_.1))) spec_l3Draw.a16) hk (fun _ h => h.2)) (fun _ h => h.1)); have n2_ := Aside0.mk (Kd.R_mono (Kd.R_keep (IsS77.apart (show IsS77 w0 _ g s0_0 t245 t246 from by repeat (first | (with_reducible first | exact HI0.out | apply IsS77.alloc | apply IsS77.drewN | apply IsS77.drew | apply IsS77.set_1 | apply IsS77.set_2 | refine IsS77.far ?_ NB0_243.out _ | refine IsS77.far ?_ NB0_260.out _) | exact HI0.out)) (by (with_reducible repeat (first | apply Kd.R_alloc | apply Kd.R_drewN | apply Kd.R_drew)); exact (Kd.R_mono (Kd.R_far (p := ⟨gb260, 1, none⟩) (Kd.R_far (p := ⟨gb260, 0, none⟩) (Kd.R_types HO259.out BK260.out spec_l3Draw.a16) (fun _ hk => hk.2) (.slice Ao17 y257.length co17)) (fun _ hk => hk.2) (.slice none 0 0)) (fun _ h_ => h_.1))) spec_l3Draw.a16) hk (fun _ h => h.2)) (fun _ h => h.1)); have n3_ := Aside0.mk (KeepBut.blk hk (g' := gb260) (o := .cells #[.slice Ao17 y257.length co17, .slice none 0 0] 30 (0, 0)) (by (with_reducible repeat (first | refine blk_drewN ?_ _ | refine blk_drew ?_ | refine blk_alloc ?_ _)); refine blk_put (cs := #[.slice Ao17 y257.length co17, .slice none 0 0]) ?_ 1 _ rfl; (with_reducible repeat (first | refine blk_drewN ?_ _ | refine blk_drew ?_ | refine blk_alloc ?_ _)); refine blk_put (cs := #[.slice none 0 0, .slice none 0 0]) ?_ 0 _ rfl; (with_reducible repeat (first | refine blk_drewN ?_ _ | refine blk_drew ?_ | refine blk_alloc ?_ _)); exact BK260.out) NB260_0.out (by simp)); have n4_ := Aside0.mk (KeepBut.trans spec_l3Draw.a0 hk (.inl rfl)); have n5_ := Aside0.mk (hb); have n6_ := Aside0.mk (hi); clear BK243; clear HO252; clear HO259; clear BK260; clear HK; clear HB; clear HI0; have BK243 := n0_; have HO252 := n1_; have HO259 := n2_; have BK260 := n3_; have HK := n4_; have HB := n5_; have HI0 := n6_; clear n0_ n1_ n2_ n3_ n4_ n5_ n6_; (try clear hb); (try clear hb2); (try clear hk); (try clear hi)))
    go_loopg [6] k (fun kq v6 w' => ∃ (x6_1 : Int) (x1001_1 : Int) (x1002_1 : Int) (x261001_1 : List (S52)) (u261001 : Value), v6 = .int .i64 x6_1 ∧ Aside0 (spec_l3Draw.l0 kq ji3 t261 x6_1 s0_0 x1001_1 x1002_1 y257 x261001_1 = some (r1, r2, r3, r4)) ∧ Aside0 (kq ≤ k) ∧ Aside0 (Kd.R Kd.string 9 w' w.heap.size (fun _ => True) (.slice Ao17 y257.length co17) y257) ∧ Aside0 (Kd.R k52 52 w' w.heap.size (fun _ => True) u261001 x261001_1) ∧ Aside0 (w'.heap[gb243]? = some (.cells #[(.slice none 0 0), (.slice none 0 0)] 30 (0, 0))) ∧ Aside0 (w'.heap[gb260]? = some (.cells #[(.slice Ao17 y257.length co17), u261001] 30 (0, 0))) ∧ Aside0 (IsS77 w0 w' g s0_0 x1001_1 x1002_1) ∧ Aside0 (KeepBut w w' g none) ∧ Aside0 (Below w0.heap.size w0 w'))
    case atStart => exact ⟨(0), (t262), (t263), (([] : List (S52))), (.slice none 0 0), spec_l3Draw.a20, H', ⟨Nat.le_refl _⟩, ⟨by (with_reducible repeat (first | apply Kd.R_alloc | apply Kd.R_drewN | apply Kd.R_drew)); exact Kd.R_mono HO259.out (fun _ hk => trivial)⟩, ⟨by first | exact Kd.R_nil _ _ _ _ _ | exact Kd.N_nil _ _ _ _ _ | exact Kd.V_nil _ _ _ _ _ | exact Kd.Q_nil _ _ _ _ _ | exact Kd.S_nil _ _ _ _ _⟩, ⟨spec_l3Draw.a1⟩, ⟨spec_l3Draw.a5⟩, ⟨spec_l3Draw.a2⟩, ⟨spec_l3Draw.a0⟩, ⟨spec_l3Draw.a3⟩⟩
    case round =>
     clear H'
     try clear c1
     try clear q1
     try clear c2
     try clear p2
     try clear c4
     try clear c4b0
     try clear c4b1
     try clear c5
     try clear c5b0
     try clear c5b1
     try clear c6
     try clear p6
     try clear q14
     try clear c19
     try clear c20
     try clear hcz21_0
     try clear hcz21_1
     try clear hfz21_0
     try clear hfz21_1
     try clear q14
     obtain ⟨x6_1, x1001_1, x1002_1, x261001_1, u261001, rfl, HA, HK1, HO_261000, HO_261001, BK243, BK260, HI0, HK, HB⟩ := hrel
     cases gk with
     | zero => exact absurd HA.out (by simp [spec_l3Draw.l0])
     | succ k1 =>
      have H := HA.out
      clear HA
      simp only [spec_l3Draw.l0] at H
      by_cases c23 : x6_1 < t261
      ·rw [if_pos c23] at H
       have c23b0 : decide (x6_1 < t261) = true := decide_eq_true c23
       clear c23
       replace H := Option.bind_eq_some_iff.mp H
       obtain ⟨⟨t264, t265, t266⟩, A240, H⟩ := H
       replace H : ((spec_l1Below.f s0_0 t265 t266 ji3).bind fun bt267 => (if t264 > bt267.1 then (if bt267.1 = t264 then ((spec_l1Once.f s0_0 bt267.2.1 bt267.2.2 20).bind fun bt270 => (if bt270.1 = true then (if x261001_1.length < 8796093022208 then (spec_l3Draw.l0 k1 ji3 t261 (wrap64 (x6_1 + 1)) s0_0 bt270.2.1 bt270.2.2 y257 (x261001_1 ++ [(⟨bt267.1, t264⟩ : S52)])) else (none)) else (spec_l3Draw.l0 k1 ji3 t261 (wrap64 (x6_1 + 1)) s0_0 bt270.2.1 bt270.2.2 y257 x261001_1))) else (if x261001_1.length < 8796093022208 then (spec_l3Draw.l0 k1 ji3 t261 (wrap64 (x6_1 + 1)) s0_0 bt267.2.1 bt267.2.2 y257 (x261001_1 ++ [(⟨bt267.1, t264⟩ : S52)])) else (none))) else (if t264 = bt267.1 then ((spec_l1Once.f s0_0 bt267.2.1 bt267.2.2 20).bind fun bt279 => (if bt279.1 = true then (if x261001_1.length < 8796093022208 then (spec_l3Draw.l0 k1 ji3 t261 (wrap64 (x6_1 + 1)) s0_0 bt279.2.1 bt279.2.2 y257 (x261001_1 ++ [(⟨t264, bt267.1⟩ : S52)])) else (none)) else (spec_l3Draw.l0 k1 ji3 t261 (wrap64 (x6_1 + 1)) s0_0 bt279.2.1 bt279.2.2 y257 x261001_1))) else (if x261001_1.length < 8796093022208 then (spec_l3Draw.l0 k1 ji3 t261 (wrap64 (x6_1 + 1)) s0_0 bt267.2.1 bt267.2.2 y257 (x261001_1 ++ [(⟨t264, bt267.1⟩ : S52)])) else (none))))) = some (r1, r2, r3, r4) := H
       have A24 := Aside0.mk A240
       clear A240
       replace H := Option.bind_eq_some_iff.mp H
       obtain ⟨⟨t267, t268, t269⟩, A250, H⟩ := H
       replace H : (if t264 > t267 then (if t267 = t264 then ((spec_l1Once.f s0_0 t268 t269 20).bind fun bt270 => (if bt270.1 = true then (if x261001_1.length < 8796093022208 then (spec_l3Draw.l0 k1 ji3 t261 (wrap64 (x6_1 + 1)) s0_0 bt270.2.1 bt270.2.2 y257 (x261001_1 ++ [(⟨t267, t264⟩ : S52)])) else (none)) else (spec_l3Draw.l0 k1 ji3 t261 (wrap64 (x6_1 + 1)) s0_0 bt270.2.1 bt270.2.2 y257 x261001_1))) else (if x261001_1.length < 8796093022208 then (spec_l3Draw.l0 k1 ji3 t261 (wrap64 (x6_1 + 1)) s0_0 t268 t269 y257 (x261001_1 ++ [(⟨t267, t264⟩ : S52)])) else (none))) else (if t264 = t267 then ((spec_l1Once.f s0_0 t268 t269 20).bind fun bt279 => (if bt279.1 = true then (if x261001_1.length < 8796093022208 then (spec_l3Draw.l0 k1 ji3 t261 (wrap64 (x6_1 + 1)) s0_0 bt279.2.1 bt279.2.2 y257 (x261001_1 ++ [(⟨t264, t267⟩ : S52)])) else (none)) else (spec_l3Draw.l0 k1 ji3 t261 (wrap64 (x6_1 + 1)) s0_0 bt279.2.1 bt279.2.2 y257 x261001_1))) else (if x261001_1.length < 8796093022208 then (spec_l3Draw.l0 k1 ji3 t261 (wrap64 (x6_1 + 1)) s0_0 t268 t269 y257 (x261001_1 ++ [(⟨t264, t267⟩ : S52)])) else (none)))) = some (r1, r2, r3, r4) := H
       have A25 := Aside0.mk A250
       clear A250
       by_cases c26 : t264 > t267
       ·rw [if_pos c26] at H
        have c26b0 : decide (t267 < t264) = true := decide_eq_true c26
        clear c26
        by_cases c27 : t267 = t264
        ·rw [if_pos c27] at H
         have c27b0 : (t267 == t264) = true := beq_iff_eq.mpr c27
         have c27b1 : (t267 != t264) = false := bne_eq_false_iff_eq.mpr c27
         clear c27
         replace H := Option.bind_eq_some_iff.mp H
         obtain ⟨⟨t270, t271, t272⟩, A280, H⟩ := H
         replace H : (if t270 = true then (if x261001_1.length < 8796093022208 then (spec_l3Draw.l0 k1 ji3 t261 (wrap64 (x6_1 + 1)) s0_0 t271 t272 y257 (x261001_1 ++ [(⟨t267, t264⟩ : S52)])) else (none)) else (spec_l3Draw.l0 k1 ji3 t261 (wrap64 (x6_1 + 1)) s0_0 t271 t272 y257 x261001_1)) = some (r1, r2, r3, r4) := H
         have A28 := Aside0.mk A280
         clear A280
         by_cases c29 : t270 = true
         ·subst c29
          have H1 : (if x261001_1.length < 8796093022208 then (spec_l3Draw.l0 k1 ji3 t261 (wrap64 (x6_1 + 1)) s0_0 t271 t272 y257 (x261001_1 ++ [(⟨t267, t264⟩ : S52)])) else (none)) = some (r1, r2, r3, r4) := by rw [if_pos rfl] at H; exact H
          clear H
          have H := H1
          clear H1
          by_cases c30 : x261001_1.length < 8796093022208
          ·rw [if_pos c30] at H
           have LMc30 := Aside0.mk c30
           clear c30
           obtain ⟨y273, hy273⟩ : ∃ y_ : List (S52), y_ = (x261001_1 ++ [(⟨t267, t264⟩ : S52)]) := ⟨_, rfl⟩
           replace H : (spec_l3Draw.l0 k1 ji3 t261 (wrap64 (x6_1 + 1)) s0_0 t271 t272 y257 y273) = some (r1, r2, r3, r4) := by first | (rw [hy273]; with_reducible exact H) | (have H2_ := (Option.bind_some _ _).symm.trans H; rw [hy273]; with_reducible exact H2_) | (have H2_ := (Option.bind_some _ _).symm.trans H; with_reducible exact H2_) | with_reducible exact H | (rw [hy273]; exact H) | exact H
           have Ny273 := Aside0.mk hy273
           clear hy273
           have H' := Aside0.mk H
           clear H
           go_wp2_with (first | ((with_reducible refine gate_callee (f := 51) rfl ?_); refine goesL_ (some 27) rfl rfl Try.func51 spec_l3Draw.a19 rfl #[.pointer (some ⟨g, 0, none⟩), .int .i64 ji3] rfl spec_l3Draw.a7 ?_; (with_reducible refine (spec_l1Below.calls g s0_0 x1001_1 x1002_1 ji3 t264 t265 t266 w0 _ ?side1 ?side2 A24.out).mono ?_); (case side1 => repeat (first | (with_reducible first | exact HI0.out | apply IsS77.alloc | apply IsS77.drewN | apply IsS77.drew | apply IsS77.set_1 | apply IsS77.set_2 | refine IsS77.far ?_ NB0_243.out _ | refine IsS77.far ?_ NB0_260.out _) | exact HI0.out)); (case side2 => repeat (first | (with_reducible first | exact HB.out | apply below_alloc | apply pw_below_drewN | apply below_drew1 | refine below_set ?_ (IsS77.ge HI0.out) | refine below_set ?_ GE243.out | refine below_set ?_ GE260.out) | exact HB.out)); rintro e w31 ⟨rfl, hi, hb, hk⟩; refine ⟨_, rfl, ?_⟩; have n0_ := Aside0.mk (Kd.R_mono (Kd.R_keep (IsS77.apart (show IsS77 w0 _ g s0_0 x1001_1 x1002_1 from by repeat (first | (with_reducible first | exact HI0.out | apply IsS77.alloc | apply IsS77.drewN | apply IsS77.drew | apply IsS77.set_1 | apply IsS77.set_2 | refine IsS77.far ?_ NB0_243.out _ | refine IsS77.far ?_ NB0_260.out _) | exact HI0.out)) spec_l3Draw.a6 spec_l3Draw.a16) hk (fun _ h => h.2)) (fun _ h => h.1)); have n1_ := Aside0.mk (Kd.R_mono (Kd.R_keep (IsS77.apart (show IsS77 w0 _ g s0_0 x1001_1 x1002_1 from by repeat (first | (with_reducible first | exact HI0.out | apply IsS77.alloc | apply IsS77.drewN | apply IsS77.drew | apply IsS77.set_1 | apply IsS77.set_2 | refine IsS77.far ?_ NB0_243.out _ | refine IsS77.far ?_ NB0_260.out _) | exact HI0.out)) spec_l3Draw.a4 spec_l3Draw.a16) hk (fun _ h => h.2)) (fun _ h => h.1)); have n2_ := Aside0.mk (KeepBut.blk hk (g' := gb243) (o := .cells #[.slice none 0 0, .slice none 0 0] 30 (0, 0)) spec_l3Draw.a1 NB243_0.out (by simp)); have n3_ := Aside0.mk (KeepBut.blk hk (g' := gb260) (o := .cells #[.slice Ao17 y257.length co17, u261001] 30 (0, 0)) spec_l3Draw.a5 NB260_0.out (by simp)); have n4_ := Aside0.mk (KeepBut.trans spec_l3Draw.a0 hk (.inl rfl)); have n5_ := Aside0.mk (hb); have n6_ := Aside0.mk (hi); clear HO_261000; clear HO_261001; clear BK243; clear BK260; clear HK; clear HB; clear HI0; have HO_261000 := n0_; have HO_261001 := n1_; have BK243 := n2_; have BK260 := n3_; have HK := n4_; have HB := n5_; have HI0 := n6_; clear n0_ n1_ n2_ n3_ n4_ n5_ n6_; (try clear hb); (try clear hb2); (try clear hk); (try clear hi)) | ((with_reducible refine gate_callee (f := 51) rfl ?_); refine goesL_ (some 30) rfl rfl Try.func51 spec_l3Draw.a19 rfl #[.pointer (some ⟨g, 0, none⟩), .int .i64 ji3] rfl spec_l3Draw.a7 ?_; (with_reducible refine (spec_l1Below.calls g s0_0 t265 t266 ji3 t267 t268 t269 w0 _ ?side1 ?side2 A25.out).mono ?_); (case side1 => repeat (first | (with_reducible first | exact HI0.out | apply IsS77.alloc | apply IsS77.drewN | apply IsS77.drew | apply IsS77.set_1 | apply IsS77.set_2 | refine IsS77.far ?_ NB0_243.out _ | refine IsS77.far ?_ NB0_260.out _) | exact HI0.out)); (case side2 => repeat (first | (with_reducible first | exact HB.out | apply below_alloc | apply pw_below_drewN | apply below_drew1 | refine below_set ?_ (IsS77.ge HI0.out) | refine below_set ?_ GE243.out | refine below_set ?_ GE260.out) | exact HB.out)); rintro e w32 ⟨rfl, hi, hb, hk⟩; refine ⟨_, rfl, ?_⟩; have n0_ := Aside0.mk (Kd.R_mono (Kd.R_keep (IsS77.apart (show IsS77 w0 _ g s0_0 t265 t266 from by repeat (first | (with_reducible first | exact HI0.out | apply IsS77.alloc | apply IsS77.drewN | apply IsS77.drew | apply IsS77.set_1 | apply IsS77.set_2 | refine IsS77.far ?_ NB0_243.out _ | refine IsS77.far ?_ NB0_260.out _) | exact HI0.out)) spec_l3Draw.a6 spec_l3Draw.a16) hk (fun _ h => h.2)) (fun _ h => h.1)); have n1_ := Aside0.mk (Kd.R_mono (Kd.R_keep (IsS77.apart (show IsS77 w0 _ g s0_0 t265 t266 from by repeat (first | (with_reducible first | exact HI0.out | apply IsS77.alloc | apply IsS77.drewN | apply IsS77.drew | apply IsS77.set_1 | apply IsS77.set_2 | refine IsS77.far ?_ NB0_243.out _ | refine IsS77.far ?_ NB0_260.out _) | exact HI0.out)) spec_l3Draw.a4 spec_l3Draw.a16) hk (fun _ h => h.2)) (fun _ h => h.1)); have n2_ := Aside0.mk (KeepBut.blk hk (g' := gb243) (o := .cells #[.slice none 0 0, .slice none 0 0] 30 (0, 0)) spec_l3Draw.a1 NB243_0.out (by simp)); have n3_ := Aside0.mk (KeepBut.blk hk (g' := gb260) (o := .cells #[.slice Ao17 y257.length co17, u261001] 30 (0, 0)) spec_l3Draw.a5 NB260_0.out (by simp)); have n4_ := Aside0.mk (KeepBut.trans spec_l3Draw.a0 hk (.inl rfl)); have n5_ := Aside0.mk (hb); have n6_ := Aside0.mk (hi); clear HO_261000; clear HO_261001; clear BK243; clear BK260; clear HK; clear HB; clear HI0; have HO_261000 := n0_; have HO_261001 := n1_; have BK243 := n2_; have BK260 := n3_; have HK := n4_; have HB := n5_; have HI0 := n6_; clear n0_ n1_ n2_ n3_ n4_ n5_ n6_; (try clear hb); (try clear hb2); (try clear hk); (try clear hi)) | (go_at_call 59; (with_reducible refine (spec_l1Once.calls g s0_0 t268 t269 20 true t271 t272 w0 _ ?side1 ?side2 A28.out).mono ?_); (case side1 => repeat (first | (with_reducible first | exact HI0.out | apply IsS77.alloc | apply IsS77.drewN | apply IsS77.drew | apply IsS77.set_1 | apply IsS77.set_2 | refine IsS77.far ?_ NB0_243.out _ | refine IsS77.far ?_ NB0_260.out _) | exact HI0.out)); (case side2 => repeat (first | (with_reducible first | exact HB.out | apply below_alloc | apply pw_below_drewN | apply below_drew1 | refine below_set ?_ (IsS77.ge HI0.out) | refine below_set ?_ GE243.out | refine below_set ?_ GE260.out) | exact HB.out)); rintro e w33 ⟨rfl, hi, hb, hk⟩; have n0_ := Aside0.mk (Kd.R_mono (Kd.R_keep (IsS77.apart (show IsS77 w0 _ g s0_0 t268 t269 from by repeat (first | (with_reducible first | exact HI0.out | apply IsS77.alloc | apply IsS77.drewN | apply IsS77.drew | apply IsS77.set_1 | apply IsS77.set_2 | refine IsS77.far ?_ NB0_243.out _ | refine IsS77.far ?_ NB0_260.out _) | exact HI0.out)) spec_l3Draw.a6 spec_l3Draw.a16) hk (fun _ h => h.2)) (fun _ h => h.1)); have n1_ := Aside0.mk (Kd.R_mono (Kd.R_keep (IsS77.apart (show IsS77 w0 _ g s0_0 t268 t269 from by repeat (first | (with_reducible first | exact HI0.out | apply IsS77.alloc | apply IsS77.drewN | apply IsS77.drew | apply IsS77.set_1 | apply IsS77.set_2 | refine IsS77.far ?_ NB0_243.out _ | refine IsS77.far ?_ NB0_260.out _) | exact HI0.out)) spec_l3Draw.a4 spec_l3Draw.a16) hk (fun _ h => h.2)) (fun _ h => h.1)); have n2_ := Aside0.mk (KeepBut.blk hk (g' := gb243) (o := .cells #[.slice none 0 0, .slice none 0 0] 30 (0, 0)) spec_l3Draw.a1 NB243_0.out (by simp)); have n3_ := Aside0.mk (KeepBut.blk hk (g' := gb260) (o := .cells #[.slice Ao17 y257.length co17, u261001] 30 (0, 0)) spec_l3Draw.a5 NB260_0.out (by simp)); have n4_ := Aside0.mk (KeepBut.trans spec_l3Draw.a0 hk (.inl rfl)); have n5_ := Aside0.mk (hb); have n6_ := Aside0.mk (hi); clear HO_261000; clear HO_261001; clear BK243; clear BK260; clear HK; clear HB; clear HI0; have HO_261000 := n0_; have HO_261001 := n1_; have BK243 := n2_; have BK260 := n3_; have HK := n4_; have HB := n5_; have HI0 := n6_; clear n0_ n1_ n2_ n3_ n4_ n5_ n6_; (try clear hb); (try clear hb2); (try clear hk); (try clear hi); have hnb34 := NB260_243.out; have hnc34 := NB243_260.out; have hnb35 := NB260_0.out; have hnc35 := NB0_260.out; have hcz36_0 : w33.cell? ⟨gb260, 0, none⟩ = some (.slice Ao17 y257.length co17) := (blk_cell BK260.out 0).trans rfl; have hcz36_1 : w33.cell? ⟨gb260, 1, none⟩ = some (u261001) := (blk_cell BK260.out 1).trans rfl; have hfz36_0 := blk_frozen BK260.out 0; have hfz36_1 := blk_frozen BK260.out 1) | ((with_reducible refine gate_builtin (b := .append) (xs := #[.tmp 44, .tmp 48]) rfl ?_); at_builtin; refine Kd.R_append k52 w.heap.size rfl (.tmp 44) (.tmp 48) 28 52 (.agg #[(.int .i64 0), (.int .i64 0)]) 16 rfl Try.underlying28 info52 rfl spec_l3Draw.a16 (by omega) u261001 x261001_1 (⟨t267, t264⟩ : S52) [.int .i64 t267, .int .i64 t264] (fun _ => True) (fun _ => False) rfl rfl ?aP (fun _ hk => hk.elim) ?aF ?aO (Below.refl _ _) ?aS ?aL ?_; (case aP => exact k52_mkM _ _ _ (⟨t267, t264⟩ : S52)); (case aF => exact (fun _ _ => trivial)); (case aO => exact spec_l3Draw.a4); (case aS => exact (keep_size (w := w) (g := g) (row := none) spec_l3Draw.a0)); (case aL => have := LMc30.out; omega); intro v274 w37 ho hb hg hat; rw [← Ny273.out] at ho; have n0_ := Aside0.mk (Kd.R_over' spec_l3Draw.a6 (Kd.R_typed spec_l3Draw.a4) spec_l3Draw.a16 hg); have n1_ := Aside0.mk (blk_grown (g := gb243) (o := .cells #[.slice none 0 0, .slice none 0 0] 30 (0, 0)) spec_l3Draw.a1 hg (Kd.R_ne HO_261001.out BK243.out spec_l3Draw.a16)); have n2_ := Aside0.mk (blk_grown (g := gb260) (o := .cells #[.slice Ao17 y257.length co17, u261001] 30 (0, 0)) spec_l3Draw.a5 hg (Kd.R_ne HO_261001.out BK260.out spec_l3Draw.a16)); have n3_ := Aside0.mk (IsS77.grown spec_l3Draw.a2 hg (IsS77.own_ne HI0.out HO_261001.out spec_l3Draw.a16)); have n4_ := Aside0.mk (below_weaken spec_l3Draw.a3 HL.out hb); have n5_ := Aside0.mk (KeepBut.trans spec_l3Draw.a0 (KeepBut.of_grown hg g) (Kd.R_base2 HO_261001.out)); have n6_ := Aside0.mk (ho); clear HO_261000; clear BK243; clear BK260; clear HI0; clear HB; clear HK; clear HO_261001; have HO_261000 := n0_; have BK243 := n1_; have BK260 := n2_; have HI0 := n3_; have HB := n4_; have HK := n5_; have HO275 := n6_; clear n0_ n1_ n2_ n3_ n4_ n5_ n6_; clear ho hb hg hat; obtain ⟨Ao38, co38, eo38⟩ := Kd.R_slice HO275.out; subst eo38; have hcz39_0 : w37.cell? ⟨gb260, 0, none⟩ = some (.slice Ao17 y257.length co17) := (blk_cell BK260.out 0).trans rfl; have hcz39_1 : w37.cell? ⟨gb260, 1, none⟩ = some (u261001) := (blk_cell BK260.out 1).trans rfl; have hfz39_0 := blk_frozen BK260.out 0; have hfz39_1 := blk_frozen BK260.out 1))
           go_roundg k1
           case measure => have := HK1.out; omega
           case rel => exact ⟨(wrap64 (x6_1 + 1)), (t271), (t272), (y273), (.slice Ao38 y273.length co38), spec_l3Draw.a20, H', ⟨by have := HK1.out; omega⟩, ⟨by (with_reducible repeat (first | apply Kd.R_alloc | apply Kd.R_drewN | apply Kd.R_drew)); exact Kd.R_mono (Kd.R_far (p := ⟨gb260, 1, none⟩) (Kd.R_types HO_261000.out BK260.out spec_l3Draw.a16) (fun _ hk => hk.2) (.slice Ao38 y273.length co38)) (fun _ hk => trivial)⟩, ⟨by (with_reducible repeat (first | apply Kd.R_alloc | apply Kd.R_drewN | apply Kd.R_drew)); exact Kd.R_mono (Kd.R_far (p := ⟨gb260, 1, none⟩) (Kd.R_types HO275.out BK260.out spec_l3Draw.a16) (fun _ hk => hk.2) (.slice Ao38 y273.length co38)) (fun _ hk => trivial)⟩, ⟨spec_l3Draw.a11⟩, ⟨spec_l3Draw.a10⟩, ⟨spec_l3Draw.a2⟩, ⟨spec_l3Draw.a0⟩, ⟨spec_l3Draw.a3⟩⟩
          ·rw [if_neg c30] at H
           exact absurd H (by simp)
         ·replace c29 := Bool.eq_false_iff.mpr c29
          subst c29
          have H1 : (spec_l3Draw.l0 k1 ji3 t261 (wrap64 (x6_1 + 1)) s0_0 t271 t272 y257 x261001_1) = some (r1, r2, r3, r4) := by rw [if_neg (show ¬ (false = true) by decide)] at H; exact H
          clear H
          have H := H1
          clear H1
          have H' := Aside0.mk H
          clear H
          go_wp2_with (first | ((with_reducible refine gate_callee (f := 51) rfl ?_); refine goesL_ (some 27) rfl rfl Try.func51 spec_l3Draw.a19 rfl #[.pointer (some ⟨g, 0, none⟩), .int .i64 ji3] rfl spec_l3Draw.a7 ?_; (with_reducible refine (spec_l1Below.calls g s0_0 x1001_1 x1002_1 ji3 t264 t265 t266 w0 _ ?side1 ?side2 A24.out).mono ?_); (case side1 => repeat (first | (with_reducible first | exact HI0.out | apply IsS77.alloc | apply IsS77.drewN | apply IsS77.drew | apply IsS77.set_1 | apply IsS77.set_2 | refine IsS77.far ?_ NB0_243.out _ | refine IsS77.far ?_ NB0_260.out _) | exact HI0.out)); (case side2 => repeat (first | (with_reducible first | exact HB.out | apply below_alloc | apply pw_below_drewN | apply below_drew1 | refine below_set ?_ (IsS77.ge HI0.out) | refine below_set ?_ GE243.out | refine below_set ?_ GE260.out) | exact HB.out)); rintro e w40 ⟨rfl, hi, hb, hk⟩; refine ⟨_, rfl, ?_⟩; have n0_ := Aside0.mk (Kd.R_mono (Kd.R_keep (IsS77.apart (show IsS77 w0 _ g s0_0 x1001_1 x1002_1 from by repeat (first | (with_reducible first | exact HI0.out | apply IsS77.alloc | apply IsS77.drewN | apply IsS77.drew | apply IsS77.set_1 | apply IsS77.set_2 | refine IsS77.far ?_ NB0_243.out _ | refine IsS77.far ?_ NB0_260.out _) | exact HI0.out)) spec_l3Draw.a6 spec_l3Draw.a16) hk (fun _ h => h.2)) (fun _ h => h.1)); have n1_ := Aside0.mk (Kd.R_mono (Kd.R_keep (IsS77.apart (show IsS77 w0 _ g s0_0 x1001_1 x1002_1 from by repeat (first | (with_reducible first | exact HI0.out | apply IsS77.alloc | apply IsS77.drewN | apply IsS77.drew | apply IsS77.set_1 | apply IsS77.set_2 | refine IsS77.far ?_ NB0_243.out _ | refine IsS77.far ?_ NB0_260.out _) | exact HI0.out)) spec_l3Draw.a4 spec_l3Draw.a16) hk (fun _ h => h.2)) (fun _ h => h.1)); have n2_ := Aside0.mk (KeepBut.blk hk (g' := gb243) (o := .cells #[.slice none 0 0, .slice none 0 0] 30 (0, 0)) spec_l3Draw.a1 NB243_0.out (by simp)); have n3_ := Aside0.mk (KeepBut.blk hk (g' := gb260) (o := .cells #[.slice Ao17 y257.length co17, u261001] 30 (0, 0)) spec_l3Draw.a5 NB260_0.out (by simp)); have n4_ := Aside0.mk (KeepBut.trans spec_l3Draw.a0 hk (.inl rfl)); have n5_ := Aside0.mk (hb); have n6_ := Aside0.mk (hi); clear HO_261000; clear HO_261001; clear BK243; clear BK260; clear HK; clear HB; clear HI0; have HO_261000 := n0_; have HO_261001 := n1_; have BK243 := n2_; have BK260 := n3_; have HK := n4_; have HB := n5_; have HI0 := n6_; clear n0_ n1_ n2_ n3_ n4_ n5_ n6_; (try clear hb); (try clear hb2); (try clear hk); (try clear hi)) | ((with_reducible refine gate_callee (f := 51) rfl ?_); refine goesL_ (some 30) rfl rfl Try.func51 spec_l3Draw.a19 rfl #[.pointer (some ⟨g, 0, none⟩), .int .i64 ji3] rfl spec_l3Draw.a7 ?_; (with_reducible refine (spec_l1Below.calls g s0_0 t265 t266 ji3 t267 t268 t269 w0 _ ?side1 ?side2 A25.out).mono ?_); (case side1 => repeat (first | (with_reducible first | exact HI0.out | apply IsS77.alloc | apply IsS77.drewN | apply IsS77.drew | apply IsS77.set_1 | apply IsS77.set_2 | refine IsS77.far ?_ NB0_243.out _ | refine IsS77.far ?_ NB0_260.out _) | exact HI0.out)); (case side2 => repeat (first | (with_reducible first | exact HB.out | apply below_alloc | apply pw_below_drewN | apply below_drew1 | refine below_set ?_ (IsS77.ge HI0.out) | refine below_set ?_ GE243.out | refine below_set ?_ GE260.out) | exact HB.out)); rintro e w41 ⟨rfl, hi, hb, hk⟩; refine ⟨_, rfl, ?_⟩; have n0_ := Aside0.mk (Kd.R_mono (Kd.R_keep (IsS77.apart (show IsS77 w0 _ g s0_0 t265 t266 from by repeat (first | (with_reducible first | exact HI0.out | apply IsS77.alloc | apply IsS77.drewN | apply IsS77.drew | apply IsS77.set_1 | apply IsS77.set_2 | refine IsS77.far ?_ NB0_243.out _ | refine IsS77.far ?_ NB0_260.out _) | exact HI0.out)) spec_l3Draw.a6 spec_l3Draw.a16) hk (fun _ h => h.2)) (fun _ h => h.1)); have n1_ := Aside0.mk (Kd.R_mono (Kd.R_keep (IsS77.apart (show IsS77 w0 _ g s0_0 t265 t266 from by repeat (first | (with_reducible first | exact HI0.out | apply IsS77.alloc | apply IsS77.drewN | apply IsS77.drew | apply IsS77.set_1 | apply IsS77.set_2 | refine IsS77.far ?_ NB0_243.out _ | refine IsS77.far ?_ NB0_260.out _) | exact HI0.out)) spec_l3Draw.a4 spec_l3Draw.a16) hk (fun _ h => h.2)) (fun _ h => h.1)); have n2_ := Aside0.mk (KeepBut.blk hk (g' := gb243) (o := .cells #[.slice none 0 0, .slice none 0 0] 30 (0, 0)) spec_l3Draw.a1 NB243_0.out (by simp)); have n3_ := Aside0.mk (KeepBut.blk hk (g' := gb260) (o := .cells #[.slice Ao17 y257.length co17, u261001] 30 (0, 0)) spec_l3Draw.a5 NB260_0.out (by simp)); have n4_ := Aside0.mk (KeepBut.trans spec_l3Draw.a0 hk (.inl rfl)); have n5_ := Aside0.mk (hb); have n6_ := Aside0.mk (hi); clear HO_261000; clear HO_261001; clear BK243; clear BK260; clear HK; clear HB; clear HI0; have HO_261000 := n0_; have HO_261001 := n1_; have BK243 := n2_; have BK260 := n3_; have HK := n4_; have HB := n5_; have HI0 := n6_; clear n0_ n1_ n2_ n3_ n4_ n5_ n6_; (try clear hb); (try clear hb2); (try clear hk); (try clear hi)) | (go_at_call 59; (with_reducible refine (spec_l1Once.calls g s0_0 t268 t269 20 false t271 t272 w0 _ ?side1 ?side2 A28.out).mono ?_); (case side1 => repeat (first | (with_reducible first | exact HI0.out | apply IsS77.alloc | apply IsS77.drewN | apply IsS77.drew | apply IsS77.set_1 | apply IsS77.set_2 | refine IsS77.far ?_ NB0_243.out _ | refine IsS77.far ?_ NB0_260.out _) | exact HI0.out)); (case side2 => repeat (first | (with_reducible first | exact HB.out | apply below_alloc | apply pw_below_drewN | apply below_drew1 | refine below_set ?_ (IsS77.ge HI0.out) | refine below_set ?_ GE243.out | refine below_set ?_ GE260.out) | exact HB.out)); rintro e w42 ⟨rfl, hi, hb, hk⟩; have n0_ := Aside0.mk (Kd.R_mono (Kd.R_keep (IsS77.apart (show IsS77 w0 _ g s0_0 t268 t269 from by repeat (first | (with_reducible first | exact HI0.out | apply IsS77.alloc | apply IsS77.drewN | apply IsS77.drew | apply IsS77.set_1 | apply IsS77.set_2 | refine IsS77.far ?_ NB0_243.out _ | refine IsS77.far ?_ NB0_260.out _) | exact HI0.out)) spec_l3Draw.a6 spec_l3Draw.a16) hk (fun _ h => h.2)) (fun _ h => h.1)); have n1_ := Aside0.mk (Kd.R_mono (Kd.R_keep (IsS77.apart (show IsS77 w0 _ g s0_0 t268 t269 from by repeat (first | (with_reducible first | exact HI0.out | apply IsS77.alloc | apply IsS77.drewN | apply IsS77.drew | apply IsS77.set_1 | apply IsS77.set_2 | refine IsS77.far ?_ NB0_243.out _ | refine IsS77.far ?_ NB0_260.out _) | exact HI0.out)) spec_l3Draw.a4 spec_l3Draw.a16) hk (fun _ h => h.2)) (fun _ h => h.1)); have n2_ := Aside0.mk (KeepBut.blk hk (g' := gb243) (o := .cells #[.slice none 0 0, .slice none 0 0] 30 (0, 0)) spec_l3Draw.a1 NB243_0.out (by simp)); have n3_ := Aside0.mk (KeepBut.blk hk (g' := gb260) (o := .cells #[.slice Ao17 y257.length co17, u261001] 30 (0, 0)) spec_l3Draw.a5 NB260_0.out (by simp)); have n4_ := Aside0.mk (KeepBut.trans spec_l3Draw.a0 hk (.inl rfl)); have n5_ := Aside0.mk (hb); have n6_ := Aside0.mk (hi); clear HO_261000; clear HO_261001; clear BK243; clear BK260; clear HK; clear HB; clear HI0; have HO_261000 := n0_; have HO_261001 := n1_; have BK243 := n2_; have BK260 := n3_; have HK := n4_; have HB := n5_; have HI0 := n6_; clear n0_ n1_ n2_ n3_ n4_ n5_ n6_; (try clear hb); (try clear hb2); (try clear hk); (try clear hi)))
          go_roundg k1
          case measure => have := HK1.out; omega
          case rel => exact ⟨(wrap64 (x6_1 + 1)), (t271), (t272), (x261001_1), (u261001), spec_l3Draw.a20, H', ⟨by have := HK1.out; omega⟩, ⟨spec_l3Draw.a6⟩, ⟨spec_l3Draw.a4⟩, ⟨spec_l3Draw.a1⟩, ⟨spec_l3Draw.a5⟩, ⟨spec_l3Draw.a2⟩, ⟨spec_l3Draw.a0⟩, ⟨spec_l3Draw.a3⟩⟩
        ·rw [if_neg c27] at H
         have c27b0 : (t267 == t264) = false := beq_eq_false_iff_ne.mpr c27
         have c27b1 : (t267 != t264) = true := bne_iff_ne.mpr c27
         by_cases c43 : x261001_1.length < 8796093022208
         ·rw [if_pos c43] at H
          have LMc43 := Aside0.mk c43
          clear c43
          obtain ⟨y276, hy276⟩ : ∃ y_ : List (S52), y_ = (x261001_1 ++ [(⟨t267, t264⟩ : S52)]) := ⟨_, rfl⟩
          replace H : (spec_l3Draw.l0 k1 ji3 t261 (wrap64 (x6_1 + 1)) s0_0 t268 t269 y257 y276) = some (r1, r2, r3, r4) := by first | (rw [hy276]; with_reducible exact H) | (have H2_ := (Option.bind_some _ _).symm.trans H; rw [hy276]; with_reducible exact H2_) | (have H2_ := (Option.bind_some _ _).symm.trans H; with_reducible exact H2_) | with_reducible exact H | (rw [hy276]; exact H) | exact H
          have Ny276 := Aside0.mk hy276
          clear hy276
          have H' := Aside0.mk H
          clear H
          go_wp2_with (first | ((with_reducible refine gate_callee (f := 51) rfl ?_); refine goesL_ (some 27) rfl rfl Try.func51 spec_l3Draw.a19 rfl #[.pointer (some ⟨g, 0, none⟩), .int .i64 ji3] rfl spec_l3Draw.a7 ?_; (with_reducible refine (spec_l1Below.calls g s0_0 x1001_1 x1002_1 ji3 t264 t265 t266 w0 _ ?side1 ?side2 A24.out).mono ?_); (case side1 => repeat (first | (with_reducible first | exact HI0.out | apply IsS77.alloc | apply IsS77.drewN | apply IsS77.drew | apply IsS77.set_1 | apply IsS77.set_2 | refine IsS77.far ?_ NB0_243.out _ | refine IsS77.far ?_ NB0_260.out _) | exact HI0.out)); (case side2 => repeat (first | (with_reducible first | exact HB.out | apply below_alloc | apply pw_below_drewN | apply below_drew1 | refine below_set ?_ (IsS77.ge HI0.out) | refine below_set ?_ GE243.out | refine below_set ?_ GE260.out) | exact HB.out)); rintro e w44 ⟨rfl, hi, hb, hk⟩; refine ⟨_, rfl, ?_⟩; have n0_ := Aside0.mk (Kd.R_mono (Kd.R_keep (IsS77.apart (show IsS77 w0 _ g s0_0 x1001_1 x1002_1 from by repeat (first | (with_reducible first | exact HI0.out | apply IsS77.alloc | apply IsS77.drewN | apply IsS77.drew | apply IsS77.set_1 | apply IsS77.set_2 | refine IsS77.far ?_ NB0_243.out _ | refine IsS77.far ?_ NB0_260.out _) | exact HI0.out)) spec_l3Draw.a6 spec_l3Draw.a16) hk (fun _ h => h.2)) (fun _ h => h.1)); have n1_ := Aside0.mk (Kd.R_mono (Kd.R_keep (IsS77.apart (show IsS77 w0 _ g s0_0 x1001_1 x1002_1 from by repeat (first | (with_reducible first | exact HI0.out | apply IsS77.alloc | apply IsS77.drewN | apply IsS77.drew | apply IsS77.set_1 | apply IsS77.set_2 | refine IsS77.far ?_ NB0_243.out _ | refine IsS77.far ?_ NB0_260.out _) | exact HI0.out)) spec_l3Draw.a4 spec_l3Draw.a16) hk (fun _ h => h.2)) (fun _ h => h.1)); have n2_ := Aside0.mk (KeepBut.blk hk (g' := gb243) (o := .cells #[.slice none 0 0, .slice none 0 0] 30 (0, 0)) spec_l3Draw.a1 NB243_0.out (by simp)); have n3_ := Aside0.mk (KeepBut.blk hk (g' := gb260) (o := .cells #[.slice Ao17 y257.length co17, u261001] 30 (0, 0)) spec_l3Draw.a5 NB260_0.out (by simp)); have n4_ := Aside0.mk (KeepBut.trans spec_l3Draw.a0 hk (.inl rfl)); have n5_ := Aside0.mk (hb); have n6_ := Aside0.mk (hi); clear HO_261000; clear HO_261001; clear BK243; clear BK260; clear HK; clear HB; clear HI0; have HO_261000 := n0_; have HO_261001 := n1_; have BK243 := n2_; have BK260 := n3_; have HK := n4_; have HB := n5_; have HI0 := n6_; clear n0_ n1_ n2_ n3_ n4_ n5_ n6_; (try clear hb); (try clear hb2); (try clear hk); (try clear hi)) | ((with_reducible refine gate_callee (f := 51) rfl ?_); refine goesL_ (some 30) rfl rfl Try.func51 spec_l3Draw.a19 rfl #[.pointer (some ⟨g, 0, none⟩), .int .i64 ji3] rfl spec_l3Draw.a7 ?_; (with_reducible refine (spec_l1Below.calls g s0_0 t265 t266 ji3 t267 t268 t269 w0 _ ?side1 ?side2 A25.out).mono ?_); (case side1 => repeat (first | (with_reducible first | exact HI0.out | apply IsS77.alloc | apply IsS77.drewN | apply IsS77.drew | apply IsS77.set_1 | apply IsS77.set_2 | refine IsS77.far ?_ NB0_243.out _ | refine IsS77.far ?_ NB0_260.out _) | exact HI0.out)); (case side2 => repeat (first | (with_reducible first | exact HB.out | apply below_alloc | apply pw_below_drewN | apply below_drew1 | refine below_set ?_ (IsS77.ge HI0.out) | refine below_set ?_ GE243.out | refine below_set ?_ GE260.out) | exact HB.out)); rintro e w45 ⟨rfl, hi, hb, hk⟩; refine ⟨_, rfl, ?_⟩; have n0_ := Aside0.mk (Kd.R_mono (Kd.R_keep (IsS77.apart (show IsS77 w0 _ g s0_0 t265 t266 from by repeat (first | (with_reducible first | exact HI0.out | apply IsS77.alloc | apply IsS77.drewN | apply IsS77.drew | apply IsS77.set_1 | apply IsS77.set_2 | refine IsS77.far ?_ NB0_243.out _ | refine IsS77.far ?_ NB0_260.out _) | exact HI0.out)) spec_l3Draw.a6 spec_l3Draw.a16) hk (fun _ h => h.2)) (fun _ h => h.1)); have n1_ := Aside0.mk (Kd.R_mono (Kd.R_keep (IsS77.apart (show IsS77 w0 _ g s0_0 t265 t266 from by repeat (first | (with_reducible first | exact HI0.out | apply IsS77.alloc | apply IsS77.drewN | apply IsS77.drew | apply IsS77.set_1 | apply IsS77.set_2 | refine IsS77.far ?_ NB0_243.out _ | refine IsS77.far ?_ NB0_260.out _) | exact HI0.out)) spec_l3Draw.a4 spec_l3Draw.a16) hk (fun _ h => h.2)) (fun _ h => h.1)); have n2_ := Aside0.mk (KeepBut.blk hk (g' := gb243) (o := .cells #[.slice none 0 0, .slice none 0 0] 30 (0, 0)) spec_l3Draw.a1 NB243_0.out (by simp)); have n3_ := Aside0.mk (KeepBut.blk hk (g' := gb260) (o := .cells #[.slice Ao17 y257.length co17, u261001] 30 (0, 0)) spec_l3Draw.a5 NB260_0.out (by simp)); have n4_ := Aside0.mk (KeepBut.trans spec_l3Draw.a0 hk (.inl rfl)); have n5_ := Aside0.mk (hb); have n6_ := Aside0.mk (hi); clear HO_261000; clear HO_261001; clear BK243; clear BK260; clear HK; clear HB; clear HI0; have HO_261000 := n0_; have HO_261001 := n1_; have BK243 := n2_; have BK260 := n3_; have HK := n4_; have HB := n5_; have HI0 := n6_; clear n0_ n1_ n2_ n3_ n4_ n5_ n6_; (try clear hb); (try clear hb2); (try clear hk); (try clear hi); have hnb46 := NB260_243.out; have hnc46 := NB243_260.out; have hnb47 := NB260_0.out; have hnc47 := NB0_260.out; have hcz48_0 : w45.cell? ⟨gb260, 0, none⟩ = some (.slice Ao17 y257.length co17) := (blk_cell BK260.out 0).trans rfl; have hcz48_1 : w45.cell? ⟨gb260, 1, none⟩ = some (u261001) := (blk_cell BK260.out 1).trans rfl; have hfz48_0 := blk_frozen BK260.out 0; have hfz48_1 := blk_frozen BK260.out 1) | ((with_reducible refine gate_builtin (b := .append) (xs := #[.tmp 44, .tmp 48]) rfl ?_); at_builtin; refine Kd.R_append k52 w.heap.size rfl (.tmp 44) (.tmp 48) 28 52 (.agg #[(.int .i64 0), (.int .i64 0)]) 16 rfl Try.underlying28 info52 rfl spec_l3Draw.a16 (by omega) u261001 x261001_1 (⟨t267, t264⟩ : S52) [.int .i64 t267, .int .i64 t264] (fun _ => True) (fun _ => False) rfl rfl ?aP (fun _ hk => hk.elim) ?aF ?aO (Below.refl _ _) ?aS ?aL ?_; (case aP => exact k52_mkM _ _ _ (⟨t267, t264⟩ : S52)); (case aF => exact (fun _ _ => trivial)); (case aO => exact spec_l3Draw.a4); (case aS => exact (keep_size (w := w) (g := g) (row := none) spec_l3Draw.a0)); (case aL => have := LMc43.out; omega); intro v277 w49 ho hb hg hat; rw [← Ny276.out] at ho; have n0_ := Aside0.mk (Kd.R_over' spec_l3Draw.a6 (Kd.R_typed spec_l3Draw.a4) spec_l3Draw.a16 hg); have n1_ := Aside0.mk (blk_grown (g := gb243) (o := .cells #[.slice none 0 0, .slice none 0 0] 30 (0, 0)) spec_l3Draw.a1 hg (Kd.R_ne HO_261001.out BK243.out spec_l3Draw.a16)); have n2_ := Aside0.mk (blk_grown (g := gb260) (o := .cells #[.slice Ao17 y257.length co17, u261001] 30 (0, 0)) spec_l3Draw.a5 hg (Kd.R_ne HO_261001.out BK260.out spec_l3Draw.a16)); have n3_ := Aside0.mk (IsS77.grown spec_l3Draw.a2 hg (IsS77.own_ne HI0.out HO_261001.out spec_l3Draw.a16)); have n4_ := Aside0.mk (below_weaken spec_l3Draw.a3 HL.out hb); have n5_ := Aside0.mk (KeepBut.trans spec_l3Draw.a0 (KeepBut.of_grown hg g) (Kd.R_base2 HO_261001.out)); have n6_ := Aside0.mk (ho); clear HO_261000; clear BK243; clear BK260; clear HI0; clear HB; clear HK; clear HO_261001; have HO_261000 := n0_; have BK243 := n1_; have BK260 := n2_; have HI0 := n3_; have HB := n4_; have HK := n5_; have HO278 := n6_; clear n0_ n1_ n2_ n3_ n4_ n5_ n6_; clear ho hb hg hat; obtain ⟨Ao50, co50, eo50⟩ := Kd.R_slice HO278.out; subst eo50; have hcz51_0 : w49.cell? ⟨gb260, 0, none⟩ = some (.slice Ao17 y257.length co17) := (blk_cell BK260.out 0).trans rfl; have hcz51_1 : w49.cell? ⟨gb260, 1, none⟩ = some (u261001) := (blk_cell BK260.out 1).trans rfl; have hfz51_0 := blk_frozen BK260.out 0; have hfz51_1 := blk_frozen BK260.out 1))
          go_roundg k1
          case measure => have := HK1.out; omega
          case rel => exact ⟨(wrap64 (x6_1 + 1)), (t268), (t269), (y276), (.slice Ao50 y276.length co50), spec_l3Draw.a20, H', ⟨by have := HK1.out; omega⟩, ⟨by (with_reducible repeat (first | apply Kd.R_alloc | apply Kd.R_drewN | apply Kd.R_drew)); exact Kd.R_mono (Kd.R_far (p := ⟨gb260, 1, none⟩) (Kd.R_types HO_261000.out BK260.out spec_l3Draw.a16) (fun _ hk => hk.2) (.slice Ao50 y276.length co50)) (fun _ hk => trivial)⟩, ⟨by (with_reducible repeat (first | apply Kd.R_alloc | apply Kd.R_drewN | apply Kd.R_drew)); exact Kd.R_mono (Kd.R_far (p := ⟨gb260, 1, none⟩) (Kd.R_types HO278.out BK260.out spec_l3Draw.a16) (fun _ hk => hk.2) (.slice Ao50 y276.length co50)) (fun _ hk => trivial)⟩, ⟨spec_l3Draw.a11⟩, ⟨spec_l3Draw.a10⟩, ⟨spec_l3Draw.a2⟩, ⟨spec_l3Draw.a0⟩, ⟨spec_l3Draw.a3⟩⟩
         ·rw [if_neg c43] at H
          exact absurd H (by simp)
       ·rw [if_neg c26] at H
        have c26b0 : decide (t267 < t264) = false := decide_eq_false c26
        clear c26
        by_cases c52 : t264 = t267
        ·rw [if_pos c52] at H
         have c52b0 : (t264 == t267) = true := beq_iff_eq.mpr c52
         have c52b1 : (t264 != t267) = false := bne_eq_false_iff_eq.mpr c52
         clear c52
         replace H := Option.bind_eq_some_iff.mp H
         obtain ⟨⟨t279, t280, t281⟩, A530, H⟩ := H
         replace H : (if t279 = true then (if x261001_1.length < 8796093022208 then (spec_l3Draw.l0 k1 ji3 t261 (wrap64 (x6_1 + 1)) s0_0 t280 t281 y257 (x261001_1 ++ [(⟨t264, t267⟩ : S52)])) else (none)) else (spec_l3Draw.l0 k1 ji3 t261 (wrap64 (x6_1 + 1)) s0_0 t280 t281 y257 x261001_1)) = some (r1, r2, r3, r4) := H
         have A53 := Aside0.mk A530
         clear A530
         by_cases c54 : t279 = true
         ·subst c54
          have H1 : (if x261001_1.length < 8796093022208 then (spec_l3Draw.l0 k1 ji3 t261 (wrap64 (x6_1 + 1)) s0_0 t280 t281 y257 (x261001_1 ++ [(⟨t264, t267⟩ : S52)])) else (none)) = some (r1, r2, r3, r4) := by rw [if_pos rfl] at H; exact H
          clear H
          have H := H1
          clear H1
          by_cases c55 : x261001_1.length < 8796093022208
          ·rw [if_pos c55] at H
           have LMc55 := Aside0.mk c55
           clear c55
           obtain ⟨y282, hy282⟩ : ∃ y_ : List (S52), y_ = (x261001_1 ++ [(⟨t264, t267⟩ : S52)]) := ⟨_, rfl⟩
           replace H : (spec_l3Draw.l0 k1 ji3 t261 (wrap64 (x6_1 + 1)) s0_0 t280 t281 y257 y282) = some (r1, r2, r3, r4) := by first | (rw [hy282]; with_reducible exact H) | (have H2_ := (Option.bind_some _ _).symm.trans H; rw [hy282]; with_reducible exact H2_) | (have H2_ := (Option.bind_some _ _).symm.trans H; with_reducible exact H2_) | with_reducible exact H | (rw [hy282]; exact H) | exact H
           have Ny282 := Aside0.mk hy282
           clear hy282
           have H' := Aside0.mk H
           clear H
           go_wp2_with (first | ((with_reducible refine gate_callee (f := 51) rfl ?_); refine goesL_ (some 27) rfl rfl Try.func51 spec_l3Draw.a19 rfl #[.pointer (some ⟨g, 0, none⟩), .int .i64 ji3] rfl spec_l3Draw.a7 ?_; (with_reducible refine (spec_l1Below.calls g s0_0 x1001_1 x1002_1 ji3 t264 t265 t266 w0 _ ?side1 ?side2 A24.out).mono ?_); (case side1 => repeat (first | (with_reducible first | exact HI0.out | apply IsS77.alloc | apply IsS77.drewN | apply IsS77.drew | apply IsS77.set_1 | apply IsS77.set_2 | refine IsS77.far ?_ NB0_243.out _ | refine IsS77.far ?_ NB0_260.out _) | exact HI0.out)); (case side2 => repeat (first | (with_reducible first | exact HB.out | apply below_alloc | apply pw_below_drewN | apply below_drew1 | refine below_set ?_ (IsS77.ge HI0.out) | refine below_set ?_ GE243.out | refine below_set ?_ GE260.out) | exact HB.out)); rintro e w56 ⟨rfl, hi, hb, hk⟩; refine ⟨_, rfl, ?_⟩; have n0_ := Aside0.mk (Kd.R_mono (Kd.R_keep (IsS77.apart (show IsS77 w0 _ g s0_0 x1001_1 x1002_1 from by repeat (first | (with_reducible first | exact HI0.out | apply IsS77.alloc | apply IsS77.drewN | apply IsS77.drew | apply IsS77.set_1 | apply IsS77.set_2 | refine IsS77.far ?_ NB0_243.out _ | refine IsS77.far ?_ NB0_260.out _) | exact HI0.out)) spec_l3Draw.a6 spec_l3Draw.a16) hk (fun _ h => h.2)) (fun _ h => h.1)); have n1_ := Aside0.mk (Kd.R_mono (Kd.R_keep (IsS77.apart (show IsS77 w0 _ g s0_0 x1001_1 x1002_1 from by repeat (first | (with_reducible first | exact HI0.out | apply IsS77.alloc | apply IsS77.drewN | apply IsS77.drew | apply IsS77.set_1 | apply IsS77.set_2 | refine IsS77.far ?_ NB0_243.out _ | refine IsS77.far ?_ NB0_260.out _) | exact HI0.out)) spec_l3Draw.a4 spec_l3Draw.a16) hk (fun _ h => h.2)) (fun _ h => h.1)); have n2_ := Aside0.mk (KeepBut.blk hk (g' := gb243) (o := .cells #[.slice none 0 0, .slice none 0 0] 30 (0, 0)) spec_l3Draw.a1 NB243_0.out (by simp)); have n3_ := Aside0.mk (KeepBut.blk hk (g' := gb260) (o := .cells #[.slice Ao17 y257.length co17, u261001] 30 (0, 0)) spec_l3Draw.a5 NB260_0.out (by simp)); have n4_ := Aside0.mk (KeepBut.trans spec_l3Draw.a0 hk (.inl rfl)); have n5_ := Aside0.mk (hb); have n6_ := Aside0.mk (hi); clear HO_261000; clear HO_261001; clear BK243; clear BK260; clear HK; clear HB; clear HI0; have HO_261000 := n0_; have HO_261001 := n1_; have BK243 := n2_; have BK260 := n3_; have HK := n4_; have HB := n5_; have HI0 := n6_; clear n0_ n1_ n2_ n3_ n4_ n5_ n6_; (try clear hb); (try clear hb2); (try clear hk); (try clear hi)) | ((with_reducible refine gate_callee (f := 51) rfl ?_); refine goesL_ (some 30) rfl rfl Try.func51 spec_l3Draw.a19 rfl #[.pointer (some ⟨g, 0, none⟩), .int .i64 ji3] rfl spec_l3Draw.a7 ?_; (with_reducible refine (spec_l1Below.calls g s0_0 t265 t266 ji3 t267 t268 t269 w0 _ ?side1 ?side2 A25.out).mono ?_); (case side1 => repeat (first | (with_reducible first | exact HI0.out | apply IsS77.alloc | apply IsS77.drewN | apply IsS77.drew | apply IsS77.set_1 | apply IsS77.set_2 | refine IsS77.far ?_ NB0_243.out _ | refine IsS77.far ?_ NB0_260.out _) | exact HI0.out)); (case side2 => repeat (first | (with_reducible first | exact HB.out | apply below_alloc | apply pw_below_drewN | apply below_drew1 | refine below_set ?_ (IsS77.ge HI0.out) | refine below_set ?_ GE243.out | refine below_set ?_ GE260.out) | exact HB.out)); rintro e w57 ⟨rfl, hi, hb, hk⟩; refine ⟨_, rfl, ?_⟩; have n0_ := Aside0.mk (Kd.R_mono (Kd.R_keep (IsS77.apart (show IsS77 w0 _ g s0_0 t265 t266 from by repeat (first | (with_reducible first | exact HI0.out | apply IsS77.alloc | apply IsS77.drewN | apply IsS77.drew | apply IsS77.set_1 | apply IsS77.set_2 | refine IsS77.far ?_ NB0_243.out _ | refine IsS77.far ?_ NB0_260.out _) | exact HI0.out)) spec_l3Draw.a6 spec_l3Draw.a16) hk (fun _ h => h.2)) (fun _ h => h.1)); have n1_ := Aside0.mk (Kd.R_mono (Kd.R_keep (IsS77.apart (show IsS77 w0 _ g s0_0 t265 t266 from by repeat (first | (with_reducible first | exact HI0.out | apply IsS77.alloc | apply IsS77.drewN | apply IsS77.drew | apply IsS77.set_1 | apply IsS77.set_2 | refine IsS77.far ?_ NB0_243.out _ | refine IsS77.far ?_ NB0_260.out _) | exact HI0.out)) spec_l3Draw.a4 spec_l3Draw.a16) hk (fun _ h => h.2)) (fun _ h => h.1)); have n2_ := Aside0.mk (KeepBut.blk hk (g' := gb243) (o := .cells #[.slice none 0 0, .slice none 0 0] 30 (0, 0)) spec_l3Draw.a1 NB243_0.out (by simp)); have n3_ := Aside0.mk (KeepBut.blk hk (g' := gb260) (o := .cells #[.slice Ao17 y257.length co17, u261001] 30 (0, 0)) spec_l3Draw.a5 NB260_0.out (by simp)); have n4_ := Aside0.mk (KeepBut.trans spec_l3Draw.a0 hk (.inl rfl)); have n5_ := Aside0.mk (hb); have n6_ := Aside0.mk (hi); clear HO_261000; clear HO_261001; clear BK243; clear BK260; clear HK; clear HB; clear HI0; have HO_261000 := n0_; have HO_261001 := n1_; have BK243 := n2_; have BK260 := n3_; have HK := n4_; have HB := n5_; have HI0 := n6_; clear n0_ n1_ n2_ n3_ n4_ n5_ n6_; (try clear hb); (try clear hb2); (try clear hk); (try clear hi)) | (go_at_call 59; (with_reducible refine (spec_l1Once.calls g s0_0 t268 t269 20 true t280 t281 w0 _ ?side1 ?side2 A53.out).mono ?_); (case side1 => repeat (first | (with_reducible first | exact HI0.out | apply IsS77.alloc | apply IsS77.drewN | apply IsS77.drew | apply IsS77.set_1 | apply IsS77.set_2 | refine IsS77.far ?_ NB0_243.out _ | refine IsS77.far ?_ NB0_260.out _) | exact HI0.out)); (case side2 => repeat (first | (with_reducible first | exact HB.out | apply below_alloc | apply pw_below_drewN | apply below_drew1 | refine below_set ?_ (IsS77.ge HI0.out) | refine below_set ?_ GE243.out | refine below_set ?_ GE260.out) | exact HB.out)); rintro e w58 ⟨rfl, hi, hb, hk⟩; have n0_ := Aside0.mk (Kd.R_mono (Kd.R_keep (IsS77.apart (show IsS77 w0 _ g s0_0 t268 t269 from by repeat (first | (with_reducible first | exact HI0.out | apply IsS77.alloc | apply IsS77.drewN | apply IsS77.drew | apply IsS77.set_1 | apply IsS77.set_2 | refine IsS77.far ?_ NB0_243.out _ | refine IsS77.far ?_ NB0_260.out _) | exact HI0.out)) spec_l3Draw.a6 spec_l3Draw.a16) hk (fun _ h => h.2)) (fun _ h => h.1)); have n1_ := Aside0.mk (Kd.R_mono (Kd.R_keep (IsS77.apart (show IsS77 w0 _ g s0_0 t268 t269 from by repeat (first | (with_reducible first | exact HI0.out | apply IsS77.alloc | apply IsS77.drewN | apply IsS77.drew | apply IsS77.set_1 | apply IsS77.set_2 | refine IsS77.far ?_ NB0_243.out _ | refine IsS77.far ?_ NB0_260.out _) | exact HI0.out)) spec_l3Draw.a4 spec_l3Draw.a16) hk (fun _ h => h.2)) (fun _ h => h.1)); have n2_ := Aside0.mk (KeepBut.blk hk (g' := gb243) (o := .cells #[.slice none 0 0, .slice none 0 0] 30 (0, 0)) spec_l3Draw.a1 NB243_0.out (by simp)); have n3_ := Aside0.mk (KeepBut.blk hk (g' := gb260) (o := .cells #[.slice Ao17 y257.length co17, u261001] 30 (0, 0)) spec_l3Draw.a5 NB260_0.out (by simp)); have n4_ := Aside0.mk (KeepBut.trans spec_l3Draw.a0 hk (.inl rfl)); have n5_ := Aside0.mk (hb); have n6_ := Aside0.mk (hi); clear HO_261000; clear HO_261001; clear BK243; clear BK260; clear HK; clear HB; clear HI0; have HO_261000 := n0_; have HO_261001 := n1_; have BK243 := n2_; have BK260 := n3_; have HK := n4_; have HB := n5_; have HI0 := n6_; clear n0_ n1_ n2_ n3_ n4_ n5_ n6_; (try clear hb); (try clear hb2); (try clear hk); (try clear hi); have hnb59 := NB260_243.out; have hnc59 := NB243_260.out; have hnb60 := NB260_0.out; have hnc60 := NB0_260.out; have hcz61_0 : w58.cell? ⟨gb260, 0, none⟩ = some (.slice Ao17 y257.length co17) := (blk_cell BK260.out 0).trans rfl; have hcz61_1 : w58.cell? ⟨gb260, 1, none⟩ = some (u261001) := (blk_cell BK260.out 1).trans rfl; have hfz61_0 := blk_frozen BK260.out 0; have hfz61_1 := blk_frozen BK260.out 1) | ((with_reducible refine gate_builtin (b := .append) (xs := #[.tmp 44, .tmp 48]) rfl ?_); at_builtin; refine Kd.R_append k52 w.heap.size rfl (.tmp 44) (.tmp 48) 28 52 (.agg #[(.int .i64 0), (.int .i64 0)]) 16 rfl Try.underlying28 info52 rfl spec_l3Draw.a16 (by omega) u261001 x261001_1 (⟨t264, t267⟩ : S52) [.int .i64 t264, .int .i64 t267] (fun _ => True) (fun _ => False) rfl rfl ?aP (fun _ hk => hk.elim) ?aF ?aO (Below.refl _ _) ?aS ?aL ?_; (case aP => exact k52_mkM _ _ _ (⟨t264, t267⟩ : S52)); (case aF => exact (fun _ _ => trivial)); (case aO => exact spec_l3Draw.a4); (case aS => exact (keep_size (w := w) (g := g) (row := none) spec_l3Draw.a0)); (case aL => have := LMc55.out; omega); intro v283 w62 ho hb hg hat; rw [← Ny282.out] at ho; have n0_ := Aside0.mk (Kd.R_over' spec_l3Draw.a6 (Kd.R_typed spec_l3Draw.a4) spec_l3Draw.a16 hg); have n1_ := Aside0.mk (blk_grown (g := gb243) (o := .cells #[.slice none 0 0, .slice none 0 0] 30 (0, 0)) spec_l3Draw.a1 hg (Kd.R_ne HO_261001.out BK243.out spec_l3Draw.a16)); have n2_ := Aside0.mk (blk_grown (g := gb260) (o := .cells #[.slice Ao17 y257.length co17, u261001] 30 (0, 0)) spec_l3Draw.a5 hg (Kd.R_ne HO_261001.out BK260.out spec_l3Draw.a16)); have n3_ := Aside0.mk (IsS77.grown spec_l3Draw.a2 hg (IsS77.own_ne HI0.out HO_261001.out spec_l3Draw.a16)); have n4_ := Aside0.mk (below_weaken spec_l3Draw.a3 HL.out hb); have n5_ := Aside0.mk (KeepBut.trans spec_l3Draw.a0 (KeepBut.of_grown hg g) (Kd.R_base2 HO_261001.out)); have n6_ := Aside0.mk (ho); clear HO_261000; clear BK243; clear BK260; clear HI0; clear HB; clear HK; clear HO_261001; have HO_261000 := n0_; have BK243 := n1_; have BK260 := n2_; have HI0 := n3_; have HB := n4_; have HK := n5_; have HO284 := n6_; clear n0_ n1_ n2_ n3_ n4_ n5_ n6_; clear ho hb hg hat; obtain ⟨Ao63, co63, eo63⟩ := Kd.R_slice HO284.out; subst eo63; have hcz64_0 : w62.cell? ⟨gb260, 0, none⟩ = some (.slice Ao17 y257.length co17) := (blk_cell BK260.out 0).trans rfl; have hcz64_1 : w62.cell? ⟨gb260, 1, none⟩ = some (u261001) := (blk_cell BK260.out 1).trans rfl; have hfz64_0 := blk_frozen BK260.out 0; have hfz64_1 := blk_frozen BK260.out 1))
           go_roundg k1
           case measure => have := HK1.out; omega
           case rel => exact ⟨(wrap64 (x6_1 + 1)), (t280), (t281), (y282), (.slice Ao63 y282.length co63), spec_l3Draw.a20, H', ⟨by have := HK1.out; omega⟩, ⟨by (with_reducible repeat (first | apply Kd.R_alloc | apply Kd.R_drewN | apply Kd.R_drew)); exact Kd.R_mono (Kd.R_far (p := ⟨gb260, 1, none⟩) (Kd.R_types HO_261000.out BK260.out spec_l3Draw.a16) (fun _ hk => hk.2) (.slice Ao63 y282.length co63)) (fun _ hk => trivial)⟩, ⟨by (with_reducible repeat (first | apply Kd.R_alloc | apply Kd.R_drewN | apply Kd.R_drew)); exact Kd.R_mono (Kd.R_far (p := ⟨gb260, 1, none⟩) (Kd.R_types HO284.out BK260.out spec_l3Draw.a16) (fun _ hk => hk.2) (.slice Ao63 y282.length co63)) (fun _ hk => trivial)⟩, ⟨spec_l3Draw.a11⟩, ⟨spec_l3Draw.a10⟩, ⟨spec_l3Draw.a2⟩, ⟨spec_l3Draw.a0⟩, ⟨spec_l3Draw.a3⟩⟩
          ·rw [if_neg c55] at H
           exact absurd H (by simp)
         ·replace c54 := Bool.eq_false_iff.mpr c54
          subst c54
          have H1 : (spec_l3Draw.l0 k1 ji3 t261 (wrap64 (x6_1 + 1)) s0_0 t280 t281 y257 x261001_1) = some (r1, r2, r3, r4) := by rw [if_neg (show ¬ (false = true) by decide)] at H; exact H
          clear H
          have H := H1
          clear H1
          have H' := Aside0.mk H
          clear H
          go_wp2_with (first | ((with_reducible refine gate_callee (f := 51) rfl ?_); refine goesL_ (some 27) rfl rfl Try.func51 spec_l3Draw.a19 rfl #[.pointer (some ⟨g, 0, none⟩), .int .i64 ji3] rfl spec_l3Draw.a7 ?_; (with_reducible refine (spec_l1Below.calls g s0_0 x1001_1 x1002_1 ji3 t264 t265 t266 w0 _ ?side1 ?side2 A24.out).mono ?_); (case side1 => repeat (first | (with_reducible first | exact HI0.out | apply IsS77.alloc | apply IsS77.drewN | apply IsS77.drew | apply IsS77.set_1 | apply IsS77.set_2 | refine IsS77.far ?_ NB0_243.out _ | refine IsS77.far ?_ NB0_260.out _) | exact HI0.out)); (case side2 => repeat (first | (with_reducible first | exact HB.out | apply below_alloc | apply pw_below_drewN | apply below_drew1 | refine below_set ?_ (IsS77.ge HI0.out) | refine below_set ?_ GE243.out | refine below_set ?_ GE260.out) | exact HB.out)); rintro e w65 ⟨rfl, hi, hb, hk⟩; refine ⟨_, rfl, ?_⟩; have n0_ := Aside0.mk (Kd.R_mono (Kd.R_keep (IsS77.apart (show IsS77 w0 _ g s0_0 x1001_1 x1002_1 from by repeat (first | (with_reducible first | exact HI0.out | apply IsS77.alloc | apply IsS77.drewN | apply IsS77.drew | apply IsS77.set_1 | apply IsS77.set_2 | refine IsS77.far ?_ NB0_243.out _ | refine IsS77.far ?_ NB0_260.out _) | exact HI0.out)) spec_l3Draw.a6 spec_l3Draw.a16) hk (fun _ h => h.2)) (fun _ h => h.1)); have n1_ := Aside0.mk (Kd.R_mono (Kd.R_keep (IsS77.apart (show IsS77 w0 _ g s0_0 x1001_1 x1002_1 from by repeat (first | (with_reducible first | exact HI0.out | apply IsS77.alloc | apply IsS77.drewN | apply IsS77.drew | apply IsS77.set_1 | apply IsS77.set_2 | refine IsS77.far ?_ NB0_243.out _ | refine IsS77.far ?_ NB0_260.out _) | exact HI0.out)) spec_l3Draw.a4 spec_l3Draw.a16) hk (fun _ h => h.2)) (fun _ h => h.1)); have n2_ := Aside0.mk (KeepBut.blk hk (g' := gb243) (o := .cells #[.slice none 0 0, .slice none 0 0] 30 (0, 0)) spec_l3Draw.a1 NB243_0.out (by simp)); have n3_ := Aside0.mk (KeepBut.blk hk (g' := gb260) (o := .cells #[.slice Ao17 y257.length co17, u261001] 30 (0, 0)) spec_l3Draw.a5 NB260_0.out (by simp)); have n4_ := Aside0.mk (KeepBut.trans spec_l3Draw.a0 hk (.inl rfl)); have n5_ := Aside0.mk (hb); have n6_ := Aside0.mk (hi); clear HO_261000; clear HO_261001; clear BK243; clear BK260; clear HK; clear HB; clear HI0; have HO_261000 := n0_; have HO_261001 := n1_; have BK243 := n2_; have BK260 := n3_; have HK := n4_; have HB := n5_; have HI0 := n6_; clear n0_ n1_ n2_ n3_ n4_ n5_ n6_; (try clear hb); (try clear hb2); (try clear hk); (try clear hi)) | ((with_reducible refine gate_callee (f := 51) rfl ?_); refine goesL_ (some 30) rfl rfl Try.func51 spec_l3Draw.a19 rfl #[.pointer (some ⟨g, 0, none⟩), .int .i64 ji3] rfl spec_l3Draw.a7 ?_; (with_reducible refine (spec_l1Below.calls g s0_0 t265 t266 ji3 t267 t268 t269 w0 _ ?side1 ?side2 A25.out).mono ?_); (case side1 => repeat (first | (with_reducible first | exact HI0.out | apply IsS77.alloc | apply IsS77.drewN | apply IsS77.drew | apply IsS77.set_1 | apply IsS77.set_2 | refine IsS77.far ?_ NB0_243.out _ | refine IsS77.far ?_ NB0_260.out _) | exact HI0.out)); (case side2 => repeat (first | (with_reducible first | exact HB.out | apply below_alloc | apply pw_below_drewN | apply below_drew1 | refine below_set ?_ (IsS77.ge HI0.out) | refine below_set ?_ GE243.out | refine below_set ?_ GE260.out) | exact HB.out)); rintro e w66 ⟨rfl, hi, hb, hk⟩; refine ⟨_, rfl, ?_⟩; have n0_ := Aside0.mk (Kd.R_mono (Kd.R_keep (IsS77.apart (show IsS77 w0 _ g s0_0 t265 t266 from by repeat (first | (with_reducible first | exact HI0.out | apply IsS77.alloc | apply IsS77.drewN | apply IsS77.drew | apply IsS77.set_1 | apply IsS77.set_2 | refine IsS77.far ?_ NB0_243.out _ | refine IsS77.far ?_ NB0_260.out _) | exact HI0.out)) spec_l3Draw.a6 spec_l3Draw.a16) hk (fun _ h => h.2)) (fun _ h => h.1)); have n1_ := Aside0.mk (Kd.R_mono (Kd.R_keep (IsS77.apart (show IsS77 w0 _ g s0_0 t265 t266 from by repeat (first | (with_reducible first | exact HI0.out | apply IsS77.alloc | apply IsS77.drewN | apply IsS77.drew | apply IsS77.set_1 | apply IsS77.set_2 | refine IsS77.far ?_ NB0_243.out _ | refine IsS77.far ?_ NB0_260.out _) | exact HI0.out)) spec_l3Draw.a4 spec_l3Draw.a16) hk (fun _ h => h.2)) (fun _ h => h.1)); have n2_ := Aside0.mk (KeepBut.blk hk (g' := gb243) (o := .cells #[.slice none 0 0, .slice none 0 0] 30 (0, 0)) spec_l3Draw.a1 NB243_0.out (by simp)); have n3_ := Aside0.mk (KeepBut.blk hk (g' := gb260) (o := .cells #[.slice Ao17 y257.length co17, u261001] 30 (0, 0)) spec_l3Draw.a5 NB260_0.out (by simp)); have n4_ := Aside0.mk (KeepBut.trans spec_l3Draw.a0 hk (.inl rfl)); have n5_ := Aside0.mk (hb); have n6_ := Aside0.mk (hi); clear HO_261000; clear HO_261001; clear BK243; clear BK260; clear HK; clear HB; clear HI0; have HO_261000 := n0_; have HO_261001 := n1_; have BK243 := n2_; have BK260 := n3_; have HK := n4_; have HB := n5_; have HI0 := n6_; clear n0_ n1_ n2_ n3_ n4_ n5_ n6_; (try clear hb); (try clear hb2); (try clear hk); (try clear hi)) | (go_at_call 59; (with_reducible refine (spec_l1Once.calls g s0_0 t268 t269 20 false t280 t281 w0 _ ?side1 ?side2 A53.out).mono ?_); (case side1 => repeat (first | (with_reducible first | exact HI0.out | apply IsS77.alloc | apply IsS77.drewN | apply IsS77.drew | apply IsS77.set_1 | apply IsS77.set_2 | refine IsS77.far ?_ NB0_243.out _ | refine IsS77.far ?_ NB0_260.out _) | exact HI0.out)); (case side2 => repeat (first | (with_reducible first | exact HB.out | apply below_alloc | apply pw_below_drewN | apply below_drew1 | refine below_set ?_ (IsS77.ge HI0.out) | refine below_set ?_ GE243.out | refine below_set ?_ GE260.out) | exact HB.out)); rintro e w67 ⟨rfl, hi, hb, hk⟩; have n0_ := Aside0.mk (Kd.R_mono (Kd.R_keep (IsS77.apart (show IsS77 w0 _ g s0_0 t268 t269 from by repeat (first | (with_reducible first | exact HI0.out | apply IsS77.alloc | apply IsS77.drewN | apply IsS77.drew | apply IsS77.set_1 | apply IsS77.set_2 | refine IsS77.far ?_ NB0_243.out _ | refine IsS77.far ?_ NB0_260.out _) | exact HI0.out)) spec_l3Draw.a6 spec_l3Draw.a16) hk (fun _ h => h.2)) (fun _ h => h.1)); have n1_ := Aside0.mk (Kd.R_mono (Kd.R_keep (IsS77.apart (show IsS77 w0 _ g s0_0 t268 t269 from by repeat (first | (with_reducible first | exact HI0.out | apply IsS77.alloc | apply IsS77.drewN | apply IsS77.drew | apply IsS77.set_1 | apply IsS77.set_2 | refine IsS77.far ?_ NB0_243.out _ | refine IsS77.far ?_ NB0_260.out _) | exact HI0.out)) spec_l3Draw.a4 spec_l3Draw.a16) hk (fun _ h => h.2)) (fun _ h => h.1)); have n2_ := Aside0.mk (KeepBut.blk hk (g' := gb243) (o := .cells #[.slice none 0 0, .slice none 0 0] 30 (0, 0)) spec_l3Draw.a1 NB243_0.out (by simp)); have n3_ := Aside0.mk (KeepBut.blk hk (g' := gb260) (o := .cells #[.slice Ao17 y257.length co17, u261001] 30 (0, 0)) spec_l3Draw.a5 NB260_0.out (by simp)); have n4_ := Aside0.mk (KeepBut.trans spec_l3Draw.a0 hk (.inl rfl)); have n5_ := Aside0.mk (hb); have n6_ := Aside0.mk (hi); clear HO_261000; clear HO_261001; clear BK243; clear BK260; clear HK; clear HB; clear HI0; have HO_261000 := n0_; have HO_261001 := n1_; have BK243 := n2_; have BK260 := n3_; have HK := n4_; have HB := n5_; have HI0 := n6_; clear n0_ n1_ n2_ n3_ n4_ n5_ n6_; (try clear hb); (try clear hb2); (try clear hk); (try clear hi)))
          go_roundg k1
          case measure => have := HK1.out; omega
          case rel => exact ⟨(wrap64 (x6_1 + 1)), (t280), (t281), (x261001_1), (u261001), spec_l3Draw.a20, H', ⟨by have := HK1.out; omega⟩, ⟨spec_l3Draw.a6⟩, ⟨spec_l3Draw.a4⟩, ⟨spec_l3Draw.a1⟩, ⟨spec_l3Draw.a5⟩, ⟨spec_l3Draw.a2⟩, ⟨spec_l3Draw.a0⟩, ⟨spec_l3Draw.a3⟩⟩
        ·rw [if_neg c52] at H
         have c52b0 : (t264 == t267) = false := beq_eq_false_iff_ne.mpr c52
         have c52b1 : (t264 != t267) = true := bne_iff_ne.mpr c52
         by_cases c68 : x261001_1.length < 8796093022208
         ·rw [if_pos c68] at H
          have LMc68 := Aside0.mk c68
          clear c68
          obtain ⟨y285, hy285⟩ : ∃ y_ : List (S52), y_ = (x261001_1 ++ [(⟨t264, t267⟩ : S52)]) := ⟨_, rfl⟩
          replace H : (spec_l3Draw.l0 k1 ji3 t261 (wrap64 (x6_1 + 1)) s0_0 t268 t269 y257 y285) = some (r1, r2, r3, r4) := by first | (rw [hy285]; with_reducible exact H) | (have H2_ := (Option.bind_some _ _).symm.trans H; rw [hy285]; with_reducible exact H2_) | (have H2_ := (Option.bind_some _ _).symm.trans H; with_reducible exact H2_) | with_reducible exact H | (rw [hy285]; exact H) | exact H
          have Ny285 := Aside0.mk hy285
          clear hy285
          have H' := Aside0.mk H
          clear H
          go_wp2_with (first | ((with_reducible refine gate_callee (f := 51) rfl ?_); refine goesL_ (some 27) rfl rfl Try.func51 spec_l3Draw.a19 rfl #[.pointer (some ⟨g, 0, none⟩), .int .i64 ji3] rfl spec_l3Draw.a7 ?_; (with_reducible refine (spec_l1Below.calls g s0_0 x1001_1 x1002_1 ji3 t264 t265 t266 w0 _ ?side1 ?side2 A24.out).mono ?_); (case side1 => repeat (first | (with_reducible first | exact HI0.out | apply IsS77.alloc | apply IsS77.drewN | apply IsS77.drew | apply IsS77.set_1 | apply IsS77.set_2 | refine IsS77.far ?_ NB0_243.out _ | refine IsS77.far ?_ NB0_260.out _) | exact HI0.out)); (case side2 => repeat (first | (with_reducible first | exact HB.out | apply below_alloc | apply pw_below_drewN | apply below_drew1 | refine below_set ?_ (IsS77.ge HI0.out) | refine below_set ?_ GE243.out | refine below_set ?_ GE260.out) | exact HB.out)); rintro e w69 ⟨rfl, hi, hb, hk⟩; refine ⟨_, rfl, ?_⟩; have n0_ := Aside0.mk (Kd.R_mono (Kd.R_keep (IsS77.apart (show IsS77 w0 _ g s0_0 x1001_1 x1002_1 from by repeat (first | (with_reducible first | exact HI0.out | apply IsS77.alloc | apply IsS77.drewN | apply IsS77.drew | apply IsS77.set_1 | apply IsS77.set_2 | refine IsS77.far ?_ NB0_243.out _ | refine IsS77.far ?_ NB0_260.out _) | exact HI0.out)) spec_l3Draw.a6 spec_l3Draw.a16) hk (fun _ h => h.2)) (fun _ h => h.1)); have n1_ := Aside0.mk (Kd.R_mono (Kd.R_keep (IsS77.apart (show IsS77 w0 _ g s0_0 x1001_1 x1002_1 from by repeat (first | (with_reducible first | exact HI0.out | apply IsS77.alloc | apply IsS77.drewN | apply IsS77.drew | apply IsS77.set_1 | apply IsS77.set_2 | refine IsS77.far ?_ NB0_243.out _ | refine IsS77.far ?_ NB0_260.out _) | exact HI0.out)) spec_l3Draw.a4 spec_l3Draw.a16) hk (fun _ h => h.2)) (fun _ h => h.1)); have n2_ := Aside0.mk (KeepBut.blk hk (g' := gb243) (o := .cells #[.slice none 0 0, .slice none 0 0] 30 (0, 0)) spec_l3Draw.a1 NB243_0.out (by simp)); have n3_ := Aside0.mk (KeepBut.blk hk (g' := gb260) (o := .cells #[.slice Ao17 y257.length co17, u261001] 30 (0, 0)) spec_l3Draw.a5 NB260_0.out (by simp)); have n4_ := Aside0.mk (KeepBut.trans spec_l3Draw.a0 hk (.inl rfl)); have n5_ := Aside0.mk (hb); have n6_ := Aside0.mk (hi); clear HO_261000; clear HO_261001; clear BK243; clear BK260; clear HK; clear HB; clear HI0; have HO_261000 := n0_; have HO_261001 := n1_; have BK243 := n2_; have BK260 := n3_; have HK := n4_; have HB := n5_; have HI0 := n6_; clear n0_ n1_ n2_ n3_ n4_ n5_ n6_; (try clear hb); (try clear hb2); (try clear hk); (try clear hi)) | ((with_reducible refine gate_callee (f := 51) rfl ?_); refine goesL_ (some 30) rfl rfl Try.func51 spec_l3Draw.a19 rfl #[.pointer (some ⟨g, 0, none⟩), .int .i64 ji3] rfl spec_l3Draw.a7 ?_; (with_reducible refine (spec_l1Below.calls g s0_0 t265 t266 ji3 t267 t268 t269 w0 _ ?side1 ?side2 A25.out).mono ?_); (case side1 => repeat (first | (with_reducible first | exact HI0.out | apply IsS77.alloc | apply IsS77.drewN | apply IsS77.drew | apply IsS77.set_1 | apply IsS77.set_2 | refine IsS77.far ?_ NB0_243.out _ | refine IsS77.far ?_ NB0_260.out _) | exact HI0.out)); (case side2 => repeat (first | (with_reducible first | exact HB.out | apply below_alloc | apply pw_below_drewN | apply below_drew1 | refine below_set ?_ (IsS77.ge HI0.out) | refine below_set ?_ GE243.out | refine below_set ?_ GE260.out) | exact HB.out)); rintro e w70 ⟨rfl, hi, hb, hk⟩; refine ⟨_, rfl, ?_⟩; have n0_ := Aside0.mk (Kd.R_mono (Kd.R_keep (IsS77.apart (show IsS77 w0 _ g s0_0 t265 t266 from by repeat (first | (with_reducible first | exact HI0.out | apply IsS77.alloc | apply IsS77.drewN | apply IsS77.drew | apply IsS77.set_1 | apply IsS77.set_2 | refine IsS77.far ?_ NB0_243.out _ | refine IsS77.far ?_ NB0_260.out _) | exact HI0.out)) spec_l3Draw.a6 spec_l3Draw.a16) hk (fun _ h => h.2)) (fun _ h => h.1)); have n1_ := Aside0.mk (Kd.R_mono (Kd.R_keep (IsS77.apart (show IsS77 w0 _ g s0_0 t265 t266 from by repeat (first | (with_reducible first | exact HI0.out | apply IsS77.alloc | apply IsS77.drewN | apply IsS77.drew | apply IsS77.set_1 | apply IsS77.set_2 | refine IsS77.far ?_ NB0_243.out _ | refine IsS77.far ?_ NB0_260.out _) | exact HI0.out)) spec_l3Draw.a4 spec_l3Draw.a16) hk (fun _ h => h.2)) (fun _ h => h.1)); have n2_ := Aside0.mk (KeepBut.blk hk (g' := gb243) (o := .cells #[.slice none 0 0, .slice none 0 0] 30 (0, 0)) spec_l3Draw.a1 NB243_0.out (by simp)); have n3_ := Aside0.mk (KeepBut.blk hk (g' := gb260) (o := .cells #[.slice Ao17 y257.length co17, u261001] 30 (0, 0)) spec_l3Draw.a5 NB260_0.out (by simp)); have n4_ := Aside0.mk (KeepBut.trans spec_l3Draw.a0 hk (.inl rfl)); have n5_ := Aside0.mk (hb); have n6_ := Aside0.mk (hi); clear HO_261000; clear HO_261001; clear BK243; clear BK260; clear HK; clear HB; clear HI0; have HO_261000 := n0_; have HO_261001 := n1_; have BK243 := n2_; have BK260 := n3_; have HK := n4_; have HB := n5_; have HI0 := n6_; clear n0_ n1_ n2_ n3_ n4_ n5_ n6_; (try clear hb); (try clear hb2); (try clear hk); (try clear hi); have hnb71 := NB260_243.out; have hnc71 := NB243_260.out; have hnb72 := NB260_0.out; have hnc72 := NB0_260.out; have hcz73_0 : w70.cell? ⟨gb260, 0, none⟩ = some (.slice Ao17 y257.length co17) := (blk_cell BK260.out 0).trans rfl; have hcz73_1 : w70.cell? ⟨gb260, 1, none⟩ = some (u261001) := (blk_cell BK260.out 1).trans rfl; have hfz73_0 := blk_frozen BK260.out 0; have hfz73_1 := blk_frozen BK260.out 1) | ((with_reducible refine gate_builtin (b := .append) (xs := #[.tmp 44, .tmp 48]) rfl ?_); at_builtin; refine Kd.R_append k52 w.heap.size rfl (.tmp 44) (.tmp 48) 28 52 (.agg #[(.int .i64 0), (.int .i64 0)]) 16 rfl Try.underlying28 info52 rfl spec_l3Draw.a16 (by omega) u261001 x261001_1 (⟨t264, t267⟩ : S52) [.int .i64 t264, .int .i64 t267] (fun _ => True) (fun _ => False) rfl rfl ?aP (fun _ hk => hk.elim) ?aF ?aO (Below.refl _ _) ?aS ?aL ?_; (case aP => exact k52_mkM _ _ _ (⟨t264, t267⟩ : S52)); (case aF => exact (fun _ _ => trivial)); (case aO => exact spec_l3Draw.a4); (case aS => exact (keep_size (w := w) (g := g) (row := none) spec_l3Draw.a0)); (case aL => have := LMc68.out; omega); intro v286 w74 ho hb hg hat; rw [← Ny285.out] at ho; have n0_ := Aside0.mk (Kd.R_over' spec_l3Draw.a6 (Kd.R_typed spec_l3Draw.a4) spec_l3Draw.a16 hg); have n1_ := Aside0.mk (blk_grown (g := gb243) (o := .cells #[.slice none 0 0, .slice none 0 0] 30 (0, 0)) spec_l3Draw.a1 hg (Kd.R_ne HO_261001.out BK243.out spec_l3Draw.a16)); have n2_ := Aside0.mk (blk_grown (g := gb260) (o := .cells #[.slice Ao17 y257.length co17, u261001] 30 (0, 0)) spec_l3Draw.a5 hg (Kd.R_ne HO_261001.out BK260.out spec_l3Draw.a16)); have n3_ := Aside0.mk (IsS77.grown spec_l3Draw.a2 hg (IsS77.own_ne HI0.out HO_261001.out spec_l3Draw.a16)); have n4_ := Aside0.mk (below_weaken spec_l3Draw.a3 HL.out hb); have n5_ := Aside0.mk (KeepBut.trans spec_l3Draw.a0 (KeepBut.of_grown hg g) (Kd.R_base2 HO_261001.out)); have n6_ := Aside0.mk (ho); clear HO_261000; clear BK243; clear BK260; clear HI0; clear HB; clear HK; clear HO_261001; have HO_261000 := n0_; have BK243 := n1_; have BK260 := n2_; have HI0 := n3_; have HB := n4_; have HK := n5_; have HO287 := n6_; clear n0_ n1_ n2_ n3_ n4_ n5_ n6_; clear ho hb hg hat; obtain ⟨Ao75, co75, eo75⟩ := Kd.R_slice HO287.out; subst eo75; have hcz76_0 : w74.cell? ⟨gb260, 0, none⟩ = some (.slice Ao17 y257.length co17) := (blk_cell BK260.out 0).trans rfl; have hcz76_1 : w74.cell? ⟨gb260, 1, none⟩ = some (u261001) := (blk_cell BK260.out 1).trans rfl; have hfz76_0 := blk_frozen BK260.out 0; have hfz76_1 := blk_frozen BK260.out 1))
          go_roundg k1
          case measure => have := HK1.out; omega
          case rel => exact ⟨(wrap64 (x6_1 + 1)), (t268), (t269), (y285), (.slice Ao75 y285.length co75), spec_l3Draw.a20, H', ⟨by have := HK1.out; omega⟩, ⟨by (with_reducible repeat (first | apply Kd.R_alloc | apply Kd.R_drewN | apply Kd.R_drew)); exact Kd.R_mono (Kd.R_far (p := ⟨gb260, 1, none⟩) (Kd.R_types HO_261000.out BK260.out spec_l3Draw.a16) (fun _ hk => hk.2) (.slice Ao75 y285.length co75)) (fun _ hk => trivial)⟩, ⟨by (with_reducible repeat (first | apply Kd.R_alloc | apply Kd.R_drewN | apply Kd.R_drew)); exact Kd.R_mono (Kd.R_far (p := ⟨gb260, 1, none⟩) (Kd.R_types HO287.out BK260.out spec_l3Draw.a16) (fun _ hk => hk.2) (.slice Ao75 y285.length co75)) (fun _ hk => trivial)⟩, ⟨spec_l3Draw.a11⟩, ⟨spec_l3Draw.a10⟩, ⟨spec_l3Draw.a2⟩, ⟨spec_l3Draw.a0⟩, ⟨spec_l3Draw.a3⟩⟩
         ·rw [if_neg c68] at H
          exact absurd H (by simp)
      ·rw [if_neg c23] at H
       have c23b0 : decide (x6_1 < t261) = false := decide_eq_false c23
       clear c23
       replace H := Option.bind_eq_some_iff.mp H
       obtain ⟨⟨t288, t289, t290⟩, A770, H⟩ := H
       replace H : (if t288 = 0 then ((spec_l1Pick.f s0_0 t289 t290 (([(⟨#[]⟩ : ByteArray), (⟨#[66]⟩ : ByteArray), (⟨#[97, 32, 98]⟩ : ByteArray), (⟨#[120, 49]⟩ : ByteArray)] : List ByteArray))).bind fun bt294 => (if 0 < (y257.length : Int) then (some ((y257.set (0 : Int).toNat bt294.1), x261001_1, bt294.2.1, bt294.2.2)) else (none))) else (if t288 = 1 then (if x261001_1.length < 8796093022208 then (some (y257, (x261001_1 ++ [(⟨wrap64 (ji3 - 1), 0⟩ : S52)]), t289, t290)) else (none)) else (if t288 = 2 then ((spec_l1Below.f s0_0 t289 t290 8).bind fun bt301 => ((spec_l1Below.f s0_0 bt301.2.1 bt301.2.2 8).bind fun bt304 => (if x261001_1.length < 8796093022208 then (some (y257, (x261001_1 ++ [(⟨wrap64 (bt301.1 - 1), bt304.1⟩ : S52)]), bt304.2.1, bt304.2.2)) else (none)))) else (some (y257, x261001_1, t289, t290))))) = some (r1, r2, r3, r4) := H
       have A77 := Aside0.mk A770
       clear A770
       by_cases c78 : t288 = 0
       ·rw [if_pos c78] at H
        have c78b0 : (t288 == 0) = true := beq_iff_eq.mpr c78
        have c78b1 : (t288 != 0) = false := bne_eq_false_iff_eq.mpr c78
        clear c78
        obtain ⟨y291, hy291⟩ : ∃ y_ : List ByteArray, y_ = (([(⟨#[]⟩ : ByteArray), (⟨#[66]⟩ : ByteArray), (⟨#[97, 32, 98]⟩ : ByteArray), (⟨#[120, 49]⟩ : ByteArray)] : List ByteArray)) := ⟨_, rfl⟩
        replace H : ((spec_l1Pick.f s0_0 t289 t290 y291).bind fun bt294 => (if 0 < (y257.length : Int) then (some ((y257.set (0 : Int).toNat bt294.1), x261001_1, bt294.2.1, bt294.2.2)) else (none))) = some (r1, r2, r3, r4) := by first | (rw [hy291]; with_reducible exact H) | (have H2_ := (Option.bind_some _ _).symm.trans H; rw [hy291]; with_reducible exact H2_) | (have H2_ := (Option.bind_some _ _).symm.trans H; with_reducible exact H2_) | with_reducible exact H | (rw [hy291]; exact H) | exact H
        have Ny291 := Aside0.mk hy291
        clear hy291
        replace H := Option.bind_eq_some_iff.mp H
        obtain ⟨⟨t294, t295, t296⟩, A790, H⟩ := H
        replace H : (if 0 < (y257.length : Int) then (some ((y257.set (0 : Int).toNat t294), x261001_1, t295, t296)) else (none)) = some (r1, r2, r3, r4) := H
        have A79 := Aside0.mk A790
        clear A790
        by_cases c80 : 0 < (y257.length : Int)
        ·rw [if_pos c80] at H
         have c80b0 : decide (0 < (y257.length : Int)) = true := decide_eq_true c80
         have c80b1 : decide (0 < y257.length) = true := decide_eq_true (by omega)
         clear c80
         obtain ⟨y297, hy297⟩ : ∃ y_ : List ByteArray, y_ = (y257.set (0 : Int).toNat t294) := ⟨_, rfl⟩
         replace H : (some (y297, x261001_1, t295, t296)) = some (r1, r2, r3, r4) := by first | (rw [hy297]; with_reducible exact H) | (have H2_ := (Option.bind_some _ _).symm.trans H; rw [hy297]; with_reducible exact H2_) | (have H2_ := (Option.bind_some _ _).symm.trans H; with_reducible exact H2_) | with_reducible exact H | (rw [hy297]; exact H) | exact H
         have Ny297 := Aside0.mk hy297
         clear hy297
         simp only [Option.some.injEq, Prod.mk.injEq] at H
         obtain ⟨rfl, rfl, rfl, rfl⟩ := H
         try go_wp2_with (first | ((with_reducible refine gate_callee (f := 51) rfl ?_); refine goesL_ (some 52) rfl rfl Try.func51 spec_l3Draw.a19 rfl #[.pointer (some ⟨g, 0, none⟩), .int .i64 30] rfl spec_l3Draw.a9 ?_; (with_reducible refine (spec_l1Below.calls g s0_0 x1001_1 x1002_1 30 t288 t289 t290 w0 _ ?side1 ?side2 A77.out).mono ?_); (case side1 => repeat (first | (with_reducible first | exact HI0.out | apply IsS77.alloc | apply IsS77.drewN | apply IsS77.drew | apply IsS77.set_1 | apply IsS77.set_2 | refine IsS77.far ?_ NB0_243.out _ | refine IsS77.far ?_ NB0_260.out _) | exact HI0.out)); (case side2 => repeat (first | (with_reducible first | exact HB.out | apply below_alloc | apply pw_below_drewN | apply below_drew1 | refine below_set ?_ (IsS77.ge HI0.out) | refine below_set ?_ GE243.out | refine below_set ?_ GE260.out) | exact HB.out)); rintro e w82 ⟨rfl, hi, hb, hk⟩; refine ⟨_, rfl, ?_⟩; have n0_ := Aside0.mk (Kd.R_mono (Kd.R_keep (IsS77.apart (show IsS77 w0 _ g s0_0 x1001_1 x1002_1 from by repeat (first | (with_reducible first | exact HI0.out | apply IsS77.alloc | apply IsS77.drewN | apply IsS77.drew | apply IsS77.set_1 | apply IsS77.set_2 | refine IsS77.far ?_ NB0_243.out _ | refine IsS77.far ?_ NB0_260.out _) | exact HI0.out)) spec_l3Draw.a6 spec_l3Draw.a16) hk (fun _ h => h.2)) (fun _ h => h.1)); have n1_ := Aside0.mk (Kd.R_mono (Kd.R_keep (IsS77.apart (show IsS77 w0 _ g s0_0 x1001_1 x1002_1 from by repeat (first | (with_reducible first | exact HI0.out | apply IsS77.alloc | apply IsS77.drewN | apply IsS77.drew | apply IsS77.set_1 | apply IsS77.set_2 | refine IsS77.far ?_ NB0_243.out _ | refine IsS77.far ?_ NB0_260.out _) | exact HI0.out)) spec_l3Draw.a4 spec_l3Draw.a16) hk (fun _ h => h.2)) (fun _ h => h.1)); have n2_ := Aside0.mk (KeepBut.blk hk (g' := gb243) (o := .cells #[.slice none 0 0, .slice none 0 0] 30 (0, 0)) spec_l3Draw.a1 NB243_0.out (by simp)); have n3_ := Aside0.mk (KeepBut.blk hk (g' := gb260) (o := .cells #[.slice Ao17 y257.length co17, u261001] 30 (0, 0)) spec_l3Draw.a5 NB260_0.out (by simp)); have n4_ := Aside0.mk (KeepBut.trans spec_l3Draw.a0 hk (.inl rfl)); have n5_ := Aside0.mk (hb); have n6_ := Aside0.mk (hi); clear HO_261000; clear HO_261001; clear BK243; clear BK260; clear HK; clear HB; clear HI0; have HO_261000 := n0_; have HO_261001 := n1_; have BK243 := n2_; have BK260 := n3_; have HK := n4_; have HB := n5_; have HI0 := n6_; clear n0_ n1_ n2_ n3_ n4_ n5_ n6_; (try clear hb); (try clear hb2); (try clear hk); (try clear hi)))
         have n0_ := Aside0.mk (Kd.R_drew HO_261000.out)
         have n1_ := Aside0.mk (Kd.R_drew HO_261001.out)
         have n2_ := Aside0.mk (blk_drew BK243.out)
         have n3_ := Aside0.mk (blk_drew BK260.out)
         have n4_ := Aside0.mk (IsS77.drew HI0.out)
         have n5_ := Aside0.mk (keep_drew HK.out)
         have n6_ := Aside0.mk (below_drew1 HB.out)
         clear HO_261000
         clear HO_261001
         clear BK243
         clear BK260
         clear HI0
         clear HK
         clear HB
         have HO_261000 := n0_
         have HO_261001 := n1_
         have BK243 := n2_
         have BK260 := n3_
         have HI0 := n4_
         have HK := n5_
         have HB := n6_
         clear n0_ n1_ n2_ n3_ n4_ n5_ n6_
         refine start_ (n := 7) (S := fun w' => w'.cell? ⟨gb260, 0, none⟩ = some (.slice Ao17 y257.length co17) ∧ w'.cell? ⟨gb260, 1, none⟩ = some (u261001)) (ds := [6]) #[false, false, false, false, false, false, false] spec_l3Draw.a19 rfl rfl ⟨(blk_cell BK260.out 0).trans rfl, (blk_cell BK260.out 1).trans rfl⟩ (fun hHeld => ?_)
         generalize w82.drew = w83 at HO_261000 HO_261001 BK243 BK260 HI0 HK HB hHeld ⊢
         refine pureK 0 55 rfl rfl ?_
         refine pureK 2 57 rfl rfl ?_
         refine takeK 1 56 rfl rfl hHeld ?_ (by rintro w' ⟨s0, s1⟩; go_simp; with_reducible rfl)
         refine one_ (i := 3) (N := some 58) #[true, true, true, true, false, false, false] rfl rfl spec_l3Draw.a19 spec_l3Draw.a16 (fun K hK => ?_)
         refine Kd.R_lit_step Kd.string _ 9 ?hg (N := 58) ?hd (xs := ([(⟨#[]⟩ : ByteArray), (⟨#[66]⟩ : ByteArray), (⟨#[97, 32, 98]⟩ : ByteArray), (⟨#[120, 49]⟩ : ByteArray)] : List ByteArray)) (inner := [.string (⟨#[]⟩ : ByteArray), .string (⟨#[66]⟩ : ByteArray), .string (⟨#[97, 32, 98]⟩ : ByteArray), .string (⟨#[120, 49]⟩ : ByteArray)]) (ok := fun _ => True) (okp := fun _ => True) ?hr ?hp (fun _ hk => hk) trivial (Below.refl _ _) (Nat.le_refl _) (by simp) ?_; (case hd => rfl); (case hg => rfl); (case hr => first | (go_simp; done) | (go_simp; rfl)); (case hp => exact (Reps.one (show Kd.M Kd.string _ _ _ (⟨#[]⟩ : ByteArray) [.string (⟨#[]⟩ : ByteArray)] from rfl) (Reps.one (show Kd.M Kd.string _ _ _ (⟨#[66]⟩ : ByteArray) [.string (⟨#[66]⟩ : ByteArray)] from rfl) (Reps.one (show Kd.M Kd.string _ _ _ (⟨#[97, 32, 98]⟩ : ByteArray) [.string (⟨#[97, 32, 98]⟩ : ByteArray)] from rfl) (Reps.one (show Kd.M Kd.string _ _ _ (⟨#[120, 49]⟩ : ByteArray) [.string (⟨#[120, 49]⟩ : ByteArray)] from rfl) (Reps.none _ _))))))
         intro v292 w84 ho85 hb hg_ hnew_
         clear hg_ hnew_
         (first | rw [← Ny291.out] at ho85 | (simp only [Int.reduceToNat] at ho85; rw [← Ny291.out] at ho85))
         have n0_ := Aside0.mk (Kd.R_elder' spec_l3Draw.a6 (Kd.R_base ho85) hb)
         have n1_ := Aside0.mk (Kd.R_below spec_l3Draw.a4 hb)
         have n2_ := Aside0.mk (Kd.R_lower (Kd.R_new' ho85 (Kd.R_lt spec_l3Draw.a6)) (keep_size (w := w) (g := g) (row := none) spec_l3Draw.a0))
         have n3_ := Aside0.mk (blk_below (g := gb243) (o := .cells #[.slice none 0 0, .slice none 0 0] 30 (0, 0)) spec_l3Draw.a1 hb)
         have n4_ := Aside0.mk (blk_below (g := gb260) (o := .cells #[.slice Ao17 y257.length co17, u261001] 30 (0, 0)) spec_l3Draw.a5 hb)
         have n5_ := Aside0.mk (IsS77.below spec_l3Draw.a2 hb)
         have n6_ := Aside0.mk (KeepBut.trans spec_l3Draw.a0 (KeepBut.of_below hb g none) (.inl rfl))
         have n7_ := Aside0.mk (below_step spec_l3Draw.a3 hb)
         clear HO_261000
         clear HO_261001
         clear BK243
         clear BK260
         clear HI0
         clear HK
         clear HB
         have HO_261000 := n0_
         have HO_261001 := n1_
         have HO293 := n2_
         have BK243 := n3_
         have BK260 := n4_
         have HI0 := n5_
         have HK := n6_
         have HB := n7_
         clear n0_ n1_ n2_ n3_ n4_ n5_ n6_ n7_
         clear hb ho85
         obtain ⟨Ao86, co86, eo86⟩ := Kd.R_slice HO293.out
         (first | subst eo86 | (injection eo86 with f1_ f2_ f3_; have f4_ := f1_.symm; have f5_ := f3_.symm; clear f1_ f2_ f3_; subst f4_; subst f5_))
         refine hK.out _ _ ⟨(blk_cell BK260.out 0).trans rfl, (blk_cell BK260.out 1).trans rfl⟩ (fun hHeld => ?_)
         clear hK K
         refine norm_ (a' := ?_) ?_ ?_
         rotate_left
         ·show Act.put _ (some 58) _ = _
          simp only [Act.put, List.setIfInBounds_toArray, List.set_cons_zero, List.set_cons_succ, i64_w, i32_w]
          rfl
         refine one_ (i := 4) (N := some 59) #[true, true, true, true, true, false, false] rfl rfl spec_l3Draw.a19 spec_l3Draw.a16 (fun K hK => ?_)
         refine goes_ Try.func65 spec_l3Draw.a19 rfl #[.pointer (some ⟨g, 0, none⟩), .slice Ao86 y291.length co86] (by rfl) rfl rfl spec_l3Draw.a9 ?_
         with_reducible refine (spec_l1Pick.calls g s0_0 t289 t290 _ _ y291 t294 t295 t296 w0 _ ?side1 ?side2 ?side3 ?side4 ?side5 A79.out).mono ?_
         (case side1 => repeat (first | (with_reducible first | exact HI0.out | apply IsS77.alloc | apply IsS77.drewN | apply IsS77.drew | apply IsS77.set_1 | apply IsS77.set_2 | refine IsS77.far ?_ NB0_243.out _ | refine IsS77.far ?_ NB0_260.out _) | exact HI0.out))
         (case side2 => repeat (first | (with_reducible first | exact HB.out | apply below_alloc | apply pw_below_drewN | apply below_drew1 | refine below_set ?_ (IsS77.ge HI0.out) | refine below_set ?_ GE243.out | refine below_set ?_ GE260.out) | exact HB.out))
         (case side3 => repeat (first | exact (Kd.R_reads' HO293.out).2.2 | (with_reducible refine Kd.C_alloc ?_ _) | (with_reducible refine Kd.C_drewN ?_ _) | (with_reducible refine Kd.C_drew ?_)))
         (case side4 => exact (Kd.R_reads' HO293.out).2.1)
         (case side5 => exact far_slice (IsS77.own_ne HI0.out HO293.out spec_l3Draw.a16))
         rintro e w87 ⟨rfl, hi, hb, hk⟩
         refine ⟨_, rfl, ?_⟩
         have n0_ := Aside0.mk (Kd.R_mono (Kd.R_keep (IsS77.apart (show IsS77 w0 _ g s0_0 t289 t290 from by repeat (first | (with_reducible first | exact HI0.out | apply IsS77.alloc | apply IsS77.drewN | apply IsS77.drew | apply IsS77.set_1 | apply IsS77.set_2 | refine IsS77.far ?_ NB0_243.out _ | refine IsS77.far ?_ NB0_260.out _) | exact HI0.out)) spec_l3Draw.a6 spec_l3Draw.a16) hk (fun _ h => h.2)) (fun _ h => h.1))
         have n1_ := Aside0.mk (Kd.R_mono (Kd.R_keep (IsS77.apart (show IsS77 w0 _ g s0_0 t289 t290 from by repeat (first | (with_reducible first | exact HI0.out | apply IsS77.alloc | apply IsS77.drewN | apply IsS77.drew | apply IsS77.set_1 | apply IsS77.set_2 | refine IsS77.far ?_ NB0_243.out _ | refine IsS77.far ?_ NB0_260.out _) | exact HI0.out)) spec_l3Draw.a4 spec_l3Draw.a16) hk (fun _ h => h.2)) (fun _ h => h.1))
         have n2_ := Aside0.mk (KeepBut.blk hk (g' := gb243) (o := .cells #[.slice none 0 0, .slice none 0 0] 30 (0, 0)) spec_l3Draw.a1 NB243_0.out (by simp))
         have n3_ := Aside0.mk (KeepBut.blk hk (g' := gb260) (o := .cells #[.slice Ao17 y257.length co17, u261001] 30 (0, 0)) spec_l3Draw.a5 NB260_0.out (by simp))
         have n4_ := Aside0.mk (Kd.R_mono (Kd.R_keep (IsS77.apart (show IsS77 w0 _ g s0_0 t289 t290 from by repeat (first | (with_reducible first | exact HI0.out | apply IsS77.alloc | apply IsS77.drewN | apply IsS77.drew | apply IsS77.set_1 | apply IsS77.set_2 | refine IsS77.far ?_ NB0_243.out _ | refine IsS77.far ?_ NB0_260.out _) | exact HI0.out)) (by (with_reducible repeat (first | apply Kd.R_alloc | apply Kd.R_drewN | apply Kd.R_drew)); exact HO293.out) spec_l3Draw.a16) hk (fun _ h => h.2)) (fun _ h => h.1))
         have n5_ := Aside0.mk (KeepBut.trans spec_l3Draw.a0 hk (.inl rfl))
         have n6_ := Aside0.mk (hb)
         have n7_ := Aside0.mk (hi)
         clear HO_261000
         clear HO_261001
         clear BK243
         clear BK260
         clear HO293
         clear HK
         clear HB
         clear HI0
         have HO_261000 := n0_
         have HO_261001 := n1_
         have BK243 := n2_
         have BK260 := n3_
         have HO293 := n4_
         have HK := n5_
         have HB := n6_
         have HI0 := n7_
         clear n0_ n1_ n2_ n3_ n4_ n5_ n6_ n7_
         (try clear hb)
         (try clear hb2)
         (try clear hk)
         (try clear hi)
         have p81 : 0 ≤ (0 : Int) := (by omega)
         have q81 : (0 : Int) < ((y257.length : Int) : Int) := of_decide_eq_true (by first | (with_reducible assumption) | assumption)
         have qi81 : (0 < y257.length) = True := eq_true (by omega)
         obtain ⟨go81, co81, eo81, gb81, gl81, cl81, HG81⟩ := Kd.R_form HO_261000.out (by omega)
         (first | cases eo81 | (injection eo81 with ea_ en_ ec_; (first | subst ea_ | (injection ea_ with ea_; subst ea_)); subst ec_; clear en_))
         have GB81 := Aside0.mk gb81
         have GG81 := Aside0.mk HG81
         clear gb81 gl81 HG81
         obtain ⟨hx81_0, hf81_0⟩ := Kd.R_celln (⟨#[]⟩ : ByteArray) HO_261000.out (0 : Int) p81 q81
         (try rw [show ((0 : Int)).toNat = 0 from rfl] at hx81_0)
         (try simp only [Nat.reduceMul, Nat.zero_mul, Nat.zero_add, Nat.reduceAdd] at hx81_0)
         (try rw [show ((0 : Int)).toNat = 0 from rfl] at hf81_0)
         (try simp only [Nat.reduceMul, Nat.zero_mul, Nat.zero_add, Nat.reduceAdd] at hf81_0)
         replace p81 := eq_true p81
         replace q81 := eq_true q81
         have HN0_go81 := Aside0.mk (show g ≠ go81 from by have h_ := IsS77.own_ne HI0.out HO_261000.out spec_l3Draw.a16; intro e_; exact h_ (by rw [e_]; rfl))
         have HP88 := Kd.R_putn HO_261000.out (0 : Int) t294
         rw [← Ny297.out] at HP88
         have HQ88 := Aside0.mk HP88
         clear HP88
         refine hK.out _ _ ⟨(blk_cell BK260.out 0).trans rfl, (blk_cell BK260.out 1).trans rfl⟩ (fun hHeld => ?_)
         clear hK K
         refine norm_ (a' := ?_) ?_ ?_
         rotate_left
         ·show Act.put _ (some 59) _ = _
          simp only [Act.put, List.setIfInBounds_toArray, List.set_cons_zero, List.set_cons_succ, i64_w, i32_w]
          rfl
         refine pureK 5 60 rfl rfl ?_
         refine last_ (i := 6) (N := none) #[true, true, true, true, true, true, true] rfl rfl spec_l3Draw.a19 spec_l3Draw.a16 (fun K hK => ?_)
         refine skip_ (w1 := ?_) (by rfl) rfl ?_ ?_
         rotate_left
         ·go_simp
          rfl
         refine hK.out _ _ ?_
         clear hK K
         refine done_ spec_l3Draw.a19 ?_
         have n0_ : Aside0 (Kd.R Kd.string 9 (w87.setCell ⟨go81, 0, none⟩ (.string t294)) w.heap.size (fun k_ => some k_ ≠ (.slice Ao86 y291.length co86 : Value).ownBlock) (.slice (some ⟨go81, 0, none⟩) y257.length co17) y297) := ⟨by (with_reducible repeat (first | apply Kd.R_alloc | apply Kd.R_drewN | apply Kd.R_drew)); exact Kd.R_mono HQ88.out (fun _ hk => hk.2)⟩
         have n1_ : Aside0 (Kd.R k52 52 (w87.setCell ⟨go81, 0, none⟩ (.string t294)) w.heap.size (fun _ => True) u261001 x261001_1) := ⟨by (with_reducible repeat (first | apply Kd.R_alloc | apply Kd.R_drewN | apply Kd.R_drew)); exact Kd.R_mono (Kd.R_far (p := ⟨go81, 0, none⟩) (Kd.R_types HO_261001.out GG81.out spec_l3Draw.a16) (fun _ hk => hk.2) (.string t294)) (fun _ hk => trivial)⟩
         have n2_ : Aside0 (Kd.R Kd.string 9 (w87.setCell ⟨go81, 0, none⟩ (.string t294)) w.heap.size (fun k_ => some k_ ≠ (.slice (some ⟨go81, 0, none⟩) y257.length co17 : Value).ownBlock) (.slice Ao86 y291.length co86) y291) := ⟨by (with_reducible repeat (first | apply Kd.R_alloc | apply Kd.R_drewN | apply Kd.R_drew)); exact Kd.R_mono (Kd.R_far (p := ⟨go81, 0, none⟩) (Kd.R_mono HO293.out (fun k_ hk => (⟨hk, fun e_ => hk.2 (by rw [e_]; rfl)⟩ : _ ∧ k_ ≠ go81))) (fun _ hk => hk.2) (.string t294)) (fun _ hk => hk.1.2)⟩
         have n3_ : Aside0 ((w87.setCell ⟨go81, 0, none⟩ (.string t294)).heap[gb243]? = some (.cells #[.slice none 0 0, .slice none 0 0] 30 (0, 0))) := ⟨by (with_reducible repeat (first | refine blk_drewN ?_ _ | refine blk_drew ?_ | refine blk_alloc ?_ _)); refine blk_far ?_ (by have h_ := Kd.R_ne HO_261000.out BK243.out spec_l3Draw.a16; intro e_; exact h_ (by rw [e_]; rfl)) _; (with_reducible repeat (first | refine blk_drewN ?_ _ | refine blk_drew ?_ | refine blk_alloc ?_ _)); exact BK243.out⟩
         have n4_ : Aside0 ((w87.setCell ⟨go81, 0, none⟩ (.string t294)).heap[gb260]? = some (.cells #[.slice (some ⟨go81, 0, none⟩) y257.length co17, u261001] 30 (0, 0))) := ⟨by (with_reducible repeat (first | refine blk_drewN ?_ _ | refine blk_drew ?_ | refine blk_alloc ?_ _)); refine blk_far ?_ (by have h_ := Kd.R_ne HO_261000.out BK260.out spec_l3Draw.a16; intro e_; exact h_ (by rw [e_]; rfl)) _; (with_reducible repeat (first | refine blk_drewN ?_ _ | refine blk_drew ?_ | refine blk_alloc ?_ _)); exact BK260.out⟩
         have n5_ : Aside0 (IsS77 w0 (w87.setCell ⟨go81, 0, none⟩ (.string t294)) g s0_0 t295 t296) := ⟨by repeat (first | (with_reducible first | exact HI0.out | apply IsS77.alloc | apply IsS77.drewN | apply IsS77.drew | apply IsS77.set_1 | apply IsS77.set_2 | refine IsS77.far ?_ HN0_go81.out _ | refine IsS77.far ?_ NB0_243.out _ | refine IsS77.far ?_ NB0_260.out _) | exact HI0.out)⟩
         have n6_ : Aside0 (KeepBut w (w87.setCell ⟨go81, 0, none⟩ (.string t294)) g none) := ⟨by repeat (first | (with_reducible first | exact HK.out | apply KeepBut.set_ | apply keep_drewN | apply keep_drew | apply keep_alloc | refine keep_far ?_ GB81.out _ | refine keep_far ?_ GW243.out _ | refine keep_far ?_ GW260.out _) | exact HK.out)⟩
         have n7_ : Aside0 (Below w0.heap.size w0 (w87.setCell ⟨go81, 0, none⟩ (.string t294))) := ⟨by repeat (first | (with_reducible first | exact HB.out | apply below_alloc | apply pw_below_drewN | apply below_drew1 | refine below_set ?_ (Nat.le_trans HL.out GB81.out) | refine below_set ?_ (IsS77.ge HI0.out) | refine below_set ?_ GE243.out | refine below_set ?_ GE260.out) | exact HB.out)⟩
         (try clear HO_261000)
         (try clear HO_261001)
         (try clear HO293)
         (try clear BK243)
         (try clear BK260)
         (try clear HI0)
         (try clear HK)
         (try clear HB)
         generalize (w87.setCell ⟨go81, 0, none⟩ (.string t294)) = w89 at n0_ n1_ n2_ n3_ n4_ n5_ n6_ n7_ ⊢
         have HO_261000 := n0_
         have HO_261001 := n1_
         have HO293 := n2_
         have BK243 := n3_
         have BK260 := n4_
         have HI0 := n5_
         have HK := n6_
         have HB := n7_
         clear n0_ n1_ n2_ n3_ n4_ n5_ n6_ n7_
         have hnb90 := NB260_243.out
         have hnc90 := NB243_260.out
         have hnb91 := NB260_0.out
         have hnc91 := NB0_260.out
         have hcz92_0 : w89.cell? ⟨gb260, 0, none⟩ = some (.slice (some ⟨go81, 0, none⟩) y257.length co17) := (blk_cell BK260.out 0).trans rfl
         have hcz92_1 : w89.cell? ⟨gb260, 1, none⟩ = some (u261001) := (blk_cell BK260.out 1).trans rfl
         have hfz92_0 := blk_frozen BK260.out 0
         have hfz92_1 := blk_frozen BK260.out 1
         have hnb93 := NB243_0.out
         have hnc93 := NB0_243.out
         have hcz94_0 : w89.cell? ⟨gb243, 0, none⟩ = some (.slice none 0 0) := (blk_cell BK243.out 0).trans rfl
         have hcz94_1 : w89.cell? ⟨gb243, 1, none⟩ = some (.slice none 0 0) := (blk_cell BK243.out 1).trans rfl
         have hfz94_0 := blk_frozen BK243.out 0
         have hfz94_1 := blk_frozen BK243.out 1
         obtain ⟨Ao95, co95, eo95⟩ := Kd.R_slice HO_261001.out
         subst eo95
         try go_wp2
         refine bodyPost_ret (results_cell_row rfl _ _ gb243 30 #[.slice (some ⟨go81, 0, none⟩) y257.length co17, .slice Ao95 x261001_1.length co95] (0, 0) _ rfl (by (with_reducible repeat (first | refine blk_drewN ?_ _ | refine blk_drew ?_ | refine blk_alloc ?_ _)); refine blk_put (cs := #[.slice (some ⟨go81, 0, none⟩) y257.length co17, .slice none 0 0]) ?_ 1 _ rfl; (with_reducible repeat (first | refine blk_drewN ?_ _ | refine blk_drew ?_ | refine blk_alloc ?_ _)); refine blk_put (cs := #[.slice none 0 0, .slice none 0 0]) ?_ 0 _ rfl; (with_reducible repeat (first | refine blk_drewN ?_ _ | refine blk_drew ?_ | refine blk_alloc ?_ _)); exact BK243.out) Try.underlying30 rfl spec_l3Draw.a19) rfl ?_
         exact ⟨_, _, spec_l3Draw.a15, by (with_reducible repeat (first | apply Kd.R_alloc | apply Kd.R_drewN | apply Kd.R_drew)); exact Kd.R_mono (Kd.R_far (p := ⟨gb243, 1, none⟩) (Kd.R_far (p := ⟨gb243, 0, none⟩) (Kd.R_types HO_261000.out BK243.out spec_l3Draw.a16) (fun _ hk => hk.2) (.slice (some ⟨go81, 0, none⟩) y257.length co17)) (fun _ hk => hk.2) (.slice Ao95 x261001_1.length co95)) (fun _ hk => trivial), by (with_reducible repeat (first | apply Kd.R_alloc | apply Kd.R_drewN | apply Kd.R_drew)); exact Kd.R_mono (Kd.R_far (p := ⟨gb243, 1, none⟩) (Kd.R_far (p := ⟨gb243, 0, none⟩) (Kd.R_types HO_261001.out BK243.out spec_l3Draw.a16) (fun _ hk => hk.2) (.slice (some ⟨go81, 0, none⟩) y257.length co17)) (fun _ hk => hk.2) (.slice Ao95 x261001_1.length co95)) (fun _ hk => trivial), spec_l3Draw.a2, spec_l3Draw.a3, spec_l3Draw.a0⟩
        ·rw [if_neg c80] at H
         exact absurd H (by simp)
       ·rw [if_neg c78] at H
        have c78b0 : (t288 == 0) = false := beq_eq_false_iff_ne.mpr c78
        have c78b1 : (t288 != 0) = true := bne_iff_ne.mpr c78
        by_cases c96 : t288 = 1
        ·rw [if_pos c96] at H
         have c96b0 : (t288 == 1) = true := beq_iff_eq.mpr c96
         have c96b1 : (t288 != 1) = false := bne_eq_false_iff_eq.mpr c96
         clear c96
         by_cases c97 : x261001_1.length < 8796093022208
         ·rw [if_pos c97] at H
          have LMc97 := Aside0.mk c97
          clear c97
          obtain ⟨y298, hy298⟩ : ∃ y_ : List (S52), y_ = (x261001_1 ++ [(⟨wrap64 (ji3 - 1), 0⟩ : S52)]) := ⟨_, rfl⟩
          replace H : (some (y257, y298, t289, t290)) = some (r1, r2, r3, r4) := by first | (rw [hy298]; with_reducible exact H) | (have H2_ := (Option.bind_some _ _).symm.trans H; rw [hy298]; with_reducible exact H2_) | (have H2_ := (Option.bind_some _ _).symm.trans H; with_reducible exact H2_) | with_reducible exact H | (rw [hy298]; exact H) | exact H
          have Ny298 := Aside0.mk hy298
          clear hy298
          simp only [Option.some.injEq, Prod.mk.injEq] at H
          obtain ⟨rfl, rfl, rfl, rfl⟩ := H
          go_wp2_with (first | ((with_reducible refine gate_callee (f := 51) rfl ?_); refine goesL_ (some 52) rfl rfl Try.func51 spec_l3Draw.a19 rfl #[.pointer (some ⟨g, 0, none⟩), .int .i64 30] rfl spec_l3Draw.a9 ?_; (with_reducible refine (spec_l1Below.calls g s0_0 x1001_1 x1002_1 30 t288 t289 t290 w0 _ ?side1 ?side2 A77.out).mono ?_); (case side1 => repeat (first | (with_reducible first | exact HI0.out | apply IsS77.alloc | apply IsS77.drewN | apply IsS77.drew | apply IsS77.set_1 | apply IsS77.set_2 | refine IsS77.far ?_ NB0_243.out _ | refine IsS77.far ?_ NB0_260.out _) | exact HI0.out)); (case side2 => repeat (first | (with_reducible first | exact HB.out | apply below_alloc | apply pw_below_drewN | apply below_drew1 | refine below_set ?_ (IsS77.ge HI0.out) | refine below_set ?_ GE243.out | refine below_set ?_ GE260.out) | exact HB.out)); rintro e w98 ⟨rfl, hi, hb, hk⟩; refine ⟨_, rfl, ?_⟩; have n0_ := Aside0.mk (Kd.R_mono (Kd.R_keep (IsS77.apart (show IsS77 w0 _ g s0_0 x1001_1 x1002_1 from by repeat (first | (with_reducible first | exact HI0.out | apply IsS77.alloc | apply IsS77.drewN | apply IsS77.drew | apply IsS77.set_1 | apply IsS77.set_2 | refine IsS77.far ?_ NB0_243.out _ | refine IsS77.far ?_ NB0_260.out _) | exact HI0.out)) spec_l3Draw.a6 spec_l3Draw.a16) hk (fun _ h => h.2)) (fun _ h => h.1)); have n1_ := Aside0.mk (Kd.R_mono (Kd.R_keep (IsS77.apart (show IsS77 w0 _ g s0_0 x1001_1 x1002_1 from by repeat (first | (with_reducible first | exact HI0.out | apply IsS77.alloc | apply IsS77.drewN | apply IsS77.drew | apply IsS77.set_1 | apply IsS77.set_2 | refine IsS77.far ?_ NB0_243.out _ | refine IsS77.far ?_ NB0_260.out _) | exact HI0.out)) spec_l3Draw.a4 spec_l3Draw.a16) hk (fun _ h => h.2)) (fun _ h => h.1)); have n2_ := Aside0.mk (KeepBut.blk hk (g' := gb243) (o := .cells #[.slice none 0 0, .slice none 0 0] 30 (0, 0)) spec_l3Draw.a1 NB243_0.out (by simp)); have n3_ := Aside0.mk (KeepBut.blk hk (g' := gb260) (o := .cells #[.slice Ao17 y257.length co17, u261001] 30 (0, 0)) spec_l3Draw.a5 NB260_0.out (by simp)); have n4_ := Aside0.mk (KeepBut.trans spec_l3Draw.a0 hk (.inl rfl)); have n5_ := Aside0.mk (hb); have n6_ := Aside0.mk (hi); clear HO_261000; clear HO_261001; clear BK243; clear BK260; clear HK; clear HB; clear HI0; have HO_261000 := n0_; have HO_261001 := n1_; have BK243 := n2_; have BK260 := n3_; have HK := n4_; have HB := n5_; have HI0 := n6_; clear n0_ n1_ n2_ n3_ n4_ n5_ n6_; (try clear hb); (try clear hb2); (try clear hk); (try clear hi); have hnb99 := NB260_243.out; have hnc99 := NB243_260.out; have hnb100 := NB260_0.out; have hnc100 := NB0_260.out; have hcz101_0 : w98.cell? ⟨gb260, 0, none⟩ = some (.slice Ao17 y257.length co17) := (blk_cell BK260.out 0).trans rfl; have hcz101_1 : w98.cell? ⟨gb260, 1, none⟩ = some (u261001) := (blk_cell BK260.out 1).trans rfl; have hfz101_0 := blk_frozen BK260.out 0; have hfz101_1 := blk_frozen BK260.out 1) | ((with_reducible refine gate_builtin (b := .append) (xs := #[.tmp 64, .tmp 68]) rfl ?_); at_builtin; refine Kd.R_append k52 w.heap.size rfl (.tmp 64) (.tmp 68) 28 52 (.agg #[(.int .i64 0), (.int .i64 0)]) 16 rfl Try.underlying28 info52 rfl spec_l3Draw.a16 (by omega) u261001 x261001_1 (⟨wrap64 (ji3 - 1), 0⟩ : S52) [.int .i64 (wrap64 (ji3 - 1)), .int .i64 0] (fun _ => True) (fun _ => False) rfl rfl ?aP (fun _ hk => hk.elim) ?aF ?aO (Below.refl _ _) ?aS ?aL ?_; (case aP => exact k52_mkM _ _ _ (⟨wrap64 (ji3 - 1), 0⟩ : S52)); (case aF => exact (fun _ _ => trivial)); (case aO => exact spec_l3Draw.a4); (case aS => exact (keep_size (w := w) (g := g) (row := none) spec_l3Draw.a0)); (case aL => have := LMc97.out; omega); intro v299 w102 ho hb hg hat; rw [← Ny298.out] at ho; have n0_ := Aside0.mk (Kd.R_over' spec_l3Draw.a6 (Kd.R_typed spec_l3Draw.a4) spec_l3Draw.a16 hg); have n1_ := Aside0.mk (blk_grown (g := gb243) (o := .cells #[.slice none 0 0, .slice none 0 0] 30 (0, 0)) spec_l3Draw.a1 hg (Kd.R_ne HO_261001.out BK243.out spec_l3Draw.a16)); have n2_ := Aside0.mk (blk_grown (g := gb260) (o := .cells #[.slice Ao17 y257.length co17, u261001] 30 (0, 0)) spec_l3Draw.a5 hg (Kd.R_ne HO_261001.out BK260.out spec_l3Draw.a16)); have n3_ := Aside0.mk (IsS77.grown spec_l3Draw.a2 hg (IsS77.own_ne HI0.out HO_261001.out spec_l3Draw.a16)); have n4_ := Aside0.mk (below_weaken spec_l3Draw.a3 HL.out hb); have n5_ := Aside0.mk (KeepBut.trans spec_l3Draw.a0 (KeepBut.of_grown hg g) (Kd.R_base2 HO_261001.out)); have n6_ := Aside0.mk (ho); clear HO_261000; clear BK243; clear BK260; clear HI0; clear HB; clear HK; clear HO_261001; have HO_261000 := n0_; have BK243 := n1_; have BK260 := n2_; have HI0 := n3_; have HB := n4_; have HK := n5_; have HO300 := n6_; clear n0_ n1_ n2_ n3_ n4_ n5_ n6_; clear ho hb hg hat; obtain ⟨Ao103, co103, eo103⟩ := Kd.R_slice HO300.out; subst eo103; have hcz104_0 : w102.cell? ⟨gb260, 0, none⟩ = some (.slice Ao17 y257.length co17) := (blk_cell BK260.out 0).trans rfl; have hcz104_1 : w102.cell? ⟨gb260, 1, none⟩ = some (u261001) := (blk_cell BK260.out 1).trans rfl; have hfz104_0 := blk_frozen BK260.out 0; have hfz104_1 := blk_frozen BK260.out 1; have hnb105 := NB243_0.out; have hnc105 := NB0_243.out; have hcz106_0 : w102.cell? ⟨gb243, 0, none⟩ = some (.slice none 0 0) := (blk_cell BK243.out 0).trans rfl; have hcz106_1 : w102.cell? ⟨gb243, 1, none⟩ = some (.slice none 0 0) := (blk_cell BK243.out 1).trans rfl; have hfz106_0 := blk_frozen BK243.out 0; have hfz106_1 := blk_frozen BK243.out 1))
          refine bodyPost_ret (results_cell_row rfl _ _ gb243 30 #[.slice Ao17 y257.length co17, .slice Ao103 y298.length co103] (0, 0) _ rfl spec_l3Draw.a12 Try.underlying30 rfl spec_l3Draw.a19) rfl ?_
          exact ⟨_, _, spec_l3Draw.a15, by (with_reducible repeat (first | apply Kd.R_alloc | apply Kd.R_drewN | apply Kd.R_drew)); exact Kd.R_mono (Kd.R_far (p := ⟨gb243, 1, none⟩) (Kd.R_far (p := ⟨gb243, 0, none⟩) (Kd.R_far (p := ⟨gb260, 1, none⟩) (Kd.R_types (Kd.R_types HO_261000.out BK260.out spec_l3Draw.a16) BK243.out spec_l3Draw.a16) (fun _ hk => hk.1.2) (.slice Ao103 y298.length co103)) (fun _ hk => hk.2) (.slice Ao17 y257.length co17)) (fun _ hk => hk.2) (.slice Ao103 y298.length co103)) (fun _ hk => trivial), by (with_reducible repeat (first | apply Kd.R_alloc | apply Kd.R_drewN | apply Kd.R_drew)); exact Kd.R_mono (Kd.R_far (p := ⟨gb243, 1, none⟩) (Kd.R_far (p := ⟨gb243, 0, none⟩) (Kd.R_far (p := ⟨gb260, 1, none⟩) (Kd.R_types (Kd.R_types HO300.out BK260.out spec_l3Draw.a16) BK243.out spec_l3Draw.a16) (fun _ hk => hk.1.2) (.slice Ao103 y298.length co103)) (fun _ hk => hk.2) (.slice Ao17 y257.length co17)) (fun _ hk => hk.2) (.slice Ao103 y298.length co103)) (fun _ hk => trivial), spec_l3Draw.a2, spec_l3Draw.a3, spec_l3Draw.a0⟩
         ·rw [if_neg c97] at H
          exact absurd H (by simp)
        ·rw [if_neg c96] at H
         have c96b0 : (t288 == 1) = false := beq_eq_false_iff_ne.mpr c96
         have c96b1 : (t288 != 1) = true := bne_iff_ne.mpr c96
         by_cases c107 : t288 = 2
         ·rw [if_pos c107] at H
          have c107b0 : (t288 == 2) = true := beq_iff_eq.mpr c107
          have c107b1 : (t288 != 2) = false := bne_eq_false_iff_eq.mpr c107
          clear c107
          replace H := Option.bind_eq_some_iff.mp H
          obtain ⟨⟨t301, t302, t303⟩, A1080, H⟩ := H
          replace H : ((spec_l1Below.f s0_0 t302 t303 8).bind fun bt304 => (if x261001_1.length < 8796093022208 then (some (y257, (x261001_1 ++ [(⟨wrap64 (t301 - 1), bt304.1⟩ : S52)]), bt304.2.1, bt304.2.2)) else (none))) = some (r1, r2, r3, r4) := H
          have A108 := Aside0.mk A1080
          clear A1080
          replace H := Option.bind_eq_some_iff.mp H
          obtain ⟨⟨t304, t305, t306⟩, A1090, H⟩ := H
          replace H : (if x261001_1.length < 8796093022208 then (some (y257, (x261001_1 ++ [(⟨wrap64 (t301 - 1), t304⟩ : S52)]), t305, t306)) else (none)) = some (r1, r2, r3, r4) := H
          have A109 := Aside0.mk A1090
          clear A1090
          by_cases c110 : x261001_1.length < 8796093022208
          ·rw [if_pos c110] at H
           have LMc110 := Aside0.mk c110
           clear c110
           obtain ⟨y307, hy307⟩ : ∃ y_ : List (S52), y_ = (x261001_1 ++ [(⟨wrap64 (t301 - 1), t304⟩ : S52)]) := ⟨_, rfl⟩
           replace H : (some (y257, y307, t305, t306)) = some (r1, r2, r3, r4) := by first | (rw [hy307]; with_reducible exact H) | (have H2_ := (Option.bind_some _ _).symm.trans H; rw [hy307]; with_reducible exact H2_) | (have H2_ := (Option.bind_some _ _).symm.trans H; with_reducible exact H2_) | with_reducible exact H | (rw [hy307]; exact H) | exact H
           have Ny307 := Aside0.mk hy307
           clear hy307
           simp only [Option.some.injEq, Prod.mk.injEq] at H
           obtain ⟨rfl, rfl, rfl, rfl⟩ := H
           try go_wp2_with (first | ((with_reducible refine gate_callee (f := 51) rfl ?_); refine goesL_ (some 52) rfl rfl Try.func51 spec_l3Draw.a19 rfl #[.pointer (some ⟨g, 0, none⟩), .int .i64 30] rfl spec_l3Draw.a9 ?_; (with_reducible refine (spec_l1Below.calls g s0_0 x1001_1 x1002_1 30 t288 t289 t290 w0 _ ?side1 ?side2 A77.out).mono ?_); (case side1 => repeat (first | (with_reducible first | exact HI0.out | apply IsS77.alloc | apply IsS77.drewN | apply IsS77.drew | apply IsS77.set_1 | apply IsS77.set_2 | refine IsS77.far ?_ NB0_243.out _ | refine IsS77.far ?_ NB0_260.out _) | exact HI0.out)); (case side2 => repeat (first | (with_reducible first | exact HB.out | apply below_alloc | apply pw_below_drewN | apply below_drew1 | refine below_set ?_ (IsS77.ge HI0.out) | refine below_set ?_ GE243.out | refine below_set ?_ GE260.out) | exact HB.out)); rintro e w111 ⟨rfl, hi, hb, hk⟩; refine ⟨_, rfl, ?_⟩; have n0_ := Aside0.mk (Kd.R_mono (Kd.R_keep (IsS77.apart (show IsS77 w0 _ g s0_0 x1001_1 x1002_1 from by repeat (first | (with_reducible first | exact HI0.out | apply IsS77.alloc | apply IsS77.drewN | apply IsS77.drew | apply IsS77.set_1 | apply IsS77.set_2 | refine IsS77.far ?_ NB0_243.out _ | refine IsS77.far ?_ NB0_260.out _) | exact HI0.out)) spec_l3Draw.a6 spec_l3Draw.a16) hk (fun _ h => h.2)) (fun _ h => h.1)); have n1_ := Aside0.mk (Kd.R_mono (Kd.R_keep (IsS77.apart (show IsS77 w0 _ g s0_0 x1001_1 x1002_1 from by repeat (first | (with_reducible first | exact HI0.out | apply IsS77.alloc | apply IsS77.drewN | apply IsS77.drew | apply IsS77.set_1 | apply IsS77.set_2 | refine IsS77.far ?_ NB0_243.out _ | refine IsS77.far ?_ NB0_260.out _) | exact HI0.out)) spec_l3Draw.a4 spec_l3Draw.a16) hk (fun _ h => h.2)) (fun _ h => h.1)); have n2_ := Aside0.mk (KeepBut.blk hk (g' := gb243) (o := .cells #[.slice none 0 0, .slice none 0 0] 30 (0, 0)) spec_l3Draw.a1 NB243_0.out (by simp)); have n3_ := Aside0.mk (KeepBut.blk hk (g' := gb260) (o := .cells #[.slice Ao17 y257.length co17, u261001] 30 (0, 0)) spec_l3Draw.a5 NB260_0.out (by simp)); have n4_ := Aside0.mk (KeepBut.trans spec_l3Draw.a0 hk (.inl rfl)); have n5_ := Aside0.mk (hb); have n6_ := Aside0.mk (hi); clear HO_261000; clear HO_261001; clear BK243; clear BK260; clear HK; clear HB; clear HI0; have HO_261000 := n0_; have HO_261001 := n1_; have BK243 := n2_; have BK260 := n3_; have HK := n4_; have HB := n5_; have HI0 := n6_; clear n0_ n1_ n2_ n3_ n4_ n5_ n6_; (try clear hb); (try clear hb2); (try clear hk); (try clear hi)))
           have n0_ := Aside0.mk (Kd.R_drew HO_261000.out)
           have n1_ := Aside0.mk (Kd.R_drew HO_261001.out)
           have n2_ := Aside0.mk (blk_drew BK243.out)
           have n3_ := Aside0.mk (blk_drew BK260.out)
           have n4_ := Aside0.mk (IsS77.drew HI0.out)
           have n5_ := Aside0.mk (keep_drew HK.out)
           have n6_ := Aside0.mk (below_drew1 HB.out)
           clear HO_261000
           clear HO_261001
           clear BK243
           clear BK260
           clear HI0
           clear HK
           clear HB
           have HO_261000 := n0_
           have HO_261001 := n1_
           have BK243 := n2_
           have BK260 := n3_
           have HI0 := n4_
           have HK := n5_
           have HB := n6_
           clear n0_ n1_ n2_ n3_ n4_ n5_ n6_
           refine start_ (n := 12) (S := fun w' => w'.cell? ⟨gb260, 0, none⟩ = some (.slice Ao17 y257.length co17) ∧ w'.cell? ⟨gb260, 1, none⟩ = some (u261001)) (ds := [11]) #[false, false, false, false, false, false, false, false, false, false, false, false] spec_l3Draw.a19 rfl rfl ⟨(blk_cell BK260.out 0).trans rfl, (blk_cell BK260.out 1).trans rfl⟩ (fun hHeld => ?_); refine with_tabW spec_l3Draw.tab18 spec_l3Draw.bits18 (fun HT_ HW_ => ?_)
           generalize w111.drew = w112 at HO_261000 HO_261001 BK243 BK260 HI0 HK HB hHeld ⊢
           refine pureS 0 73 HT_ rfl rfl ?_
           refine pureS 2 75 HT_ rfl rfl ?_
           refine pureS 5 78 HT_ rfl rfl ?_
           refine takeS 1 74 HT_ HW_ rfl rfl hHeld ?_ (by rintro w' ⟨s0, s1⟩; go_simp; with_reducible rfl)
           refine one_ (i := 3) (N := some 76) #[true, true, true, true, false, true, false, false, false, false, false, false] rfl rfl (one_of HT_.out spec_l3Draw.a19) spec_l3Draw.a16 (fun K hK => ?_)
           refine goes_ Try.func51 spec_l3Draw.a19 rfl #[.pointer (some ⟨g, 0, none⟩), .int .i64 8] (by rfl) rfl rfl spec_l3Draw.a9 ?_
           with_reducible refine (spec_l1Below.calls g s0_0 t289 t290 8 t301 t302 t303 w0 _ ?side1 ?side2 A108.out).mono ?_
           (case side1 => repeat (first | (with_reducible first | exact HI0.out | apply IsS77.alloc | apply IsS77.drewN | apply IsS77.drew | apply IsS77.set_1 | apply IsS77.set_2 | refine IsS77.far ?_ NB0_243.out _ | refine IsS77.far ?_ NB0_260.out _) | exact HI0.out))
           (case side2 => repeat (first | (with_reducible first | exact HB.out | apply below_alloc | apply pw_below_drewN | apply below_drew1 | refine below_set ?_ (IsS77.ge HI0.out) | refine below_set ?_ GE243.out | refine below_set ?_ GE260.out) | exact HB.out))
           rintro e w113 ⟨rfl, hi, hb, hk⟩
           refine ⟨_, rfl, ?_⟩
           have n0_ := Aside0.mk (Kd.R_mono (Kd.R_keep (IsS77.apart (show IsS77 w0 _ g s0_0 t289 t290 from by repeat (first | (with_reducible first | exact HI0.out | apply IsS77.alloc | apply IsS77.drewN | apply IsS77.drew | apply IsS77.set_1 | apply IsS77.set_2 | refine IsS77.far ?_ NB0_243.out _ | refine IsS77.far ?_ NB0_260.out _) | exact HI0.out)) spec_l3Draw.a6 spec_l3Draw.a16) hk (fun _ h => h.2)) (fun _ h => h.1))
           have n1_ := Aside0.mk (Kd.R_mono (Kd.R_keep (IsS77.apart (show IsS77 w0 _ g s0_0 t289 t290 from by repeat (first | (with_reducible first | exact HI0.out | apply IsS77.alloc | apply IsS77.drewN | apply IsS77.drew | apply IsS77.set_1 | apply IsS77.set_2 | refine IsS77.far ?_ NB0_243.out _ | refine IsS77.far ?_ NB0_260.out _) | exact HI0.out)) spec_l3Draw.a4 spec_l3Draw.a16) hk (fun _ h => h.2)) (fun _ h => h.1))
           have n2_ := Aside0.mk (KeepBut.blk hk (g' := gb243) (o := .cells #[.slice none 0 0, .slice none 0 0] 30 (0, 0)) spec_l3Draw.a1 NB243_0.out (by simp))
           have n3_ := Aside0.mk (KeepBut.blk hk (g' := gb260) (o := .cells #[.slice Ao17 y257.length co17, u261001] 30 (0, 0)) spec_l3Draw.a5 NB260_0.out (by simp))
           have n4_ := Aside0.mk (KeepBut.trans spec_l3Draw.a0 hk (.inl rfl))
           have n5_ := Aside0.mk (hb)
           have n6_ := Aside0.mk (hi)
           clear HO_261000
           clear HO_261001
           clear BK243
           clear BK260
           clear HK
           clear HB
           clear HI0
           have HO_261000 := n0_
           have HO_261001 := n1_
           have BK243 := n2_
           have BK260 := n3_
           have HK := n4_
           have HB := n5_
           have HI0 := n6_
           clear n0_ n1_ n2_ n3_ n4_ n5_ n6_
           (try clear hb)
           (try clear hb2)
           (try clear hk)
           (try clear hi)
           refine hK.out _ _ ⟨(blk_cell BK260.out 0).trans rfl, (blk_cell BK260.out 1).trans rfl⟩ (fun hHeld => ?_)
           clear hK K
           refine norm_ (a' := ?_) ?_ ?_
           rotate_left
           ·show Act.put _ (some 76) _ = _
            simp only [Act.put, List.setIfInBounds_toArray, List.set_cons_zero, List.set_cons_succ, i64_w, i32_w]
            rfl
           refine pureS 4 77 HT_ rfl rfl ?_
           refine one_ (i := 6) (N := some 79) #[true, true, true, true, true, true, true, false, false, false, false, false] rfl rfl (one_of HT_.out spec_l3Draw.a19) spec_l3Draw.a16 (fun K hK => ?_)
           refine goes_ Try.func51 spec_l3Draw.a19 rfl #[.pointer (some ⟨g, 0, none⟩), .int .i64 8] (by rfl) rfl rfl spec_l3Draw.a9 ?_
           with_reducible refine (spec_l1Below.calls g s0_0 t302 t303 8 t304 t305 t306 w0 _ ?side1 ?side2 A109.out).mono ?_
           (case side1 => repeat (first | (with_reducible first | exact HI0.out | apply IsS77.alloc | apply IsS77.drewN | apply IsS77.drew | apply IsS77.set_1 | apply IsS77.set_2 | refine IsS77.far ?_ NB0_243.out _ | refine IsS77.far ?_ NB0_260.out _) | exact HI0.out))
           (case side2 => repeat (first | (with_reducible first | exact HB.out | apply below_alloc | apply pw_below_drewN | apply below_drew1 | refine below_set ?_ (IsS77.ge HI0.out) | refine below_set ?_ GE243.out | refine below_set ?_ GE260.out) | exact HB.out))
           rintro e w114 ⟨rfl, hi, hb, hk⟩
           refine ⟨_, rfl, ?_⟩
           have n0_ := Aside0.mk (Kd.R_mono (Kd.R_keep (IsS77.apart (show IsS77 w0 _ g s0_0 t302 t303 from by repeat (first | (with_reducible first | exact HI0.out | apply IsS77.alloc | apply IsS77.drewN | apply IsS77.drew | apply IsS77.set_1 | apply IsS77.set_2 | refine IsS77.far ?_ NB0_243.out _ | refine IsS77.far ?_ NB0_260.out _) | exact HI0.out)) spec_l3Draw.a6 spec_l3Draw.a16) hk (fun _ h => h.2)) (fun _ h => h.1))
           have n1_ := Aside0.mk (Kd.R_mono (Kd.R_keep (IsS77.apart (show IsS77 w0 _ g s0_0 t302 t303 from by repeat (first | (with_reducible first | exact HI0.out | apply IsS77.alloc | apply IsS77.drewN | apply IsS77.drew | apply IsS77.set_1 | apply IsS77.set_2 | refine IsS77.far ?_ NB0_243.out _ | refine IsS77.far ?_ NB0_260.out _) | exact HI0.out)) spec_l3Draw.a4 spec_l3Draw.a16) hk (fun _ h => h.2)) (fun _ h => h.1))
           have n2_ := Aside0.mk (KeepBut.blk hk (g' := gb243) (o := .cells #[.slice none 0 0, .slice none 0 0] 30 (0, 0)) spec_l3Draw.a1 NB243_0.out (by simp))
           have n3_ := Aside0.mk (KeepBut.blk hk (g' := gb260) (o := .cells #[.slice Ao17 y257.length co17, u261001] 30 (0, 0)) spec_l3Draw.a5 NB260_0.out (by simp))
           have n4_ := Aside0.mk (KeepBut.trans spec_l3Draw.a0 hk (.inl rfl))
           have n5_ := Aside0.mk (hb)
           have n6_ := Aside0.mk (hi)
           clear HO_261000
           clear HO_261001
           clear BK243
           clear BK260
           clear HK
           clear HB
           clear HI0
           have HO_261000 := n0_
           have HO_261001 := n1_
           have BK243 := n2_
           have BK260 := n3_
           have HK := n4_
           have HB := n5_
           have HI0 := n6_
           clear n0_ n1_ n2_ n3_ n4_ n5_ n6_
           (try clear hb)
           (try clear hb2)
           (try clear hk)
           (try clear hi)
           refine hK.out _ _ ⟨(blk_cell BK260.out 0).trans rfl, (blk_cell BK260.out 1).trans rfl⟩ (fun hHeld => ?_)
           clear hK K
           refine norm_ (a' := ?_) ?_ ?_
           rotate_left
           ·show Act.put _ (some 79) _ = _
            simp only [Act.put, List.setIfInBounds_toArray, List.set_cons_zero, List.set_cons_succ, i64_w, i32_w]
            rfl
           refine pureS 7 80 HT_ rfl rfl ?_
           refine one_ (i := 8) (N := some 81) #[true, true, true, true, true, true, true, true, true, false, false, false] rfl rfl (one_of HT_.out spec_l3Draw.a19) spec_l3Draw.a16 (fun K hK => ?_)
           refine value_ (w1 := ?_) (v := ?_) (by rfl) rfl ?_ ?_
           rotate_left 2
           ·go_simp
            constructor
            ·rfl
            ·rfl
           refine hK.out _ _ ⟨(blk_cell (blk_alloc BK260.out _) 0).trans rfl, (blk_cell (blk_alloc BK260.out _) 1).trans rfl⟩ (fun hHeld => ?_)
           clear hK K
           refine norm_ (a' := ?_) ?_ ?_
           rotate_left
           ·show Act.put _ (some 81) _ = _
            simp only [Act.put, List.setIfInBounds_toArray, List.set_cons_zero, List.set_cons_succ, i64_w, i32_w]
            rfl
           refine one_ (i := 9) (N := some 82) #[true, true, true, true, true, true, true, true, true, true, false, false] rfl rfl (one_of HT_.out spec_l3Draw.a19) spec_l3Draw.a16 (fun K hK => ?_)
           refine Kd.R_append_step k52 w.heap.size (by rfl) (.tmp 74) (.tmp 81) 28 52 (.agg #[(.int .i64 0), (.int .i64 0)]) 16 rfl Try.underlying28 info52 rfl spec_l3Draw.a16 (by omega) u261001 x261001_1 (⟨wrap64 (t301 - 1), t304⟩ : S52) [.int .i64 (wrap64 (t301 - 1)), .int .i64 t304] (fun _ => True) (fun _ => False) rfl rfl ?aP (fun _ hk => hk.elim) ?aF ?aO (Below.refl _ _) ?aS ?aL ?_
           (case aP => exact k52_mkM _ _ _ (⟨wrap64 (t301 - 1), t304⟩ : S52))
           (case aF => exact (fun _ _ => trivial))
           (case aO => exact spec_l3Draw.a4)
           (case aS => exact (keep_size (w := w) (g := g) (row := none) spec_l3Draw.a0))
           (case aL => have := LMc110.out; omega)
           intro v308 w115 ho hb hg hat
           rw [← Ny307.out] at ho
           have n0_ := Aside0.mk (Kd.R_over' spec_l3Draw.a6 (Kd.R_typed spec_l3Draw.a4) spec_l3Draw.a16 hg)
           have n1_ := Aside0.mk (blk_grown (g := gb243) (o := .cells #[.slice none 0 0, .slice none 0 0] 30 (0, 0)) spec_l3Draw.a1 hg (Kd.R_ne HO_261001.out BK243.out spec_l3Draw.a16))
           have n2_ := Aside0.mk (blk_grown (g := gb260) (o := .cells #[.slice Ao17 y257.length co17, u261001] 30 (0, 0)) spec_l3Draw.a5 hg (Kd.R_ne HO_261001.out BK260.out spec_l3Draw.a16))
           have n3_ := Aside0.mk (IsS77.grown spec_l3Draw.a2 hg (IsS77.own_ne HI0.out HO_261001.out spec_l3Draw.a16))
           have n4_ := Aside0.mk (below_weaken spec_l3Draw.a3 HL.out hb)
           have n5_ := Aside0.mk (KeepBut.trans spec_l3Draw.a0 (KeepBut.of_grown hg g) (Kd.R_base2 HO_261001.out))
           have n6_ := Aside0.mk (ho)
           clear HO_261000
           clear BK243
           clear BK260
           clear HI0
           clear HB
           clear HK
           clear HO_261001
           have HO_261000 := n0_
           have BK243 := n1_
           have BK260 := n2_
           have HI0 := n3_
           have HB := n4_
           have HK := n5_
           have HO309 := n6_
           clear n0_ n1_ n2_ n3_ n4_ n5_ n6_
           clear ho hb hg hat
           obtain ⟨Ao116, co116, eo116⟩ := Kd.R_slice HO309.out
           (first | subst eo116 | (injection eo116 with f1_ f2_ f3_; have f4_ := f1_.symm; have f5_ := f3_.symm; clear f1_ f2_ f3_; subst f4_; subst f5_))
           refine hK.out _ _ ⟨(blk_cell BK260.out 0).trans rfl, (blk_cell BK260.out 1).trans rfl⟩ (fun hHeld => ?_)
           clear hK K
           refine norm_ (a' := ?_) ?_ ?_
           rotate_left
           ·show Act.put _ (some 82) _ = _
            simp only [Act.put, List.setIfInBounds_toArray, List.set_cons_zero, List.set_cons_succ, i64_w, i32_w]
            rfl
           refine pureS 10 83 HT_ rfl rfl ?_
           refine last_ (i := 11) (N := none) #[true, true, true, true, true, true, true, true, true, true, true, true] rfl rfl (one_of HT_.out spec_l3Draw.a19) spec_l3Draw.a16 (fun K hK => ?_)
           have hs117 : w115.cell? ⟨gb260, 1, none⟩ = some (u261001) := (blk_cell BK260.out 1).trans rfl
           have hfs117 := blk_frozen BK260.out 1
           have hns117_0 := NB243_260.out
           have hms117_0 := NB260_243.out
           refine skip_ (w1 := ?_) (by rfl) rfl ?_ ?_
           rotate_left
           ·go_simp
            rfl
           refine hK.out _ _ ?_
           clear hK K
           refine done_ (done_of HT_.out spec_l3Draw.a19) ?_
           have hnb118 := NB260_243.out
           have hnc118 := NB243_260.out
           have hnb119 := NB260_0.out
           have hnc119 := NB0_260.out
           have hcz120_0 : w115.cell? ⟨gb260, 0, none⟩ = some (.slice Ao17 y257.length co17) := (blk_cell BK260.out 0).trans rfl
           have hcz120_1 : w115.cell? ⟨gb260, 1, none⟩ = some (u261001) := (blk_cell BK260.out 1).trans rfl
           have hfz120_0 := blk_frozen BK260.out 0
           have hfz120_1 := blk_frozen BK260.out 1
           have hnb121 := NB243_0.out
           have hnc121 := NB0_243.out
           have hcz122_0 : w115.cell? ⟨gb243, 0, none⟩ = some (.slice none 0 0) := (blk_cell BK243.out 0).trans rfl
           have hcz122_1 : w115.cell? ⟨gb243, 1, none⟩ = some (.slice none 0 0) := (blk_cell BK243.out 1).trans rfl
           have hfz122_0 := blk_frozen BK243.out 0
           have hfz122_1 := blk_frozen BK243.out 1
           try go_wp2
           refine bodyPost_ret (results_cell_row rfl _ _ gb243 30 #[.slice Ao17 y257.length co17, .slice Ao116 y307.length co116] (0, 0) _ rfl spec_l3Draw.a12 Try.underlying30 rfl spec_l3Draw.a19) rfl ?_
           exact ⟨_, _, spec_l3Draw.a15, by (with_reducible repeat (first | apply Kd.R_alloc | apply Kd.R_drewN | apply Kd.R_drew)); exact Kd.R_mono (Kd.R_far (p := ⟨gb243, 1, none⟩) (Kd.R_far (p := ⟨gb243, 0, none⟩) (Kd.R_far (p := ⟨gb260, 1, none⟩) (Kd.R_types (Kd.R_types HO_261000.out BK260.out spec_l3Draw.a16) BK243.out spec_l3Draw.a16) (fun _ hk => hk.1.2) (.slice Ao116 y307.length co116)) (fun _ hk => hk.2) (.slice Ao17 y257.length co17)) (fun _ hk => hk.2) (.slice Ao116 y307.length co116)) (fun _ hk => trivial), by (with_reducible repeat (first | apply Kd.R_alloc | apply Kd.R_drewN | apply Kd.R_drew)); exact Kd.R_mono (Kd.R_far (p := ⟨gb243, 1, none⟩) (Kd.R_far (p := ⟨gb243, 0, none⟩) (Kd.R_far (p := ⟨gb260, 1, none⟩) (Kd.R_types (Kd.R_types HO309.out BK260.out spec_l3Draw.a16) BK243.out spec_l3Draw.a16) (fun _ hk => hk.1.2) (.slice Ao116 y307.length co116)) (fun _ hk => hk.2) (.slice Ao17 y257.length co17)) (fun _ hk => hk.2) (.slice Ao116 y307.length co116)) (fun _ hk => trivial), spec_l3Draw.a2, spec_l3Draw.a3, spec_l3Draw.a0⟩
          ·rw [if_neg c110] at H
           exact absurd H (by simp)
         ·rw [if_neg c107] at H
          have c107b0 : (t288 == 2) = false := beq_eq_false_iff_ne.mpr c107
          have c107b1 : (t288 != 2) = true := bne_iff_ne.mpr c107
          simp only [Option.some.injEq, Prod.mk.injEq] at H
          obtain ⟨rfl, rfl, rfl, rfl⟩ := H
          go_wp2_with (first | ((with_reducible refine gate_callee (f := 51) rfl ?_); refine goesL_ (some 52) rfl rfl Try.func51 spec_l3Draw.a19 rfl #[.pointer (some ⟨g, 0, none⟩), .int .i64 30] rfl spec_l3Draw.a9 ?_; (with_reducible refine (spec_l1Below.calls g s0_0 x1001_1 x1002_1 30 t288 t289 t290 w0 _ ?side1 ?side2 A77.out).mono ?_); (case side1 => repeat (first | (with_reducible first | exact HI0.out | apply IsS77.alloc | apply IsS77.drewN | apply IsS77.drew | apply IsS77.set_1 | apply IsS77.set_2 | refine IsS77.far ?_ NB0_243.out _ | refine IsS77.far ?_ NB0_260.out _) | exact HI0.out)); (case side2 => repeat (first | (with_reducible first | exact HB.out | apply below_alloc | apply pw_below_drewN | apply below_drew1 | refine below_set ?_ (IsS77.ge HI0.out) | refine below_set ?_ GE243.out | refine below_set ?_ GE260.out) | exact HB.out)); rintro e w123 ⟨rfl, hi, hb, hk⟩; refine ⟨_, rfl, ?_⟩; have n0_ := Aside0.mk (Kd.R_mono (Kd.R_keep (IsS77.apart (show IsS77 w0 _ g s0_0 x1001_1 x1002_1 from by repeat (first | (with_reducible first | exact HI0.out | apply IsS77.alloc | apply IsS77.drewN | apply IsS77.drew | apply IsS77.set_1 | apply IsS77.set_2 | refine IsS77.far ?_ NB0_243.out _ | refine IsS77.far ?_ NB0_260.out _) | exact HI0.out)) spec_l3Draw.a6 spec_l3Draw.a16) hk (fun _ h => h.2)) (fun _ h => h.1)); have n1_ := Aside0.mk (Kd.R_mono (Kd.R_keep (IsS77.apart (show IsS77 w0 _ g s0_0 x1001_1 x1002_1 from by repeat (first | (with_reducible first | exact HI0.out | apply IsS77.alloc | apply IsS77.drewN | apply IsS77.drew | apply IsS77.set_1 | apply IsS77.set_2 | refine IsS77.far ?_ NB0_243.out _ | refine IsS77.far ?_ NB0_260.out _) | exact HI0.out)) spec_l3Draw.a4 spec_l3Draw.a16) hk (fun _ h => h.2)) (fun _ h => h.1)); have n2_ := Aside0.mk (KeepBut.blk hk (g' := gb243) (o := .cells #[.slice none 0 0, .slice none 0 0] 30 (0, 0)) spec_l3Draw.a1 NB243_0.out (by simp)); have n3_ := Aside0.mk (KeepBut.blk hk (g' := gb260) (o := .cells #[.slice Ao17 y257.length co17, u261001] 30 (0, 0)) spec_l3Draw.a5 NB260_0.out (by simp)); have n4_ := Aside0.mk (KeepBut.trans spec_l3Draw.a0 hk (.inl rfl)); have n5_ := Aside0.mk (hb); have n6_ := Aside0.mk (hi); clear HO_261000; clear HO_261001; clear BK243; clear BK260; clear HK; clear HB; clear HI0; have HO_261000 := n0_; have HO_261001 := n1_; have BK243 := n2_; have BK260 := n3_; have HK := n4_; have HB := n5_; have HI0 := n6_; clear n0_ n1_ n2_ n3_ n4_ n5_ n6_; (try clear hb); (try clear hb2); (try clear hk); (try clear hi); have hnb124 := NB260_243.out; have hnc124 := NB243_260.out; have hnb125 := NB260_0.out; have hnc125 := NB0_260.out; have hcz126_0 : w123.cell? ⟨gb260, 0, none⟩ = some (.slice Ao17 y257.length co17) := (blk_cell BK260.out 0).trans rfl; have hcz126_1 : w123.cell? ⟨gb260, 1, none⟩ = some (u261001) := (blk_cell BK260.out 1).trans rfl; have hfz126_0 := blk_frozen BK260.out 0; have hfz126_1 := blk_frozen BK260.out 1; have hnb127 := NB243_0.out; have hnc127 := NB0_243.out; have hcz128_0 : w123.cell? ⟨gb243, 0, none⟩ = some (.slice none 0 0) := (blk_cell BK243.out 0).trans rfl; have hcz128_1 : w123.cell? ⟨gb243, 1, none⟩ = some (.slice none 0 0) := (blk_cell BK243.out 1).trans rfl; have hfz128_0 := blk_frozen BK243.out 0; have hfz128_1 := blk_frozen BK243.out 1; obtain ⟨Ao129, co129, eo129⟩ := Kd.R_slice HO_261001.out; subst eo129))
          refine bodyPost_ret (results_cell_row rfl _ _ gb243 30 #[.slice Ao17 y257.length co17, .slice Ao129 x261001_1.length co129] (0, 0) _ rfl (by (with_reducible repeat (first | refine blk_drewN ?_ _ | refine blk_drew ?_ | refine blk_alloc ?_ _)); refine blk_put (cs := #[.slice Ao17 y257.length co17, .slice none 0 0]) ?_ 1 _ rfl; (with_reducible repeat (first | refine blk_drewN ?_ _ | refine blk_drew ?_ | refine blk_alloc ?_ _)); refine blk_put (cs := #[.slice none 0 0, .slice none 0 0]) ?_ 0 _ rfl; (with_reducible repeat (first | refine blk_drewN ?_ _ | refine blk_drew ?_ | refine blk_alloc ?_ _)); exact BK243.out) Try.underlying30 rfl spec_l3Draw.a19) rfl ?_
          exact ⟨_, _, spec_l3Draw.a15, by (with_reducible repeat (first | apply Kd.R_alloc | apply Kd.R_drewN | apply Kd.R_drew)); exact Kd.R_mono (Kd.R_far (p := ⟨gb243, 1, none⟩) (Kd.R_far (p := ⟨gb243, 0, none⟩) (Kd.R_types HO_261000.out BK243.out spec_l3Draw.a16) (fun _ hk => hk.2) (.slice Ao17 y257.length co17)) (fun _ hk => hk.2) (.slice Ao129 x261001_1.length co129)) (fun _ hk => trivial), by (with_reducible repeat (first | apply Kd.R_alloc | apply Kd.R_drewN | apply Kd.R_drew)); exact Kd.R_mono (Kd.R_far (p := ⟨gb243, 1, none⟩) (Kd.R_far (p := ⟨gb243, 0, none⟩) (Kd.R_types HO_261001.out BK243.out spec_l3Draw.a16) (fun _ hk => hk.2) (.slice Ao17 y257.length co17)) (fun _ hk => hk.2) (.slice Ao129 x261001_1.length co129)) (fun _ hk => trivial), spec_l3Draw.a2, spec_l3Draw.a3, spec_l3Draw.a0⟩
   ·rw [if_neg c6] at H
    exact absurd H (by simp)
  ·rw [if_neg c5] at H
   exact absurd H (by simp)
 ·rw [if_neg c4] at H
  exact absurd H (by simp)

/-! ### spec_DrawAboveSort: function 18 -/
/-! ### impl_isSet: function 54 -/
def impl_isSet.f (a0 : Int) : Option (Bool) := if a0 ≥ 0 then (some (decide (a0 ≤ 65535))) else (some false)
set_option maxHeartbeats 8000000 in
set_option maxRecDepth 100000 in
theorem impl_isSet.calls (a0 : Int) (r : Bool) (w : World) (h : impl_isSet.f a0 = some r) :
    Calls Try.prog 54 #[.int .i64 a0] w fun e w' => e = .returned (.bool r) ∧ Drawn0 w w' := by
  have H : (if a0 ≥ 0 then (some (decide (a0 ≤ 65535))) else (some false)) = some r := h
  clear h
  by_cases c2 : a0 ≥ 0
  · rw [if_pos c2] at H
    have c2b0 : decide (0 ≤ a0) = true := decide_eq_true c2
    clear c2
    obtain rfl := Option.some.inj H
    go_enter Try.func54, Try.ntmps54
    go_wp2
    go_ret
    exact ⟨by first | rfl | (simp; done) | (simp [*]; done), by repeat (first | exact Drawn0.refl _ | apply Drawn0.step)⟩
  · rw [if_neg c2] at H
    have c2b0 : decide (0 ≤ a0) = false := decide_eq_false c2
    clear c2
    obtain rfl := Option.some.inj H
    go_enter Try.func54, Try.ntmps54
    go_wp2
    go_ret
    exact ⟨by first | rfl | (simp; done) | (simp [*]; done), by repeat (first | exact Drawn0.refl _ | apply Drawn0.step)⟩

end Go.Proofs.Ytlpkicbmcpmemaa.Q

