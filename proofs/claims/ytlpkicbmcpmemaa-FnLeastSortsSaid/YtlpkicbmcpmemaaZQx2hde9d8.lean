/- Functions of the program as plain Lean functions, and that the calls come to what they say. -/
import Derived.Test.YtlpkicbmcpmemaaZQx0h2d4ba
namespace Go.Proofs.Ytlpkicbmcpmemaa.Q
open Go.RowKit Go.Proofs.YtlpkicbmcpmemaaW.PrintWords Go.Proofs.YtlpkicbmcpmemaaW.PrintLast Go.Proofs.YtlpkicbmcpmemaaW.PrintMore
attribute [local go_sem] max2_int min2_int max_two min_two max_three min_three max_four min_four   -- for this text's walks alone
set_option linter.unusedVariables false
set_option linter.unusedSimpArgs false

/-! ### spec_IsName: function 38 -/
theorem spec_IsName.a0 {P_ : Prop} (h_ : P_ := by first | (with_reducible assumption) | assumption) : P_ := h_
theorem spec_IsName.a1 {P_ : Prop} (h_ : P_ := by repeat (first | exact Drawn0.refl _ | apply Drawn0.step)) : P_ := h_
theorem spec_IsName.a2 {P_ : Prop} (h_ : P_ := by first | rfl | (simp; done) | (simp [*]; done)) : P_ := h_
theorem spec_IsName.a3 {P_ : Prop} (h_ : P_ := by first | omega | exact Nat.le_refl _) : P_ := h_
theorem spec_IsName.a4 {P_ : Prop} (h_ : P_ := by have := HJ1.out; have := HK2.out; omega) : P_ := h_
mutual
def spec_IsName.j0 : Nat → ByteArray → Bool → Option (Bool)
 | 0, _, _ => none
 | k + 1, x0, x40 => if x40 = true then (some false) else (spec_IsName.l0 k x0 0)
def spec_IsName.l0 : Nat → ByteArray → Int → Option (Bool)
 | 0, _, _ => none
 | k + 1, x0, x3 => if x3 < (x0.size : Int) then (if 0 ≤ x3 then (if (bt x0 x3) ≥ 97 then (if (bt x0 x3) ≤ 122 then (spec_IsName.l0 k x0 (wrap64 (x3 + 1))) else (if (bt x0 x3) ≥ 65 then (if (bt x0 x3) ≤ 90 then (spec_IsName.l0 k x0 (wrap64 (x3 + 1))) else (if (bt x0 x3) ≥ 48 then (if ((bt x0 x3) ≤ 57) then (spec_IsName.l0 k x0 (wrap64 (x3 + 1))) else (some false)) else (some false))) else (if (bt x0 x3) ≥ 48 then (if ((bt x0 x3) ≤ 57) then (spec_IsName.l0 k x0 (wrap64 (x3 + 1))) else (some false)) else (some false)))) else (if (bt x0 x3) ≥ 65 then (if (bt x0 x3) ≤ 90 then (spec_IsName.l0 k x0 (wrap64 (x3 + 1))) else (if (bt x0 x3) ≥ 48 then (if ((bt x0 x3) ≤ 57) then (spec_IsName.l0 k x0 (wrap64 (x3 + 1))) else (some false)) else (some false))) else (if (bt x0 x3) ≥ 48 then (if ((bt x0 x3) ≤ 57) then (spec_IsName.l0 k x0 (wrap64 (x3 + 1))) else (some false)) else (some false)))) else (none)) else (some true)
end
def spec_IsName.f (k : Nat) (a0 : ByteArray) : Option (Bool) := if a0.toList = ([105, 102] : List UInt8) then (spec_IsName.j0 k a0 true) else (if a0.toList = ([97, 110, 100] : List UInt8) then (spec_IsName.j0 k a0 true) else (if (a0.size : Int) < 1 then (spec_IsName.j0 k a0 true) else (if (a0.size : Int) > 12 then (spec_IsName.j0 k a0 true) else (if 0 < (a0.size : Int) then (if (bt a0 0) ≥ 97 then (if (bt a0 0) ≤ 122 then (spec_IsName.j0 k a0 (!true)) else (if (bt a0 0) ≥ 65 then (spec_IsName.j0 k a0 (!(decide ((bt a0 0) ≤ 90)))) else (spec_IsName.j0 k a0 (!false)))) else (if (bt a0 0) ≥ 65 then (spec_IsName.j0 k a0 (!(decide ((bt a0 0) ≤ 90)))) else (spec_IsName.j0 k a0 (!false)))) else (none)))))
set_option maxHeartbeats 8000000 in
set_option maxRecDepth 100000 in
theorem spec_IsName.calls (k : Nat) (a0 : ByteArray) (r : Bool) (w : World) (h : spec_IsName.f k a0 = some r) :
  Calls Try.prog 38 #[.string a0] w fun e w' => e = .returned (.bool r) ∧ Drawn0 w w' := by
 have H : (if a0.toList = ([105, 102] : List UInt8) then (spec_IsName.j0 k a0 true) else (if a0.toList = ([97, 110, 100] : List UInt8) then (spec_IsName.j0 k a0 true) else (if (a0.size : Int) < 1 then (spec_IsName.j0 k a0 true) else (if (a0.size : Int) > 12 then (spec_IsName.j0 k a0 true) else (if 0 < (a0.size : Int) then (if (bt a0 0) ≥ 97 then (if (bt a0 0) ≤ 122 then (spec_IsName.j0 k a0 (!true)) else (if (bt a0 0) ≥ 65 then (spec_IsName.j0 k a0 (!(decide ((bt a0 0) ≤ 90)))) else (spec_IsName.j0 k a0 (!false)))) else (if (bt a0 0) ≥ 65 then (spec_IsName.j0 k a0 (!(decide ((bt a0 0) ≤ 90)))) else (spec_IsName.j0 k a0 (!false)))) else (none)))))) = some r := h
 clear h
 have HC2 := Aside0.mk H
 clear H
 go_enter Try.func38, Try.ntmps38
 go_upto_region 1 with (fail)
 go_cut [40] (fun v40 wc => ∃ (kq : Nat) (x40_1 : Bool), v40 = .bool x40_1 ∧ Aside0 (spec_IsName.j0 kq a0 x40_1 = some r) ∧ Aside0 (kq ≤ k) ∧ Drawn0 w wc)
 case first =>
  have H := HC2.out
  clear HC2
  by_cases c3 : a0.toList = ([105, 102] : List UInt8)
  ·rw [if_pos c3] at H
   have c3b0 : (a0.toList == ([105, 102] : List UInt8)) = true := beq_iff_eq.mpr c3
   have c3b1 : (a0.toList != ([105, 102] : List UInt8)) = false := bne_eq_false_iff_eq.mpr c3
   clear c3
   (first | rw [c3b0] | (simp only [i64_w, i32_w]; rw [c3b0]) | skip)
   have H' := Aside0.mk H
   clear H
   go_wp2
   go_meet
   case rel => exact ⟨_, (true), spec_IsName.a2, H', ⟨spec_IsName.a3⟩, spec_IsName.a1⟩
  ·rw [if_neg c3] at H
   have c3b0 : (a0.toList == ([105, 102] : List UInt8)) = false := beq_eq_false_iff_ne.mpr c3
   have c3b1 : (a0.toList != ([105, 102] : List UInt8)) = true := bne_iff_ne.mpr c3
   (first | rw [c3b0] | (simp only [i64_w, i32_w]; rw [c3b0]) | skip)
   by_cases c4 : a0.toList = ([97, 110, 100] : List UInt8)
   ·rw [if_pos c4] at H
    have c4b0 : (a0.toList == ([97, 110, 100] : List UInt8)) = true := beq_iff_eq.mpr c4
    have c4b1 : (a0.toList != ([97, 110, 100] : List UInt8)) = false := bne_eq_false_iff_eq.mpr c4
    clear c4
    have H' := Aside0.mk H
    clear H
    go_wp2
    go_meet
    case rel => exact ⟨_, (true), spec_IsName.a2, H', ⟨spec_IsName.a3⟩, spec_IsName.a1⟩
   ·rw [if_neg c4] at H
    have c4b0 : (a0.toList == ([97, 110, 100] : List UInt8)) = false := beq_eq_false_iff_ne.mpr c4
    have c4b1 : (a0.toList != ([97, 110, 100] : List UInt8)) = true := bne_iff_ne.mpr c4
    by_cases c5 : (a0.size : Int) < 1
    ·rw [if_pos c5] at H
     have c5b0 : decide ((a0.size : Int) < 1) = true := decide_eq_true c5
     have c5b1 : decide (a0.size < 1) = true := decide_eq_true (by omega)
     clear c5
     have H' := Aside0.mk H
     clear H
     go_wp2
     go_meet
     case rel => exact ⟨_, (true), spec_IsName.a2, H', ⟨spec_IsName.a3⟩, spec_IsName.a1⟩
    ·rw [if_neg c5] at H
     have c5b0 : decide ((a0.size : Int) < 1) = false := decide_eq_false c5
     have c5b1 : decide (a0.size < 1) = false := decide_eq_false (by omega)
     clear c5
     by_cases c6 : (a0.size : Int) > 12
     ·rw [if_pos c6] at H
      have c6b0 : decide (12 < (a0.size : Int)) = true := decide_eq_true c6
      have c6b1 : decide (12 < a0.size) = true := decide_eq_true (by omega)
      clear c6
      have H' := Aside0.mk H
      clear H
      go_wp2
      go_meet
      case rel => exact ⟨_, (true), spec_IsName.a2, H', ⟨spec_IsName.a3⟩, spec_IsName.a1⟩
     ·rw [if_neg c6] at H
      have c6b0 : decide (12 < (a0.size : Int)) = false := decide_eq_false c6
      have c6b1 : decide (12 < a0.size) = false := decide_eq_false (by omega)
      clear c6
      by_cases c7 : 0 < (a0.size : Int)
      ·rw [if_pos c7] at H
       have c7b0 : decide (0 < (a0.size : Int)) = true := decide_eq_true c7
       have c7b1 : decide (0 < a0.size) = true := decide_eq_true (by omega)
       clear c7
       by_cases c9 : (bt a0 0) ≥ 97
       ·rw [if_pos c9] at H
        have c9b0 : decide (97 ≤ (bt a0 0)) = true := decide_eq_true c9
        clear c9
        by_cases c11 : (bt a0 0) ≤ 122
        ·rw [if_pos c11] at H
         have c11b0 : decide ((bt a0 0) ≤ 122) = true := decide_eq_true c11
         clear c11
         have H' := Aside0.mk H
         clear H
         have p8 : 0 ≤ (0 : Int) := (by omega)
         have q8 : 0 < a0.size := (by have : (0 : Int) < (a0.size : Int) := of_decide_eq_true spec_IsName.a0; omega)
         have hx8 : ∀ h : 0 < a0.size, ((a0[0]'h).toNat : Int) = bt a0 0 := bt_at a0 0
         clear p8
         have qi8 : (0 < (a0.size : Int)) = True := eq_true (of_decide_eq_true spec_IsName.a0)
         replace q8 := eq_true q8
         have p10 : 0 ≤ (0 : Int) := (by omega)
         have q10 : 0 < a0.size := (by have : (0 : Int) < (a0.size : Int) := of_decide_eq_true spec_IsName.a0; omega)
         have hx10 : ∀ h : 0 < a0.size, ((a0[0]'h).toNat : Int) = bt a0 0 := bt_at a0 0
         clear p10
         have qi10 : (0 < (a0.size : Int)) = True := eq_true (of_decide_eq_true spec_IsName.a0)
         replace q10 := eq_true q10
         go_wp2
         go_meet
         case rel => exact ⟨_, (!true), spec_IsName.a2, H', ⟨spec_IsName.a3⟩, spec_IsName.a1⟩
        ·rw [if_neg c11] at H
         have c11b0 : decide ((bt a0 0) ≤ 122) = false := decide_eq_false c11
         clear c11
         by_cases c13 : (bt a0 0) ≥ 65
         ·rw [if_pos c13] at H
          have c13b0 : decide (65 ≤ (bt a0 0)) = true := decide_eq_true c13
          clear c13
          have H' := Aside0.mk H
          clear H
          have p8 : 0 ≤ (0 : Int) := (by omega)
          have q8 : 0 < a0.size := (by have : (0 : Int) < (a0.size : Int) := of_decide_eq_true spec_IsName.a0; omega)
          have hx8 : ∀ h : 0 < a0.size, ((a0[0]'h).toNat : Int) = bt a0 0 := bt_at a0 0
          clear p8
          have qi8 : (0 < (a0.size : Int)) = True := eq_true (of_decide_eq_true spec_IsName.a0)
          replace q8 := eq_true q8
          have p10 : 0 ≤ (0 : Int) := (by omega)
          have q10 : 0 < a0.size := (by have : (0 : Int) < (a0.size : Int) := of_decide_eq_true spec_IsName.a0; omega)
          have hx10 : ∀ h : 0 < a0.size, ((a0[0]'h).toNat : Int) = bt a0 0 := bt_at a0 0
          clear p10
          have qi10 : (0 < (a0.size : Int)) = True := eq_true (of_decide_eq_true spec_IsName.a0)
          replace q10 := eq_true q10
          have p12 : 0 ≤ (0 : Int) := (by omega)
          have q12 : 0 < a0.size := (by have : (0 : Int) < (a0.size : Int) := of_decide_eq_true spec_IsName.a0; omega)
          have hx12 : ∀ h : 0 < a0.size, ((a0[0]'h).toNat : Int) = bt a0 0 := bt_at a0 0
          clear p12
          have qi12 : (0 < (a0.size : Int)) = True := eq_true (of_decide_eq_true spec_IsName.a0)
          replace q12 := eq_true q12
          have p14 : 0 ≤ (0 : Int) := (by omega)
          have q14 : 0 < a0.size := (by have : (0 : Int) < (a0.size : Int) := of_decide_eq_true spec_IsName.a0; omega)
          have hx14 : ∀ h : 0 < a0.size, ((a0[0]'h).toNat : Int) = bt a0 0 := bt_at a0 0
          clear p14
          have qi14 : (0 < (a0.size : Int)) = True := eq_true (of_decide_eq_true spec_IsName.a0)
          replace q14 := eq_true q14
          go_wp2
          go_meet
          case rel => exact ⟨_, (!(decide ((bt a0 0) ≤ 90))), spec_IsName.a2, H', ⟨spec_IsName.a3⟩, spec_IsName.a1⟩
         ·rw [if_neg c13] at H
          have c13b0 : decide (65 ≤ (bt a0 0)) = false := decide_eq_false c13
          clear c13
          have H' := Aside0.mk H
          clear H
          have p8 : 0 ≤ (0 : Int) := (by omega)
          have q8 : 0 < a0.size := (by have : (0 : Int) < (a0.size : Int) := of_decide_eq_true spec_IsName.a0; omega)
          have hx8 : ∀ h : 0 < a0.size, ((a0[0]'h).toNat : Int) = bt a0 0 := bt_at a0 0
          clear p8
          have qi8 : (0 < (a0.size : Int)) = True := eq_true (of_decide_eq_true spec_IsName.a0)
          replace q8 := eq_true q8
          have p10 : 0 ≤ (0 : Int) := (by omega)
          have q10 : 0 < a0.size := (by have : (0 : Int) < (a0.size : Int) := of_decide_eq_true spec_IsName.a0; omega)
          have hx10 : ∀ h : 0 < a0.size, ((a0[0]'h).toNat : Int) = bt a0 0 := bt_at a0 0
          clear p10
          have qi10 : (0 < (a0.size : Int)) = True := eq_true (of_decide_eq_true spec_IsName.a0)
          replace q10 := eq_true q10
          have p12 : 0 ≤ (0 : Int) := (by omega)
          have q12 : 0 < a0.size := (by have : (0 : Int) < (a0.size : Int) := of_decide_eq_true spec_IsName.a0; omega)
          have hx12 : ∀ h : 0 < a0.size, ((a0[0]'h).toNat : Int) = bt a0 0 := bt_at a0 0
          clear p12
          have qi12 : (0 < (a0.size : Int)) = True := eq_true (of_decide_eq_true spec_IsName.a0)
          replace q12 := eq_true q12
          go_wp2
          go_meet
          case rel => exact ⟨_, (!false), spec_IsName.a2, H', ⟨spec_IsName.a3⟩, spec_IsName.a1⟩
       ·rw [if_neg c9] at H
        have c9b0 : decide (97 ≤ (bt a0 0)) = false := decide_eq_false c9
        clear c9
        by_cases c16 : (bt a0 0) ≥ 65
        ·rw [if_pos c16] at H
         have c16b0 : decide (65 ≤ (bt a0 0)) = true := decide_eq_true c16
         clear c16
         have H' := Aside0.mk H
         clear H
         have p8 : 0 ≤ (0 : Int) := (by omega)
         have q8 : 0 < a0.size := (by have : (0 : Int) < (a0.size : Int) := of_decide_eq_true spec_IsName.a0; omega)
         have hx8 : ∀ h : 0 < a0.size, ((a0[0]'h).toNat : Int) = bt a0 0 := bt_at a0 0
         clear p8
         have qi8 : (0 < (a0.size : Int)) = True := eq_true (of_decide_eq_true spec_IsName.a0)
         replace q8 := eq_true q8
         have p15 : 0 ≤ (0 : Int) := (by omega)
         have q15 : 0 < a0.size := (by have : (0 : Int) < (a0.size : Int) := of_decide_eq_true spec_IsName.a0; omega)
         have hx15 : ∀ h : 0 < a0.size, ((a0[0]'h).toNat : Int) = bt a0 0 := bt_at a0 0
         clear p15
         have qi15 : (0 < (a0.size : Int)) = True := eq_true (of_decide_eq_true spec_IsName.a0)
         replace q15 := eq_true q15
         have p17 : 0 ≤ (0 : Int) := (by omega)
         have q17 : 0 < a0.size := (by have : (0 : Int) < (a0.size : Int) := of_decide_eq_true spec_IsName.a0; omega)
         have hx17 : ∀ h : 0 < a0.size, ((a0[0]'h).toNat : Int) = bt a0 0 := bt_at a0 0
         clear p17
         have qi17 : (0 < (a0.size : Int)) = True := eq_true (of_decide_eq_true spec_IsName.a0)
         replace q17 := eq_true q17
         go_wp2
         go_meet
         case rel => exact ⟨_, (!(decide ((bt a0 0) ≤ 90))), spec_IsName.a2, H', ⟨spec_IsName.a3⟩, spec_IsName.a1⟩
        ·rw [if_neg c16] at H
         have c16b0 : decide (65 ≤ (bt a0 0)) = false := decide_eq_false c16
         clear c16
         have H' := Aside0.mk H
         clear H
         have p8 : 0 ≤ (0 : Int) := (by omega)
         have q8 : 0 < a0.size := (by have : (0 : Int) < (a0.size : Int) := of_decide_eq_true spec_IsName.a0; omega)
         have hx8 : ∀ h : 0 < a0.size, ((a0[0]'h).toNat : Int) = bt a0 0 := bt_at a0 0
         clear p8
         have qi8 : (0 < (a0.size : Int)) = True := eq_true (of_decide_eq_true spec_IsName.a0)
         replace q8 := eq_true q8
         have p15 : 0 ≤ (0 : Int) := (by omega)
         have q15 : 0 < a0.size := (by have : (0 : Int) < (a0.size : Int) := of_decide_eq_true spec_IsName.a0; omega)
         have hx15 : ∀ h : 0 < a0.size, ((a0[0]'h).toNat : Int) = bt a0 0 := bt_at a0 0
         clear p15
         have qi15 : (0 < (a0.size : Int)) = True := eq_true (of_decide_eq_true spec_IsName.a0)
         replace q15 := eq_true q15
         go_wp2
         go_meet
         case rel => exact ⟨_, (!false), spec_IsName.a2, H', ⟨spec_IsName.a3⟩, spec_IsName.a1⟩
      ·rw [if_neg c7] at H
       exact absurd H (by simp)
 case rest =>
  clear HC2
  try clear c1
  try clear p1
  try clear q1
  try clear hx1
  try clear qi1
  try clear p2
  try clear c3
  try clear c3b0
  try clear c3b1
  try clear c4
  try clear c4b0
  try clear c4b1
  try clear c5
  try clear c5b0
  try clear c5b1
  try clear c6
  try clear c6b0
  try clear c6b1
  try clear c7
  try clear c7b0
  try clear c7b1
  try clear p8
  try clear q8
  try clear hx8
  try clear qi8
  try clear c9
  try clear c9b0
  try clear p10
  try clear q10
  try clear hx10
  try clear qi10
  try clear c11
  try clear c11b0
  try clear p12
  try clear q12
  try clear hx12
  try clear qi12
  try clear c13
  try clear c13b0
  try clear p14
  try clear q14
  try clear hx14
  try clear qi14
  try clear p15
  try clear q15
  try clear hx15
  try clear qi15
  try clear c16
  try clear c16b0
  try clear p17
  try clear q17
  try clear hx17
  try clear qi17
  try clear p10
  try clear p12
  try clear p14
  try clear p15
  try clear p17
  try clear p8
  try clear q10
  try clear q12
  try clear q14
  try clear q15
  try clear q17
  try clear q8
  obtain ⟨kq, x40_1, rfl, HA, HJ1, ⟨mc1, rfl⟩⟩ := hcut
  cases kq with
  | zero => exact absurd HA.out (by simp [spec_IsName.j0])
  | succ kj1 =>
   have H := HA.out
   clear HA
   simp only [spec_IsName.j0] at H
   by_cases c18 : x40_1 = true
   ·subst c18
    have H1 : (some false) = some r := by rw [if_pos rfl] at H; exact H
    clear H
    have H := H1
    clear H1
    obtain rfl := Option.some.inj H
    go_wp2
    go_ret
    exact ⟨spec_IsName.a2, spec_IsName.a1⟩
   ·replace c18 := Bool.eq_false_iff.mpr c18
    subst c18
    have H1 : (spec_IsName.l0 kj1 a0 0) = some r := by rw [if_neg (show ¬ (false = true) by decide)] at H; exact H
    clear H
    have H := H1
    clear H1
    have H' := Aside0.mk H
    clear H
    go_wp2
    go_loopg [3] kj1 (fun kq v3 w' => ∃ (x3_2 : Int), v3 = .int .i64 x3_2 ∧ Aside0 (spec_IsName.l0 kq a0 x3_2 = some r) ∧ Aside0 (kq ≤ kj1) ∧ Drawn0 w w')
    case atStart => exact ⟨(0), spec_IsName.a2, H', ⟨Nat.le_refl _⟩, spec_IsName.a1⟩
    case round =>
     clear H'
     try clear c1
     try clear p1
     try clear q1
     try clear hx1
     try clear qi1
     try clear p2
     try clear c3
     try clear c3b0
     try clear c3b1
     try clear c4
     try clear c4b0
     try clear c4b1
     try clear c5
     try clear c5b0
     try clear c5b1
     try clear c6
     try clear c6b0
     try clear c6b1
     try clear c7
     try clear c7b0
     try clear c7b1
     try clear p8
     try clear q8
     try clear hx8
     try clear qi8
     try clear c9
     try clear c9b0
     try clear p10
     try clear q10
     try clear hx10
     try clear qi10
     try clear c11
     try clear c11b0
     try clear p12
     try clear q12
     try clear hx12
     try clear qi12
     try clear c13
     try clear c13b0
     try clear p14
     try clear q14
     try clear hx14
     try clear qi14
     try clear p15
     try clear q15
     try clear hx15
     try clear qi15
     try clear c16
     try clear c16b0
     try clear p17
     try clear q17
     try clear hx17
     try clear qi17
     try clear c18
     try clear p1
     try clear p10
     try clear p12
     try clear p14
     try clear p15
     try clear p17
     try clear p2
     try clear p8
     try clear q1
     try clear q10
     try clear q12
     try clear q14
     try clear q15
     try clear q17
     try clear q8
     obtain ⟨x3_2, rfl, HA, HK2, ⟨m2, rfl⟩⟩ := hrel
     cases gk with
     | zero => exact absurd HA.out (by simp [spec_IsName.l0])
     | succ k2 =>
      have H := HA.out
      clear HA
      simp only [spec_IsName.l0] at H
      by_cases c19 : x3_2 < (a0.size : Int)
      ·rw [if_pos c19] at H
       have c19b0 : decide (x3_2 < (a0.size : Int)) = true := decide_eq_true c19
       clear c19
       by_cases c20 : 0 ≤ x3_2
       ·rw [if_pos c20] at H
        have c20b0 : decide (0 ≤ x3_2) = true := decide_eq_true c20
        clear c20
        by_cases c22 : (bt a0 x3_2) ≥ 97
        ·rw [if_pos c22] at H
         have c22b0 : decide (97 ≤ (bt a0 x3_2)) = true := decide_eq_true c22
         clear c22
         by_cases c24 : (bt a0 x3_2) ≤ 122
         ·rw [if_pos c24] at H
          have c24b0 : decide ((bt a0 x3_2) ≤ 122) = true := decide_eq_true c24
          clear c24
          have H' := Aside0.mk H
          clear H
          have p21 : 0 ≤ (x3_2 : Int) := of_decide_eq_true spec_IsName.a0
          have q21 : x3_2 < (a0.size : Int) := of_decide_eq_true spec_IsName.a0
          have hx21 := bt_at a0 x3_2
          replace p21 := eq_true p21
          replace q21 := eq_true q21
          have p23 : 0 ≤ (x3_2 : Int) := of_decide_eq_true spec_IsName.a0
          have q23 : x3_2 < (a0.size : Int) := of_decide_eq_true spec_IsName.a0
          have hx23 := bt_at a0 x3_2
          replace p23 := eq_true p23
          replace q23 := eq_true q23
          go_wp2
          go_roundg k2
          case measure => have := HJ1.out; have := HK2.out; omega
          case rel => exact ⟨(wrap64 (x3_2 + 1)), spec_IsName.a2, H', ⟨spec_IsName.a4⟩, spec_IsName.a1⟩
         ·rw [if_neg c24] at H
          have c24b0 : decide ((bt a0 x3_2) ≤ 122) = false := decide_eq_false c24
          clear c24
          by_cases c26 : (bt a0 x3_2) ≥ 65
          ·rw [if_pos c26] at H
           have c26b0 : decide (65 ≤ (bt a0 x3_2)) = true := decide_eq_true c26
           clear c26
           by_cases c28 : (bt a0 x3_2) ≤ 90
           ·rw [if_pos c28] at H
            have c28b0 : decide ((bt a0 x3_2) ≤ 90) = true := decide_eq_true c28
            clear c28
            have H' := Aside0.mk H
            clear H
            have p21 : 0 ≤ (x3_2 : Int) := of_decide_eq_true spec_IsName.a0
            have q21 : x3_2 < (a0.size : Int) := of_decide_eq_true spec_IsName.a0
            have hx21 := bt_at a0 x3_2
            replace p21 := eq_true p21
            replace q21 := eq_true q21
            have p23 : 0 ≤ (x3_2 : Int) := of_decide_eq_true spec_IsName.a0
            have q23 : x3_2 < (a0.size : Int) := of_decide_eq_true spec_IsName.a0
            have hx23 := bt_at a0 x3_2
            replace p23 := eq_true p23
            replace q23 := eq_true q23
            have p25 : 0 ≤ (x3_2 : Int) := of_decide_eq_true spec_IsName.a0
            have q25 : x3_2 < (a0.size : Int) := of_decide_eq_true spec_IsName.a0
            have hx25 := bt_at a0 x3_2
            replace p25 := eq_true p25
            replace q25 := eq_true q25
            have p27 : 0 ≤ (x3_2 : Int) := of_decide_eq_true spec_IsName.a0
            have q27 : x3_2 < (a0.size : Int) := of_decide_eq_true spec_IsName.a0
            have hx27 := bt_at a0 x3_2
            replace p27 := eq_true p27
            replace q27 := eq_true q27
            go_wp2
            go_roundg k2
            case measure => have := HJ1.out; have := HK2.out; omega
            case rel => exact ⟨(wrap64 (x3_2 + 1)), spec_IsName.a2, H', ⟨spec_IsName.a4⟩, spec_IsName.a1⟩
           ·rw [if_neg c28] at H
            have c28b0 : decide ((bt a0 x3_2) ≤ 90) = false := decide_eq_false c28
            clear c28
            by_cases c30 : (bt a0 x3_2) ≥ 48
            ·rw [if_pos c30] at H
             have c30b0 : decide (48 ≤ (bt a0 x3_2)) = true := decide_eq_true c30
             clear c30
             by_cases c32 : ((bt a0 x3_2) ≤ 57)
             ·rw [if_pos c32] at H
              have c32b0 : decide ((bt a0 x3_2) ≤ 57) = true := decide_eq_true c32
              clear c32
              have H' := Aside0.mk H
              clear H
              have p21 : 0 ≤ (x3_2 : Int) := of_decide_eq_true spec_IsName.a0
              have q21 : x3_2 < (a0.size : Int) := of_decide_eq_true spec_IsName.a0
              have hx21 := bt_at a0 x3_2
              replace p21 := eq_true p21
              replace q21 := eq_true q21
              have p23 : 0 ≤ (x3_2 : Int) := of_decide_eq_true spec_IsName.a0
              have q23 : x3_2 < (a0.size : Int) := of_decide_eq_true spec_IsName.a0
              have hx23 := bt_at a0 x3_2
              replace p23 := eq_true p23
              replace q23 := eq_true q23
              have p25 : 0 ≤ (x3_2 : Int) := of_decide_eq_true spec_IsName.a0
              have q25 : x3_2 < (a0.size : Int) := of_decide_eq_true spec_IsName.a0
              have hx25 := bt_at a0 x3_2
              replace p25 := eq_true p25
              replace q25 := eq_true q25
              have p27 : 0 ≤ (x3_2 : Int) := of_decide_eq_true spec_IsName.a0
              have q27 : x3_2 < (a0.size : Int) := of_decide_eq_true spec_IsName.a0
              have hx27 := bt_at a0 x3_2
              replace p27 := eq_true p27
              replace q27 := eq_true q27
              have p29 : 0 ≤ (x3_2 : Int) := of_decide_eq_true spec_IsName.a0
              have q29 : x3_2 < (a0.size : Int) := of_decide_eq_true spec_IsName.a0
              have hx29 := bt_at a0 x3_2
              replace p29 := eq_true p29
              replace q29 := eq_true q29
              have p31 : 0 ≤ (x3_2 : Int) := of_decide_eq_true spec_IsName.a0
              have q31 : x3_2 < (a0.size : Int) := of_decide_eq_true spec_IsName.a0
              have hx31 := bt_at a0 x3_2
              replace p31 := eq_true p31
              replace q31 := eq_true q31
              go_wp2
              go_roundg k2
              case measure => have := HJ1.out; have := HK2.out; omega
              case rel => exact ⟨(wrap64 (x3_2 + 1)), spec_IsName.a2, H', ⟨spec_IsName.a4⟩, spec_IsName.a1⟩
             ·rw [if_neg c32] at H
              have c32b0 : decide ((bt a0 x3_2) ≤ 57) = false := decide_eq_false c32
              clear c32
              obtain rfl := Option.some.inj H
              have p21 : 0 ≤ (x3_2 : Int) := of_decide_eq_true spec_IsName.a0
              have q21 : x3_2 < (a0.size : Int) := of_decide_eq_true spec_IsName.a0
              have hx21 := bt_at a0 x3_2
              replace p21 := eq_true p21
              replace q21 := eq_true q21
              have p23 : 0 ≤ (x3_2 : Int) := of_decide_eq_true spec_IsName.a0
              have q23 : x3_2 < (a0.size : Int) := of_decide_eq_true spec_IsName.a0
              have hx23 := bt_at a0 x3_2
              replace p23 := eq_true p23
              replace q23 := eq_true q23
              have p25 : 0 ≤ (x3_2 : Int) := of_decide_eq_true spec_IsName.a0
              have q25 : x3_2 < (a0.size : Int) := of_decide_eq_true spec_IsName.a0
              have hx25 := bt_at a0 x3_2
              replace p25 := eq_true p25
              replace q25 := eq_true q25
              have p27 : 0 ≤ (x3_2 : Int) := of_decide_eq_true spec_IsName.a0
              have q27 : x3_2 < (a0.size : Int) := of_decide_eq_true spec_IsName.a0
              have hx27 := bt_at a0 x3_2
              replace p27 := eq_true p27
              replace q27 := eq_true q27
              have p29 : 0 ≤ (x3_2 : Int) := of_decide_eq_true spec_IsName.a0
              have q29 : x3_2 < (a0.size : Int) := of_decide_eq_true spec_IsName.a0
              have hx29 := bt_at a0 x3_2
              replace p29 := eq_true p29
              replace q29 := eq_true q29
              have p31 : 0 ≤ (x3_2 : Int) := of_decide_eq_true spec_IsName.a0
              have q31 : x3_2 < (a0.size : Int) := of_decide_eq_true spec_IsName.a0
              have hx31 := bt_at a0 x3_2
              replace p31 := eq_true p31
              replace q31 := eq_true q31
              go_wp2
              go_ret
              exact ⟨spec_IsName.a2, spec_IsName.a1⟩
            ·rw [if_neg c30] at H
             have c30b0 : decide (48 ≤ (bt a0 x3_2)) = false := decide_eq_false c30
             clear c30
             obtain rfl := Option.some.inj H
             have p21 : 0 ≤ (x3_2 : Int) := of_decide_eq_true spec_IsName.a0
             have q21 : x3_2 < (a0.size : Int) := of_decide_eq_true spec_IsName.a0
             have hx21 := bt_at a0 x3_2
             replace p21 := eq_true p21
             replace q21 := eq_true q21
             have p23 : 0 ≤ (x3_2 : Int) := of_decide_eq_true spec_IsName.a0
             have q23 : x3_2 < (a0.size : Int) := of_decide_eq_true spec_IsName.a0
             have hx23 := bt_at a0 x3_2
             replace p23 := eq_true p23
             replace q23 := eq_true q23
             have p25 : 0 ≤ (x3_2 : Int) := of_decide_eq_true spec_IsName.a0
             have q25 : x3_2 < (a0.size : Int) := of_decide_eq_true spec_IsName.a0
             have hx25 := bt_at a0 x3_2
             replace p25 := eq_true p25
             replace q25 := eq_true q25
             have p27 : 0 ≤ (x3_2 : Int) := of_decide_eq_true spec_IsName.a0
             have q27 : x3_2 < (a0.size : Int) := of_decide_eq_true spec_IsName.a0
             have hx27 := bt_at a0 x3_2
             replace p27 := eq_true p27
             replace q27 := eq_true q27
             have p29 : 0 ≤ (x3_2 : Int) := of_decide_eq_true spec_IsName.a0
             have q29 : x3_2 < (a0.size : Int) := of_decide_eq_true spec_IsName.a0
             have hx29 := bt_at a0 x3_2
             replace p29 := eq_true p29
             replace q29 := eq_true q29
             go_wp2
             go_ret
             exact ⟨spec_IsName.a2, spec_IsName.a1⟩
          ·rw [if_neg c26] at H
           have c26b0 : decide (65 ≤ (bt a0 x3_2)) = false := decide_eq_false c26
           clear c26
           by_cases c34 : (bt a0 x3_2) ≥ 48
           ·rw [if_pos c34] at H
            have c34b0 : decide (48 ≤ (bt a0 x3_2)) = true := decide_eq_true c34
            clear c34
            by_cases c36 : ((bt a0 x3_2) ≤ 57)
            ·rw [if_pos c36] at H
             have c36b0 : decide ((bt a0 x3_2) ≤ 57) = true := decide_eq_true c36
             clear c36
             have H' := Aside0.mk H
             clear H
             have p21 : 0 ≤ (x3_2 : Int) := of_decide_eq_true spec_IsName.a0
             have q21 : x3_2 < (a0.size : Int) := of_decide_eq_true spec_IsName.a0
             have hx21 := bt_at a0 x3_2
             replace p21 := eq_true p21
             replace q21 := eq_true q21
             have p23 : 0 ≤ (x3_2 : Int) := of_decide_eq_true spec_IsName.a0
             have q23 : x3_2 < (a0.size : Int) := of_decide_eq_true spec_IsName.a0
             have hx23 := bt_at a0 x3_2
             replace p23 := eq_true p23
             replace q23 := eq_true q23
             have p25 : 0 ≤ (x3_2 : Int) := of_decide_eq_true spec_IsName.a0
             have q25 : x3_2 < (a0.size : Int) := of_decide_eq_true spec_IsName.a0
             have hx25 := bt_at a0 x3_2
             replace p25 := eq_true p25
             replace q25 := eq_true q25
             have p33 : 0 ≤ (x3_2 : Int) := of_decide_eq_true spec_IsName.a0
             have q33 : x3_2 < (a0.size : Int) := of_decide_eq_true spec_IsName.a0
             have hx33 := bt_at a0 x3_2
             replace p33 := eq_true p33
             replace q33 := eq_true q33
             have p35 : 0 ≤ (x3_2 : Int) := of_decide_eq_true spec_IsName.a0
             have q35 : x3_2 < (a0.size : Int) := of_decide_eq_true spec_IsName.a0
             have hx35 := bt_at a0 x3_2
             replace p35 := eq_true p35
             replace q35 := eq_true q35
             go_wp2
             go_roundg k2
             case measure => have := HJ1.out; have := HK2.out; omega
             case rel => exact ⟨(wrap64 (x3_2 + 1)), spec_IsName.a2, H', ⟨spec_IsName.a4⟩, spec_IsName.a1⟩
            ·rw [if_neg c36] at H
             have c36b0 : decide ((bt a0 x3_2) ≤ 57) = false := decide_eq_false c36
             clear c36
             obtain rfl := Option.some.inj H
             have p21 : 0 ≤ (x3_2 : Int) := of_decide_eq_true spec_IsName.a0
             have q21 : x3_2 < (a0.size : Int) := of_decide_eq_true spec_IsName.a0
             have hx21 := bt_at a0 x3_2
             replace p21 := eq_true p21
             replace q21 := eq_true q21
             have p23 : 0 ≤ (x3_2 : Int) := of_decide_eq_true spec_IsName.a0
             have q23 : x3_2 < (a0.size : Int) := of_decide_eq_true spec_IsName.a0
             have hx23 := bt_at a0 x3_2
             replace p23 := eq_true p23
             replace q23 := eq_true q23
             have p25 : 0 ≤ (x3_2 : Int) := of_decide_eq_true spec_IsName.a0
             have q25 : x3_2 < (a0.size : Int) := of_decide_eq_true spec_IsName.a0
             have hx25 := bt_at a0 x3_2
             replace p25 := eq_true p25
             replace q25 := eq_true q25
             have p33 : 0 ≤ (x3_2 : Int) := of_decide_eq_true spec_IsName.a0
             have q33 : x3_2 < (a0.size : Int) := of_decide_eq_true spec_IsName.a0
             have hx33 := bt_at a0 x3_2
             replace p33 := eq_true p33
             replace q33 := eq_true q33
             have p35 : 0 ≤ (x3_2 : Int) := of_decide_eq_true spec_IsName.a0
             have q35 : x3_2 < (a0.size : Int) := of_decide_eq_true spec_IsName.a0
             have hx35 := bt_at a0 x3_2
             replace p35 := eq_true p35
             replace q35 := eq_true q35
             go_wp2
             go_ret
             exact ⟨spec_IsName.a2, spec_IsName.a1⟩
           ·rw [if_neg c34] at H
            have c34b0 : decide (48 ≤ (bt a0 x3_2)) = false := decide_eq_false c34
            clear c34
            obtain rfl := Option.some.inj H
            have p21 : 0 ≤ (x3_2 : Int) := of_decide_eq_true spec_IsName.a0
            have q21 : x3_2 < (a0.size : Int) := of_decide_eq_true spec_IsName.a0
            have hx21 := bt_at a0 x3_2
            replace p21 := eq_true p21
            replace q21 := eq_true q21
            have p23 : 0 ≤ (x3_2 : Int) := of_decide_eq_true spec_IsName.a0
            have q23 : x3_2 < (a0.size : Int) := of_decide_eq_true spec_IsName.a0
            have hx23 := bt_at a0 x3_2
            replace p23 := eq_true p23
            replace q23 := eq_true q23
            have p25 : 0 ≤ (x3_2 : Int) := of_decide_eq_true spec_IsName.a0
            have q25 : x3_2 < (a0.size : Int) := of_decide_eq_true spec_IsName.a0
            have hx25 := bt_at a0 x3_2
            replace p25 := eq_true p25
            replace q25 := eq_true q25
            have p33 : 0 ≤ (x3_2 : Int) := of_decide_eq_true spec_IsName.a0
            have q33 : x3_2 < (a0.size : Int) := of_decide_eq_true spec_IsName.a0
            have hx33 := bt_at a0 x3_2
            replace p33 := eq_true p33
            replace q33 := eq_true q33
            go_wp2
            go_ret
            exact ⟨spec_IsName.a2, spec_IsName.a1⟩
        ·rw [if_neg c22] at H
         have c22b0 : decide (97 ≤ (bt a0 x3_2)) = false := decide_eq_false c22
         clear c22
         by_cases c38 : (bt a0 x3_2) ≥ 65
         ·rw [if_pos c38] at H
          have c38b0 : decide (65 ≤ (bt a0 x3_2)) = true := decide_eq_true c38
          clear c38
          by_cases c40 : (bt a0 x3_2) ≤ 90
          ·rw [if_pos c40] at H
           have c40b0 : decide ((bt a0 x3_2) ≤ 90) = true := decide_eq_true c40
           clear c40
           have H' := Aside0.mk H
           clear H
           have p21 : 0 ≤ (x3_2 : Int) := of_decide_eq_true spec_IsName.a0
           have q21 : x3_2 < (a0.size : Int) := of_decide_eq_true spec_IsName.a0
           have hx21 := bt_at a0 x3_2
           replace p21 := eq_true p21
           replace q21 := eq_true q21
           have p37 : 0 ≤ (x3_2 : Int) := of_decide_eq_true spec_IsName.a0
           have q37 : x3_2 < (a0.size : Int) := of_decide_eq_true spec_IsName.a0
           have hx37 := bt_at a0 x3_2
           replace p37 := eq_true p37
           replace q37 := eq_true q37
           have p39 : 0 ≤ (x3_2 : Int) := of_decide_eq_true spec_IsName.a0
           have q39 : x3_2 < (a0.size : Int) := of_decide_eq_true spec_IsName.a0
           have hx39 := bt_at a0 x3_2
           replace p39 := eq_true p39
           replace q39 := eq_true q39
           go_wp2
           go_roundg k2
           case measure => have := HJ1.out; have := HK2.out; omega
           case rel => exact ⟨(wrap64 (x3_2 + 1)), spec_IsName.a2, H', ⟨spec_IsName.a4⟩, spec_IsName.a1⟩
          ·rw [if_neg c40] at H
           have c40b0 : decide ((bt a0 x3_2) ≤ 90) = false := decide_eq_false c40
           clear c40
           by_cases c42 : (bt a0 x3_2) ≥ 48
           ·rw [if_pos c42] at H
            have c42b0 : decide (48 ≤ (bt a0 x3_2)) = true := decide_eq_true c42
            clear c42
            by_cases c44 : ((bt a0 x3_2) ≤ 57)
            ·rw [if_pos c44] at H
             have c44b0 : decide ((bt a0 x3_2) ≤ 57) = true := decide_eq_true c44
             clear c44
             have H' := Aside0.mk H
             clear H
             have p21 : 0 ≤ (x3_2 : Int) := of_decide_eq_true spec_IsName.a0
             have q21 : x3_2 < (a0.size : Int) := of_decide_eq_true spec_IsName.a0
             have hx21 := bt_at a0 x3_2
             replace p21 := eq_true p21
             replace q21 := eq_true q21
             have p37 : 0 ≤ (x3_2 : Int) := of_decide_eq_true spec_IsName.a0
             have q37 : x3_2 < (a0.size : Int) := of_decide_eq_true spec_IsName.a0
             have hx37 := bt_at a0 x3_2
             replace p37 := eq_true p37
             replace q37 := eq_true q37
             have p39 : 0 ≤ (x3_2 : Int) := of_decide_eq_true spec_IsName.a0
             have q39 : x3_2 < (a0.size : Int) := of_decide_eq_true spec_IsName.a0
             have hx39 := bt_at a0 x3_2
             replace p39 := eq_true p39
             replace q39 := eq_true q39
             have p41 : 0 ≤ (x3_2 : Int) := of_decide_eq_true spec_IsName.a0
             have q41 : x3_2 < (a0.size : Int) := of_decide_eq_true spec_IsName.a0
             have hx41 := bt_at a0 x3_2
             replace p41 := eq_true p41
             replace q41 := eq_true q41
             have p43 : 0 ≤ (x3_2 : Int) := of_decide_eq_true spec_IsName.a0
             have q43 : x3_2 < (a0.size : Int) := of_decide_eq_true spec_IsName.a0
             have hx43 := bt_at a0 x3_2
             replace p43 := eq_true p43
             replace q43 := eq_true q43
             go_wp2
             go_roundg k2
             case measure => have := HJ1.out; have := HK2.out; omega
             case rel => exact ⟨(wrap64 (x3_2 + 1)), spec_IsName.a2, H', ⟨spec_IsName.a4⟩, spec_IsName.a1⟩
            ·rw [if_neg c44] at H
             have c44b0 : decide ((bt a0 x3_2) ≤ 57) = false := decide_eq_false c44
             clear c44
             obtain rfl := Option.some.inj H
             have p21 : 0 ≤ (x3_2 : Int) := of_decide_eq_true spec_IsName.a0
             have q21 : x3_2 < (a0.size : Int) := of_decide_eq_true spec_IsName.a0
             have hx21 := bt_at a0 x3_2
             replace p21 := eq_true p21
             replace q21 := eq_true q21
             have p37 : 0 ≤ (x3_2 : Int) := of_decide_eq_true spec_IsName.a0
             have q37 : x3_2 < (a0.size : Int) := of_decide_eq_true spec_IsName.a0
             have hx37 := bt_at a0 x3_2
             replace p37 := eq_true p37
             replace q37 := eq_true q37
             have p39 : 0 ≤ (x3_2 : Int) := of_decide_eq_true spec_IsName.a0
             have q39 : x3_2 < (a0.size : Int) := of_decide_eq_true spec_IsName.a0
             have hx39 := bt_at a0 x3_2
             replace p39 := eq_true p39
             replace q39 := eq_true q39
             have p41 : 0 ≤ (x3_2 : Int) := of_decide_eq_true spec_IsName.a0
             have q41 : x3_2 < (a0.size : Int) := of_decide_eq_true spec_IsName.a0
             have hx41 := bt_at a0 x3_2
             replace p41 := eq_true p41
             replace q41 := eq_true q41
             have p43 : 0 ≤ (x3_2 : Int) := of_decide_eq_true spec_IsName.a0
             have q43 : x3_2 < (a0.size : Int) := of_decide_eq_true spec_IsName.a0
             have hx43 := bt_at a0 x3_2
             replace p43 := eq_true p43
             replace q43 := eq_true q43
             go_wp2
             go_ret
             exact ⟨spec_IsName.a2, spec_IsName.a1⟩
           ·rw [if_neg c42] at H
            have c42b0 : decide (48 ≤ (bt a0 x3_2)) = false := decide_eq_false c42
            clear c42
            obtain rfl := Option.some.inj H
            have p21 : 0 ≤ (x3_2 : Int) := of_decide_eq_true spec_IsName.a0
            have q21 : x3_2 < (a0.size : Int) := of_decide_eq_true spec_IsName.a0
            have hx21 := bt_at a0 x3_2
            replace p21 := eq_true p21
            replace q21 := eq_true q21
            have p37 : 0 ≤ (x3_2 : Int) := of_decide_eq_true spec_IsName.a0
            have q37 : x3_2 < (a0.size : Int) := of_decide_eq_true spec_IsName.a0
            have hx37 := bt_at a0 x3_2
            replace p37 := eq_true p37
            replace q37 := eq_true q37
            have p39 : 0 ≤ (x3_2 : Int) := of_decide_eq_true spec_IsName.a0
            have q39 : x3_2 < (a0.size : Int) := of_decide_eq_true spec_IsName.a0
            have hx39 := bt_at a0 x3_2
            replace p39 := eq_true p39
            replace q39 := eq_true q39
            have p41 : 0 ≤ (x3_2 : Int) := of_decide_eq_true spec_IsName.a0
            have q41 : x3_2 < (a0.size : Int) := of_decide_eq_true spec_IsName.a0
            have hx41 := bt_at a0 x3_2
            replace p41 := eq_true p41
            replace q41 := eq_true q41
            go_wp2
            go_ret
            exact ⟨spec_IsName.a2, spec_IsName.a1⟩
         ·rw [if_neg c38] at H
          have c38b0 : decide (65 ≤ (bt a0 x3_2)) = false := decide_eq_false c38
          clear c38
          by_cases c46 : (bt a0 x3_2) ≥ 48
          ·rw [if_pos c46] at H
           have c46b0 : decide (48 ≤ (bt a0 x3_2)) = true := decide_eq_true c46
           clear c46
           by_cases c48 : ((bt a0 x3_2) ≤ 57)
           ·rw [if_pos c48] at H
            have c48b0 : decide ((bt a0 x3_2) ≤ 57) = true := decide_eq_true c48
            clear c48
            have H' := Aside0.mk H
            clear H
            have p21 : 0 ≤ (x3_2 : Int) := of_decide_eq_true spec_IsName.a0
            have q21 : x3_2 < (a0.size : Int) := of_decide_eq_true spec_IsName.a0
            have hx21 := bt_at a0 x3_2
            replace p21 := eq_true p21
            replace q21 := eq_true q21
            have p37 : 0 ≤ (x3_2 : Int) := of_decide_eq_true spec_IsName.a0
            have q37 : x3_2 < (a0.size : Int) := of_decide_eq_true spec_IsName.a0
            have hx37 := bt_at a0 x3_2
            replace p37 := eq_true p37
            replace q37 := eq_true q37
            have p45 : 0 ≤ (x3_2 : Int) := of_decide_eq_true spec_IsName.a0
            have q45 : x3_2 < (a0.size : Int) := of_decide_eq_true spec_IsName.a0
            have hx45 := bt_at a0 x3_2
            replace p45 := eq_true p45
            replace q45 := eq_true q45
            have p47 : 0 ≤ (x3_2 : Int) := of_decide_eq_true spec_IsName.a0
            have q47 : x3_2 < (a0.size : Int) := of_decide_eq_true spec_IsName.a0
            have hx47 := bt_at a0 x3_2
            replace p47 := eq_true p47
            replace q47 := eq_true q47
            go_wp2
            go_roundg k2
            case measure => have := HJ1.out; have := HK2.out; omega
            case rel => exact ⟨(wrap64 (x3_2 + 1)), spec_IsName.a2, H', ⟨spec_IsName.a4⟩, spec_IsName.a1⟩
           ·rw [if_neg c48] at H
            have c48b0 : decide ((bt a0 x3_2) ≤ 57) = false := decide_eq_false c48
            clear c48
            obtain rfl := Option.some.inj H
            have p21 : 0 ≤ (x3_2 : Int) := of_decide_eq_true spec_IsName.a0
            have q21 : x3_2 < (a0.size : Int) := of_decide_eq_true spec_IsName.a0
            have hx21 := bt_at a0 x3_2
            replace p21 := eq_true p21
            replace q21 := eq_true q21
            have p37 : 0 ≤ (x3_2 : Int) := of_decide_eq_true spec_IsName.a0
            have q37 : x3_2 < (a0.size : Int) := of_decide_eq_true spec_IsName.a0
            have hx37 := bt_at a0 x3_2
            replace p37 := eq_true p37
            replace q37 := eq_true q37
            have p45 : 0 ≤ (x3_2 : Int) := of_decide_eq_true spec_IsName.a0
            have q45 : x3_2 < (a0.size : Int) := of_decide_eq_true spec_IsName.a0
            have hx45 := bt_at a0 x3_2
            replace p45 := eq_true p45
            replace q45 := eq_true q45
            have p47 : 0 ≤ (x3_2 : Int) := of_decide_eq_true spec_IsName.a0
            have q47 : x3_2 < (a0.size : Int) := of_decide_eq_true spec_IsName.a0
            have hx47 := bt_at a0 x3_2
            replace p47 := eq_true p47
            replace q47 := eq_true q47
            go_wp2
            go_ret
            exact ⟨spec_IsName.a2, spec_IsName.a1⟩
          ·rw [if_neg c46] at H
           have c46b0 : decide (48 ≤ (bt a0 x3_2)) = false := decide_eq_false c46
           clear c46
           obtain rfl := Option.some.inj H
           have p21 : 0 ≤ (x3_2 : Int) := of_decide_eq_true spec_IsName.a0
           have q21 : x3_2 < (a0.size : Int) := of_decide_eq_true spec_IsName.a0
           have hx21 := bt_at a0 x3_2
           replace p21 := eq_true p21
           replace q21 := eq_true q21
           have p37 : 0 ≤ (x3_2 : Int) := of_decide_eq_true spec_IsName.a0
           have q37 : x3_2 < (a0.size : Int) := of_decide_eq_true spec_IsName.a0
           have hx37 := bt_at a0 x3_2
           replace p37 := eq_true p37
           replace q37 := eq_true q37
           have p45 : 0 ≤ (x3_2 : Int) := of_decide_eq_true spec_IsName.a0
           have q45 : x3_2 < (a0.size : Int) := of_decide_eq_true spec_IsName.a0
           have hx45 := bt_at a0 x3_2
           replace p45 := eq_true p45
           replace q45 := eq_true q45
           go_wp2
           go_ret
           exact ⟨spec_IsName.a2, spec_IsName.a1⟩
       ·rw [if_neg c20] at H
        exact absurd H (by simp)
      ·rw [if_neg c19] at H
       have c19b0 : decide (x3_2 < (a0.size : Int)) = false := decide_eq_false c19
       clear c19
       obtain rfl := Option.some.inj H
       go_wp2
       go_ret
       exact ⟨spec_IsName.a2, spec_IsName.a1⟩

end Go.Proofs.Ytlpkicbmcpmemaa.Q

