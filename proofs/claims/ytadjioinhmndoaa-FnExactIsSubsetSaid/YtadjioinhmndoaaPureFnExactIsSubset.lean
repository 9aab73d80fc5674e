/- The statement FnExactIsSubset over numbers and lists alone: what the printed functions of the law come to is true, for every input. -/
import Derived.Test.YtadjioinhmndoaaPFnExactIsSubsetx1
import Derived.Test.YtadjioinhmndoaaPb
set_option linter.unusedVariables false
set_option linter.unusedSimpArgs false
namespace Go.Proofs.Ytadjioinhmndoaa.Pure
open Go.RowKit Go.Proofs.Ytadjioinhmndoaa.PFnExactIsSubset Go.Proofs.YtadjioinhmndoaaW.PrintWords Go.Proofs.YtadjioinhmndoaaW.PrintLast Go.Proofs.YtadjioinhmndoaaW.PrintMore Go.Proofs.Ytadjioinhmndoaa.Pb

theorem FnExactIsSubset : laws_FnExactIsSubset.Pure := by
  intro a b wa wb
  have ha := wf64 wa
  have hb := wf64 wb
  unfold laws_FnExactIsSubset.f spec_IsSubset.f impl_IsSubset.f spec_l2Ok.f impl_isSet.f
  by_cases h1 : 0 ≤ a ∧ a ≤ 65535
  · by_cases h2 : 0 ≤ b ∧ b ≤ 65535
    · obtain ⟨m, rfl⟩ := nat_of h1.1
      obtain ⟨n, rfl⟩ := nat_of h2.1
      have hm : m < 2 ^ 63 := by omega
      have hn : n < 2 ^ 63 := by omega
      rw [and64 m n hm hn, andNot64 m n hm hn]
      have e := andNot_zero m n hm hn
      have e1 : (((m &&& n : Nat) : Int) == (m : Int)) = (((m &&& (18446744073709551615 - n) : Nat) : Int) == 0) := by
        rw [Bool.eq_iff_iff]
        simp only [beq_iff_eq]
        generalize m &&& (18446744073709551615 - n) = z at *
        generalize m &&& n = y at *
        omega
      have g1 : (m : Int) < 65536 := by omega
      have g2 : (n : Int) < 65536 := by omega
      simp [h1, h2, g1, g2, e1]
    · rcases Int.lt_or_le b 0 with g | g
      · have : ¬ b ≥ 0 := by omega
        simp [this, h1]
      · have g2 : ¬ b ≤ 65535 := by omega
        have g3 : ¬ b < 65536 := by omega
        have g1 : a < 65536 := by omega
        simp [g, g2, g3, h1, g1]
  · rcases Int.lt_or_le a 0 with g | g
    · have : ¬ a ≥ 0 := by omega
      simp [this]
    · have g2 : ¬ a ≤ 65535 := by omega
      have g3 : ¬ a < 65536 := by omega
      simp [g, g2, g3]

end Go.Proofs.Ytadjioinhmndoaa.Pure
