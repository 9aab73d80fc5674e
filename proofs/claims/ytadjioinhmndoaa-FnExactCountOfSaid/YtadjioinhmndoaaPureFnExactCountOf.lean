/- The statement FnExactCountOf over numbers and lists alone: what the printed functions of the law come to is true, for every input. -/
import Derived.Test.YtadjioinhmndoaaPFnExactCountOfx1
import Derived.Test.YtadjioinhmndoaaPb
set_option linter.unusedVariables false
set_option linter.unusedSimpArgs false
namespace Go.Proofs.Ytadjioinhmndoaa.Pure
open Go.RowKit Go.Proofs.Ytadjioinhmndoaa.PFnExactCountOf Go.Proofs.YtadjioinhmndoaaW.PrintWords Go.Proofs.YtadjioinhmndoaaW.PrintLast Go.Proofs.YtadjioinhmndoaaW.PrintMore Go.Proofs.Ytadjioinhmndoaa.Pb

theorem l2Ok_eq (a : Int) : spec_l2Ok.f a = some (decide (0 ≤ a ∧ a ≤ 65535)) := by
  unfold spec_l2Ok.f
  split
  · simp only [Option.some.injEq, decide_eq_decide]; omega
  · simp; omega

theorem l2Has_eq (m i : Nat) (hm : m < 2 ^ 63) (hi : i < 16) : spec_l2Has.f (m : Int) (i : Int) = some (m.testBit i) := by
  unfold spec_l2Has.f
  rw [if_pos (by omega), if_pos (by omega), u64w (by omega) (by omega), if_pos (by omega), shr64 m i (by omega)]
  have h1 : m / 2 ^ i < 2 ^ 63 := Nat.lt_of_le_of_lt (Nat.div_le_self ..) hm
  have := and64 (m / 2 ^ i) 1 h1 (by omega)
  rw [show ((1 : Nat) : Int) = 1 from rfl] at this
  rw [this, div_and_one]
  cases h : m.testBit i <;> simp

theorem spec_ListOf.loop (m : Nat) (hm : m ≤ 65535) (d : Nat) : ∀ (i : Nat) (out : List Int), 16 - i = d → i ≤ 16 → out.length ≤ i →
    Ev (fun k => spec_ListOf.l0 k (m : Int) out (i : Int)) (out ++ ints ((List.range' i (16 - i)).filter m.testBit)) := by
  induction d with
  | zero =>
    intro i out hd hi hl
    have e : i = 16 := by omega
    subst e
    refine Ev.step (fun k => by rw [spec_ListOf.l0]) ?_
    refine ev_neg (by omega) ?_
    refine Ev.step (fun k => by rw [spec_ListOf.j1]) ?_
    refine ev_neg (by simp) ?_
    refine ev_of ?_
    simp [ints]
  | succ d ih =>
    intro i out hd hi hl
    refine Ev.step (fun k => by rw [spec_ListOf.l0]) ?_
    refine ev_pos (by omega) ?_
    refine ev_bind0 _ (l2Ok_eq _) ?_
    refine Ev.step (fun k => by rw [spec_ListOf.j1]) ?_
    refine ev_pos (by simp; omega) ?_
    refine ev_bind0 _ (l2Has_eq m i (by omega) (by omega)) ?_
    have hw : wrap64 ((i : Int) + 1) = ((i + 1 : Nat) : Int) := by rw [w64 (by omega) (by omega)]; rfl
    rw [elems_step m i (by omega), hw]
    cases hb : m.testBit i with
    | true =>
      refine ev_pos rfl (ev_pos (by omega) ?_)
      refine ev_eq (ih (i + 1) (out ++ [(i : Int)]) (by omega) (by omega) (by simp; omega)) ?_
      simp [ints]
    | false =>
      refine ev_neg (by simp) ?_
      refine ev_eq (ih (i + 1) out (by omega) (by omega) (by omega)) ?_
      simp
theorem spec_ListOf.ev (a : Int) : Ev (fun k => spec_ListOf.f k a) (setList a) := by
  unfold spec_ListOf.f setList
  by_cases h : 0 ≤ a ∧ a ≤ 65535
  · obtain ⟨m, rfl⟩ := nat_of h.1
    rw [if_pos h, Int.toNat_natCast]
    exact ev_eq (spec_ListOf.loop m (by omega) 16 0 [] rfl (by omega) (by simp)) (by rw [elems_eq]; rfl)
  · rw [if_neg h]
    refine Ev.step (fun k => by rw [spec_ListOf.l0]) ?_
    refine ev_pos (by omega) ?_
    refine ev_bind0 _ (l2Ok_eq _) ?_
    refine Ev.step (fun k => by rw [spec_ListOf.j1]) ?_
    refine ev_neg (by simpa using h) ?_
    exact ev_some _

theorem isSet_eq (a : Int) : impl_isSet.f a = some (decide (0 ≤ a ∧ a ≤ 65535)) := by
  unfold impl_isSet.f
  split
  · simp only [Option.some.injEq, decide_eq_decide]; omega
  · simp; omega

theorem impl_ListOf.loop (m : Nat) (hm : m ≤ 65535) (d : Nat) : ∀ (i : Nat) (out : List Int), 16 - i = d → i ≤ 16 → out.length ≤ i →
    Ev (fun k => impl_ListOf.l0 k (m : Int) out (i : Int)) (out ++ ints ((List.range' i (16 - i)).filter m.testBit)) := by
  induction d with
  | zero =>
    intro i out hd hi hl
    have e : i = 16 := by omega
    subst e
    refine Ev.step (fun k => by rw [impl_ListOf.l0]) ?_
    refine ev_neg (by omega) ?_
    refine Ev.step (fun k => by rw [impl_ListOf.j1]) ?_
    refine ev_neg (by simp) ?_
    refine ev_of ?_
    simp [ints]
  | succ d ih =>
    intro i out hd hi hl
    refine Ev.step (fun k => by rw [impl_ListOf.l0]) ?_
    refine ev_pos (by omega) ?_
    refine ev_bind0 _ (isSet_eq _) ?_
    refine Ev.step (fun k => by rw [impl_ListOf.j1]) ?_
    refine ev_pos (by simp; omega) ?_
    refine ev_pos (by omega) ?_
    have hw : wrap64 ((i : Int) + 1) = ((i + 1 : Nat) : Int) := by rw [w64 (by omega) (by omega)]; rfl
    rw [elems_step m i (by omega), hw, bit_at m i (by omega) (by omega)]
    cases hb : m.testBit i with
    | true =>
      refine ev_neg (pow_ne i) (ev_pos (by omega) ?_)
      refine ev_eq (ih (i + 1) (out ++ [(i : Int)]) (by omega) (by omega) (by simp; omega)) ?_
      simp [ints]
    | false =>
      refine ev_pos (by simp) ?_
      refine ev_eq (ih (i + 1) out (by omega) (by omega) (by omega)) ?_
      simp
theorem impl_ListOf.ev (a : Int) : Ev (fun k => impl_ListOf.f k a) (setList a) := by
  unfold impl_ListOf.f setList
  by_cases h : 0 ≤ a ∧ a ≤ 65535
  · obtain ⟨m, rfl⟩ := nat_of h.1
    rw [if_pos h, Int.toNat_natCast]
    exact ev_eq (impl_ListOf.loop m (by omega) 16 0 [] rfl (by omega) (by simp)) (by rw [elems_eq]; rfl)
  · rw [if_neg h]
    refine Ev.step (fun k => by rw [impl_ListOf.l0]) ?_
    refine ev_pos (by omega) ?_
    refine ev_bind0 _ (isSet_eq _) ?_
    refine Ev.step (fun k => by rw [impl_ListOf.j1]) ?_
    refine ev_neg (by simpa using h) ?_
    exact ev_some _

theorem FnExactCountOf : laws_FnExactCountOf.Pure := by
  intro a wa
  apply Ev.rounds
  unfold laws_FnExactCountOf.f spec_CountOf.f impl_CountOf.f
  refine ev_bind _ (ev_bind _ (spec_ListOf.ev a) (ev_some _)) (ev_bind _ (ev_bind _ (impl_ListOf.ev a) (ev_some _)) ?_)
  exact ev_pos rfl (ev_some _)

end Go.Proofs.Ytadjioinhmndoaa.Pure
