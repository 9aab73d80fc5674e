/- The statement FnExactIsName over numbers and lists alone: what the printed functions of the law come to is true, for every input. -/
import Derived.Test.YtadjioinhmndoaaPFnExactIsNamex2
import Derived.Test.YtadjioinhmndoaaPb
set_option linter.unusedVariables false
set_option linter.unusedSimpArgs false
namespace Go.Proofs.Ytadjioinhmndoaa.Pure
open Go.RowKit Go.Proofs.Ytadjioinhmndoaa.PFnExactIsName Go.Proofs.YtadjioinhmndoaaW.PrintWords Go.Proofs.YtadjioinhmndoaaW.PrintLast Go.Proofs.YtadjioinhmndoaaW.PrintMore Go.Proofs.Ytadjioinhmndoaa.Pb

theorem spec_IsName.loop (s : ByteArray) (hs : s.size ≤ 140737488351232) (d : Nat) : ∀ i : Nat, s.size - i = d → i ≤ s.size →
    Ev (fun k => spec_IsName.l0 k s (i : Int)) (allAt s i d) := by
  induction d with
  | zero =>
    intro i hd hi
    refine Ev.step (fun k => by rw [spec_IsName.l0]) ?_
    exact ev_neg (by omega) (ev_of rfl)
  | succ d ih =>
    intro i hd hi
    refine Ev.step (fun k => by rw [spec_IsName.l0]) ?_
    refine ev_pos (by omega) (ev_pos (by omega) ?_)
    have hn := ih (i + 1) (by omega) (by omega)
    rw [w64 (by omega) (by omega), show ((i : Int) + 1) = ((i + 1 : Nat) : Int) from rfl, allAt]
    generalize bt s (i : Int) = c
    cases hc : nameChar c with
    | true =>
      rw [nameChar_iff] at hc
      rw [Bool.true_and]
      repeat' first
        | (refine ev_ite (fun _ => ?_) (fun _ => ?_))
        | exact hn
        | (exfalso; omega)
    | false =>
      rw [← Bool.not_eq_true, nameChar_iff] at hc
      rw [Bool.false_and]
      repeat' first
        | (refine ev_ite (fun _ => ?_) (fun _ => ?_))
        | exact ev_some _
        | (exfalso; omega)
theorem spec_IsName.ev (s : ByteArray) (hs : s.size ≤ 140737488351232) : Ev (fun k => spec_IsName.f k s) (isName s) := by
  unfold spec_IsName.f isName
  have no : Ev (fun k => spec_IsName.j0 k s true) false := by
    refine Ev.step (fun k => by rw [spec_IsName.j0]) ?_
    exact ev_pos rfl (ev_some _)
  have yes : Ev (fun k => spec_IsName.j0 k s false) (allAt s 0 s.size) := by
    refine Ev.step (fun k => by rw [spec_IsName.j0]) ?_
    exact ev_neg (by simp) (spec_IsName.loop s hs _ 0 rfl (by omega))
  refine ev_ite (fun h1 => ev_eq no (by simp [h1])) (fun h1 => ?_)
  refine ev_ite (fun h2 => ev_eq no (by simp [h2])) (fun h2 => ?_)
  refine ev_ite (fun h3 => ev_eq no (by simp; omega)) (fun h3 => ?_)
  refine ev_ite (fun h4 => ev_eq no (by simp; omega)) (fun h4 => ?_)
  refine ev_pos (by omega) ?_
  have e1 : (s.toList == ([105, 102] : List UInt8)) = false := by simpa using h1
  have e2 : (s.toList == ([97, 110, 100] : List UInt8)) = false := by simpa using h2
  have e3 : decide (1 ≤ s.size ∧ s.size ≤ 12) = true := by simp; omega
  rw [e1, e2, e3]
  simp only [Bool.not_false, Bool.true_and]
  generalize bt s 0 = c
  cases hc : letter c with
  | true =>
    rw [letter_iff] at hc
    rw [Bool.true_and]
    repeat' first
      | (refine ev_ite (fun _ => ?_) (fun _ => ?_))
      | exact yes
      | (rw [show (!(decide (c ≤ 90))) = false by simp; omega]; exact yes)
      | (exfalso; omega)
  | false =>
    rw [← Bool.not_eq_true, letter_iff] at hc
    rw [Bool.false_and]
    repeat' first
      | (refine ev_ite (fun _ => ?_) (fun _ => ?_))
      | exact no
      | (rw [show (!(decide (c ≤ 90))) = true by simp; omega]; exact no)
      | (exfalso; omega)

theorem impl_nameByte_eq (c : Int) : impl_nameByte.f c = some (nameChar c) := by
  cases hc : nameChar c with
  | true =>
    rw [nameChar_iff] at hc
    unfold impl_nameByte.f
    repeat' first
      | split
      | rfl
      | (simp only [Option.some.injEq, decide_eq_true_eq]; omega)
      | (exfalso; omega)
  | false =>
    rw [← Bool.not_eq_true, nameChar_iff] at hc
    unfold impl_nameByte.f
    repeat' first
      | split
      | rfl
      | (simp only [Option.some.injEq, decide_eq_false_iff_not]; omega)
      | (exfalso; omega)
theorem impl_IsName.loop (s : ByteArray) (hs : s.size ≤ 140737488351232) (d : Nat) : ∀ i : Nat, s.size - i = d → i ≤ s.size → 0 < i →
    Ev (fun k => impl_IsName.l0 k s (i : Int)) (allAt s i d) := by
  induction d with
  | zero =>
    intro i hd hi h0
    refine Ev.step (fun k => by rw [impl_IsName.l0]) ?_
    exact ev_neg (by omega) (ev_of rfl)
  | succ d ih =>
    intro i hd hi h0
    refine Ev.step (fun k => by rw [impl_IsName.l0]) ?_
    refine ev_pos (by omega) (ev_pos (by omega) (ev_bind0 _ (impl_nameByte_eq _) ?_))
    rw [w64 (by omega) (by omega), show ((i : Int) + 1) = ((i + 1 : Nat) : Int) from rfl, allAt]
    cases hc : nameChar (bt s (i : Int)) with
    | true => exact ev_pos rfl (ev_neg (by omega) (ih (i + 1) (by omega) (by omega) (by omega)))
    | false => exact ev_neg (by simp) (ev_some _)
theorem impl_IsName.ev (s : ByteArray) (hs : s.size ≤ 140737488351232) : Ev (fun k => impl_IsName.f k s) (isName s) := by
  unfold impl_IsName.f isName
  have no : Ev (fun k => impl_IsName.j0 k s true) false := by
    refine Ev.step (fun k => by rw [impl_IsName.j0]) ?_
    exact ev_pos rfl (ev_some _)
  refine ev_ite (fun h3 => ev_eq no (by simp; omega)) (fun h3 => ?_)
  refine ev_ite (fun h4 => ev_eq no (by simp; omega)) (fun h4 => ?_)
  refine ev_ite (fun h1 => ev_eq no (by simp [h1])) (fun h1 => ?_)
  have e1 : (s.toList == ([105, 102] : List UInt8)) = false := by simpa using h1
  have e3 : decide (1 ≤ s.size ∧ s.size ≤ 12) = true := by simp; omega
  rw [e1, e3]
  cases h2 : (s.toList == ([97, 110, 100] : List UInt8)) with
  | true => exact ev_eq no (by simp)
  | false =>
    simp only [Bool.not_false, Bool.true_and]
    refine Ev.step (fun k => by rw [impl_IsName.j0]) ?_
    refine ev_neg (by simp) ?_
    obtain ⟨d, hd⟩ : ∃ d, s.size = d + 1 := ⟨s.size - 1, by omega⟩
    refine Ev.step (fun k => by rw [impl_IsName.l0]) ?_
    refine ev_pos (by omega) (ev_pos (by omega) (ev_bind0 _ (impl_nameByte_eq _) ?_))
    have hl := impl_IsName.loop s hs d 1 (by omega) (by omega) (by omega)
    rw [hd, allAt, show (((0 : Nat) : Int)) = 0 from rfl]
    have hlet := letter_name (bt s 0)
    cases hc : nameChar (bt s 0) with
    | true =>
      refine ev_pos rfl (ev_pos rfl ?_)
      rw [hc, Bool.true_and] at hlet
      rw [hlet]
      refine ev_ite (fun h => ev_of ?_) (fun h => ?_)
      · rw [show (decide (57 < bt s 0)) = false by simp; omega]
        rfl
      · rw [show (decide (57 < bt s 0)) = true by simp; omega]
        rw [w64 (a := 0 + 1) (by omega) (by omega)]
        exact ev_eq hl (by simp)
    | false =>
      refine ev_neg (by simp) (ev_of ?_)
      simp

theorem FnExactIsName : laws_FnExactIsName.Pure := by
  intro s hs
  apply Ev.rounds
  unfold laws_FnExactIsName.f
  refine ev_ite (fun _ => ev_some _) (fun _ => ?_)
  exact ev_bind _ (spec_IsName.ev s hs) (ev_bind _ (impl_IsName.ev s hs) (ev_neg (by simp) (ev_some _)))

end Go.Proofs.Ytadjioinhmndoaa.Pure
