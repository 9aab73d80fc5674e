/- The statement FnExactSetOf over numbers and lists alone: what the printed functions of the law come to is true, for every input. -/
import Derived.Test.YtadjioinhmndoaaPFnExactSetOfx1
import Derived.Test.YtadjioinhmndoaaPb
set_option linter.unusedVariables false
set_option linter.unusedSimpArgs false
namespace Go.Proofs.Ytadjioinhmndoaa.Pure
open Go.RowKit Go.Proofs.Ytadjioinhmndoaa.PFnExactSetOf Go.Proofs.YtadjioinhmndoaaW.PrintWords Go.Proofs.YtadjioinhmndoaaW.PrintLast Go.Proofs.YtadjioinhmndoaaW.PrintMore Go.Proofs.Ytadjioinhmndoaa.Pb

theorem spec_l1In_eq (a b c : Int) : spec_l1In.f a b c = some (decide (b ≤ a ∧ a ≤ c)) := by
  unfold spec_l1In.f
  split
  · simp only [Option.some.injEq, decide_eq_decide]; omega
  · simp; omega
theorem spec_l2Bit_eq (i : Nat) (hi : i < 63) : spec_l2Bit.f (i : Int) = some ((2 ^ i : Nat) : Int) := by
  unfold spec_l2Bit.f
  rw [u64w (by omega) (by omega), if_pos (by omega), shl1 i hi]
theorem spec_SetOf.loop (x : List Int) (hx : x.length ≤ 140737488351232) (d : Nat) : ∀ (i m : Nat), x.length - i = d → i ≤ x.length → m < 65536 →
    Ev (fun k => spec_SetOf.l0 k x (m : Int) (i : Int)) (setOf m (x.drop i)) := by
  induction d with
  | zero =>
    intro i m hd hi hm
    refine Ev.step (fun k => by rw [spec_SetOf.l0]) ?_
    refine ev_neg (by omega) (ev_of ?_)
    rw [List.drop_eq_nil_of_le (by omega)]
    rfl
  | succ d ih =>
    intro i m hd hi hm
    refine Ev.step (fun k => by rw [spec_SetOf.l0]) ?_
    refine ev_pos (by omega) (ev_pos (by omega) ?_)
    rw [rd_lt (show i < x.length by omega), List.drop_eq_getElem_cons (show i < x.length by omega), setOf]
    refine ev_bind0 _ (spec_l1In_eq _ _ _) ?_
    by_cases h : 0 ≤ x[i]'(by omega) ∧ x[i]'(by omega) ≤ 15
    · refine ev_pos (by simpa using h) ?_
      rw [if_pos h]
      obtain ⟨n, hn⟩ := nat_of h.1
      rw [hn] at h ⊢
      refine ev_bind0 _ (spec_l2Bit_eq n (by omega)) ?_
      have hp : (2 : Nat) ^ n < 65536 := Nat.pow_lt_pow_right (n := 16) (by omega) (by omega)
      rw [or64 m (2 ^ n) (by omega) (by omega), w64 (by omega) (by omega), Int.toNat_natCast]
      exact ih (i + 1) _ (by omega) (by omega) (Nat.or_lt_two_pow (n := 16) hm hp)
    · refine ev_neg (by simpa using h) (ev_of ?_)
      rw [if_neg h]
theorem spec_SetOf.ev (x : List Int) (hx : x.length ≤ 140737488351232) : Ev (fun k => spec_SetOf.f k x) (setOf 0 x) := spec_SetOf.loop x hx _ 0 0 rfl (by omega) (by omega)

theorem impl_SetOf.loop (x : List Int) (hx : x.length ≤ 140737488351232) (d : Nat) : ∀ (i m : Nat), x.length - i = d → i ≤ x.length → m < 65536 →
    Ev (fun k => impl_SetOf.l0 k (m : Int) x (x.length : Int) (i : Int)) (setOf m (x.drop i)) := by
  induction d with
  | zero =>
    intro i m hd hi hm
    refine Ev.step (fun k => by rw [impl_SetOf.l0]) ?_
    refine ev_neg (by omega) (ev_of ?_)
    rw [List.drop_eq_nil_of_le (by omega)]
    rfl
  | succ d ih =>
    intro i m hd hi hm
    refine Ev.step (fun k => by rw [impl_SetOf.l0]) ?_
    refine ev_pos (by omega) (ev_pos (by omega) (ev_pos (by omega) ?_))
    rw [rd_lt (show i < x.length by omega), List.drop_eq_getElem_cons (show i < x.length by omega), setOf]
    by_cases h : 0 ≤ x[i]'(by omega) ∧ x[i]'(by omega) ≤ 15
    · rw [if_pos h]
      refine ev_neg (by omega) (ev_neg (by omega) (ev_pos (by omega) ?_))
      obtain ⟨n, hn⟩ := nat_of h.1
      rw [hn] at h ⊢
      have hp : (2 : Nat) ^ n < 65536 := Nat.pow_lt_pow_right (n := 16) (by omega) (by omega)
      rw [shl1 n (by omega), or64 m (2 ^ n) (by omega) (by omega), w64 (by omega) (by omega), Int.toNat_natCast]
      exact ih (i + 1) _ (by omega) (by omega) (Nat.or_lt_two_pow (n := 16) hm hp)
    · rw [if_neg h]
      by_cases g : x[i]'(by omega) < 0
      · exact ev_pos g (ev_some _)
      · exact ev_neg g (ev_pos (by omega) (ev_some _))
theorem impl_SetOf.ev (x : List Int) (hx : x.length ≤ 140737488351232) : Ev (fun k => impl_SetOf.f k x) (setOf 0 x) := impl_SetOf.loop x hx _ 0 0 rfl (by omega) (by omega)

theorem laws_toIntS.loop (x : List Int) (hx : x.length ≤ 140737488351232) (d : Nat) : ∀ (i : Nat), x.length - i = d → i ≤ x.length →
    Ev (fun k => laws_toIntS.l0 k x (x.take i ++ List.replicate (x.length - i) 0) (i : Int)) x := by
  induction d with
  | zero =>
    intro i hd hi
    refine Ev.step (fun k => by rw [laws_toIntS.l0]) ?_
    refine ev_neg (by omega) (ev_of ?_)
    rw [hd, List.take_of_length_le (by omega)]
    simp
  | succ d ih =>
    intro i hd hi
    refine Ev.step (fun k => by rw [laws_toIntS.l0]) ?_
    refine ev_pos (by omega) (ev_pos (by omega) (ev_pos (by simp; omega) ?_))
    rw [rd_lt (show i < x.length by omega), w64 (by omega) (by omega), hd, List.replicate_succ]
    have e : (x.take i ++ 0 :: List.replicate d 0).set ((i : Int)).toNat (x[i]'(by omega)) = x.take (i + 1) ++ List.replicate (x.length - (i + 1)) 0 := by
      rw [Int.toNat_natCast]
      have hi' : (x.take i).length = i := by rw [List.length_take]; omega
      have := set_split (x.take i) 0 (List.replicate d 0) (x[i]'(by omega))
      rw [hi'] at this
      rw [this, List.take_succ_eq_append_getElem (by omega), show x.length - (i + 1) = d by omega]
    rw [e]
    exact ih (i + 1) (by omega) (by omega)
theorem laws_toIntS.ev (x : List Int) (hx : x.length ≤ 35184372088832) : Ev (fun k => laws_toIntS.f k x) x := by
  unfold laws_toIntS.f
  refine ev_pos (by omega) (ev_pos (by omega) ?_)
  have := laws_toIntS.loop x (by omega) _ 0 rfl (by omega)
  simpa using this

theorem laws_eqIntS.loop (x y : List Int) (hl : x.length = y.length) (hx : x.length ≤ 140737488351232) (d : Nat) : ∀ i : Nat, x.length - i = d → i ≤ x.length →
    Ev (fun k => laws_eqIntS.l0 k x y (i : Int)) (decide (x.drop i = y.drop i)) := by
  induction d with
  | zero =>
    intro i hd hi
    refine Ev.step (fun k => by rw [laws_eqIntS.l0]) ?_
    refine ev_neg (by omega) (ev_of ?_)
    rw [List.drop_eq_nil_of_le (by omega), List.drop_eq_nil_of_le (by omega)]
    simp
  | succ d ih =>
    intro i hd hi
    refine Ev.step (fun k => by rw [laws_eqIntS.l0]) ?_
    refine ev_pos (by omega) (ev_pos (by omega) (ev_pos (by omega) ?_))
    rw [rd_lt (show i < x.length by omega), rd_lt (show i < y.length by omega), w64 (by omega) (by omega), List.drop_eq_getElem_cons (show i < x.length by omega), List.drop_eq_getElem_cons (show i < y.length by omega)]
    by_cases h : x[i]'(by omega) = y[i]'(by omega)
    · refine ev_pos h ?_
      exact ev_eq (ih (i + 1) (by omega) (by omega)) (by simp only [h, List.cons.injEq, true_and])
    · refine ev_neg h (ev_of ?_)
      simp only [List.cons.injEq, h, false_and, decide_false]
theorem laws_eqIntS.ev (x y : List Int) (hx : x.length ≤ 140737488351232) : Ev (fun k => laws_eqIntS.f k x y) (decide (x = y)) := by
  unfold laws_eqIntS.f
  by_cases h : x.length = y.length
  · refine ev_pos (by omega) ?_
    exact laws_eqIntS.loop x y h hx _ 0 rfl (by omega)
  · refine ev_neg (by omega) (ev_of ?_)
    have : x ≠ y := fun e => h (by rw [e])
    simp [this]

theorem FnExactSetOf : laws_FnExactSetOf.Pure := by
  intro x h1 h2 h3
  apply Ev.rounds
  unfold laws_FnExactSetOf.f
  by_cases hb : (x.length : Int) > 1048576
  · exact ev_pos hb (ev_some _)
  · refine ev_neg hb (ev_bind _ (laws_toIntS.ev x (by omega)) (ev_bind _ (spec_SetOf.ev x (by omega)) (ev_bind _ (laws_toIntS.ev x (by omega)) (ev_bind _ (impl_SetOf.ev x (by omega)) (ev_pos rfl ?_)))))
    refine Ev.step (fun k => by rw [laws_FnExactSetOf.j0]) ?_
    refine ev_neg (by simp) (ev_bind _ (laws_toIntS.ev x (by omega)) (ev_bind _ (laws_eqIntS.ev x x (by omega)) (ev_pos (by simp) (ev_some _))))

end Go.Proofs.Ytadjioinhmndoaa.Pure
