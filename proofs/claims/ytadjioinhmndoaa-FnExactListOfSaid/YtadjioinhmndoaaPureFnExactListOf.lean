/- The statement FnExactListOf over numbers and lists alone: what the printed functions of the law come to is true, for every input. -/
import Derived.Test.YtadjioinhmndoaaPFnExactListOfx2
import Derived.Test.YtadjioinhmndoaaPb
set_option linter.unusedVariables false
set_option linter.unusedSimpArgs false
namespace Go.Proofs.Ytadjioinhmndoaa.Pure
open Go.RowKit Go.Proofs.Ytadjioinhmndoaa.PFnExactListOf Go.Proofs.YtadjioinhmndoaaW.PrintWords Go.Proofs.YtadjioinhmndoaaW.PrintLast Go.Proofs.YtadjioinhmndoaaW.PrintMore Go.Proofs.Ytadjioinhmndoaa.Pb

theorem l2Ok_eq (a : Int) : spec_l2Ok.f a = some (decide (0 ≤ a ∧ a ≤ 65535)) := by
  unfold spec_l2Ok.f
  split
  · simp only [Option.some.injEq, decide_eq_decide]; omega
  · simp; omega

theorem l2Has_eq (m i : Nat) (hm : m < 2 ^ 63) (hi : i < 16) : spec_l2Has.f (m : Int) (i : Int) = some (m.testBit i) := by
  unfold spec_l2Has.f
  rw [if_pos (by omega), if_pos (by omega), u64w (by omega) (by omega), if_pos (by omega), shr64 m i (by omega)]
  have h1 : m / 2 ^ i < 2 ^ 63 := Nat.lt_of_le_of_lt (Nat.div_le_self ..) hm
  have := and64 (m / 2 ^ i) 1 h1 (by omega)
  rw [show ((1 : Nat) : Int) = 1 from rfl] at this
  rw [this, div_and_one]
  cases h : m.testBit i <;> simp

theorem spec_ListOf.loop (m : Nat) (hm : m ≤ 65535) (d : Nat) : ∀ (i : Nat) (out : List Int), 16 - i = d → i ≤ 16 → out.length ≤ i →
    Ev (fun k => spec_ListOf.l0 k (m : Int) out (i : Int)) (out ++ ints ((List.range' i (16 - i)).filter m.testBit)) := by
  induction d with
  | zero =>
    intro i out hd hi hl
    have e : i = 16 := by omega
    subst e
    refine Ev.step (fun k => by rw [spec_ListOf.l0]) ?_
    refine ev_neg (by omega) ?_
    refine Ev.step (fun k => by rw [spec_ListOf.j1]) ?_
    refine ev_neg (by simp) ?_
    refine ev_of ?_
    simp [ints]
  | succ d ih =>
    intro i out hd hi hl
    refine Ev.step (fun k => by rw [spec_ListOf.l0]) ?_
    refine ev_pos (by omega) ?_
    refine ev_bind0 _ (l2Ok_eq _) ?_
    refine Ev.step (fun k => by rw [spec_ListOf.j1]) ?_
    refine ev_pos (by simp; omega) ?_
    refine ev_bind0 _ (l2Has_eq m i (by omega) (by omega)) ?_
    have hw : wrap64 ((i : Int) + 1) = ((i + 1 : Nat) : Int) := by rw [w64 (by omega) (by omega)]; rfl
    rw [elems_step m i (by omega), hw]
    cases hb : m.testBit i with
    | true =>
      refine ev_pos rfl (ev_pos (by omega) ?_)
      refine ev_eq (ih (i + 1) (out ++ [(i : Int)]) (by omega) (by omega) (by simp; omega)) ?_
      simp [ints]
    | false =>
      refine ev_neg (by simp) ?_
      refine ev_eq (ih (i + 1) out (by omega) (by omega) (by omega)) ?_
      simp
theorem spec_ListOf.ev (a : Int) : Ev (fun k => spec_ListOf.f k a) (setList a) := by
  unfold spec_ListOf.f setList
  by_cases h : 0 ≤ a ∧ a ≤ 65535
  · obtain ⟨m, rfl⟩ := nat_of h.1
    rw [if_pos h, Int.toNat_natCast]
    exact ev_eq (spec_ListOf.loop m (by omega) 16 0 [] rfl (by omega) (by simp)) (by rw [elems_eq]; rfl)
  · rw [if_neg h]
    refine Ev.step (fun k => by rw [spec_ListOf.l0]) ?_
    refine ev_pos (by omega) ?_
    refine ev_bind0 _ (l2Ok_eq _) ?_
    refine Ev.step (fun k => by rw [spec_ListOf.j1]) ?_
    refine ev_neg (by simpa using h) ?_
    exact ev_some _

theorem isSet_eq (a : Int) : impl_isSet.f a = some (decide (0 ≤ a ∧ a ≤ 65535)) := by
  unfold impl_isSet.f
  split
  · simp only [Option.some.injEq, decide_eq_decide]; omega
  · simp; omega

theorem impl_ListOf.loop (m : Nat) (hm : m ≤ 65535) (d : Nat) : ∀ (i : Nat) (out : List Int), 16 - i = d → i ≤ 16 → out.length ≤ i →
    Ev (fun k => impl_ListOf.l0 k (m : Int) out (i : Int)) (out ++ ints ((List.range' i (16 - i)).filter m.testBit)) := by
  induction d with
  | zero =>
    intro i out hd hi hl
    have e : i = 16 := by omega
    subst e
    refine Ev.step (fun k => by rw [impl_ListOf.l0]) ?_
    refine ev_neg (by omega) ?_
    refine Ev.step (fun k => by rw [impl_ListOf.j1]) ?_
    refine ev_neg (by simp) ?_
    refine ev_of ?_
    simp [ints]
  | succ d ih =>
    intro i out hd hi hl
    refine Ev.step (fun k => by rw [impl_ListOf.l0]) ?_
    refine ev_pos (by omega) ?_
    refine ev_bind0 _ (isSet_eq _) ?_
    refine Ev.step (fun k => by rw [impl_ListOf.j1]) ?_
    refine ev_pos (by simp; omega) ?_
    refine ev_pos (by omega) ?_
    have hw : wrap64 ((i : Int) + 1) = ((i + 1 : Nat) : Int) := by rw [w64 (by omega) (by omega)]; rfl
    rw [elems_step m i (by omega), hw, bit_at m i (by omega) (by omega)]
    cases hb : m.testBit i with
    | true =>
      refine ev_neg (pow_ne i) (ev_pos (by omega) ?_)
      refine ev_eq (ih (i + 1) (out ++ [(i : Int)]) (by omega) (by omega) (by simp; omega)) ?_
      simp [ints]
    | false =>
      refine ev_pos (by simp) ?_
      refine ev_eq (ih (i + 1) out (by omega) (by omega) (by omega)) ?_
      simp
theorem impl_ListOf.ev (a : Int) : Ev (fun k => impl_ListOf.f k a) (setList a) := by
  unfold impl_ListOf.f setList
  by_cases h : 0 ≤ a ∧ a ≤ 65535
  · obtain ⟨m, rfl⟩ := nat_of h.1
    rw [if_pos h, Int.toNat_natCast]
    exact ev_eq (impl_ListOf.loop m (by omega) 16 0 [] rfl (by omega) (by simp)) (by rw [elems_eq]; rfl)
  · rw [if_neg h]
    refine Ev.step (fun k => by rw [impl_ListOf.l0]) ?_
    refine ev_pos (by omega) ?_
    refine ev_bind0 _ (isSet_eq _) ?_
    refine Ev.step (fun k => by rw [impl_ListOf.j1]) ?_
    refine ev_neg (by simpa using h) ?_
    exact ev_some _

theorem laws_eqIntS.loop (x y : List Int) (hl : x.length = y.length) (hx : x.length ≤ 140737488351232) (d : Nat) : ∀ i : Nat, x.length - i = d → i ≤ x.length →
    Ev (fun k => laws_eqIntS.l0 k x y (i : Int)) (decide (x.drop i = y.drop i)) := by
  induction d with
  | zero =>
    intro i hd hi
    refine Ev.step (fun k => by rw [laws_eqIntS.l0]) ?_
    refine ev_neg (by omega) (ev_of ?_)
    rw [List.drop_eq_nil_of_le (by omega), List.drop_eq_nil_of_le (by omega)]
    simp
  | succ d ih =>
    intro i hd hi
    refine Ev.step (fun k => by rw [laws_eqIntS.l0]) ?_
    refine ev_pos (by omega) (ev_pos (by omega) (ev_pos (by omega) ?_))
    rw [rd_lt (show i < x.length by omega), rd_lt (show i < y.length by omega), w64 (by omega) (by omega), List.drop_eq_getElem_cons (show i < x.length by omega), List.drop_eq_getElem_cons (show i < y.length by omega)]
    by_cases h : x[i]'(by omega) = y[i]'(by omega)
    · refine ev_pos h ?_
      exact ev_eq (ih (i + 1) (by omega) (by omega)) (by simp only [h, List.cons.injEq, true_and])
    · refine ev_neg h (ev_of ?_)
      simp only [List.cons.injEq, h, false_and, decide_false]
theorem laws_eqIntS.ev (x y : List Int) (hx : x.length ≤ 140737488351232) : Ev (fun k => laws_eqIntS.f k x y) (decide (x = y)) := by
  unfold laws_eqIntS.f
  by_cases h : x.length = y.length
  · refine ev_pos (by omega) ?_
    exact laws_eqIntS.loop x y h hx _ 0 rfl (by omega)
  · refine ev_neg (by omega) (ev_of ?_)
    have : x ≠ y := fun e => h (by rw [e])
    simp [this]

theorem laws_markIntS.loop (d : Nat) : ∀ (a b : List Int) (n : Int), b.length = d → 0 ≤ n → n + d ≤ 4611686018427387904 → a.length + d ≤ 4611686018427387904 →
    Ev (fun k => laws_markIntS.l0 k (a ++ b) n (a.length : Int)) (n + d, a ++ marks n d) := by
  induction d with
  | zero =>
    intro a b n hd hn hs hl
    obtain rfl : b = [] := List.eq_nil_of_length_eq_zero hd
    refine Ev.step (fun k => by rw [laws_markIntS.l0]) ?_
    refine ev_neg (by simp) (ev_of ?_)
    simp [marks]
  | succ d ih =>
    intro a b n hd hn hs hl
    obtain ⟨y, b, rfl⟩ : ∃ y r, b = y :: r := by cases b with | nil => simp at hd | cons y r => exact ⟨y, r, rfl⟩
    refine Ev.step (fun k => by rw [laws_markIntS.l0]) ?_
    refine ev_pos (by simp; omega) (ev_pos (by omega) ?_)
    rw [Int.toNat_natCast, set_split, w64 (by omega) (by omega), w64 (by omega) (by omega)]
    have := ih (a ++ [n]) b (n + 1) (by simpa using hd) (by omega) (by omega) (by simp; omega)
    rw [show ((a ++ [n]).length : Int) = (a.length : Int) + 1 by simp] at this
    refine ev_eq this ?_
    rw [Prod.mk.injEq]
    exact ⟨by omega, by simp [marks]⟩
theorem laws_markIntS.ev (x : List Int) (n : Int) (hn : 0 ≤ n) (hs : n + x.length ≤ 4611686018427387904) : Ev (fun k => laws_markIntS.f k x n) (n + x.length, marks n x.length) := by
  unfold laws_markIntS.f
  exact laws_markIntS.loop x.length [] x n rfl hn hs (by simp; omega)

theorem laws_heldIntS.loop (x : List Int) (d : Nat) : ∀ (i : Nat) (n : Int), x.length - i = d → i ≤ x.length → x.drop i = marks n d → 0 ≤ n → n + d ≤ 4611686018427387904 → x.length ≤ 4611686018427387904 →
    Ev (fun k => laws_heldIntS.l0 k x n (i : Int)) (n + d) := by
  induction d with
  | zero =>
    intro i n hd hi hm hn hs hl
    refine Ev.step (fun k => by rw [laws_heldIntS.l0]) ?_
    refine ev_neg (by omega) (ev_of ?_)
    simp
  | succ d ih =>
    intro i n hd hi hm hn hs hl
    refine Ev.step (fun k => by rw [laws_heldIntS.l0]) ?_
    refine ev_pos (by omega) (ev_pos (by omega) ?_)
    rw [List.drop_eq_getElem_cons (show i < x.length by omega)] at hm
    simp only [marks, List.cons.injEq] at hm
    rw [rd_lt (show i < x.length by omega)]
    refine ev_pos hm.1 ?_
    rw [w64 (by omega) (by omega), w64 (by omega) (by omega)]
    exact ev_eq (ih (i + 1) (n + 1) (by omega) (by omega) hm.2 (by omega) (by omega) hl) (by omega)
theorem laws_heldIntS.ev (n : Int) (d : Nat) (hn : 0 ≤ n) (hs : n + d ≤ 4611686018427387904) : Ev (fun k => laws_heldIntS.f k (marks n d) n) (n + d) := by
  unfold laws_heldIntS.f
  refine laws_heldIntS.loop (marks n d) d 0 n (by simp [marks_len]) (by omega) rfl hn hs (by rw [marks_len]; omega)

theorem FnExactListOf : laws_FnExactListOf.Pure := by
  intro a wa
  apply Ev.rounds
  unfold laws_FnExactListOf.f
  have hl := setList_len a
  have hm := laws_markIntS.ev (setList a) 1 (by omega) (by omega)
  have hh := laws_heldIntS.ev 1 (setList a).length (by omega) (by omega)
  refine ev_bind _ (spec_ListOf.ev a) (ev_bind _ (impl_ListOf.ev a) (ev_bind _ (laws_eqIntS.ev _ _ (by omega)) (ev_pos (by simp) ?_)))
  refine ev_bind _ hm (ev_bind _ hh (ev_neg (by omega) (ev_pos rfl ?_)))
  refine ev_bind _ (impl_ListOf.ev a) (ev_bind _ (laws_eqIntS.ev _ _ (by omega)) (ev_pos (by simp) ?_))
  exact ev_bind _ hh (ev_neg (by omega) (ev_pos rfl (ev_some _)))

end Go.Proofs.Ytadjioinhmndoaa.Pure
