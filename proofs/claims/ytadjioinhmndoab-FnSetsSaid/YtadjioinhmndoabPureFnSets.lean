/- The statement FnSets over numbers and lists alone: what the printed functions of the law come to is true, for every input. -/
import Derived.Test.YtadjioinhmndoabQx4
import Derived.Test.YtadjioinhmndoabPb
set_option linter.unusedVariables false
set_option linter.unusedSimpArgs false
namespace Go.Proofs.Ytadjioinhmndoab.Pure
open Go.RowKit Go.Proofs.Ytadjioinhmndoab.Q Go.Proofs.YtadjioinhmndoabW.PrintWords Go.Proofs.YtadjioinhmndoabW.PrintLast Go.Proofs.YtadjioinhmndoabW.PrintMore Go.Proofs.Ytadjioinhmndoab.Pb

/-- A cursor over a draw's bytes: the place lies within them. -/
def At (l : List Int) (i : Int) : Prop := 0 ≤ i ∧ i ≤ l.length ∧ l.length ≤ 1048576
theorem spec_l1Byte_ok (l : List Int) (i h : Int) (hs : At l i) : ∃ r i' h', spec_l1Byte.f l i h = some (r, i', h') ∧ 0 ≤ r ∧ r ≤ 255 ∧ At l i' := by
  obtain ⟨h0, h1, h2⟩ := hs
  unfold spec_l1Byte.f
  by_cases g : i < (l.length : Int)
  · rw [if_pos g, if_pos h0]
    exact ⟨_, _, _, rfl, (and255 _).1, (and255 _).2, by rw [w64 (by omega) (by omega)]; exact ⟨by omega, by omega, h2⟩⟩
  · rw [if_neg g]
    exact ⟨_, _, _, rfl, (and255 _).1, (and255 _).2, h0, h1, h2⟩

theorem spec_l1New.loop (l : List Int) (hl : l.length ≤ 1048576) (d : Nat) : ∀ (i : Nat) (h : Int), l.length - i = d → i ≤ l.length → ∃ h', Ev (fun k => spec_l1New.l0 k l h (i : Int)) (l, 0, h') := by
  induction d with
  | zero =>
    intro i h hd hi
    refine ⟨h, Ev.step (fun k => by rw [spec_l1New.l0]) ?_⟩
    exact ev_neg (by omega) (ev_some _)
  | succ d ih =>
    intro i h hd hi
    by_cases g : (i : Int) < 4000
    · obtain ⟨h', e⟩ := ih (i + 1) (Go.bits .and .i64 (wrap64 ((wrap64 ((wrap64 (h * 131)) + (wrap64 (rd l (i : Int))))) + 7)) 1073741823) (by omega) (by omega)
      refine ⟨h', Ev.step (fun k => by rw [spec_l1New.l0]) ?_⟩
      refine ev_pos (by omega) (ev_pos g (ev_pos (by omega) ?_))
      rw [w64 (a := (i : Int) + 1) (by omega) (by omega)]
      exact e
    · refine ⟨h, Ev.step (fun k => by rw [spec_l1New.l0]) ?_⟩
      exact ev_pos (by omega) (ev_neg g (ev_some _))
theorem spec_l1New.ev (l : List Int) (hl : l.length ≤ 1048576) : ∃ h', Ev (fun k => spec_l1New.f k l) (l, 0, h') := spec_l1New.loop l hl _ 0 _ rfl (by omega)
theorem At.start {l : List Int} (hl : l.length ≤ 1048576) : At l 0 := ⟨by omega, by omega, hl⟩

theorem spec_l1Below_ok (l : List Int) (i h n : Int) (hs : At l i) : ∃ r i' h', spec_l1Below.f l i h n = some (r, i', h') ∧ 0 ≤ r ∧ (n ≤ 0 → r = 0) ∧ (0 < n → r < n) ∧ At l i' := by
  unfold spec_l1Below.f
  by_cases g : n ≤ 0
  · rw [if_pos g]
    exact ⟨_, _, _, rfl, by omega, fun _ => rfl, fun h => by omega, hs⟩
  · rw [if_neg g]
    have tm : ∀ x : Int, 0 ≤ x → 0 ≤ x.tmod n ∧ x.tmod n < n := fun x hx => ⟨Int.tmod_nonneg n hx, Int.tmod_lt_of_pos x (by omega)⟩
    by_cases g2 : n ≤ 256
    · rw [if_pos g2]
      obtain ⟨r, i1, h1, e1, a1, b1, s1⟩ := spec_l1Byte_ok l i h hs
      rw [e1, Option.bind_some, if_neg (by omega)]
      exact ⟨_, _, _, rfl, (tm r a1).1, fun h => by omega, fun _ => (tm r a1).2, s1⟩
    · rw [if_neg g2]
      obtain ⟨r1, i1, h1, e1, a1, b1, s1⟩ := spec_l1Byte_ok l i h hs
      obtain ⟨r2, i2, h2, e2, a2, b2, s2⟩ := spec_l1Byte_ok l i1 h1 s1
      obtain ⟨r3, i3, h3, e3, a3, b3, s3⟩ := spec_l1Byte_ok l i2 h2 s2
      obtain ⟨r4, i4, h4, e4, a4, b4, s4⟩ := spec_l1Byte_ok l i3 h3 s3
      rw [e1, Option.bind_some, e2, Option.bind_some, e3, Option.bind_some, e4, Option.bind_some, if_neg (by omega)]
      have hx : 0 ≤ wrap64 (wrap64 (wrap64 (wrap64 (r1 * 16777216) + wrap64 (r2 * 65536)) + wrap64 (r3 * 256)) + r4) := by
        rw [w64 (a := r1 * 16777216) (by omega) (by omega), w64 (a := r2 * 65536) (by omega) (by omega), w64 (a := r3 * 256) (by omega) (by omega), w64 (a := r1 * 16777216 + r2 * 65536) (by omega) (by omega), w64 (a := r1 * 16777216 + r2 * 65536 + r3 * 256) (by omega) (by omega), w64 (by omega) (by omega)]
        omega
      exact ⟨_, _, _, rfl, (tm _ hx).1, fun h => by omega, fun _ => (tm _ hx).2, s4⟩
theorem spec_l1Once_ok (l : List Int) (i h n : Int) (hs : At l i) : ∃ r i' h', spec_l1Once.f l i h n = some (r, i', h') ∧ At l i' := by
  unfold spec_l1Once.f
  obtain ⟨r, i1, h1, e1, _, _, _, s1⟩ := spec_l1Below_ok l i h n hs
  rw [e1, Option.bind_some]
  exact ⟨_, _, _, rfl, s1⟩

theorem spec_l1PickInt_ok (l : List Int) (i h : Int) (x : List Int) (hs : At l i) (hx : 0 < x.length) : ∃ r i' h', spec_l1PickInt.f l i h x = some (r, i', h') ∧ r ∈ x ∧ At l i' := by
  unfold spec_l1PickInt.f
  obtain ⟨r, i1, h1, e1, a1, _, b1, s1⟩ := spec_l1Below_ok l i h (x.length : Int) hs
  have b := b1 (by omega)
  rw [e1, Option.bind_some, if_pos a1, if_pos b]
  obtain ⟨n, rfl⟩ := nat_of a1
  refine ⟨_, _, _, rfl, ?_, s1⟩
  simp only
  rw [rd_lt (show n < x.length by omega)]
  exact List.getElem_mem _

theorem spec_l2Draw_ok (l : List Int) (i h : Int) (hs : At l i) : ∃ r i' h', spec_l2Draw.f l i h = some (r, i', h') ∧ (-9223372036854775808 ≤ r ∧ r ≤ 9223372036854775807) ∧ At l i' := by
  unfold spec_l2Draw.f
  obtain ⟨r, i1, h1, e1, s1⟩ := spec_l1Once_ok l i h 12 hs
  rw [e1, Option.bind_some]
  cases r with
  | true =>
    rw [if_pos rfl]
    obtain ⟨r2, i2, h2, e2, m2, s2⟩ := spec_l1PickInt_ok l i1 h1 [(-1), 65535, 65536, 1099511627776, (-9223372036854775808)] s1 (by simp)
    rw [e2, Option.bind_some]
    refine ⟨_, _, _, rfl, ?_, s2⟩
    simp only [List.mem_cons, List.not_mem_nil, or_false] at m2
    omega
  | false =>
    rw [if_neg (by simp)]
    obtain ⟨r2, i2, h2, e2, a2, _, b2, s2⟩ := spec_l1Below_ok l i1 h1 256 s1
    obtain ⟨r3, i3, h3, e3, a3, _, b3, s3⟩ := spec_l1Below_ok l i2 h2 3 s2
    rw [e2, Option.bind_some, e3, Option.bind_some]
    refine ⟨_, _, _, rfl, ?_, s3⟩
    simp only
    unfold wrap64
    omega

theorem spec_DrawIsSubset.ev (l : List Int) (hl : l.length ≤ 1048576) : ∃ a b, Ev (fun k => spec_DrawIsSubset.f k l) (a, b) := by
  unfold spec_DrawIsSubset.f
  obtain ⟨h0, e0⟩ := spec_l1New.ev l hl
  obtain ⟨r1, i1, h1, e1, _, s1⟩ := spec_l2Draw_ok l 0 h0 (At.start hl)
  obtain ⟨r2, i2, h2, e2, s2⟩ := spec_l1Once_ok l i1 h1 2 s1
  obtain ⟨r3, i3, h3, e3, _, s3⟩ := spec_l2Draw_ok l i2 h2 s2
  cases r2 with
  | true => exact ⟨_, _, ev_bind _ e0 (ev_bind0 _ e1 (ev_bind0 _ e2 (ev_pos rfl (ev_bind0 _ e3 (ev_some _)))))⟩
  | false => exact ⟨_, _, ev_bind _ e0 (ev_bind0 _ e1 (ev_bind0 _ e2 (ev_neg (by simp) (ev_bind0 _ e3 (ev_some _)))))⟩

theorem isSet_eq (a : Int) : impl_isSet.f a = some (decide (0 ≤ a ∧ a ≤ 65535)) := by
  unfold impl_isSet.f
  split
  · simp only [Option.some.injEq, decide_eq_decide]; omega
  · simp; omega

theorem impl_ListOf.loop (m : Nat) (hm : m ≤ 65535) (d : Nat) : ∀ (i : Nat) (out : List Int), 16 - i = d → i ≤ 16 → out.length ≤ i →
    Ev (fun k => impl_ListOf.l0 k (m : Int) out (i : Int)) (out ++ ints ((List.range' i (16 - i)).filter m.testBit)) := by
  induction d with
  | zero =>
    intro i out hd hi hl
    have e : i = 16 := by omega
    subst e
    refine Ev.step (fun k => by rw [impl_ListOf.l0]) ?_
    refine ev_neg (by omega) ?_
    refine Ev.step (fun k => by rw [impl_ListOf.j1]) ?_
    refine ev_neg (by simp) ?_
    refine ev_of ?_
    simp [ints]
  | succ d ih =>
    intro i out hd hi hl
    refine Ev.step (fun k => by rw [impl_ListOf.l0]) ?_
    refine ev_pos (by omega) ?_
    refine ev_bind0 _ (isSet_eq _) ?_
    refine Ev.step (fun k => by rw [impl_ListOf.j1]) ?_
    refine ev_pos (by simp; omega) ?_
    refine ev_pos (by omega) ?_
    have hw : wrap64 ((i : Int) + 1) = ((i + 1 : Nat) : Int) := by rw [w64 (by omega) (by omega)]; rfl
    rw [elems_step m i (by omega), hw, bit_at m i (by omega) (by omega)]
    cases hb : m.testBit i with
    | true =>
      refine ev_neg (pow_ne i) (ev_pos (by omega) ?_)
      refine ev_eq (ih (i + 1) (out ++ [(i : Int)]) (by omega) (by omega) (by simp; omega)) ?_
      simp [ints]
    | false =>
      refine ev_pos (by simp) ?_
      refine ev_eq (ih (i + 1) out (by omega) (by omega) (by omega)) ?_
      simp
theorem impl_ListOf.ev (a : Int) : Ev (fun k => impl_ListOf.f k a) (setList a) := by
  unfold impl_ListOf.f setList
  by_cases h : 0 ≤ a ∧ a ≤ 65535
  · obtain ⟨m, rfl⟩ := nat_of h.1
    rw [if_pos h, Int.toNat_natCast]
    exact ev_eq (impl_ListOf.loop m (by omega) 16 0 [] rfl (by omega) (by simp)) (by rw [elems_eq]; rfl)
  · rw [if_neg h]
    refine Ev.step (fun k => by rw [impl_ListOf.l0]) ?_
    refine ev_pos (by omega) ?_
    refine ev_bind0 _ (isSet_eq _) ?_
    refine Ev.step (fun k => by rw [impl_ListOf.j1]) ?_
    refine ev_neg (by simpa using h) ?_
    exact ev_some _

theorem impl_SetOf.loop (x : List Int) (hx : x.length ≤ 140737488351232) (d : Nat) : ∀ (i m : Nat), x.length - i = d → i ≤ x.length → m < 65536 →
    Ev (fun k => impl_SetOf.l0 k (m : Int) x (x.length : Int) (i : Int)) (setOf m (x.drop i)) := by
  induction d with
  | zero =>
    intro i m hd hi hm
    refine Ev.step (fun k => by rw [impl_SetOf.l0]) ?_
    refine ev_neg (by omega) (ev_of ?_)
    rw [List.drop_eq_nil_of_le (by omega)]
    rfl
  | succ d ih =>
    intro i m hd hi hm
    refine Ev.step (fun k => by rw [impl_SetOf.l0]) ?_
    refine ev_pos (by omega) (ev_pos (by omega) (ev_pos (by omega) ?_))
    rw [rd_lt (show i < x.length by omega), List.drop_eq_getElem_cons (show i < x.length by omega), setOf]
    by_cases h : 0 ≤ x[i]'(by omega) ∧ x[i]'(by omega) ≤ 15
    · rw [if_pos h]
      refine ev_neg (by omega) (ev_neg (by omega) (ev_pos (by omega) ?_))
      obtain ⟨n, hn⟩ := nat_of h.1
      rw [hn] at h ⊢
      have hp : (2 : Nat) ^ n < 65536 := Nat.pow_lt_pow_right (n := 16) (by omega) (by omega)
      rw [shl1 n (by omega), or64 m (2 ^ n) (by omega) (by omega), w64 (by omega) (by omega), Int.toNat_natCast]
      exact ih (i + 1) _ (by omega) (by omega) (Nat.or_lt_two_pow (n := 16) hm hp)
    · rw [if_neg h]
      by_cases g : x[i]'(by omega) < 0
      · exact ev_pos g (ev_some _)
      · exact ev_neg g (ev_pos (by omega) (ev_some _))
theorem impl_SetOf.ev (x : List Int) (hx : x.length ≤ 140737488351232) : Ev (fun k => impl_SetOf.f k x) (setOf 0 x) := impl_SetOf.loop x hx _ 0 0 rfl (by omega) (by omega)

theorem impl_IsSubset_eq (a b : Int) : impl_IsSubset.f a b = some (isSub a b) := by
  unfold impl_IsSubset.f isSub
  rw [isSet_eq, isSet_eq, Option.bind_some, Option.bind_some]
  by_cases h1 : 0 ≤ a ∧ a ≤ 65535
  · by_cases h2 : 0 ≤ b ∧ b ≤ 65535
    · obtain ⟨m, rfl⟩ := nat_of h1.1
      obtain ⟨n, rfl⟩ := nat_of h2.1
      have hm : m < 2 ^ 63 := by omega
      have hn : n < 2 ^ 63 := by omega
      rw [andNot64 m n hm hn]
      have e := andNot_zero m n hm hn
      rw [if_pos (by simpa using h1), if_pos (by simpa using h2), if_pos ⟨h1, h2⟩, Int.toNat_natCast, Int.toNat_natCast]
      rw [Option.some.injEq, Bool.eq_iff_iff, beq_iff_eq, decide_eq_true_eq]
      generalize m &&& (18446744073709551615 - n) = z at *
      omega
    · rw [if_pos (by simpa using h1), if_neg (by simpa using h2), if_neg (fun h => h2 h.2)]
  · rw [if_neg (by simpa using h1), if_neg (fun h => h1 h.1)]

theorem laws_member_eq (m i : Nat) (hm : m < 2 ^ 63) (hi : i < 16) : laws_member.f (m : Int) (i : Int) = some (m.testBit i) := by
  unfold laws_member.f
  rw [if_pos (by omega), if_pos (by omega), u64w (by omega) (by omega), if_pos (by omega), shr64 m i (by omega)]
  have h1 : m / 2 ^ i < 2 ^ 63 := Nat.lt_of_le_of_lt (Nat.div_le_self ..) hm
  have := and64 (m / 2 ^ i) 1 h1 (by omega)
  rw [show ((1 : Nat) : Int) = 1 from rfl] at this
  rw [this, div_and_one]
  cases h : m.testBit i <;> simp

theorem laws_FnSets.loop (a b m : Nat) (l : List Nat) (hl : ∀ x ∈ l, x < 16) (hl2 : l.length ≤ 16) (hb : b ≤ 65535) (e : isSub (a : Int) (b : Int) = ((ints l).all fun x => b.testBit x.toNat)) (d : Nat) : ∀ i : Nat, l.length - i = d → i ≤ l.length →
    Ev (fun k => laws_FnSets.l0 k (a : Int) (b : Int) (ints l) ((ints (l.take i)).all fun x => b.testBit x.toNat) (i : Int)) true := by
  have hn : (ints l).length = l.length := by simp [ints]
  induction d with
  | zero =>
    intro i hd hi
    refine Ev.step (fun k => by rw [laws_FnSets.l0]) ?_
    refine ev_neg (by omega) (ev_bind0 _ (impl_IsSubset_eq _ _) (ev_of ?_))
    rw [e, List.take_of_length_le (by omega)]
    simp
  | succ d ih =>
    intro i hd hi
    refine Ev.step (fun k => by rw [laws_FnSets.l0]) ?_
    have hr : rd (ints l) (i : Int) = ((l[i]'(by omega) : Nat) : Int) := by rw [rd_lt (show i < (ints l).length by omega)]; simp [ints]
    have ht : ints (l.take (i + 1)) = ints (l.take i) ++ [((l[i]'(by omega) : Nat) : Int)] := by
      rw [List.take_succ_eq_append_getElem (by omega)]
      simp only [ints, List.map_append, List.map_cons, List.map_nil]
    have := ih (i + 1) (by omega) (by omega)
    rw [ht, List.all_append] at this
    refine ev_pos (by omega) ?_
    rw [w64 (a := (i : Int) + 1) (by omega) (by omega)]
    cases hc : (ints (l.take i)).all fun x => b.testBit x.toNat with
    | true =>
      refine ev_pos rfl (ev_pos (by omega) ?_)
      rw [hr]
      refine ev_bind0 _ (laws_member_eq b _ (by omega) (hl _ (List.getElem_mem _))) ?_
      rw [hc] at this
      simpa using this
    | false =>
      refine ev_neg (by simp) ?_
      rw [hc] at this
      simpa using this
theorem laws_FnSets.no (a b : Int) (l : List Int) (hl : l.length ≤ 16) (e : isSub a b = false) (d : Nat) : ∀ i : Nat, l.length - i = d → i ≤ l.length →
    Ev (fun k => laws_FnSets.l0 k a b l false (i : Int)) true := by
  induction d with
  | zero =>
    intro i hd hi
    refine Ev.step (fun k => by rw [laws_FnSets.l0]) ?_
    refine ev_neg (by omega) (ev_bind0 _ (impl_IsSubset_eq _ _) (ev_of ?_))
    rw [e]
    rfl
  | succ d ih =>
    intro i hd hi
    refine Ev.step (fun k => by rw [laws_FnSets.l0]) ?_
    refine ev_pos (by omega) (ev_neg (by simp) ?_)
    rw [w64 (a := (i : Int) + 1) (by omega) (by omega)]
    exact ih (i + 1) (by omega) (by omega)
theorem FnSets : laws_FnSets.Pure := by
  intro x h1 h2 h3
  apply Ev.rounds
  unfold laws_FnSets.f
  refine ev_bind0 _ (show laws_big.f x = some (decide ((x.length : Int) > 1048576)) from rfl) ?_
  by_cases hb : (x.length : Int) > 1048576
  · exact ev_pos (by simpa using hb) (ev_some _)
  · refine ev_neg (by simpa using hb) ?_
    obtain ⟨a, b, e⟩ := spec_DrawIsSubset.ev x (by omega)
    refine ev_bind _ e (ev_bind _ (impl_ListOf.ev a) ?_)
    have hl := setList_len a
    have hs : Ev (fun k => impl_SetOf.f k (setList a)) (if 0 ≤ a ∧ a ≤ 65535 then a else 0, true) := ev_eq (impl_SetOf.ev _ (by omega)) (setOf_setList a)
    have hc : Ev (fun k => impl_CountOf.f k a) ((setList a).length : Int) := by
      unfold impl_CountOf.f
      exact ev_bind _ (impl_ListOf.ev a) (ev_some _)
    refine ev_bind _ hs (ev_pos rfl ?_)
    have hne : ((((setList a).length : Int) != ((setList a).length : Int))) = false := by simp
    have fin : Ev (fun k => laws_FnSets.j0 k a b (setList a) false) true := by
      refine Ev.step (fun k => by rw [laws_FnSets.j0]) ?_
      refine ev_neg (by simp) ?_
      have no : isSub a b = false → Ev (fun k => laws_FnSets.j1 k a b (setList a) false) true := fun e => by
        refine Ev.step (fun k => by rw [laws_FnSets.j1]) ?_
        exact laws_FnSets.no a b _ hl e _ 0 rfl (by omega)
      refine ev_ite (fun g1 => ?_) (fun g1 => no (by unfold isSub; rw [if_neg (by omega)]))
      refine ev_ite (fun g2 => ?_) (fun g2 => no (by unfold isSub; rw [if_neg (by omega)]))
      refine ev_ite (fun g3 => ?_) (fun g3 => no (by unfold isSub; rw [if_neg (by omega)]))
      by_cases g4 : b < 65536
      · rw [decide_eq_true g4]
        refine Ev.step (fun k => by rw [laws_FnSets.j1]) ?_
        obtain ⟨m, rfl⟩ := nat_of g1
        obtain ⟨n, rfl⟩ := nat_of g3
        have e1 : setList (m : Int) = ints ((List.range' 0 16).filter m.testBit) := by
          unfold setList
          rw [if_pos (by omega), Int.toNat_natCast, elems_eq]
        have hf : ∀ x ∈ (List.range' 0 16).filter m.testBit, x < 16 := fun x hx => by
          have := (List.mem_filter.1 hx).1
          rw [List.mem_range'_1] at this
          omega
        have hlen : ((List.range' 0 16).filter m.testBit).length ≤ 16 := Nat.le_trans (List.length_filter_le ..) (by simp)
        rw [e1]
        exact laws_FnSets.loop m n m _ hf hlen (by omega) (isSub_all m n (by omega) (by omega)) _ 0 rfl (by omega)
      · rw [decide_eq_false g4]
        exact no (by unfold isSub; rw [if_neg (by omega)])
    refine ev_ite (fun g1 => ?_) (fun g1 => ev_bind _ hc (by rw [hne]; exact fin))
    refine ev_ite (fun g2 => ?_) (fun g2 => ev_bind _ hc (by rw [hne]; exact fin))
    rw [if_pos ⟨g1, by omega⟩]
    exact ev_pos rfl (ev_bind _ hc (by rw [hne]; exact fin))

end Go.Proofs.Ytadjioinhmndoab.Pure
