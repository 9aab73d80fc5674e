/- The statement FnExactSizeOfTerm over numbers and lists alone: what the printed functions of the law come to is true, for every input. -/
import Derived.Test.YtadjioinhmndoabQx7
import Derived.Test.YtadjioinhmndoabPb
import Derived.Test.YtadjioinhmndoabRd
set_option linter.unusedVariables false
set_option linter.unusedSimpArgs false
namespace Go.Proofs.Ytadjioinhmndoab.Pure
open Go.RowKit Go.Proofs.Ytadjioinhmndoab.Q Go.Proofs.YtadjioinhmndoabW.PrintWords Go.Proofs.YtadjioinhmndoabW.PrintLast Go.Proofs.YtadjioinhmndoabW.PrintMore Go.Proofs.Ytadjioinhmndoab.Pb Go.Proofs.Ytadjioinhmndoab.Rd

/-! terms: sizes, copies, equality -/
mutual
/-- What szTerm counts: the names' letters and the arguments' places. -/
def bulk : S34 → Nat
  | ⟨_, n, _, l⟩ => n.size + bulkL l
def bulkL : List S34 → Nat
  | [] => 0
  | t :: r => 1 + bulk t + bulkL r
end
mutual
def conv : S34 → S39
  | ⟨a, n, s, l⟩ => ⟨a, n, s, convL l⟩
def convL : List S34 → List S39
  | [] => []
  | t :: r => conv t :: convL r
end
mutual
def nodes : S39 → Nat
  | ⟨_, _, _, l⟩ => 1 + nodesL l
def nodesL : List S39 → Nat
  | [] => 0
  | t :: r => nodes t + nodesL r
end
theorem bulkL_mem {l : List S34} {t : S34} (h : t ∈ l) : bulk t + 1 ≤ bulkL l := by
  induction l with
  | nil => cases h
  | cons x r ih =>
    rw [bulkL]
    rcases List.mem_cons.1 h with rfl | h
    · omega
    · have := ih h; omega
theorem bulkL_len (l : List S34) : l.length ≤ bulkL l := by
  induction l with
  | nil => simp
  | cons x r ih => rw [bulkL, List.length_cons]; omega
theorem convL_map (l : List S34) : convL l = l.map conv := by
  induction l with
  | nil => rfl
  | cons t r ih => rw [convL, ih, List.map_cons]
theorem nodesL_mem {l : List S39} {t : S39} (h : t ∈ l) : nodes t ≤ nodesL l := by
  induction l with
  | nil => cases h
  | cons x r ih =>
    rw [nodesL]
    rcases List.mem_cons.1 h with rfl | h
    · omega
    · have := ih h; omega
theorem nodes_pos (t : S39) : 1 ≤ nodes t := by cases t; rw [nodes]; omega
theorem nodesL_len (l : List S39) : l.length ≤ nodesL l := by
  induction l with
  | nil => simp
  | cons x r ih => rw [nodesL, List.length_cons]; have := nodes_pos x; omega
theorem nodesL_append (a b : List S39) : nodesL (a ++ b) = nodesL a + nodesL b := by
  induction a with
  | nil => simp [nodesL]
  | cons x r ih => rw [List.cons_append, nodesL, nodesL, ih]; omega
mutual
theorem nodes_conv : ∀ t : S34, nodes (conv t) ≤ 1 + bulk t
  | ⟨a, n, s, l⟩ => by
    have := nodes_convL l
    rw [conv, nodes, bulk]
    omega
theorem nodes_convL : ∀ l : List S34, nodesL (convL l) ≤ bulkL l
  | [] => by rw [convL, nodesL]; omega
  | t :: r => by
    have h1 := nodes_conv t
    have h2 := nodes_convL r
    rw [convL, nodesL, bulkL]
    omega
end
theorem rdl_lt {xs : List S34} {i : Nat} (h : i < xs.length) : rd_T34 xs (i : Int) = xs[i] := by
  unfold rd_T34
  rw [List.getD_eq_getElem?_getD, Int.toNat_natCast, List.getElem?_eq_getElem h]
  rfl
theorem rdi_lt {xs : List S39} {i : Nat} (h : i < xs.length) : rd_T39 xs (i : Int) = xs[i] := by
  unfold rd_T39
  rw [List.getD_eq_getElem?_getD, Int.toNat_natCast, List.getElem?_eq_getElem h]
  rfl
/-- What is left when so much is taken; -1: there was less. -/
def leftOf (left : Int) (n : Nat) : Int := if (n : Int) ≤ left then left - n else -1
theorem szTerm_ev (n : Nat) : ∀ (t : S34) (left : Int), bulk t < n → okS34 t → 0 ≤ left → left ≤ 1048576 → Ev (fun k => laws_szTerm.f k t.f0 t.f1 t.f2 t.f3 left) (leftOf left (bulk t)) := by
  induction n with
  | zero => intro t left h; omega
  | succ n ih =>
    intro t left hn ho h0 h1
    obtain ⟨a, nm, s, l⟩ := t
    rw [bulk] at hn ⊢
    rw [okS34] at ho
    simp only [maxLen] at ho
    obtain ⟨_, o2, _, o4, o5⟩ := ho
    simp only
    refine Ev.step (fun k => by rw [laws_szTerm.f]) ?_
    rw [w64 (a := left - (nm.size : Int)) (by omega) (by omega)]
    by_cases g : left - (nm.size : Int) < 0
    · refine ev_pos g (ev_of ?_)
      unfold leftOf
      rw [if_neg (by omega)]
    · refine ev_neg g ?_
      have loop : ∀ (d i : Nat) (lf : Int), l.length - i = d → i ≤ l.length → 0 ≤ lf → lf ≤ 1048576 → Ev (fun k => laws_szTermS.l0 k l lf (i : Int)) (leftOf lf (bulkL (l.drop i) - d)) := by
        intro d
        induction d with
        | zero =>
          intro i lf hd hi p0 p1
          refine Ev.step (fun k => by rw [laws_szTermS.l0]) ?_
          refine ev_neg (by omega) (ev_of ?_)
          rw [List.drop_eq_nil_of_le (by omega), bulkL]
          unfold leftOf
          rw [if_pos (by omega)]
          simp
        | succ d ihd =>
          intro i lf hd hi p0 p1
          have hil : i < l.length := by omega
          have hm : l[i] ∈ l := List.getElem_mem _
          have hb := bulkL_mem hm
          refine Ev.step (fun k => by rw [laws_szTermS.l0]) ?_
          refine ev_pos (by omega) (ev_pos (by omega) ?_)
          rw [rdl_lt hil]
          refine ev_bind _ (ih l[i] lf (by omega) ((okS34L_iff l).1 o5 _ hm) p0 p1) ?_
          rw [List.drop_eq_getElem_cons hil, bulkL]
          have hlen := bulkL_len (l.drop (i + 1))
          rw [List.length_drop] at hlen
          by_cases g : (bulk l[i] : Int) ≤ lf
          · have e : leftOf lf (bulk l[i]) = lf - bulk l[i] := by unfold leftOf; rw [if_pos g]
            rw [e, w64 (by omega) (by omega)]
            refine ev_neg (by omega) (ev_eq (ihd (i + 1) _ (by omega) (by omega) (by omega) (by omega)) ?_)
            unfold leftOf
            generalize bulkL (l.drop (i + 1)) = y at *
            generalize bulk l[i] = x at *
            split <;> split <;> omega
          · have e : leftOf lf (bulk l[i]) = -1 := by unfold leftOf; rw [if_neg g]
            rw [e]
            refine ev_pos (by omega) (ev_of ?_)
            unfold leftOf
            rw [if_neg (by omega)]
      have hS : Ev (fun k => laws_szTermS.f k l (left - (nm.size : Int))) (leftOf (left - (nm.size : Int)) (bulkL l)) := by
        refine Ev.step (fun k => by rw [laws_szTermS.f]) ?_
        rw [w64 (a := left - (nm.size : Int) - (l.length : Int)) (by omega) (by omega)]
        have hlen := bulkL_len l
        by_cases g2 : left - (nm.size : Int) - (l.length : Int) < 0
        · refine ev_pos g2 (ev_of ?_)
          unfold leftOf
          rw [if_neg (by omega)]
        · refine ev_neg g2 (ev_eq (loop l.length 0 _ (by omega) (by omega) (by omega) (by omega)) ?_)
          rw [List.drop_zero]
          unfold leftOf
          split <;> split <;> omega
      refine ev_bind _ hS ?_
      by_cases g3 : (bulkL l : Int) ≤ left - (nm.size : Int)
      · have e : leftOf (left - (nm.size : Int)) (bulkL l) = left - nm.size - bulkL l := by unfold leftOf; rw [if_pos g3]
        rw [e]
        refine ev_neg (by omega) (ev_of ?_)
        unfold leftOf
        rw [if_pos (by omega)]
        congr 1
        omega
      · have e : leftOf (left - (nm.size : Int)) (bulkL l) = -1 := by unfold leftOf; rw [if_neg g3]
        rw [e]
        refine ev_pos (by omega) (ev_of ?_)
        unfold leftOf
        rw [if_neg (by omega)]
theorem toTerm_ev (n : Nat) : ∀ (t : S34), bulk t < n → bulk t ≤ 1048576 → Ev (fun k => laws_toTerm.f k t.f0 t.f1 t.f2 t.f3) ((conv t).f0, (conv t).f1, (conv t).f2, (conv t).f3) := by
  induction n with
  | zero => intro t h; omega
  | succ n ih =>
    intro t hn hb
    obtain ⟨a, nm, s, l⟩ := t
    rw [bulk] at hn hb
    have hlen := bulkL_len l
    have loop : ∀ (d i : Nat), l.length - i = d → i ≤ l.length → Ev (fun k => laws_toTermS.l0 k l ((l.take i).map conv ++ List.replicate (l.length - i) z39) (i : Int)) (convL l) := by
      intro d
      induction d with
      | zero =>
        intro i hd hi
        refine Ev.step (fun k => by rw [laws_toTermS.l0]) ?_
        refine ev_neg (by omega) (ev_of ?_)
        rw [hd, List.take_of_length_le (by omega), convL_map]
        simp
      | succ d ihd =>
        intro i hd hi
        have hil : i < l.length := by omega
        have hm : l[i] ∈ l := List.getElem_mem _
        have hbm := bulkL_mem hm
        refine Ev.step (fun k => by rw [laws_toTermS.l0]) ?_
        refine ev_pos (by omega) (ev_pos (by omega) ?_)
        rw [rdl_lt hil]
        refine ev_bind _ (ih l[i] (by omega) (by omega)) (ev_pos (by simp; omega) ?_)
        rw [w64 (by omega) (by omega), hd, List.replicate_succ]
        have e : ((l.take i).map conv ++ z39 :: List.replicate d z39).set ((i : Int)).toNat (conv l[i]) = (l.take (i + 1)).map conv ++ List.replicate (l.length - (i + 1)) z39 := by
          rw [Int.toNat_natCast]
          have hi' : ((l.take i).map conv).length = i := by rw [List.length_map, List.length_take]; omega
          have := set_split ((l.take i).map conv) z39 (List.replicate d z39) (conv l[i])
          rw [hi'] at this
          rw [this, List.take_succ_eq_append_getElem hil, show l.length - (i + 1) = d by omega]
          simp only [List.map_append, List.map_cons, List.map_nil]
        have e2 : (⟨(conv l[i]).f0, (conv l[i]).f1, (conv l[i]).f2, (conv l[i]).f3⟩ : S39) = conv l[i] := by cases conv l[i]; rfl
        simp only [e2]
        rw [e]
        exact ihd (i + 1) (by omega) (by omega)
    simp only
    refine Ev.step (fun k => by rw [laws_toTerm.f]) ?_
    have hS : Ev (fun k => laws_toTermS.f k l) (convL l) := by
      refine Ev.step (fun k => by rw [laws_toTermS.f]) ?_
      refine ev_pos (by omega) (ev_pos (by omega) ?_)
      have := loop l.length 0 (by omega) (by omega)
      simpa using this
    refine ev_bind _ hS (ev_of ?_)
    rw [conv]
theorem toList_inj {a b : ByteArray} (h : a.toList = b.toList) : a = b := by
  rw [Go.ByteArray.toList_eq, Go.ByteArray.toList_eq] at h
  cases a
  cases b
  simp only [ByteArray.mk.injEq] at *
  exact Array.toList_inj.1 h
theorem eqTerm_ev (n : Nat) : ∀ (t u : S39), nodes t < n → nodes t ≤ 1048577 → Ev (fun k => laws_eqTerm.f k t.f0 t.f1 t.f2 t.f3 u.f0 u.f1 u.f2 u.f3) (by classical exact decide (t = u)) := by
  classical
  induction n with
  | zero => intro t u h; omega
  | succ n ih =>
    intro t u hn hb
    obtain ⟨a, nm, s, l⟩ := t
    obtain ⟨a', nm', s', l'⟩ := u
    rw [nodes] at hn hb
    have hlen := nodesL_len l
    simp only
    refine Ev.step (fun k => by rw [laws_eqTerm.f]) ?_
    by_cases e1 : a = a'
    · refine ev_pos e1 ?_
      by_cases e2 : nm = nm'
      · refine ev_pos (by rw [e2]) ?_
        by_cases e3 : s = s'
        · refine ev_pos e3 ?_
          have loop : l.length = l'.length → ∀ (d i : Nat), l.length - i = d → i ≤ l.length → Ev (fun k => laws_eqTermS.l0 k l l' (i : Int)) (decide (l.drop i = l'.drop i)) := by
            intro hll d
            induction d with
            | zero =>
              intro i hd hi
              refine Ev.step (fun k => by rw [laws_eqTermS.l0]) ?_
              refine ev_neg (by omega) (ev_of ?_)
              rw [List.drop_eq_nil_of_le (by omega), List.drop_eq_nil_of_le (by omega)]
              simp
            | succ d ihd =>
              intro i hd hi
              have hil : i < l.length := by omega
              have hm : l[i] ∈ l := List.getElem_mem _
              have hnm := nodesL_mem hm
              refine Ev.step (fun k => by rw [laws_eqTermS.l0]) ?_
              refine ev_pos (by omega) (ev_pos (by omega) (ev_pos (by omega) ?_))
              rw [rdi_lt hil, rdi_lt (show i < l'.length by omega), w64 (by omega) (by omega)]
              refine ev_bind _ (ih l[i] (l'[i]'(by omega)) (by omega) (by omega)) ?_
              rw [List.drop_eq_getElem_cons hil, List.drop_eq_getElem_cons (show i < l'.length by omega)]
              by_cases h : l[i] = l'[i]'(by omega)
              · refine ev_pos (by simpa using h) ?_
                exact ev_eq (ihd (i + 1) (by omega) (by omega)) (by simp only [h, List.cons.injEq, true_and])
              · refine ev_neg (by simpa using h) (ev_of ?_)
                simp only [List.cons.injEq, h, false_and, decide_false]
          have hS : Ev (fun k => laws_eqTermS.f k l l') (decide (l = l')) := by
            refine Ev.step (fun k => by rw [laws_eqTermS.f]) ?_
            by_cases hll : l.length = l'.length
            · refine ev_pos (by omega) ?_
              exact loop hll l.length 0 (by omega) (by omega)
            · refine ev_neg (by omega) (ev_of ?_)
              have : l ≠ l' := fun e => hll (by rw [e])
              simp [this]
          refine ev_bind _ hS ?_
          subst e1 e2 e3
          by_cases h : l = l'
          · refine ev_pos (by simpa using h) (ev_of ?_)
            simp [h]
          · refine ev_neg (by simpa using h) (ev_of ?_)
            simp [h]
        · refine ev_neg e3 (ev_of ?_)
          simp [e3]
      · refine ev_neg (fun h => e2 (toList_inj h)) (ev_of ?_)
        simp [e2]
    · refine ev_neg e1 (ev_of ?_)
      simp [e1]
theorem eqTerm_refl (t : S39) (hb : nodes t ≤ 1048577) : Ev (fun k => laws_eqTerm.f k t.f0 t.f1 t.f2 t.f3 t.f0 t.f1 t.f2 t.f3) true := ev_eq (eqTerm_ev _ t t (Nat.lt_succ_self _) hb) (by simp)

theorem spec_SizeOfTerm.ev (n : Nat) : ∀ (t : S39), nodes t < n → nodes t ≤ 1048577 → Ev (fun k => spec_SizeOfTerm.f k t.f0 t.f1 t.f2 t.f3) (nodes t : Int) := by
  induction n with
  | zero => intro t h; omega
  | succ n ih =>
    intro t hn hb
    obtain ⟨a, nm, s, l⟩ := t
    rw [nodes] at hn hb ⊢
    have hlen := nodesL_len l
    have loop : ∀ (d i : Nat) (acc : Nat), l.length - i = d → i ≤ l.length → acc + nodesL (l.drop i) ≤ 1048577 → Ev (fun k => spec_SizeOfTerm.l0 k (acc : Int) (i : Int) a nm s l) ((acc + nodesL (l.drop i) : Nat) : Int) := by
      intro d
      induction d with
      | zero =>
        intro i acc hd hi hs
        refine Ev.step (fun k => by rw [spec_SizeOfTerm.l0]) ?_
        refine ev_neg (by omega) (ev_of ?_)
        rw [List.drop_eq_nil_of_le (by omega), nodesL]
        simp
      | succ d ihd =>
        intro i acc hd hi hs
        have hil : i < l.length := by omega
        have hm : l[i] ∈ l := List.getElem_mem _
        have hnm := nodesL_mem hm
        rw [List.drop_eq_getElem_cons hil, nodesL] at hs ⊢
        refine Ev.step (fun k => by rw [spec_SizeOfTerm.l0]) ?_
        refine ev_pos (by omega) (ev_pos (by omega) ?_)
        rw [rdi_lt hil]
        refine ev_bind _ (ih l[i] (by omega) (by omega)) ?_
        rw [w64 (a := (i : Int) + 1) (by omega) (by omega), w64 (a := (acc : Int) + (nodes l[i] : Int)) (by omega) (by omega)]
        exact ev_eq (ihd (i + 1) (acc + nodes l[i]) (by omega) (by omega) (by omega)) (by omega)
    simp only
    refine Ev.step (fun k => by rw [spec_SizeOfTerm.f]) ?_
    exact ev_eq (loop l.length 0 1 (by omega) (by omega) (by rw [List.drop_zero]; omega)) (by rw [List.drop_zero])
theorem impl_SizeOfTerm.ev (n : Nat) : ∀ (t : S39), nodes t < n → nodes t ≤ 1048577 → Ev (fun k => impl_SizeOfTerm.f k t.f0 t.f1 t.f2 t.f3) (nodes t : Int) := by
  induction n with
  | zero => intro t h; omega
  | succ n ih =>
    intro t hn hb
    obtain ⟨a, nm, s, l⟩ := t
    rw [nodes] at hn hb ⊢
    have hlen := nodesL_len l
    have loop : ∀ (d i : Nat) (acc : Nat), l.length - i = d → i ≤ l.length → acc + nodesL (l.drop i) ≤ 1048577 → Ev (fun k => impl_SizeOfTerm.l0 k (acc : Int) l (l.length : Int) (i : Int)) ((acc + nodesL (l.drop i) : Nat) : Int) := by
      intro d
      induction d with
      | zero =>
        intro i acc hd hi hs
        refine Ev.step (fun k => by rw [impl_SizeOfTerm.l0]) ?_
        refine ev_neg (by omega) (ev_of ?_)
        rw [List.drop_eq_nil_of_le (by omega), nodesL]
        simp
      | succ d ihd =>
        intro i acc hd hi hs
        have hil : i < l.length := by omega
        have hm : l[i] ∈ l := List.getElem_mem _
        have hnm := nodesL_mem hm
        rw [List.drop_eq_getElem_cons hil, nodesL] at hs ⊢
        refine Ev.step (fun k => by rw [impl_SizeOfTerm.l0]) ?_
        refine ev_pos (by omega) (ev_pos (by omega) (ev_pos (by omega) ?_))
        rw [rdi_lt hil]
        refine ev_bind _ (ih l[i] (by omega) (by omega)) ?_
        rw [w64 (a := (i : Int) + 1) (by omega) (by omega), w64 (a := (acc : Int) + (nodes l[i] : Int)) (by omega) (by omega)]
        exact ev_eq (ihd (i + 1) (acc + nodes l[i]) (by omega) (by omega) (by omega)) (by omega)
    simp only
    refine Ev.step (fun k => by rw [impl_SizeOfTerm.f]) ?_
    exact ev_eq (loop l.length 0 1 (by omega) (by omega) (by rw [List.drop_zero]; omega)) (by rw [List.drop_zero])

theorem FnExactSizeOfTerm (t : S34) (ho : okS34 t) : ∃ k, laws_FnExactSizeOfTerm.f k t.f0 t.f1 t.f2 t.f3 = some true := by
  apply Ev.rounds
  unfold laws_FnExactSizeOfTerm.f
  refine ev_bind _ (szTerm_ev _ t 1048576 (Nat.lt_succ_self _) ho (by omega) (by omega)) ?_
  by_cases g : (bulk t : Int) ≤ 1048576
  · have e : leftOf 1048576 (bulk t) = 1048576 - bulk t := by unfold leftOf; rw [if_pos g]
    rw [e]
    have hn := nodes_conv t
    have hto := toTerm_ev _ t (Nat.lt_succ_self _) (by omega)
    refine ev_neg (by omega) (ev_bind _ hto (ev_bind _ (spec_SizeOfTerm.ev _ (conv t) (Nat.lt_succ_self _) (by omega)) (ev_bind _ hto (ev_bind _ (impl_SizeOfTerm.ev _ (conv t) (Nat.lt_succ_self _) (by omega)) (ev_pos rfl ?_)))))
    exact ev_bind _ hto (ev_bind _ (eqTerm_refl (conv t) (by omega)) (ev_pos rfl (ev_some _)))
  · have e : leftOf 1048576 (bulk t) = -1 := by unfold leftOf; rw [if_neg g]
    rw [e]
    exact ev_pos (by omega) (ev_some _)

end Go.Proofs.Ytadjioinhmndoab.Pure
