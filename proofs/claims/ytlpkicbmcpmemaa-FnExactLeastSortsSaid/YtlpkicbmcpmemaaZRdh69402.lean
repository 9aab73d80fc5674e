/- What an argument in memory reads as: the values of the plain functions. -/
import Derived.Test.YtlpkicbmcpmemaaZQx0h0f72a
import Derived.Deep.Slices
import Derived.ChangeArms
import Derived.WideShapes
set_option linter.unusedVariables false
set_option linter.unusedSimpArgs false
namespace Go.Proofs.Ytlpkicbmcpmemaa.Rd
open Go.RowKit Go.Deep Go.Proofs.Ytlpkicbmcpmemaa.Q Go.Proofs.YtlpkicbmcpmemaaW.PrintWords
theorem pair_of {α β : Type} {a : Kd α} {b : Kd β} {W : World} {x : α} {y : β} {cs : List Value} (ha : a.K W x (cs.take a.sz)) (hb : b.K W y (cs.drop a.sz)) : (Kd.pair a b).K W (x, y) cs := ⟨cs.take a.sz, cs.drop a.sz, (List.take_append_drop ..).symm, ha, hb⟩
section
variable {H : Type} {enc : TypeId × Value → H} {P : Program} {W : World} {t : TypeId} {fuel : Nat} {cs : List Value} {x : DataW H × List MemPlace}
theorem rd_int {k : IntKind} (ht : P.underlying t = some (.int k)) (h : DataW.trod enc P W 0 (fun _ => true) true fuel t cs = some x) : ∃ a, (Kd.int k).K W a cs ∧ (Lit.int k a).wf = true := by
  obtain ⟨n, rfl, _, hw⟩ := DataW.trod_int ht h
  exact ⟨n, rfl, hw⟩
theorem rd_str (ht : P.underlying t = some .string) (h : DataW.trod enc P W 0 (fun _ => true) true fuel t cs = some x) : ∃ a, Kd.string.K W a cs ∧ a.size ≤ maxLen := by
  obtain ⟨s, rfl, _, hs⟩ := DataW.trod_string ht h
  exact ⟨s, rfl, hs⟩
theorem rd_slice {α : Type} [Inhabited α] {d : Kd α} {ok : α → Prop} {e : TypeId} (ht : P.underlying t = some (.slice e)) (hz : P.cellsOf e = d.sz)
    (step : ∀ n cs x, n < fuel → DataW.trod enc P W 0 (fun _ => true) true n e cs = some x → ∃ a, d.K W a cs ∧ ok a) (h : DataW.trod enc P W 0 (fun _ => true) true fuel t cs = some x) :
    ∃ xs : List α, (Kd.slice e d).K W xs cs ∧ (xs.length ≤ maxLen ∧ ∀ a ∈ xs, ok a) := by
  rcases DataW.trod_slice ht h with ⟨rfl, _⟩ | ⟨a, len, cap, els, rest, n, rfl, rfl, _, hb, hl, hm, hlen, hel, _⟩
  · exact ⟨[], ⟨none, 0, rfl, Nat.le_refl _, rfl, by simp, fun h0 => absurd h0 (by simp)⟩, by simp, fun a ha => by cases ha⟩
  · have each : ∀ i, i < len → ∃ y : α × List Value, (W.cells? 0 (a.add (i * P.cellsOf e)) (P.cellsOf e) = some y.2) ∧ d.K W y.1 y.2 ∧ ok y.1 := fun i hi => by
      have hk := hel i hi
      rw [List.getElem?_eq_getElem (by omega)] at hk
      obtain ⟨c, h1, h2⟩ := Option.bind_eq_some_iff.1 hk
      obtain ⟨y, hy, ho⟩ := step n c _ (Nat.lt_succ_self n) h2
      exact ⟨(y, c), h1, hy, ho⟩
    obtain ⟨f, hf⟩ := choose_lt (α := α × List Value) each
    have hll : ((List.range len).map fun i => (f i).1).length = len := by simp
    refine ⟨(List.range len).map fun i => (f i).1, ⟨some a, cap, by rw [hll], by rw [hll]; exact hl, ?_⟩, by rw [hll]; exact Nat.le_trans hl hm, fun z hz => ?_⟩
    · refine ⟨rfl, by rw [hll]; exact Nat.le_trans hl hm, fun _ => ⟨a, rfl, fun j p hj => ?_⟩⟩
      have hjl : j < len := by
        have := (List.getElem?_eq_some_iff.1 hj).1
        rwa [hll] at this
      have e : p = (f j).1 := by
        rw [List.getElem?_map, List.getElem?_range hjl] at hj
        exact (Option.some.inj hj).symm
      obtain ⟨h1, h2, _⟩ := hf j hjl
      obtain ⟨_, hcl, hcell⟩ := World.cells?_some h1
      refine ⟨(f j).2, by rw [hcl, hz], by rw [e]; exact h2, fun i u hu => ?_⟩
      have hi : i < (f j).2.length := (List.getElem?_eq_some_iff.1 hu).1
      have := hcell i (by omega)
      rw [Go.Deep.add_add, hz] at this
      exact this.trans hu
    · obtain ⟨i, hi, rfl⟩ := List.mem_map.1 hz
      exact (hf i (List.mem_range.1 hi)).2.2
end
section
variable {H : Type} {enc : TypeId × Value → H} {W : World}
instance : Inhabited S73 := ⟨z73⟩
def okS73 (x : S73) : Prop := ((Lit.int .i64 x.f0).wf = true) ∧ ((Lit.int .i64 x.f1).wf = true)
theorem rdS73 : ∀ {fuel : Nat} {cs : List Value} {x : DataW H × List MemPlace} (_ : DataW.trod enc Try.prog W 0 (fun _ => true) true fuel 73 cs = some x), ∃ a : S73, k73.K W a cs ∧ okS73 a := by
  intro fuel cs x h
  obtain ⟨xs, n, rfl, _, hl, hxl, hf⟩ := DataW.trod_struct Try.underlying73 h
  have hl' : cs.length = 2 := hl
  have h0 := hf 0 _ rfl
  rw [List.getElem?_eq_getElem (show 0 < xs.length by rw [hxl]; decide)] at h0
  obtain ⟨a0, k0_, o0⟩ := rd_int Try.underlying3 h0
  replace k0_ : ((Kd.int .i64)).K W a0 ((cs.drop 0).take 1) := k0_
  have h1 := hf 1 _ rfl
  rw [List.getElem?_eq_getElem (show 1 < xs.length by rw [hxl]; decide)] at h1
  obtain ⟨a1, k1_, o1⟩ := rd_int Try.underlying3 h1
  replace k1_ : ((Kd.int .i64)).K W a1 ((cs.drop 1).take 1) := k1_
  refine ⟨⟨a0, a1⟩, ?_, ⟨o0, o1⟩⟩
  exact (pair_of (by have z_ := k0_; (try simp only [List.drop_drop, List.drop_zero] at z_); (try simp only [List.drop_drop, List.drop_zero]); exact z_) (by have z_ := k1_; rw [List.take_of_length_le (by rw [List.length_drop]; omega)] at z_; (try simp only [List.drop_drop, List.drop_zero] at z_); (try simp only [List.drop_drop, List.drop_zero]); exact z_))
instance : Inhabited S25 := ⟨z25⟩
def okS25 (x : S25) : Prop := ((x.f0.length ≤ maxLen ∧ ∀ z_ ∈ x.f0, z_.size ≤ maxLen)) ∧ ((x.f1.length ≤ maxLen ∧ ∀ z_ ∈ x.f1, okS73 z_))
theorem rdS25 : ∀ {fuel : Nat} {cs : List Value} {x : DataW H × List MemPlace} (_ : DataW.trod enc Try.prog W 0 (fun _ => true) true fuel 25 cs = some x), ∃ a : S25, k25.K W a cs ∧ okS25 a := by
  intro fuel cs x h
  obtain ⟨xs, n, rfl, _, hl, hxl, hf⟩ := DataW.trod_struct Try.underlying25 h
  have hl' : cs.length = 2 := hl
  have h0 := hf 0 _ rfl
  rw [List.getElem?_eq_getElem (show 0 < xs.length by rw [hxl]; decide)] at h0
  obtain ⟨a0, k0_, o0⟩ := rd_slice (d := Kd.string) (ok := fun z_ => z_.size ≤ maxLen) Try.underlying22 (by kernel_rfl) (fun n_ cs_ x_ _ h_ => rd_str Try.underlying9 h_) h0
  replace k0_ : ((Kd.slice 9 Kd.string)).K W a0 ((cs.drop 0).take 1) := k0_
  have h1 := hf 1 _ rfl
  rw [List.getElem?_eq_getElem (show 1 < xs.length by rw [hxl]; decide)] at h1
  obtain ⟨a1, k1_, o1⟩ := rd_slice (d := k73) (ok := fun z_ => okS73 z_) Try.underlying23 (by kernel_rfl) (fun n_ cs_ x_ _ h_ => rdS73 h_) h1
  replace k1_ : ((Kd.slice 73 k73)).K W a1 ((cs.drop 1).take 1) := k1_
  refine ⟨⟨a0, a1⟩, ?_, ⟨o0, o1⟩⟩
  exact (pair_of (by have z_ := k0_; (try simp only [List.drop_drop, List.drop_zero] at z_); (try simp only [List.drop_drop, List.drop_zero]); exact z_) (by have z_ := k1_; rw [List.take_of_length_le (by rw [List.length_drop]; omega)] at z_; (try simp only [List.drop_drop, List.drop_zero] at z_); (try simp only [List.drop_drop, List.drop_zero]); exact z_))
end
end Go.Proofs.Ytlpkicbmcpmemaa.Rd

