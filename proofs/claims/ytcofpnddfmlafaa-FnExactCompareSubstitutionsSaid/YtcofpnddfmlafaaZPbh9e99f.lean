/- Plain lemmas on rounds,bits and lists for the pure statements of this seat. No program in sight. -/
import Derived.Test.YtcofpnddfmlafaaZWMorehf3a54
import Derived.Laws.BitsAllLaws
set_option linter.unusedVariables false
set_option linter.unusedSimpArgs false
namespace Go.Proofs.Ytcofpnddfmlafaa.Pb
open Go.RowKit Go.Proofs.YtcofpnddfmlafaaW.PrintWords Go.Proofs.YtcofpnddfmlafaaW.PrintMore

/-! rounds -/
theorem ev_some {α:Type} (r:α):Ev (fun _=>some r) r:=Ev.now r
theorem ev_of {α:Type} {o:Option α} {r:α} (h:o=some r):Ev (fun _=>o) r:=⟨0,fun _ _=>h⟩
theorem ev_ite {α:Type} {c:Prop} [Decidable c] {f g:Nat→Option α} {r:α} (h1:c→Ev f r) (h2 : ¬c→Ev g r):Ev (fun k=>if c then f k else g k) r:=by
  by_cases h:c
  · simpa only [if_pos h] using h1 h
  · simpa only [if_neg h] using h2 h
theorem ev_pos {α:Type} {c:Prop} [Decidable c] {f g:Nat→Option α} {r:α} (h:c) (h1:Ev f r):Ev (fun k=>if c then f k else g k) r:=by
  simpa only [if_pos h] using h1
theorem ev_neg {α:Type} {c:Prop} [Decidable c] {f g:Nat→Option α} {r:α} (h : ¬c) (h1:Ev g r):Ev (fun k=>if c then f k else g k) r:=by
  simpa only [if_neg h] using h1
theorem ev_bind {α β:Type} {g:Nat→Option α} {f:Nat→α→Option β} {r:β} (a:α) (h:Ev g a) (k:Ev (fun n=>f n a) r):Ev (fun n=>(g n).bind (f n)) r:=Ev.bind h k
theorem ev_bind0 {α β:Type} {o:Option α} {f:Nat→α→Option β} {r:β} (a:α) (h:o=some a) (k:Ev (fun n=>f n a) r):Ev (fun n=>o.bind (f n)) r:=by
  subst h
  exact k
theorem ev_eq {α:Type} {g:Nat→Option α} {r r' : α} (h:Ev g r) (e:r=r'):Ev g r':=e ▸ h
/-! numbers -/
theorem w64 {a:Int} (h : -9223372036854775808≤a) (h' : a≤9223372036854775807):wrap64 a=a:=by unfold wrap64;omega
/-! sets of small numbers -/
/-! names -/
def letter (c:Int):Bool:=decide (65≤c∧c≤90∨97≤c∧c≤122)
/-! lists -/
theorem set_split {α:Type} (a:List α) (x:α) (b:List α) (y:α):(a ++ x :: b).set a.length y=(a ++ [y]) ++ b:=by
  rw [List.set_append]
  simp
end Go.Proofs.Ytcofpnddfmlafaa.Pb

