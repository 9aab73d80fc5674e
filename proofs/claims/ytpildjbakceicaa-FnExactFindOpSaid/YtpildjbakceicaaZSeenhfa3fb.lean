/- A set of texts that a call keeps in a map of its own: what it holds,what a look-up and a store do. No function of the program in sight. -/
import Derived.Maps.Own
import Derived.Maps.Views
import Derived.Maps.OwnOps
import Derived.StringKeys
import Derived.Test.YtpildjbakceicaaZWWordsh4cfb9
import Derived.Test.YtpildjbakceicaaZWLasth8d709
set_option linter.unusedVariables false
set_option linter.unusedSimpArgs false
namespace Go.Proofs.Ytpildjbakceicaa.Q
open Go.RowKit Go.Maps Go.Proofs.YtpildjbakceicaaW.PrintWords
def memB (l:List ByteArray) (s:ByteArray):Bool:=l.any fun x=>x.data.toList == s.data.toList
theorem memB_iff (l:List ByteArray) (s:ByteArray):memB l s=true↔s ∈ l:=by
  unfold memB
  rw [List.any_eq_true]
  exact ⟨fun ⟨x,hx,h⟩=>by rw [← WideShapes.bytes_inj (beq_iff_eq.1 h)];exact hx,fun h=>⟨s,h,by simp⟩⟩
def Seen (P:Program) (k e:TypeId) (w:World) (b:Nat) (l:List ByteArray):Prop:=
  ∃ (D:DataW Unit),w.ownsMap P k (plainElem P e) b l.length D∧IsMap D∧∀ s:ByteArray,D.atKey (.string s.data.toList) (.lit (.bool false))=.lit (.bool (memB l s))
def seenIn.f (l:List ByteArray) (s:ByteArray):Option Bool:=if s.size≤9223372036854775807 then some (memB l s) else none
section
variable {P:Program} {k e:TypeId} {w:World} {b:Nat} {l:List ByteArray}
theorem Seen.made (w:World):Seen P k e (w.alloc (.map #[] 0)) w.heap.size []:=
  ⟨.map [],World.ownsMap_made _ _ _ _,isMap_empty,fun s=>by simp [DataW.atKey,memB]⟩
theorem Seen.lt (h:Seen P k e w b l):b < w.heap.size:=by
  obtain ⟨D,ho,_⟩:=h
  exact ho.lt
theorem Seen.kept {w' : World} {row:Option Nat} (h:Seen P k e w b l) (hg:w.grownBy w' row) (hne:some b≠row):Seen P k e w' b l:=by
  obtain ⟨D,ho,r⟩:=h
  exact ⟨D,ho.kept hg hne,r⟩
theorem Seen.below {w' : World} (h:Seen P k e w b l) (hb:Below w.heap.size w w'):Seen P k e w' b l:=h.kept (grown_of_below hb none) (by simp)
theorem Seen.drewN (h:Seen P k e w b l) (n:Nat):Seen P k e (w.drewN n) b l:=h.below (pw_below_drewN (Below.refl _ _) n)
theorem Seen.alloc (h:Seen P k e w b l) (o:Obj):Seen P k e (w.alloc o) b l:=h.below (below_alloc (Below.refl _ _) o)
theorem Seen.ne (h:Seen P k e w b l) {g t:Nat} {cs:Array Value} {fr:Nat × Nat} (hb:w.heap[g]? = some (.cells cs t fr)):some g≠some b:=by
  obtain ⟨D,⟨es,c,hm,_⟩,_⟩:=h
  intro he
  injection he with he
  subst he
  rw [hb] at hm
  cases hm
theorem isKey (s:ByteArray):WideAt.IsKeyLit (.string s.data.toList):=by simp [WideAt.IsKeyLit]
theorem Seen.R_kept {α:Type} {d:Kd α} {t base:Nat} {ok:Nat→Prop} {v:Value} {xs:List α} {w' : World} (h:Seen P k e w b l) (hr:d.R t w base ok v xs) (hg:w.grownBy w' (some b)):d.R t w' base ok v xs:=
  Kd.R_mono (Kd.R_step (Kd.R_bound hr) (fun g ho hlt=>by
    obtain ⟨_,_,_,q,_,cells,hc⟩:=ho
    exact hg.block g hlt (h.ne hc))) (fun _ hk=>hk.1)
theorem seen_grown {w1 w2:World} {row:Option Nat} {n:Nat} (hg:(w1.drewN n).grownBy w2 row):w1.grownBy w2 row:=World.grownBy.trans (grown_of_below (pw_below_drewN (Below.refl _ _) n) row) hg
theorem take_wrap {α:Type} (d:α) (l:List α) (i:Int) (h0:0≤i) (h1:i < l.length) (hm:l.length≤9223372036854775807):l.take (wrap64 (i + 1)).toNat=l.take i.toNat ++ [l.getD i.toNat d]:=by
  have e:wrap64 (i + 1)=i + 1:=by unfold wrap64;omega
  rw [e,show (i + 1).toNat=i.toNat + 1 by omega,List.take_succ_eq_append_getElem (show i.toNat < l.length by omega),List.getD_eq_getElem?_getD,List.getElem?_eq_getElem (show i.toNat < l.length by omega)]
  rfl
variable {ops:Array Oper} {rest:List Oper} {o:Oper} {a:Act} {Q:Exit→Act→World→Prop}
theorem wpList_seen (h:Seen P k e w b l) (hg:o.guard=none) (m x:Operand) (t:TypeId) (hop:o.op=Op.lookup t m x false) (hk:P.underlying k=some .string) (ht:P.underlying t=some (.map k e)) (he:P.underlying e=some .bool)
    (hz:(zeroValue e).run P w=.ok (.bool false) w) (hm:a.eval m=.map (some b)) {s:ByteArray} {r:Bool} (hx:a.eval x=.string s) (hr:seenIn.f l s=some r) (hK:wpList P ops Q rest (a.put o.dst (.bool r)) w) :
    wpList P ops Q (o :: rest) a w:=by
  obtain ⟨D,ho,hD,hat⟩:=h
  unfold seenIn.f at hr
  split at hr
  · rename_i hs
    obtain rfl:=Option.some.inj hr
    obtain ⟨v,ps,hrun,hv⟩:=ho.lookup (string_keyed hk) ht hz (plainElem_bool he false) (WideMaps.keyOf_string_mk hk hs)
    rw [hat] at hv
    have hv2:v=.bool (memB l s):=by
      unfold plainElem at hv
      rw [he] at hv
      cases v <;> simp at hv
      rename_i y
      rw [hv.1]
    refine wpList_plain hg fun K' hK'=> ?_
    unfold Oper.wp
    simp [execOp,hop,hm,hx,hrun,Result.andThen,hv2]
    exact hK' _ _ hK
  · cases hr
theorem wpList_seen_put (h:Seen P k e w b l) (hg:o.guard=none) (m x v:Operand) (t:TypeId) (hop:o.op=Op.mapUpdate t m x v) (hk:P.underlying k=some .string) (ht:P.underlying t=some (.map k e)) (he:P.underlying e=some .bool)
    (hm:a.eval m=.map (some b)) {s:ByteArray} {r:Bool} (hx:a.eval x=.string s) (hv:a.eval v=.bool true) (hr:seenIn.f l s=some r) (hl:l.length < maxLen)
    (hK:∀ w',Seen P k e w' b (l ++ [s])→w.grownBy w' (some b)→wpList P ops Q rest (a.put o.dst undef) w'):wpList P ops Q (o :: rest) a w:=by
  obtain ⟨D,ho,hD,hat⟩:=h
  unfold seenIn.f at hr
  split at hr
  · rename_i hs
    refine wpList_mapUpdate_own w hg m x v t hop k e (string_keyed hk) ht (plainElem P e) b l.length D hm ho hl (.string s) (.bool true) (.string s.data.toList) hx hv (WideMaps.keyOf_string_mk hk hs) (.lit (.bool true)) [] (plainElem_bool he true) ?_
    intro w' h1 h2
    refine hK w' ⟨_,by rw [List.length_append];exact h1,hD.put _ _,fun s'=> ?_⟩ h2
    by_cases e1:s' = s
    · subst e1
      rw [atKey_put_same hD (isKey s')]
      have:memB (l ++ [s']) s' = true:=(memB_iff _ _).2 (by simp)
      rw [this]
    · have hne:(Lit.string s'.data.toList)≠Lit.string s.data.toList:=fun h=>by
        injection h with h
        exact e1 (WideShapes.bytes_inj h)
      rw [atKey_put_other hne,hat]
      have:memB (l ++ [s]) s' = memB l s':=by
        rw [Bool.eq_iff_iff,memB_iff,memB_iff]
        simp [e1]
      rw [this]
  · cases hr
end
/-! The set,carried over the walk's steps. -/
section
variable {P:Program} {k e:TypeId} {w w1 w2 W:World} {b g:Nat} {l:List ByteArray} {o:Obj}
theorem Seen.drew (h:Seen P k e w b l):Seen P k e w.drew b l:=h.below (below_drew (Below.refl _ _))
theorem Seen.far (h:Seen P k e w b l) {p:Addr} {v:Value} (hp:b≠p.block):Seen P k e (w.setCell p v) b l:=by
  have hg:w.grownBy (w.setCell p v) (some p.block):=⟨rfl,rfl,rfl,by simp [World.setCell],fun g _ hg=>Below.heap_setCell w p v g (fun e=>hg (by rw [e]))⟩
  exact h.kept hg (fun e=>hp (by injection e))
theorem sV (h:Aside0 (Seen P k e w1 b l)) (k_:Seen P k e w1 b l→Seen P k e w b l:=by (intro h_;(with_reducible repeat (first | apply Seen.drewN | apply Seen.drew | apply Seen.alloc | (apply Seen.far;(case hp=>exact Aside0.out (by assumption)))));with_reducible exact h_)):Seen P k e w b l:=k_ h.out
theorem sB (h:Aside0 (Seen P k e w1 b l)) (hb:Below w.heap.size w W) (k_:Seen P k e w1 b l→Seen P k e w b l:=by (intro h_;(with_reducible repeat (first | apply Seen.drewN | apply Seen.drew | apply Seen.alloc | (apply Seen.far;(case hp=>exact Aside0.out (by assumption)))));with_reducible exact h_)):Aside0 (Seen P k e W b l):=⟨(k_ h.out).below hb⟩
theorem sG (h:Aside0 (Seen P k e w1 b l)) (hg:w.grownBy W (some b)) (k_:Seen P k e w1 b l→Seen P k e w b l:=by (intro h_;(with_reducible repeat (first | apply Seen.drewN | apply Seen.drew | apply Seen.alloc | (apply Seen.far;(case hp=>exact Aside0.out (by assumption)))));with_reducible exact h_)):Seen P k e w b l:=k_ h.out
theorem nM (h:Aside0 (Seen P k e w1 b l)) (hg:g=w.heap.size) (k_:Seen P k e w1 b l→Seen P k e w b l:=by (intro h_;(with_reducible repeat (first | apply Seen.drewN | apply Seen.drew | apply Seen.alloc | (apply Seen.far;(case hp=>exact Aside0.out (by assumption)))));with_reducible exact h_)):Aside0 (b≠g):=⟨by rw [hg];exact Nat.ne_of_lt (k_ h.out).lt⟩
theorem gB (hs:Seen P k e w b l) {cs:Array Value} {t:Nat} {fr:Nat × Nat} (h:Aside0 (w1.heap[g]? = some (.cells cs t fr))) (hg:w.grownBy W (some b)) (k_:w1.heap[g]? = some (.cells cs t fr)→w.heap[g]? = some (.cells cs t fr):=by (intro h_;(with_reducible repeat (first | refine blk_drewN ?_ _ | refine blk_drew ?_ | refine blk_alloc ?_ _ | refine blk_far ?_ (Aside0.out (by assumption)) _));exact h_)):Aside0 (W.heap[g]? = some (.cells cs t fr)):=⟨blk_grown (k_ h.out) hg (hs.ne (k_ h.out))⟩
theorem gR (hs:Seen P k e w b l) {α:Type} {K:Kd α} {t base:Nat} {ok:Nat→Prop} {v:Value} {xs:List α} (h:Aside0 (K.R t w1 base ok v xs)) (hg:w.grownBy W (some b)) (k_:K.R t w1 base ok v xs→K.R t w base ok v xs:=by (intro h_;(with_reducible repeat (first | apply Kd.R_alloc | apply Kd.R_drewN | apply Kd.R_drew));exact h_)):Aside0 (K.R t W base ok v xs):=⟨hs.R_kept (k_ h.out) hg⟩
theorem gH (h:Aside0 (Below w.heap.size w w1)) (hg:w2.grownBy W (some b)) (hb:Aside0 (w.heap.size≤b)) (k_:Below w.heap.size w w1→Below w.heap.size w w2:=by (intro h_;repeat (first | (with_reducible first | exact h_ | apply below_alloc | apply pw_below_drewN | apply below_drew1 | refine below_set ?_ (Aside0.out (by assumption))) | exact h_))):Aside0 (Below w.heap.size w W):=⟨pw_below_grown (k_ h.out) (some b) (k_ h.out).size hg (fun k e=>by injection e with e;subst e;exact hb.out)⟩
end
end Go.Proofs.Ytpildjbakceicaa.Q

