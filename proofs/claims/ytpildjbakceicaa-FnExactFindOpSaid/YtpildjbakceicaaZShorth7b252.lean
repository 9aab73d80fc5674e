/- Three steps through a drawn region,told short: what they ask for is shown by default. Plain theorems. -/
import Derived.Test.YtpildjbakceicaaZWTabhf50b5
import Derived.Test.YtpildjbakceicaaZWWordsh4cfb9
import Derived.WalkKit
import Derived.KernelRfl
import Derived.OrdersHeld
set_option linter.unusedVariables false
namespace Go.Proofs.Ytpildjbakceicaa.Q
open Go.RowKit Go.Proofs.YtpildjbakceicaaW.PrintWords Go.Proofs.YtpildjbakceicaaW.PrintLast
section
variable {P:Program} {ops:Array Oper} {Q:Exit→Act→World→Prop} {md:Region.Mode} {S:World→Prop} {ds:List Nat} {T:Bool × List (List Nat × List Nat)} {B:List Nat} {fuel:Nat} {l l' : Array Bool} {a a' : Act} {w:World} {oi:Oper} {v:Value}
theorem pureS (i:Nat) (N:Tmp) (hT:Aside0 (rtab md ops=T)) (hi:ops[i]? = some oi) (hN:oi.dst=some N) (h:wpAnyLast P md ops Q S ds fuel l' a' w)
    (hl:l.setIfInBounds i true=l':=by (simp only [List.setIfInBounds_toArray,List.set_cons_zero,List.set_cons_succ];try rfl))
    (hc:anyT T l.toList l'.toList i=true:=by kernel_rfl) (hQ:∀ c a w,Q (.panic c) (a.put oi.dst v) w→Q (.panic c) a w:=by exact fun _ _ _ h=>h)
    (hw:Region.wanted oi (yielded ops a.tmps)=true:=by rfl) (hy:∀ w',(execOp a.eval oi).run P w' = .ok (.value v) w':=by (intro w';go_simp;with_reducible rfl))
    (ha:a.put (some N) v=a':=by (simp only [Act.put,List.setIfInBounds_toArray,List.set_cons_zero,List.set_cons_succ,i64_w,i32_w];rfl)):wpAnyLast P md ops Q S ds (fuel + 1) l a w:=
  pure_ l' hi hN (any_of hT.out hc) hQ (Or.inl ⟨hw,hy⟩) ha h
theorem undS (i:Nat) (N:Tmp) (hT:Aside0 (rtab md ops=T)) (hi:ops[i]? = some oi) (hN:oi.dst=some N) (h:wpAnyLast P md ops Q S ds fuel l' a' w)
    (hl:l.setIfInBounds i true=l':=by (simp only [List.setIfInBounds_toArray,List.set_cons_zero,List.set_cons_succ];try rfl))
    (hc:anyT T l.toList l'.toList i=true:=by kernel_rfl) (hQ:∀ c a w,Q (.panic c) (a.put oi.dst undef) w→Q (.panic c) a w:=by exact fun _ _ _ h=>h)
    (hw:Region.wanted oi (yielded ops a.tmps)=false:=by rfl)
    (ha:a.put (some N) undef=a':=by (simp only [Act.put,List.setIfInBounds_toArray,List.set_cons_zero,List.set_cons_succ,i64_w,i32_w];rfl)):wpAnyLast P md ops Q S ds (fuel + 1) l a w:=
  pure_ l' hi hN (any_of hT.out hc) hQ (Or.inr ⟨hw,rfl⟩) ha h
theorem takeS (i:Nat) (N:Tmp) (hT:Aside0 (rtab md ops=T)) (hB:Aside0 (waitsOk T.2 B=true)) (hi:ops[i]? = some oi) (hN:oi.dst=some N) (hS:S w) (h:wpAnyLast P md ops Q S ds fuel l' a' w) (hy:∀ w',S w'→(execOp a.eval oi).run P w' = .ok (.value v) w')
    (hl:l.setIfInBounds i true=l':=by (simp only [List.setIfInBounds_toArray,List.set_cons_zero,List.set_cons_succ];try rfl))
    (hc:takeW T B ds l.toList l'.toList i=true:=by kernel_rfl) (hQ:∀ c a w,Q (.panic c) (a.put oi.dst v) w→Q (.panic c) a w:=by exact fun _ _ _ h=>h)
    (hw:Region.wanted oi (yielded ops a.tmps)=true:=by rfl)
    (ha:a.put (some N) v=a':=by (simp only [Act.put,List.setIfInBounds_toArray,List.set_cons_zero,List.set_cons_succ,i64_w,i32_w];rfl)):wpAnyLast P md ops Q S ds (fuel + 1) l a w:=
  take_ l' hi hN (take_ofW hT.out hB.out hc) hQ (Or.inl ⟨hw,hy⟩) hS ha h
theorem pureK (i:Nat) (N:Tmp) (hi:ops[i]? = some oi) (hN:oi.dst=some N) (h:wpAnyLast P md ops Q S ds fuel l' a' w)
    (hl:l.setIfInBounds i true=l':=by (simp only [List.setIfInBounds_toArray,List.set_cons_zero,List.set_cons_succ];try rfl))
    (hc:anyB md ops l l' i=true:=by kernel_rfl) (hQ:∀ c a w,Q (.panic c) (a.put oi.dst v) w→Q (.panic c) a w:=by exact fun _ _ _ h=>h)
    (hw:Region.wanted oi (yielded ops a.tmps)=true:=by rfl) (hy:∀ w',(execOp a.eval oi).run P w' = .ok (.value v) w':=by (intro w';go_simp;with_reducible rfl))
    (ha:a.put (some N) v=a':=by (simp only [Act.put,List.setIfInBounds_toArray,List.set_cons_zero,List.set_cons_succ,i64_w,i32_w];rfl)):wpAnyLast P md ops Q S ds (fuel + 1) l a w:=
  pure_ l' hi hN hc hQ (Or.inl ⟨hw,hy⟩) ha h
theorem takeK (i:Nat) (N:Tmp) (hi:ops[i]? = some oi) (hN:oi.dst=some N) (hS:S w) (h:wpAnyLast P md ops Q S ds fuel l' a' w) (hy:∀ w',S w'→(execOp a.eval oi).run P w' = .ok (.value v) w')
    (hl:l.setIfInBounds i true=l':=by (simp only [List.setIfInBounds_toArray,List.set_cons_zero,List.set_cons_succ];try rfl))
    (hc:takeB md ops ds l l' i=true:=by kernel_rfl) (hQ:∀ c a w,Q (.panic c) (a.put oi.dst v) w→Q (.panic c) a w:=by exact fun _ _ _ h=>h)
    (hw:Region.wanted oi (yielded ops a.tmps)=true:=by rfl)
    (ha:a.put (some N) v=a':=by (simp only [Act.put,List.setIfInBounds_toArray,List.set_cons_zero,List.set_cons_succ,i64_w,i32_w];rfl)):wpAnyLast P md ops Q S ds (fuel + 1) l a w:=
  take_ l' hi hN hc hQ (Or.inl ⟨hw,hy⟩) hS ha h
end
/-! What is known,carried over an event: the way from the world in which it was noted to the event's world is shown by default. -/
section
variable {w w1 W W2:World} {g g2 n:Nat} {o o1:Obj}
theorem bB (h:Aside0 (w1.heap[g]? = some o)) (hb:Below w.heap.size w W) (k:w1.heap[g]? = some o→w.heap[g]? = some o:=by (intro h_;(with_reducible repeat (first | refine blk_drewN ?_ _ | refine blk_drew ?_ | refine blk_alloc ?_ _ | refine blk_far ?_ (Aside0.out (by assumption)) _));exact h_)):Aside0 (W.heap[g]? = some o):=⟨blk_below (k h.out) hb⟩
theorem bP (h:Aside0 (w1.heap[g]? = some o1)) (hb:Below w.heap.size w W) (k:w1.heap[g]? = some o1→w.heap[g]? = some o:=by (intro h_;(with_reducible repeat (first | refine blk_drewN ?_ _ | refine blk_drew ?_ | refine blk_alloc ?_ _ | (apply blk_far;(case hp=>exact Aside0.out (by assumption))) | apply blk_put));exact h_;all_goals rfl)):Aside0 (W.heap[g]? = some o):=⟨blk_below (k h.out) hb⟩
theorem hS (h:Aside0 (Below w.heap.size w w1)) (hb:Below W.heap.size W W2) (k:Below w.heap.size w w1→Below w.heap.size w W:=by (intro h_;repeat (first | (with_reducible first | exact h_ | apply below_alloc | apply pw_below_drewN | apply below_drew1 | refine below_set ?_ (Aside0.out (by assumption))) | exact h_))):Aside0 (Below w.heap.size w W2):=⟨below_step (k h.out) hb⟩
theorem hZ (h:Aside0 (Below w.heap.size w w1)) (hg:g=W.heap.size) (k:Below w.heap.size w w1→Below w.heap.size w W:=by (intro h_;repeat (first | (with_reducible first | exact h_ | apply below_alloc | apply pw_below_drewN | apply below_drew1 | refine below_set ?_ (Aside0.out (by assumption))) | exact h_))):Aside0 (w.heap.size≤g):=⟨by rw [hg];exact below_size (k h.out)⟩
theorem nL (h:Aside0 (w1.heap[g]? = some o)) (hg:g2=w.heap.size) (k:w1.heap[g]? = some o→w.heap[g]? = some o:=by (intro h_;(with_reducible repeat (first | refine blk_drewN ?_ _ | refine blk_drew ?_ | refine blk_alloc ?_ _ | refine blk_far ?_ (Aside0.out (by assumption)) _));exact h_)):Aside0 (g≠g2):=⟨by rw [hg];exact Nat.ne_of_lt (blk_lt (k h.out))⟩
theorem nG (h:Aside0 (w1.heap[g]? = some o)) (hg:g2=w.heap.size) (k:w1.heap[g]? = some o→w.heap[g]? = some o:=by (intro h_;(with_reducible repeat (first | refine blk_drewN ?_ _ | refine blk_drew ?_ | refine blk_alloc ?_ _ | refine blk_far ?_ (Aside0.out (by assumption)) _));exact h_)):Aside0 (g2≠g):=⟨by rw [hg];exact Nat.ne_of_gt (blk_lt (k h.out))⟩
theorem xc {p:Addr} {v:Value} (hB:Aside0 (Below w.heap.size w W)) (h:w.cell? p=some v):W.cell? p=some v:=(hB.out.cell (World.block_lt_of_cell? w _ h)).trans h
theorem dT {p:Prop} [Decidable p] (h:decide p=true:=by first | (with_reducible assumption) | assumption):p:=of_decide_eq_true h
variable {t:TypeId} {v0 v1 v2 v3 v4 v5 v6 v7 v8 v9:Value} {l:List Value}
theorem cz0 (h:Aside0 (w.heap[g]? = some (.cells (v0 :: l).toArray t (0,0)))):w.cell? ⟨g,0,none⟩=some v0:=(blk_cell h.out 0).trans rfl
theorem cz1 (h:Aside0 (w.heap[g]? = some (.cells (v0 :: v1 :: l).toArray t (0,0)))):w.cell? ⟨g,1,none⟩=some v1:=(blk_cell h.out 1).trans rfl
theorem cz2 (h:Aside0 (w.heap[g]? = some (.cells (v0 :: v1 :: v2 :: l).toArray t (0,0)))):w.cell? ⟨g,2,none⟩=some v2:=(blk_cell h.out 2).trans rfl
theorem cz3 (h:Aside0 (w.heap[g]? = some (.cells (v0 :: v1 :: v2 :: v3 :: l).toArray t (0,0)))):w.cell? ⟨g,3,none⟩=some v3:=(blk_cell h.out 3).trans rfl
theorem cz4 (h:Aside0 (w.heap[g]? = some (.cells (v0 :: v1 :: v2 :: v3 :: v4 :: l).toArray t (0,0)))):w.cell? ⟨g,4,none⟩=some v4:=(blk_cell h.out 4).trans rfl
theorem cf1 (h:Aside0 (w.heap[g]? = some (.cells #[v0] t (0,0)))):w.cell? ⟨g,0,none⟩=some v0∧w.frozen? ⟨g,0,none⟩=false:=⟨cz0 h,blk_frozen h.out 0⟩
theorem cf2 (h:Aside0 (w.heap[g]? = some (.cells #[v0,v1] t (0,0)))):w.cell? ⟨g,0,none⟩=some v0∧w.frozen? ⟨g,0,none⟩=false∧w.cell? ⟨g,1,none⟩=some v1∧w.frozen? ⟨g,1,none⟩=false:=⟨cz0 h,blk_frozen h.out 0,cz1 h,blk_frozen h.out 1⟩
theorem cf3 (h:Aside0 (w.heap[g]? = some (.cells #[v0,v1,v2] t (0,0)))):w.cell? ⟨g,0,none⟩=some v0∧w.frozen? ⟨g,0,none⟩=false∧w.cell? ⟨g,1,none⟩=some v1∧w.frozen? ⟨g,1,none⟩=false∧w.cell? ⟨g,2,none⟩=some v2∧w.frozen? ⟨g,2,none⟩=false:=⟨cz0 h,blk_frozen h.out 0,cz1 h,blk_frozen h.out 1,cz2 h,blk_frozen h.out 2⟩
theorem cf5 (h:Aside0 (w.heap[g]? = some (.cells #[v0,v1,v2,v3,v4] t (0,0)))):w.cell? ⟨g,0,none⟩=some v0∧w.frozen? ⟨g,0,none⟩=false∧w.cell? ⟨g,1,none⟩=some v1∧w.frozen? ⟨g,1,none⟩=false∧w.cell? ⟨g,2,none⟩=some v2∧w.frozen? ⟨g,2,none⟩=false∧w.cell? ⟨g,3,none⟩=some v3∧w.frozen? ⟨g,3,none⟩=false∧w.cell? ⟨g,4,none⟩=some v4∧w.frozen? ⟨g,4,none⟩=false:=⟨cz0 h,blk_frozen h.out 0,cz1 h,blk_frozen h.out 1,cz2 h,blk_frozen h.out 2,cz3 h,blk_frozen h.out 3,cz4 h,blk_frozen h.out 4⟩
end
section
variable {α β:Type} {K:Kd α} {e e2 base base2 n:Nat} {ok ok2:Nat→Prop} {w w1 W W2:World} {u v:Value} {xs:List α} {ys:List β} {K2:Kd β} {A:Option Addr}
theorem rB (h:Aside0 (K.R e w1 base ok v xs)) (hb:Below w.heap.size w W) (k:K.R e w1 base ok v xs→K.R e w base ok v xs:=by (intro h_;(with_reducible repeat (first | apply Kd.R_alloc | apply Kd.R_drewN | apply Kd.R_drew));exact h_)):Aside0 (K.R e W base ok v xs):=⟨Kd.R_below (k h.out) hb⟩
theorem rE (h:Aside0 (K.R e w1 base ok v xs)) (ho:K2.R e2 W2 W.heap.size ok2 u ys) (hb:Below W.heap.size W W2) (k:K.R e w1 base ok v xs→K.R e W base ok v xs:=by (intro h_;(with_reducible repeat (first | apply Kd.R_alloc | apply Kd.R_drewN | apply Kd.R_drew));exact h_)):Aside0 (K.R e W2 base (fun k=>ok k∧some k≠u.ownBlock) v xs):=⟨Kd.R_elder' (k h.out) (Kd.R_base ho) hb⟩
theorem rN (ho:K2.R e2 W2 W.heap.size ok2 u ys) (h:Aside0 (K.R e w1 base ok v xs)) (k:K.R e w1 base ok v xs→K.R e W base ok v xs:=by (intro h_;(with_reducible repeat (first | apply Kd.R_alloc | apply Kd.R_drewN | apply Kd.R_drew));exact h_)):K2.R e2 W2 W.heap.size (fun k=>ok2 k∧some k≠v.ownBlock) u ys:=Kd.R_new' ho (Kd.R_lt (k h.out))
theorem rL (ho:K2.R e2 W2 W.heap.size ok2 u ys) (h:Aside0 (Below w.heap.size w w1)) (k:Below w.heap.size w w1→Below w.heap.size w W:=by (intro h_;repeat (first | (with_reducible first | exact h_ | apply below_alloc | apply pw_below_drewN | apply below_drew1 | refine below_set ?_ (Aside0.out (by assumption))) | exact h_))):Aside0 (K2.R e2 W2 w.heap.size ok2 u ys):=⟨Kd.R_lower ho (below_size (k h.out))⟩
theorem cB (h:Aside0 (K.C w1 A n xs)) (hB:Aside0 (Below w1.heap.size w1 W)) (k:K.C W A n xs→K.C W2 A n xs:=by (intro h_;(with_reducible repeat (first | refine Kd.C_alloc ?_ _ | refine Kd.C_drewN ?_ _ | refine Kd.C_drew ?_));exact h_)):K.C W2 A n xs:=k (Kd.C_below h.out hB.out)
end
section
variable {P:Program} {ops:Array Oper} {rest:List Oper} {o:Oper} {a:Act} {Q:Exit→Act→World→Prop} {W:World}
theorem bx (N:Tmp) (hd:o.dst=some N) (cs:Array Value) (t:TypeId)
    (h:∀ g,g=W.heap.size→∀ w1,w1.heap[g]? = some (.cells cs t (0,0))→Below W.heap.size W w1→wpList P ops Q rest (a.put o.dst (.pointer (some ⟨g,0,none⟩))) w1)
    (hgd:o.guard=none:=by rfl) (hrun:(execOp a.eval o).run P W=.ok (.value (.pointer (some ⟨W.heap.size,0,none⟩))) (W.alloc (.cells cs t (0,0))):=by first | (go_simp;done) | (go_simp;rfl)):wpList P ops Q (o :: rest) a W:=box_event hgd hd hrun h
end
section
variable {w w1 W:World} {g:Nat} {o o1:Obj}
theorem vB (h:Aside0 (w1.heap[g]? = some o)) (k:w1.heap[g]? = some o→w.heap[g]? = some o:=by (intro h_;(with_reducible repeat (first | refine blk_drewN ?_ _ | refine blk_drew ?_ | refine blk_alloc ?_ _ | refine blk_far ?_ (Aside0.out (by assumption)) _));exact h_)):w.heap[g]? = some o:=k h.out
theorem vP (h:Aside0 (w1.heap[g]? = some o1)) (k:w1.heap[g]? = some o1→w.heap[g]? = some o:=by (intro h_;(with_reducible repeat (first | refine blk_drewN ?_ _ | refine blk_drew ?_ | refine blk_alloc ?_ _ | (apply blk_far;(case hp=>exact Aside0.out (by assumption))) | apply blk_put));exact h_;all_goals rfl)):w.heap[g]? = some o:=k h.out
theorem hV (h:Aside0 (Below w.heap.size w w1)) (k:Below w.heap.size w w1→Below w.heap.size w W:=by (intro h_;repeat (first | (with_reducible first | exact h_ | apply below_alloc | apply pw_below_drewN | apply below_drew1 | refine below_set ?_ (Aside0.out (by assumption))) | exact h_))):Below w.heap.size w W:=k h.out
end
section
variable {α:Type} {K:Kd α} {e base g n:Nat} {t:TypeId} {cs:Array Value} {ok ok2:Nat→Prop} {w w1 W w2:World} {v:Value} {xs:List α} {A:Option Addr}
theorem rV (h:Aside0 (K.R e w1 base ok v xs)) (k:K.R e w1 base ok v xs→K.R e w base ok v xs:=by (intro h_;(with_reducible repeat (first | apply Kd.R_alloc | apply Kd.R_drewN | apply Kd.R_drew));exact h_)):K.R e w base ok v xs:=k h.out
theorem rM (h:Aside0 (K.R e w1 base ok v xs)) (f:∀ k,ok k→ok2 k) (k:K.R e w1 base ok2 v xs→K.R e w base ok2 v xs:=by (intro h_;(with_reducible repeat (first | apply Kd.R_alloc | apply Kd.R_drewN | apply Kd.R_drew));exact h_)):K.R e w base ok2 v xs:=k (Kd.R_mono h.out f)
theorem rT (h:Aside0 (K.R e w1 base ok v xs)) (hB:Aside0 (w1.heap[g]? = some (.cells cs t (0,0)))) (f:∀ k,ok k∧k≠g→ok2 k) (ht:∀ q,q ∈ e :: K.E→q≠t:=by decide)
    (k:K.R e w1 base (fun k=>ok k∧k≠g) v xs→K.R e w base (fun k=>ok k∧k≠g) v xs:=by (intro h_;(with_reducible repeat (first | apply Kd.R_alloc | apply Kd.R_drewN | apply Kd.R_drew | refine Kd.R_far ?_ (fun _ hk=>hk.2) _));exact h_)):K.R e w base ok2 v xs:=Kd.R_mono (k (Kd.R_types h.out hB.out ht)) f
theorem rF (h:Aside0 (K.R e w1 base ok v xs)) (hB:Aside0 (w1.heap[g]? = some (.cells cs t (0,0)))) (hb:Below w.heap.size w W) (ht:∀ q,q ∈ e :: K.E→q≠t:=by decide)
    (k:K.R e w1 base (fun k=>ok k∧k≠g) v xs→K.R e w base (fun k=>ok k∧k≠g) v xs:=by (intro h_;(with_reducible repeat (first | apply Kd.R_alloc | apply Kd.R_drewN | apply Kd.R_drew | refine Kd.R_far ?_ (fun _ hk=>hk.2) _));exact h_)):Aside0 (K.R e W base ok v xs):=⟨Kd.R_below (Kd.R_mono (k (Kd.R_types h.out hB.out ht)) (fun _ hk=>hk.1)) hb⟩
theorem cV (h:Aside0 (K.C w A n xs)) (hB:Aside0 (Below w.heap.size w w1)) (k:Below w.heap.size w w1→Below w.heap.size w W:=by (intro h_;repeat (first | (with_reducible first | exact h_ | apply below_alloc | apply pw_below_drewN | apply below_drew1 | refine below_set ?_ (Aside0.out (by assumption))) | exact h_))):K.C W A n xs:=Kd.C_below h.out (k hB.out)
end
section
variable {P:Program} {ops:Array Oper} {Q:Exit→Act→World→Prop} {rest:List Oper} {oi:Oper} {a:Act} {w:World}
theorem goU (f:FuncId) (N:Option Tmp) (cp:Array Value) {x:Operand} {as:Array Operand} {ts:Array TypeId} (hop:oi.op=.call { callee:=.value x,args:=as,argTypes:=ts }) (hx:a.eval x=.func (.func f) #[] cp) {fn:Func} (hf:P.funcs[f]? = some fn) (args:Array Value)
    (h:Calls P f args w fun e w'=> ∃ v,e=.returned v∧wpList P ops Q rest (a.put N v) w')
    (hd : oi.dst = N := by rfl) (hg : oi.guard = none := by rfl) (hname : (fn.name == "runtime.NumGoroutine") = false := by kernel_rfl) (hb : fn.body.isSome = true := by rfl)
    (hargs:as.map a.eval ++ cp=args:=by ((try simp only [List.map_toArray,List.map_cons,List.map_nil]);first | done | rfl | (simp only [List.length_drop,List.length_take];rfl))):wpList P ops Q (oi :: rest) a w:=by
  refine wpList_plain hg fun K hK=> ?_
  have he:=enters_ hf hname hb args w
  have hrun:(execOp a.eval oi).run P w=.ok (.enter f args) w:=by
    unfold execOp
    simp [hop,resolve,Deferred.ofValue,invoke,hargs,hx,he]
  unfold Oper.wp
  rw [hrun,Oper.upon_enter]
  refine h.mono fun e w'' hh=> ?_
  obtain ⟨v,rfl,hk⟩:=hh
  subst hd
  exact hK _ _ hk
theorem goK (f:FuncId) (N:Option Tmp) {as:Array Operand} {ts:Array TypeId} (hop:oi.op=.call { callee:=.value (.func f),args:=as,argTypes:=ts }) {fn:Func} (hf:P.funcs[f]? = some fn) (args:Array Value)
    (h:Calls P f args w fun e w'=> ∃ v,e=.returned v∧wpList P ops Q rest (a.put N v) w')
    (hd : oi.dst = N := by rfl) (hg : oi.guard = none := by rfl) (hname : (fn.name == "runtime.NumGoroutine") = false := by kernel_rfl) (hb : fn.body.isSome = true := by rfl)
    (hargs:as.map a.eval=args:=by ((try simp only [List.map_toArray,List.map_cons,List.map_nil]);first | done | rfl | (simp only [List.length_drop,List.length_take];rfl))):wpList P ops Q (oi :: rest) a w:=goesL_ N hd hg hf hname hb args hop hargs h
end
end Go.Proofs.Ytpildjbakceicaa.Q

