/- What an argument in memory reads as: the values of the plain functions. -/
import Derived.Test.YtcofpnddfmlafaaZQx0hd86e5
import Derived.Deep.Slices
import Derived.ChangeArms
import Derived.WideShapes
set_option linter.unusedVariables false
set_option linter.unusedSimpArgs false
namespace Go.Proofs.Ytcofpnddfmlafaa.Rd
open Go.RowKit Go.Deep Go.Proofs.Ytcofpnddfmlafaa.Q Go.Proofs.YtcofpnddfmlafaaW.PrintWords
theorem pair_of {α β:Type} {a:Kd α} {b:Kd β} {W:World} {x:α} {y:β} {cs:List Value} (ha:a.K W x (cs.take a.sz)) (hb:b.K W y (cs.drop a.sz)):(Kd.pair a b).K W (x,y) cs:=⟨cs.take a.sz,cs.drop a.sz,(List.take_append_drop ..).symm,ha,hb⟩
section
variable {H:Type} {enc:TypeId × Value→H} {P:Program} {W:World} {t:TypeId} {fuel:Nat} {cs:List Value} {x:DataW H × List MemPlace}
theorem rd_int {k:IntKind} (ht:P.underlying t=some (.int k)) (h:DataW.trod enc P W 0 (fun _=>true) true fuel t cs=some x):∃ a,(Kd.int k).K W a cs∧(Lit.int k a).wf=true:=by
  obtain ⟨n,rfl,_,hw⟩:=DataW.trod_int ht h
  exact ⟨n,rfl,hw⟩
theorem rd_str (ht:P.underlying t=some .string) (h:DataW.trod enc P W 0 (fun _=>true) true fuel t cs=some x):∃ a,Kd.string.K W a cs∧a.size≤maxLen:=by
  obtain ⟨s,rfl,_,hs⟩:=DataW.trod_string ht h
  exact ⟨s,rfl,hs⟩
theorem rd_slice {α:Type} [Inhabited α] {d:Kd α} {ok:α→Prop} {e:TypeId} (ht:P.underlying t=some (.slice e)) (hz:P.cellsOf e=d.sz)
    (step:∀ n cs x,n < fuel→DataW.trod enc P W 0 (fun _=>true) true n e cs=some x→∃ a,d.K W a cs∧ok a) (h:DataW.trod enc P W 0 (fun _=>true) true fuel t cs=some x) :
    ∃ xs:List α,(Kd.slice e d).K W xs cs∧(xs.length≤maxLen∧∀ a ∈ xs,ok a):=by
  rcases DataW.trod_slice ht h with ⟨rfl,_⟩ | ⟨a,len,cap,els,rest,n,rfl,rfl,_,hb,hl,hm,hlen,hel,_⟩
  · exact ⟨[],⟨none,0,rfl,Nat.le_refl _,rfl,by simp,fun h0=>absurd h0 (by simp)⟩,by simp,fun a ha=>by cases ha⟩
  · have each:∀ i,i < len→∃ y:α × List Value,(W.cells? 0 (a.add (i * P.cellsOf e)) (P.cellsOf e)=some y.2)∧d.K W y.1 y.2∧ok y.1:=fun i hi=>by
      have hk:=hel i hi
      rw [List.getElem?_eq_getElem (by omega)] at hk
      obtain ⟨c,h1,h2⟩:=Option.bind_eq_some_iff.1 hk
      obtain ⟨y,hy,ho⟩:=step n c _ (Nat.lt_succ_self n) h2
      exact ⟨(y,c),h1,hy,ho⟩
    obtain ⟨f,hf⟩:=choose_lt (α:=α × List Value) each
    have hll:((List.range len).map fun i=>(f i).1).length=len:=by simp
    refine ⟨(List.range len).map fun i=>(f i).1,⟨some a,cap,by rw [hll],by rw [hll];exact hl,?_⟩,by rw [hll];exact Nat.le_trans hl hm,fun z hz=> ?_⟩
    · refine ⟨rfl,by rw [hll];exact Nat.le_trans hl hm,fun _=>⟨a,rfl,fun j p hj=> ?_⟩⟩
      have hjl:j < len:=by
        have:=(List.getElem?_eq_some_iff.1 hj).1
        rwa [hll] at this
      have e:p=(f j).1:=by
        rw [List.getElem?_map,List.getElem?_range hjl] at hj
        exact (Option.some.inj hj).symm
      obtain ⟨h1,h2,_⟩:=hf j hjl
      obtain ⟨_,hcl,hcell⟩:=World.cells?_some h1
      refine ⟨(f j).2,by rw [hcl,hz],by rw [e];exact h2,fun i u hu=> ?_⟩
      have hi:i < (f j).2.length:=(List.getElem?_eq_some_iff.1 hu).1
      have:=hcell i (by omega)
      rw [Go.Deep.add_add,hz] at this
      exact this.trans hu
    · obtain ⟨i,hi,rfl⟩:=List.mem_map.1 hz
      exact (hf i (List.mem_range.1 hi)).2.2
end
section
variable {H:Type} {enc:TypeId × Value→H} {W:World}
instance:Inhabited S24:=⟨z24⟩
mutual
def okS24:S24→Prop
  | ⟨a0,a1,a2,a3⟩=>((Lit.int .i64 a0).wf=true)∧(a1.size≤maxLen)∧((Lit.int .i64 a2).wf=true)∧(a3.length≤maxLen∧okS24L a3)
def okS24L:List S24→Prop
  | []=>True
  | t :: r=>okS24 t∧okS24L r
end
theorem okS24L_iff (l:List S24):okS24L l↔∀ t ∈ l,okS24 t:=by
  induction l with
  | nil=>simp [okS24L]
  | cons t r ih=>simp [okS24L,ih]
set_option maxRecDepth 100000 in
theorem rdS24:∀ {fuel:Nat} {cs:List Value} {x:DataW H × List MemPlace} (_:DataW.trod enc Try.prog W 0 (fun _=>true) true fuel 24 cs=some x),∃ a:S24,k24.K W a cs∧okS24 a:=by
  have key:∀ (m fuel:Nat),fuel < m→∀ (cs:List Value) (x:DataW H × List MemPlace),DataW.trod enc Try.prog W 0 (fun _=>true) true fuel 24 cs=some x→∃ a:S24,k24.K W a cs∧okS24 a:=by
    intro m
    induction m with
    | zero=>intro fuel h;omega
    | succ m ih=>
    intro fuel hfu cs x h
    obtain ⟨xs,n,rfl,_,hl,hxl,hf⟩:=DataW.trod_struct Try.underlying24 h
    have hl' : cs.length=4:=hl
    have h0:=hf 0 _ rfl
    rw [List.getElem?_eq_getElem (show 0 < xs.length by rw [hxl];decide)] at h0
    obtain ⟨a0,k0_,o0⟩:=rd_int Try.underlying3 h0
    replace k0_:((Kd.int .i64)).K W a0 ((cs.drop 0).take 1):=k0_
    have h1:=hf 1 _ rfl
    rw [List.getElem?_eq_getElem (show 1 < xs.length by rw [hxl];decide)] at h1
    obtain ⟨a1,k1_,o1⟩:=rd_str Try.underlying9 h1
    replace k1_:(Kd.string).K W a1 ((cs.drop 1).take 1):=k1_
    have h2:=hf 2 _ rfl
    rw [List.getElem?_eq_getElem (show 2 < xs.length by rw [hxl];decide)] at h2
    obtain ⟨a2,k2_,o2⟩:=rd_int Try.underlying3 h2
    replace k2_:((Kd.int .i64)).K W a2 ((cs.drop 2).take 1):=k2_
    have h3:=hf 3 _ rfl
    rw [List.getElem?_eq_getElem (show 3 < xs.length by rw [hxl];decide)] at h3
    obtain ⟨a3,k3_,o3⟩:=rd_slice (d:=k24) (ok:=okS24) Try.underlying22 (by kernel_rfl) (fun n_ cs_ x_ hn_ h_=>(fun n_ hn_ cs_ x_ h_=>ih n_ (by omega) cs_ x_ h_) n_ (by omega) cs_ x_ h_) h3
    replace k3_:((Kd.slice 24 k24)).K W a3 ((cs.drop 3).take 1):=k3_
    obtain ⟨v0,v1,v2,v3,rfl⟩:∃ v0 v1 v2 v3,cs = [v0,v1,v2,v3]:=by
      match cs,hl' with
      | [v0,v1,v2,v3],_=>exact ⟨v0,v1,v2,v3,rfl⟩
    replace k0_:v0=_:=(List.cons.inj k0_).1
    replace k1_:v1=_:=(List.cons.inj k1_).1
    replace k2_:v2=_:=(List.cons.inj k2_).1
    obtain ⟨A3,c3,e3,l3,g3⟩:=k3_
    replace e3:v3=_:=(List.cons.inj e3).1
    subst k0_ k1_ k2_ e3
    refine ⟨⟨a0,a1,a2,a3⟩,k24_mk W ⟨a0,a1,a2,a3⟩ l3 g3,?_⟩
    rw [okS24]
    exact ⟨o0,o1,o2,⟨o3.1,(okS24L_iff _).2 o3.2⟩⟩
  intro fuel cs x h
  exact key (fuel + 1) fuel (Nat.lt_succ_self _) cs x h
instance:Inhabited S71:=⟨z71⟩
def okS71 (x:S71):Prop:=(okS24 x.f0)∧(okS24 x.f1)
set_option maxRecDepth 100000 in
theorem rdS71:∀ {fuel:Nat} {cs:List Value} {x:DataW H × List MemPlace} (_:DataW.trod enc Try.prog W 0 (fun _=>true) true fuel 71 cs=some x),∃ a:S71,k71.K W a cs∧okS71 a:=by
  intro fuel cs x h
  obtain ⟨xs,n,rfl,_,hl,hxl,hf⟩:=DataW.trod_struct Try.underlying71 h
  have hl' : cs.length=8:=hl
  have h0:=hf 0 _ rfl
  rw [List.getElem?_eq_getElem (show 0 < xs.length by rw [hxl];decide)] at h0
  obtain ⟨a0,k0_,o0⟩:=rdS24 h0
  replace k0_:(k24).K W a0 ((cs.drop 0).take 4):=k0_
  have h1:=hf 1 _ rfl
  rw [List.getElem?_eq_getElem (show 1 < xs.length by rw [hxl];decide)] at h1
  obtain ⟨a1,k1_,o1⟩:=rdS24 h1
  replace k1_:(k24).K W a1 ((cs.drop 4).take 4):=k1_
  refine ⟨⟨a0,a1⟩,?_,⟨o0,o1⟩⟩
  exact (pair_of (by have z_:=k0_;(try simp only [List.drop_drop,List.drop_zero] at z_);(try simp only [List.drop_drop,List.drop_zero]);exact z_) (by have z_:=k1_;rw [List.take_of_length_le (by rw [List.length_drop];omega)] at z_;(try simp only [List.drop_drop,List.drop_zero] at z_);(try simp only [List.drop_drop,List.drop_zero]);exact z_))
end
end Go.Proofs.Ytcofpnddfmlafaa.Rd

