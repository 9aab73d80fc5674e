/- What an argument in memory reads as: the values of the plain functions. -/
import Derived.Test.YtpildjbakceicaaZQx0hb61c0
import Derived.Deep.Slices
import Derived.ChangeArms
import Derived.WideShapes
set_option linter.unusedVariables false
set_option linter.unusedSimpArgs false
namespace Go.Proofs.Ytpildjbakceicaa.Rd
open Go.RowKit Go.Deep Go.Proofs.Ytpildjbakceicaa.Q Go.Proofs.YtpildjbakceicaaW.PrintWords
theorem pair_of {α β:Type} {a:Kd α} {b:Kd β} {W:World} {x:α} {y:β} {cs:List Value} (ha:a.K W x (cs.take a.sz)) (hb:b.K W y (cs.drop a.sz)):(Kd.pair a b).K W (x,y) cs:=⟨cs.take a.sz,cs.drop a.sz,(List.take_append_drop ..).symm,ha,hb⟩
section
variable {H:Type} {enc:TypeId × Value→H} {P:Program} {W:World} {t:TypeId} {fuel:Nat} {cs:List Value} {x:DataW H × List MemPlace}
theorem rd_int {k:IntKind} (ht:P.underlying t=some (.int k)) (h:DataW.trod enc P W 0 (fun _=>true) true fuel t cs=some x):∃ a,(Kd.int k).K W a cs∧(Lit.int k a).wf=true:=by
  obtain ⟨n,rfl,_,hw⟩:=DataW.trod_int ht h
  exact ⟨n,rfl,hw⟩
theorem rd_bool (ht:P.underlying t=some .bool) (h:DataW.trod enc P W 0 (fun _=>true) true fuel t cs=some x):∃ a,Kd.bool.K W a cs∧True:=by
  obtain ⟨b,rfl,_⟩:=DataW.trod_bool ht h
  exact ⟨b,rfl,trivial⟩
theorem rd_str (ht:P.underlying t=some .string) (h:DataW.trod enc P W 0 (fun _=>true) true fuel t cs=some x):∃ a,Kd.string.K W a cs∧a.size≤maxLen:=by
  obtain ⟨s,rfl,_,hs⟩:=DataW.trod_string ht h
  exact ⟨s,rfl,hs⟩
theorem rd_slice {α:Type} [Inhabited α] {d:Kd α} {ok:α→Prop} {e:TypeId} (ht:P.underlying t=some (.slice e)) (hz:P.cellsOf e=d.sz)
    (step:∀ n cs x,n < fuel→DataW.trod enc P W 0 (fun _=>true) true n e cs=some x→∃ a,d.K W a cs∧ok a) (h:DataW.trod enc P W 0 (fun _=>true) true fuel t cs=some x) :
    ∃ xs:List α,(Kd.slice e d).K W xs cs∧(xs.length≤maxLen∧∀ a ∈ xs,ok a):=by
  rcases DataW.trod_slice ht h with ⟨rfl,_⟩ | ⟨a,len,cap,els,rest,n,rfl,rfl,_,hb,hl,hm,hlen,hel,_⟩
  · exact ⟨[],⟨none,0,rfl,Nat.le_refl _,rfl,by simp,fun h0=>absurd h0 (by simp)⟩,by simp,fun a ha=>by cases ha⟩
  · have each:∀ i,i < len→∃ y:α × List Value,(W.cells? 0 (a.add (i * P.cellsOf e)) (P.cellsOf e)=some y.2)∧d.K W y.1 y.2∧ok y.1:=fun i hi=>by
      have hk:=hel i hi
      rw [List.getElem?_eq_getElem (by omega)] at hk
      obtain ⟨c,h1,h2⟩:=Option.bind_eq_some_iff.1 hk
      obtain ⟨y,hy,ho⟩:=step n c _ (Nat.lt_succ_self n) h2
      exact ⟨(y,c),h1,hy,ho⟩
    obtain ⟨f,hf⟩:=choose_lt (α:=α × List Value) each
    have hll:((List.range len).map fun i=>(f i).1).length=len:=by simp
    refine ⟨(List.range len).map fun i=>(f i).1,⟨some a,cap,by rw [hll],by rw [hll];exact hl,?_⟩,by rw [hll];exact Nat.le_trans hl hm,fun z hz=> ?_⟩
    · refine ⟨rfl,by rw [hll];exact Nat.le_trans hl hm,fun _=>⟨a,rfl,fun j p hj=> ?_⟩⟩
      have hjl:j < len:=by
        have:=(List.getElem?_eq_some_iff.1 hj).1
        rwa [hll] at this
      have e:p=(f j).1:=by
        rw [List.getElem?_map,List.getElem?_range hjl] at hj
        exact (Option.some.inj hj).symm
      obtain ⟨h1,h2,_⟩:=hf j hjl
      obtain ⟨_,hcl,hcell⟩:=World.cells?_some h1
      refine ⟨(f j).2,by rw [hcl,hz],by rw [e];exact h2,fun i u hu=> ?_⟩
      have hi:i < (f j).2.length:=(List.getElem?_eq_some_iff.1 hu).1
      have:=hcell i (by omega)
      rw [Go.Deep.add_add,hz] at this
      exact this.trans hu
    · obtain ⟨i,hi,rfl⟩:=List.mem_map.1 hz
      exact (hf i (List.mem_range.1 hi)).2.2
end
section
variable {H:Type} {enc:TypeId × Value→H} {W:World}
instance:Inhabited S107:=⟨z107⟩
def okS107 (x:S107):Prop:=((Lit.int .i64 x.f0).wf=true)∧((Lit.int .i64 x.f1).wf=true)
set_option maxRecDepth 100000 in
theorem rdS107:∀ {fuel:Nat} {cs:List Value} {x:DataW H × List MemPlace} (_:DataW.trod enc Try.prog W 0 (fun _=>true) true fuel 107 cs=some x),∃ a:S107,k107.K W a cs∧okS107 a:=by
  intro fuel cs x h
  obtain ⟨xs,n,rfl,_,hl,hxl,hf⟩:=DataW.trod_struct Try.underlying107 h
  have hl' : cs.length=2:=hl
  have h0:=hf 0 _ rfl
  rw [List.getElem?_eq_getElem (show 0 < xs.length by rw [hxl];decide)] at h0
  obtain ⟨a0,k0_,o0⟩:=rd_int Try.underlying3 h0
  replace k0_:((Kd.int .i64)).K W a0 ((cs.drop 0).take 1):=k0_
  have h1:=hf 1 _ rfl
  rw [List.getElem?_eq_getElem (show 1 < xs.length by rw [hxl];decide)] at h1
  obtain ⟨a1,k1_,o1⟩:=rd_int Try.underlying3 h1
  replace k1_:((Kd.int .i64)).K W a1 ((cs.drop 1).take 1):=k1_
  refine ⟨⟨a0,a1⟩,?_,⟨o0,o1⟩⟩
  exact (pair_of (by have z_:=k0_;(try simp only [List.drop_drop,List.drop_zero] at z_);(try simp only [List.drop_drop,List.drop_zero]);exact z_) (by have z_:=k1_;rw [List.take_of_length_le (by rw [List.length_drop];omega)] at z_;(try simp only [List.drop_drop,List.drop_zero] at z_);(try simp only [List.drop_drop,List.drop_zero]);exact z_))
instance:Inhabited S25:=⟨z25⟩
def okS25 (x:S25):Prop:=((x.f0.length≤maxLen∧∀ z_ ∈ x.f0,z_.size≤maxLen))∧((x.f1.length≤maxLen∧∀ z_ ∈ x.f1,okS107 z_))
set_option maxRecDepth 100000 in
theorem rdS25:∀ {fuel:Nat} {cs:List Value} {x:DataW H × List MemPlace} (_:DataW.trod enc Try.prog W 0 (fun _=>true) true fuel 25 cs=some x),∃ a:S25,k25.K W a cs∧okS25 a:=by
  intro fuel cs x h
  obtain ⟨xs,n,rfl,_,hl,hxl,hf⟩:=DataW.trod_struct Try.underlying25 h
  have hl' : cs.length=2:=hl
  have h0:=hf 0 _ rfl
  rw [List.getElem?_eq_getElem (show 0 < xs.length by rw [hxl];decide)] at h0
  obtain ⟨a0,k0_,o0⟩:=rd_slice (d:=Kd.string) (ok:=fun z_=>z_.size≤maxLen) Try.underlying22 (by kernel_rfl) (fun n_ cs_ x_ _ h_=>rd_str Try.underlying9 h_) h0
  replace k0_:((Kd.slice 9 Kd.string)).K W a0 ((cs.drop 0).take 1):=k0_
  have h1:=hf 1 _ rfl
  rw [List.getElem?_eq_getElem (show 1 < xs.length by rw [hxl];decide)] at h1
  obtain ⟨a1,k1_,o1⟩:=rd_slice (d:=k107) (ok:=fun z_=>okS107 z_) Try.underlying23 (by kernel_rfl) (fun n_ cs_ x_ _ h_=>rdS107 h_) h1
  replace k1_:((Kd.slice 107 k107)).K W a1 ((cs.drop 1).take 1):=k1_
  refine ⟨⟨a0,a1⟩,?_,⟨o0,o1⟩⟩
  exact (pair_of (by have z_:=k0_;(try simp only [List.drop_drop,List.drop_zero] at z_);(try simp only [List.drop_drop,List.drop_zero]);exact z_) (by have z_:=k1_;rw [List.take_of_length_le (by rw [List.length_drop];omega)] at z_;(try simp only [List.drop_drop,List.drop_zero] at z_);(try simp only [List.drop_drop,List.drop_zero]);exact z_))
instance:Inhabited S113:=⟨z113⟩
def okS113 (x:S113):Prop:=((x.f0.length≤maxLen∧∀ z_ ∈ x.f0,(Lit.int .i64 z_).wf=true))∧((Lit.int .i64 x.f1).wf=true)
set_option maxRecDepth 100000 in
theorem rdS113:∀ {fuel:Nat} {cs:List Value} {x:DataW H × List MemPlace} (_:DataW.trod enc Try.prog W 0 (fun _=>true) true fuel 113 cs=some x),∃ a:S113,k113.K W a cs∧okS113 a:=by
  intro fuel cs x h
  obtain ⟨xs,n,rfl,_,hl,hxl,hf⟩:=DataW.trod_struct Try.underlying113 h
  have hl' : cs.length=2:=hl
  have h0:=hf 0 _ rfl
  rw [List.getElem?_eq_getElem (show 0 < xs.length by rw [hxl];decide)] at h0
  obtain ⟨a0,k0_,o0⟩:=rd_slice (d:=(Kd.int .i64)) (ok:=fun z_=>(Lit.int .i64 z_).wf=true) Try.underlying55 (by kernel_rfl) (fun n_ cs_ x_ _ h_=>rd_int Try.underlying3 h_) h0
  replace k0_:((Kd.slice 3 (Kd.int .i64))).K W a0 ((cs.drop 0).take 1):=k0_
  have h1:=hf 1 _ rfl
  rw [List.getElem?_eq_getElem (show 1 < xs.length by rw [hxl];decide)] at h1
  obtain ⟨a1,k1_,o1⟩:=rd_int Try.underlying3 h1
  replace k1_:((Kd.int .i64)).K W a1 ((cs.drop 1).take 1):=k1_
  refine ⟨⟨a0,a1⟩,?_,⟨o0,o1⟩⟩
  exact (pair_of (by have z_:=k0_;(try simp only [List.drop_drop,List.drop_zero] at z_);(try simp only [List.drop_drop,List.drop_zero]);exact z_) (by have z_:=k1_;rw [List.take_of_length_le (by rw [List.length_drop];omega)] at z_;(try simp only [List.drop_drop,List.drop_zero] at z_);(try simp only [List.drop_drop,List.drop_zero]);exact z_))
instance:Inhabited S86:=⟨z86⟩
def okS86 (x:S86):Prop:=(x.f0.size≤maxLen)∧((x.f1.length≤maxLen∧∀ z_ ∈ x.f1,okS113 z_))∧(True)∧(True)∧((Lit.int .i64 x.f4).wf=true)
set_option maxRecDepth 100000 in
theorem rdS86:∀ {fuel:Nat} {cs:List Value} {x:DataW H × List MemPlace} (_:DataW.trod enc Try.prog W 0 (fun _=>true) true fuel 86 cs=some x),∃ a:S86,k86.K W a cs∧okS86 a:=by
  intro fuel cs x h
  obtain ⟨xs,n,rfl,_,hl,hxl,hf⟩:=DataW.trod_struct Try.underlying86 h
  have hl' : cs.length=5:=hl
  have h0:=hf 0 _ rfl
  rw [List.getElem?_eq_getElem (show 0 < xs.length by rw [hxl];decide)] at h0
  obtain ⟨a0,k0_,o0⟩:=rd_str Try.underlying9 h0
  replace k0_:(Kd.string).K W a0 ((cs.drop 0).take 1):=k0_
  have h1:=hf 1 _ rfl
  rw [List.getElem?_eq_getElem (show 1 < xs.length by rw [hxl];decide)] at h1
  obtain ⟨a1,k1_,o1⟩:=rd_slice (d:=k113) (ok:=fun z_=>okS113 z_) Try.underlying84 (by kernel_rfl) (fun n_ cs_ x_ _ h_=>rdS113 h_) h1
  replace k1_:((Kd.slice 113 k113)).K W a1 ((cs.drop 1).take 1):=k1_
  have h2:=hf 2 _ rfl
  rw [List.getElem?_eq_getElem (show 2 < xs.length by rw [hxl];decide)] at h2
  obtain ⟨a2,k2_,o2⟩:=rd_bool Try.underlying4 h2
  replace k2_:(Kd.bool).K W a2 ((cs.drop 2).take 1):=k2_
  have h3:=hf 3 _ rfl
  rw [List.getElem?_eq_getElem (show 3 < xs.length by rw [hxl];decide)] at h3
  obtain ⟨a3,k3_,o3⟩:=rd_bool Try.underlying4 h3
  replace k3_:(Kd.bool).K W a3 ((cs.drop 3).take 1):=k3_
  have h4:=hf 4 _ rfl
  rw [List.getElem?_eq_getElem (show 4 < xs.length by rw [hxl];decide)] at h4
  obtain ⟨a4,k4_,o4⟩:=rd_int Try.underlying3 h4
  replace k4_:((Kd.int .i64)).K W a4 ((cs.drop 4).take 1):=k4_
  refine ⟨⟨a0,a1,a2,a3,a4⟩,?_,⟨o0,o1,o2,o3,o4⟩⟩
  exact (pair_of (by have z_:=k0_;(try simp only [List.drop_drop,List.drop_zero] at z_);(try simp only [List.drop_drop,List.drop_zero]);exact z_) (pair_of (by have z_:=k1_;(try simp only [List.drop_drop,List.drop_zero] at z_);(try simp only [List.drop_drop,List.drop_zero]);exact z_) (pair_of (by have z_:=k2_;(try simp only [List.drop_drop,List.drop_zero] at z_);(try simp only [List.drop_drop,List.drop_zero]);exact z_) (pair_of (by have z_:=k3_;(try simp only [List.drop_drop,List.drop_zero] at z_);(try simp only [List.drop_drop,List.drop_zero]);exact z_) (by have z_:=k4_;rw [List.take_of_length_le (by rw [List.length_drop];omega)] at z_;(try simp only [List.drop_drop,List.drop_zero] at z_);(try simp only [List.drop_drop,List.drop_zero]);exact z_)))))
instance:Inhabited S28:=⟨z28⟩
def okS28 (x:S28):Prop:=(okS25 x.f0)∧((x.f1.length≤maxLen∧∀ z_ ∈ x.f1,okS86 z_))
set_option maxRecDepth 100000 in
theorem rdS28:∀ {fuel:Nat} {cs:List Value} {x:DataW H × List MemPlace} (_:DataW.trod enc Try.prog W 0 (fun _=>true) true fuel 28 cs=some x),∃ a:S28,k28.K W a cs∧okS28 a:=by
  intro fuel cs x h
  obtain ⟨xs,n,rfl,_,hl,hxl,hf⟩:=DataW.trod_struct Try.underlying28 h
  have hl' : cs.length=3:=hl
  have h0:=hf 0 _ rfl
  rw [List.getElem?_eq_getElem (show 0 < xs.length by rw [hxl];decide)] at h0
  obtain ⟨a0,k0_,o0⟩:=rdS25 h0
  replace k0_:(k25).K W a0 ((cs.drop 0).take 2):=k0_
  have h1:=hf 1 _ rfl
  rw [List.getElem?_eq_getElem (show 1 < xs.length by rw [hxl];decide)] at h1
  obtain ⟨a1,k1_,o1⟩:=rd_slice (d:=k86) (ok:=fun z_=>okS86 z_) Try.underlying26 (by kernel_rfl) (fun n_ cs_ x_ _ h_=>rdS86 h_) h1
  replace k1_:((Kd.slice 86 k86)).K W a1 ((cs.drop 2).take 1):=k1_
  refine ⟨⟨a0,a1⟩,?_,⟨o0,o1⟩⟩
  exact (pair_of (by have z_:=k0_;(try simp only [List.drop_drop,List.drop_zero] at z_);(try simp only [List.drop_drop,List.drop_zero]);exact z_) (by have z_:=k1_;rw [List.take_of_length_le (by rw [List.length_drop];omega)] at z_;(try simp only [List.drop_drop,List.drop_zero] at z_);(try simp only [List.drop_drop,List.drop_zero]);exact z_))
end
end Go.Proofs.Ytpildjbakceicaa.Rd

