/- The row of the law FnExactCompareSubstitutions: for every input the call returns true,and each argument reads afterwards as it read before. -/
import Derived.Test.YtcofpnddfmlafaaRows
import Derived.Test.YtcofpnddfmlafaaZQx17h4e870
import Derived.Test.YtcofpnddfmlafaaZPureFnExactCompareSubstitutionshae954
import Derived.Test.YtcofpnddfmlafaaZRdh0c172
import Derived.WalkKit
import Derived.ProofKit
import Derived.OpenShut
import Derived.ShutString
import Derived.ChangeOld
import Derived.Below
import Derived.SizedLaws
import Derived.Test.YtcofpnddfmlafaaZWSizedh55fe8
set_option linter.unusedVariables false
set_option linter.unusedSimpArgs false
namespace Go.Proofs.Ytcofpnddfmlafaa.fnExactCompareSubstitutions
open Go.ChangeShapes Go.WideShapes Go.ChangeAt Go.RowKit Go.Proofs.Ytcofpnddfmlafaa.Q Go.Proofs.YtcofpnddfmlafaaW.PrintWords
open Go.ChangeMaps (open_string shut_string)
theorem own:ownKnob Try.prog.godebug=none:=by kernel_rfl
theorem laidOut:laidOutB Try.prog=true:=by kernel_rfl
set_option maxRecDepth 100000 in
theorem lifted (os:Os) (started:os.Started) (H:Type) (enc:TypeId × Value→H) :
    ReturnsInHanded {} Try.checked os 10 .any (Rows.fnExactCompareSubstitutionsSpec.pre6 enc Try.prog Try.f10 Rows.fnExactCompareSubstitutionsRow.domain false) (Rows.fnExactCompareSubstitutionsSpec.post enc Try.prog Try.f10 false true false false):=by
  refine returnsInHanded_of_change_sized (C:=Try.checked) own started (by kernel_rfl) Try.func10
    (ChangeSpec.witness6 (enc:=enc) (C:=Try.checked) false ⟨#[],#[.slice none 0 0,.slice none 0 0],[]⟩ 8 (by kernel_rfl) (by kernel_rfl) (by kernel_rfl) (by kernel_rfl)) ?_
  intro W base args ds gs before hval0 hW hcnd hsz0 _
  have hsz:(DataW.weightsEach Try.prog (Try.f10.params.toList ++ Rows.fnExactCompareSubstitutionsSpec.plain.varTypes Try.prog) (ds ++ gs)).all (·≤reachBytes)=true:=hsz0
  have hval:∀ (j:Nat) t v,Try.f10.params[j]? = some t→args[j]? = some v→Value.okWide Try.prog W .any base t v:=hval0
  have hW':=hW
  obtain ⟨p,q,hA0,hV,rfl,hfz,hnd⟩:=hW
  have hA:DataW.TrodAll enc Try.prog W 0 (fun _=>true) true Try.f10.params.toList args.toList ds p:=hA0
  rw [Try.params10] at hA hval hsz
  obtain ⟨v0,vs0,d0,ds0,p0,q0,hargs,rfl,rfl,h0,r0⟩:=trodAll_cons hA
  obtain ⟨v1,vs1,d1,ds1,p1,q1,rfl,rfl,rfl,h1,r1⟩:=trodAll_cons r0
  obtain ⟨rfl,rfl,rfl⟩:=trodAll_nil r1
  obtain rfl:args=#[v0,v1]:=by cases args;simp_all
  obtain ⟨rfl,rfl⟩:=trodVars_none hV
  obtain ⟨a0,len0,cap0,rfl⟩:=okWide_slice Try.underlying49 (hval 0 49 v0 rfl rfl)
  have k0:=h0
  have lt0:∀ x ∈ p0,x.block < W.heap.size:=by obtain ⟨m,hm⟩:=k0;exact DataW.trod_lt m _ _ _ hm
  obtain ⟨x0,K0,ok0⟩:∃ xs:List S71,(Kd.slice 71 k71).K W xs [.slice a0 len0 cap0]∧(xs.length≤maxLen∧∀ a ∈ xs,Rd.okS71 a):=by
    obtain ⟨fuel,hf⟩:=h0
    exact Rd.rd_slice Try.underlying49 (by kernel_rfl) (fun n_ cs_ x_ _ h_=>Rd.rdS71 h_) hf
  obtain ⟨A0,c0,e0,l0_,g0⟩:=K0
  injection e0 with e0 _
  injection e0 with ea0 en0 ec0
  subst ea0 en0 ec0
  obtain ⟨a1,len1,cap1,rfl⟩:=okWide_slice Try.underlying49 (hval 1 49 v1 rfl rfl)
  have k1:=h1
  have lt1:∀ x ∈ p1,x.block < W.heap.size:=by obtain ⟨m,hm⟩:=k1;exact DataW.trod_lt m _ _ _ hm
  obtain ⟨x1,K1,ok1⟩:∃ xs:List S71,(Kd.slice 71 k71).K W xs [.slice a1 len1 cap1]∧(xs.length≤maxLen∧∀ a ∈ xs,Rd.okS71 a):=by
    obtain ⟨fuel,hf⟩:=h1
    exact Rd.rd_slice Try.underlying49 (by kernel_rfl) (fun n_ cs_ x_ _ h_=>Rd.rdS71 h_) hf
  obtain ⟨A1,c1,e1,l1_,g1⟩:=K1
  injection e1 with e1 _
  injection e1 with ea1 en1 ec1
  subst ea1 en1 ec1
  clear hA0 hval0 hsz0 hsz
  obtain ⟨k,hk⟩:=Pure.FnExactCompareSubstitutions x0 ok0 x1 ok1
  refine Calls.mono (Q.laws_FnExactCompareSubstitutions.calls k _ _ x0 _ _ x1 true W g0 l0_ g1 l1_ hk) fun e W' ⟨he,bel⟩=> ?_
  subst he
  exact ⟨_,rfl,_,_,_,[],_,[],hW',trodAll_mk1 (shut_bool Try.underlying4 _),(trodAll_cons_mk (Below.trod laidOut (by kernel_rfl) (of_decide_eq_true (by kernel_rfl)) k0 bel lt0) (trodAll_cons_mk (Below.trod laidOut (by kernel_rfl) (of_decide_eq_true (by kernel_rfl)) k1 bel lt1) trodAll_mk0)),rfl,bel.frame _,fun h=>by cases h⟩
theorem over:Rows.fnExactCompareSubstitutionsRow.holds Try.pinned (OpenSpec.ofChange Rows.fnExactCompareSubstitutionsSpec):=
  OpenClaim.holds_of_wide 10 Try.f10 rfl rfl rfl rfl rfl rfl rfl ⟨rfl,rfl,rfl,rfl,rfl⟩ rfl rfl rfl rfl rfl (by kernel_rfl) Try.func10 (by kernel_rfl)
    (of_decide_eq_true (by kernel_rfl)) (by unfold Func.isWrapper;first | (rw [if_pos (by decide +kernel)];kernel_rfl) | (rw [if_neg (by decide +kernel)];exact ⟨rfl,rfl⟩))
    (fun os started H enc _=>lifted os started H enc)
theorem proved:Rows.FnExactCompareSubstitutionsSaid:=over
#print axioms proved
end Go.Proofs.Ytcofpnddfmlafaa.fnExactCompareSubstitutions
namespace Go.Proofs.Ytcofpnddfmlafaa
theorem fnExactCompareSubstitutions_holds:Rows.FnExactCompareSubstitutionsSaid:=fnExactCompareSubstitutions.proved
end Go.Proofs.Ytcofpnddfmlafaa

