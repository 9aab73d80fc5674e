/- The row of the law FnExactOccursIn: for every input the call returns true,and each argument reads afterwards as it read before. -/
import Derived.Test.YtcofpnddfmlafaaRows
import Derived.Test.YtcofpnddfmlafaaZQx6h8ae71
import Derived.Test.YtcofpnddfmlafaaZPureFnExactOccursInh81131
import Derived.Test.YtcofpnddfmlafaaZRdh946ad
import Derived.WalkKit
import Derived.ProofKit
import Derived.OpenShut
import Derived.ShutString
import Derived.ChangeOld
import Derived.Below
import Derived.SizedLaws
import Derived.Test.YtcofpnddfmlafaaZWSizedh55fe8
set_option linter.unusedVariables false
set_option linter.unusedSimpArgs false
namespace Go.Proofs.Ytcofpnddfmlafaa.fnExactOccursIn
open Go.ChangeShapes Go.WideShapes Go.ChangeAt Go.RowKit Go.Proofs.Ytcofpnddfmlafaa.Q Go.Proofs.YtcofpnddfmlafaaW.PrintWords
open Go.ChangeMaps (open_string shut_string)
theorem own:ownKnob Try.prog.godebug=none:=by kernel_rfl
theorem laidOut:laidOutB Try.prog=true:=by kernel_rfl
set_option maxRecDepth 100000 in
theorem lifted (os:Os) (started:os.Started) (H:Type) (enc:TypeId × Value→H) :
    ReturnsInHanded {} Try.checked os 4 .any (Rows.fnExactOccursInSpec.pre6 enc Try.prog Try.f4 Rows.fnExactOccursInRow.domain false) (Rows.fnExactOccursInSpec.post enc Try.prog Try.f4 false true false false):=by
  refine returnsInHanded_of_change_sized (C:=Try.checked) own started (by kernel_rfl) Try.func4
    (ChangeSpec.witness6 (enc:=enc) (C:=Try.checked) false ⟨#[],#[.agg #[.int .i64 0,.string ByteArray.empty,.int .i64 0,.slice none 0 0],.agg #[.int .i64 0,.string ByteArray.empty,.int .i64 0,.slice none 0 0]],[]⟩ 8 (by kernel_rfl) (by kernel_rfl) (by kernel_rfl) (by kernel_rfl)) ?_
  intro W base args ds gs before hval0 hW hcnd hsz0 _
  have hsz:(DataW.weightsEach Try.prog (Try.f4.params.toList ++ Rows.fnExactOccursInSpec.plain.varTypes Try.prog) (ds ++ gs)).all (·≤reachBytes)=true:=hsz0
  have hval:∀ (j:Nat) t v,Try.f4.params[j]? = some t→args[j]? = some v→Value.okWide Try.prog W .any base t v:=hval0
  have hW':=hW
  obtain ⟨p,q,hA0,hV,rfl,hfz,hnd⟩:=hW
  have hA:DataW.TrodAll enc Try.prog W 0 (fun _=>true) true Try.f4.params.toList args.toList ds p:=hA0
  rw [Try.params4] at hA hval hsz
  obtain ⟨v0,vs0,d0,ds0,p0,q0,hargs,rfl,rfl,h0,r0⟩:=trodAll_cons hA
  obtain ⟨v1,vs1,d1,ds1,p1,q1,rfl,rfl,rfl,h1,r1⟩:=trodAll_cons r0
  obtain ⟨rfl,rfl,rfl⟩:=trodAll_nil r1
  obtain rfl:args=#[v0,v1]:=by cases args;simp_all
  obtain ⟨rfl,rfl⟩:=trodVars_none hV
  have k0:=h0
  have lt0:∀ x ∈ p0,x.block < W.heap.size:=by obtain ⟨m,hm⟩:=k0;exact DataW.trod_lt m _ _ _ hm
  obtain ⟨cs0,rfl,_⟩:=okWide_struct Try.underlying24 (hval 0 24 v0 rfl rfl)
  obtain ⟨x0,K0,ok0⟩:∃ a:S24,k24.K W a cs0.toList∧Rd.okS24 a:=by
    obtain ⟨fuel,hf⟩:=h0
    exact Rd.rdS24 hf
  obtain ⟨A0_3,c0_3,e0,l0_3,g0_3⟩:=k24_open K0
  obtain rfl:cs0=#[.int .i64 x0.f0,.string x0.f1,.int .i64 x0.f2,.slice A0_3 x0.f3.length c0_3]:=Array.toList_inj.1 e0
  have k1:=h1
  have lt1:∀ x ∈ p1,x.block < W.heap.size:=by obtain ⟨m,hm⟩:=k1;exact DataW.trod_lt m _ _ _ hm
  obtain ⟨cs1,rfl,_⟩:=okWide_struct Try.underlying24 (hval 1 24 v1 rfl rfl)
  obtain ⟨x1,K1,ok1⟩:∃ a:S24,k24.K W a cs1.toList∧Rd.okS24 a:=by
    obtain ⟨fuel,hf⟩:=h1
    exact Rd.rdS24 hf
  obtain ⟨A1_3,c1_3,e1,l1_3,g1_3⟩:=k24_open K1
  obtain rfl:cs1=#[.int .i64 x1.f0,.string x1.f1,.int .i64 x1.f2,.slice A1_3 x1.f3.length c1_3]:=Array.toList_inj.1 e1
  clear hA0 hval0 hsz0 hsz
  obtain ⟨k,hk⟩:=Pure.FnExactOccursIn x0 ok0 x1 ok1
  refine Calls.mono (Q.laws_FnExactOccursIn.calls k x0.f0 x0.f1 x0.f2 _ _ x0.f3 x1.f0 x1.f1 x1.f2 _ _ x1.f3 true W g0_3 l0_3 g1_3 l1_3 hk) fun e W' ⟨he,bel⟩=> ?_
  subst he
  exact ⟨_,rfl,_,_,_,[],_,[],hW',trodAll_mk1 (shut_bool Try.underlying4 _),(trodAll_cons_mk (Below.trod laidOut (by kernel_rfl) (of_decide_eq_true (by kernel_rfl)) k0 bel lt0) (trodAll_cons_mk (Below.trod laidOut (by kernel_rfl) (of_decide_eq_true (by kernel_rfl)) k1 bel lt1) trodAll_mk0)),rfl,bel.frame _,fun h=>by cases h⟩
theorem over:Rows.fnExactOccursInRow.holds Try.pinned (OpenSpec.ofChange Rows.fnExactOccursInSpec):=
  OpenClaim.holds_of_wide 4 Try.f4 rfl rfl rfl rfl rfl rfl rfl ⟨rfl,rfl,rfl,rfl,rfl⟩ rfl rfl rfl rfl rfl (by kernel_rfl) Try.func4 (by kernel_rfl)
    (of_decide_eq_true (by kernel_rfl)) (by unfold Func.isWrapper;first | (rw [if_pos (by decide +kernel)];kernel_rfl) | (rw [if_neg (by decide +kernel)];exact ⟨rfl,rfl⟩))
    (fun os started H enc _=>lifted os started H enc)
theorem proved:Rows.FnExactOccursInSaid:=over
#print axioms proved
end Go.Proofs.Ytcofpnddfmlafaa.fnExactOccursIn
namespace Go.Proofs.Ytcofpnddfmlafaa
theorem fnExactOccursIn_holds:Rows.FnExactOccursInSaid:=fnExactOccursIn.proved
end Go.Proofs.Ytcofpnddfmlafaa

