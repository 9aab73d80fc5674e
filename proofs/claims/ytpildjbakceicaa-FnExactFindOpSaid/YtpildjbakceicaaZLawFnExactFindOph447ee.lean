/- The row of the law FnExactFindOp: for every input the call returns true,and each argument reads afterwards as it read before. -/
import Derived.Test.YtpildjbakceicaaRows
import Derived.Test.YtpildjbakceicaaZQx21h69d5e
import Derived.Test.YtpildjbakceicaaZPureFnExactFindOph9f5b3
import Derived.Test.YtpildjbakceicaaZRdhc5c90
import Derived.WalkKit
import Derived.ProofKit
import Derived.OpenShut
import Derived.ShutString
import Derived.ChangeOld
import Derived.Below
import Derived.SizedLaws
import Derived.Test.YtpildjbakceicaaZWSizedh0f41e
set_option linter.unusedVariables false
set_option linter.unusedSimpArgs false
namespace Go.Proofs.Ytpildjbakceicaa.fnExactFindOp
open Go.ChangeShapes Go.WideShapes Go.ChangeAt Go.RowKit Go.Proofs.Ytpildjbakceicaa.Q Go.Proofs.YtpildjbakceicaaW.PrintWords
open Go.ChangeMaps (open_string shut_string)
theorem own:ownKnob Try.prog.godebug=none:=by kernel_rfl
theorem laidOut:laidOutB Try.prog=true:=by kernel_rfl
set_option maxRecDepth 100000 in
theorem lifted (os:Os) (started:os.Started) (H:Type) (enc:TypeId × Value→H) :
    ReturnsInHanded {} Try.checked os 6 .any (Rows.fnExactFindOpSpec.pre6 enc Try.prog Try.f6 Rows.fnExactFindOpRow.domain false) (Rows.fnExactFindOpSpec.post enc Try.prog Try.f6 false true false false):=by
  refine returnsInHanded_of_change_sized (C:=Try.checked) own started (by kernel_rfl) Try.func6
    (ChangeSpec.witness6 (enc:=enc) (C:=Try.checked) false ⟨#[],#[.agg #[.slice none 0 0,.slice none 0 0,.slice none 0 0],.string ByteArray.empty],[]⟩ 8 (by kernel_rfl) (by kernel_rfl) (by kernel_rfl) (by kernel_rfl)) ?_
  intro W base args ds gs before hval0 hW hcnd hsz0 _
  have hsz:(DataW.weightsEach Try.prog (Try.f6.params.toList ++ Rows.fnExactFindOpSpec.plain.varTypes Try.prog) (ds ++ gs)).all (·≤reachBytes)=true:=hsz0
  have hval:∀ (j:Nat) t v,Try.f6.params[j]? = some t→args[j]? = some v→Value.okWide Try.prog W .any base t v:=hval0
  have hW':=hW
  obtain ⟨p,q,hA0,hV,rfl,hfz,hnd⟩:=hW
  have hA:DataW.TrodAll enc Try.prog W 0 (fun _=>true) true Try.f6.params.toList args.toList ds p:=hA0
  rw [Try.params6] at hA hval hsz
  obtain ⟨v0,vs0,d0,ds0,p0,q0,hargs,rfl,rfl,h0,r0⟩:=trodAll_cons hA
  obtain ⟨v1,vs1,d1,ds1,p1,q1,rfl,rfl,rfl,h1,r1⟩:=trodAll_cons r0
  obtain ⟨rfl,rfl,rfl⟩:=trodAll_nil r1
  obtain rfl:args=#[v0,v1]:=by cases args;simp_all
  obtain ⟨rfl,rfl⟩:=trodVars_none hV
  have k0:=h0
  have lt0:∀ x ∈ p0,x.block < W.heap.size:=by obtain ⟨m,hm⟩:=k0;exact DataW.trod_lt m _ _ _ hm
  obtain ⟨cs0,rfl,_⟩:=okWide_struct Try.underlying28 (hval 0 28 v0 rfl rfl)
  obtain ⟨x0,K0,ok0⟩:∃ a:S28,k28.K W a cs0.toList∧Rd.okS28 a:=by
    obtain ⟨fuel,hf⟩:=h0
    exact Rd.rdS28 hf
  obtain ⟨A0_0,c0_0,A0_1,c0_1,A0_2,c0_2,e0,l0_0,g0_0,l0_1,g0_1,l0_2,g0_2⟩:=k28_open K0
  obtain rfl:cs0=#[.slice A0_0 x0.f0.f0.length c0_0,.slice A0_1 x0.f0.f1.length c0_1,.slice A0_2 x0.f1.length c0_2]:=Array.toList_inj.1 e0
  obtain ⟨a1,rfl,rfl,rfl,y1⟩:=open_string Try.underlying9 (hval 1 9 v1 rfl rfl) h1
  have w1:a1.size≤140737488351232:=by
    have z:=sized_string hsz (j:=1) (t:=9) rfl rfl
    rw [Array.length_toList] at z
    exact z
  clear hA0 hval0 hsz0 hsz
  obtain ⟨k,hk⟩:=Pure.FnExactFindOp x0 ok0 a1 w1
  refine Calls.mono (Q.laws_FnExactFindOp.calls k _ _ x0.f0.f0 _ _ x0.f0.f1 _ _ x0.f1 a1 true W g0_0 l0_0 g0_1 l0_1 g0_2 l0_2 hk) fun e W' ⟨he,bel⟩=> ?_
  subst he
  exact ⟨_,rfl,_,_,_,[],_,[],hW',trodAll_mk1 (shut_bool Try.underlying4 _),(trodAll_cons_mk (Below.trod laidOut (by kernel_rfl) (of_decide_eq_true (by kernel_rfl)) k0 bel lt0) (trodAll_cons_mk (shut_string Try.underlying9 y1) trodAll_mk0)),rfl,bel.frame _,fun h=>by cases h⟩
theorem over:Rows.fnExactFindOpRow.holds Try.pinned (OpenSpec.ofChange Rows.fnExactFindOpSpec):=
  OpenClaim.holds_of_wide 6 Try.f6 rfl rfl rfl rfl rfl rfl rfl ⟨rfl,rfl,rfl,rfl,rfl⟩ rfl rfl rfl rfl rfl (by kernel_rfl) Try.func6 (by kernel_rfl)
    (of_decide_eq_true (by kernel_rfl)) (by unfold Func.isWrapper;first | (rw [if_pos (by decide +kernel)];kernel_rfl) | (rw [if_neg (by decide +kernel)];exact ⟨rfl,rfl⟩))
    (fun os started H enc _=>lifted os started H enc)
theorem proved:Rows.FnExactFindOpSaid:=over
#print axioms proved
end Go.Proofs.Ytpildjbakceicaa.fnExactFindOp
namespace Go.Proofs.Ytpildjbakceicaa
theorem fnExactFindOp_holds:Rows.FnExactFindOpSaid:=fnExactFindOp.proved
end Go.Proofs.Ytpildjbakceicaa

