/- Functions of the program as plain Lean functions,and that the calls come to what they say. -/
import Derived.Test.YtcofpnddfmlafaaZQx0ha0a76
import Derived.Test.YtcofpnddfmlafaaZQx1h0e98e
import Derived.Test.YtcofpnddfmlafaaZQx2h35a82
import Derived.Test.YtcofpnddfmlafaaZQx3hdb5d2
import Derived.Test.YtcofpnddfmlafaaZShorthad1fd
namespace Go.Proofs.Ytcofpnddfmlafaa.Q
open Go.RowKit Go.Proofs.YtcofpnddfmlafaaW.PrintWords Go.Proofs.YtcofpnddfmlafaaW.PrintLast Go.Proofs.YtcofpnddfmlafaaW.PrintMore
attribute [local go_sem] max2_int min2_int max_two min_two max_three min_three max_four min_four   -- for this text's walks alone
set_option linter.unusedVariables false
set_option linter.unusedSimpArgs false

/-! ### laws_FnExactCompareTerms: function 3 -/
theorem laws_FnExactCompareTerms.a0 {P_:Prop} (h_:P_:=by (try simp only [List.map_toArray,List.map_cons,List.map_nil]);first | done | rfl | (simp only [List.length_drop,List.length_take];rfl)):P_:=h_
theorem laws_FnExactCompareTerms.a1 {P_:Prop} (h_:P_:=by rintro w' ⟨s0,s1,s2,s3,s4,s5,s6,s7⟩;go_simp;with_reducible rfl):P_:=h_
theorem laws_FnExactCompareTerms.a2 {P_:Prop} (h_:P_:=by (with_reducible repeat (first | apply Kd.R_alloc | apply Kd.R_drewN | apply Kd.R_drew));exact (Kd.R_mono (Kd.R_far (p:=⟨A7,3,none⟩) (Kd.R_far (p:=⟨A7,2,none⟩) (Kd.R_far (p:=⟨A7,1,none⟩) (Kd.R_far (p:=⟨A7,0,none⟩) (Kd.R_mono A5.out (fun k_ hk=>(⟨hk,hk.2⟩:_∧k_≠A7))) (fun _ hk=>hk.2) (.int .i64 t168)) (fun _ hk=>hk.2) (.string t169)) (fun _ hk=>hk.2) (.int .i64 t170)) (fun _ hk=>hk.2) (.slice D2 t171.length D0)) (fun _ h_=>h_.1))):P_:=h_
theorem laws_FnExactCompareTerms.a3 {P_:Prop} (h_:P_:=by (with_reducible repeat (first | apply Kd.R_alloc | apply Kd.R_drewN | apply Kd.R_drew));exact (Kd.R_mono (Kd.R_far (p:=⟨A7,3,none⟩) (Kd.R_far (p:=⟨A7,2,none⟩) (Kd.R_far (p:=⟨A7,1,none⟩) (Kd.R_far (p:=⟨A7,0,none⟩) (Kd.R_mono A6.out (fun k_ hk=>(⟨hk,hk.2⟩:_∧k_≠A7))) (fun _ hk=>hk.2) (.int .i64 t168)) (fun _ hk=>hk.2) (.string t169)) (fun _ hk=>hk.2) (.int .i64 t170)) (fun _ hk=>hk.2) (.slice D2 t171.length D0)) (fun _ h_=>h_.1))):P_:=h_
theorem laws_FnExactCompareTerms.a4 {P_:Prop} (h_:P_:=by (with_reducible repeat (first | apply Kd.R_alloc | apply Kd.R_drewN | apply Kd.R_drew));exact (Kd.R_mono (Kd.R_far (p:=⟨A7,3,none⟩) (Kd.R_far (p:=⟨A7,2,none⟩) (Kd.R_far (p:=⟨A7,1,none⟩) (Kd.R_far (p:=⟨A7,0,none⟩) (Kd.R_mono A8.out (fun k_ hk=>(⟨hk,hk.2⟩:_∧k_≠A7))) (fun _ hk=>hk.2) (.int .i64 t168)) (fun _ hk=>hk.2) (.string t169)) (fun _ hk=>hk.2) (.int .i64 t170)) (fun _ hk=>hk.2) (.slice D2 t171.length D0)) (fun _ h_=>h_.1))):P_:=h_
theorem laws_FnExactCompareTerms.a5 {P_:Prop} (h_:P_:=by (with_reducible repeat (first | apply Kd.R_alloc | apply Kd.R_drewN | apply Kd.R_drew));exact (Kd.R_mono (Kd.R_far (p:=⟨A4,3,none⟩) (Kd.R_far (p:=⟨A4,2,none⟩) (Kd.R_far (p:=⟨A4,1,none⟩) (Kd.R_far (p:=⟨A4,0,none⟩) (Kd.R_mono A8.out (fun k_ hk=>(⟨hk,hk.2⟩:_∧k_≠A4))) (fun _ hk=>hk.2) (.int .i64 t175)) (fun _ hk=>hk.2) (.string t176)) (fun _ hk=>hk.2) (.int .i64 t177)) (fun _ hk=>hk.2) (.slice E2 t178.length D7)) (fun _ h_=>h_.1))):P_:=h_
theorem laws_FnExactCompareTerms.a6 {P_:Prop} (h_:P_:=by (with_reducible repeat (first | apply Kd.R_alloc | apply Kd.R_drewN | apply Kd.R_drew));exact (Kd.R_mono (Kd.R_far (p:=⟨A4,3,none⟩) (Kd.R_far (p:=⟨A4,2,none⟩) (Kd.R_far (p:=⟨A4,1,none⟩) (Kd.R_far (p:=⟨A4,0,none⟩) (Kd.R_mono B0.out (fun k_ hk=>(⟨hk,hk.2⟩:_∧k_≠A4))) (fun _ hk=>hk.2) (.int .i64 t175)) (fun _ hk=>hk.2) (.string t176)) (fun _ hk=>hk.2) (.int .i64 t177)) (fun _ hk=>hk.2) (.slice E2 t178.length D7)) (fun _ h_=>h_.1))):P_:=h_
theorem laws_FnExactCompareTerms.a7 {P_:Prop} (h_:P_:=by (with_reducible repeat (first | apply Kd.R_alloc | apply Kd.R_drewN | apply Kd.R_drew));exact (Kd.R_mono (Kd.R_far (p:=⟨A7,3,none⟩) (Kd.R_far (p:=⟨A7,2,none⟩) (Kd.R_far (p:=⟨A7,1,none⟩) (Kd.R_far (p:=⟨A7,0,none⟩) (Kd.R_mono A5.out (fun k_ hk=>(⟨hk,hk.2⟩:_∧k_≠A7))) (fun _ hk=>hk.2) (.int .i64 t168)) (fun _ hk=>hk.2) (.string t169)) (fun _ hk=>hk.2) (.int .i64 t170)) (fun _ hk=>hk.2) (.slice E5 t171.length E3)) (fun _ h_=>h_.1))):P_:=h_
theorem laws_FnExactCompareTerms.a8 {P_:Prop} (h_:P_:=by (with_reducible repeat (first | apply Kd.R_alloc | apply Kd.R_drewN | apply Kd.R_drew));exact (Kd.R_mono (Kd.R_far (p:=⟨A7,3,none⟩) (Kd.R_far (p:=⟨A7,2,none⟩) (Kd.R_far (p:=⟨A7,1,none⟩) (Kd.R_far (p:=⟨A7,0,none⟩) (Kd.R_mono A6.out (fun k_ hk=>(⟨hk,hk.2⟩:_∧k_≠A7))) (fun _ hk=>hk.2) (.int .i64 t168)) (fun _ hk=>hk.2) (.string t169)) (fun _ hk=>hk.2) (.int .i64 t170)) (fun _ hk=>hk.2) (.slice E5 t171.length E3)) (fun _ h_=>h_.1))):P_:=h_
theorem laws_FnExactCompareTerms.a9 {P_:Prop} (h_:P_:=by (with_reducible repeat (first | apply Kd.R_alloc | apply Kd.R_drewN | apply Kd.R_drew));exact (Kd.R_mono (Kd.R_far (p:=⟨A7,3,none⟩) (Kd.R_far (p:=⟨A7,2,none⟩) (Kd.R_far (p:=⟨A7,1,none⟩) (Kd.R_far (p:=⟨A7,0,none⟩) (Kd.R_mono A8.out (fun k_ hk=>(⟨hk,hk.2⟩:_∧k_≠A7))) (fun _ hk=>hk.2) (.int .i64 t168)) (fun _ hk=>hk.2) (.string t169)) (fun _ hk=>hk.2) (.int .i64 t170)) (fun _ hk=>hk.2) (.slice E5 t171.length E3)) (fun _ h_=>h_.1))):P_:=h_
theorem laws_FnExactCompareTerms.a10 {P_:Prop} (h_:P_:=by (with_reducible repeat (first | apply Kd.R_alloc | apply Kd.R_drewN | apply Kd.R_drew));exact (Kd.R_mono (Kd.R_far (p:=⟨A4,3,none⟩) (Kd.R_far (p:=⟨A4,2,none⟩) (Kd.R_far (p:=⟨A4,1,none⟩) (Kd.R_far (p:=⟨A4,0,none⟩) (Kd.R_mono A8.out (fun k_ hk=>(⟨hk,hk.2⟩:_∧k_≠A4))) (fun _ hk=>hk.2) (.int .i64 t175)) (fun _ hk=>hk.2) (.string t176)) (fun _ hk=>hk.2) (.int .i64 t177)) (fun _ hk=>hk.2) (.slice E6 t178.length E4)) (fun _ h_=>h_.1))):P_:=h_
theorem laws_FnExactCompareTerms.a11 {P_:Prop} (h_:P_:=by (with_reducible repeat (first | apply Kd.R_alloc | apply Kd.R_drewN | apply Kd.R_drew));exact (Kd.R_mono (Kd.R_far (p:=⟨A4,3,none⟩) (Kd.R_far (p:=⟨A4,2,none⟩) (Kd.R_far (p:=⟨A4,1,none⟩) (Kd.R_far (p:=⟨A4,0,none⟩) (Kd.R_mono B0.out (fun k_ hk=>(⟨hk,hk.2⟩:_∧k_≠A4))) (fun _ hk=>hk.2) (.int .i64 t175)) (fun _ hk=>hk.2) (.string t176)) (fun _ hk=>hk.2) (.int .i64 t177)) (fun _ hk=>hk.2) (.slice E6 t178.length E4)) (fun _ h_=>h_.1))):P_:=h_
theorem laws_FnExactCompareTerms.a12 {P_:Prop} (h_:P_:=by (with_reducible repeat (first | apply Kd.R_alloc | apply Kd.R_drewN | apply Kd.R_drew));exact (Kd.R_mono (Kd.R_far (p:=⟨A7,3,none⟩) (Kd.R_far (p:=⟨A7,2,none⟩) (Kd.R_far (p:=⟨A7,1,none⟩) (Kd.R_far (p:=⟨A7,0,none⟩) (Kd.R_mono A5.out (fun k_ hk=>(⟨hk,hk.2⟩:_∧k_≠A7))) (fun _ hk=>hk.2) (.int .i64 t168)) (fun _ hk=>hk.2) (.string t169)) (fun _ hk=>hk.2) (.int .i64 t170)) (fun _ hk=>hk.2) (.slice D8 t171.length D3)) (fun _ h_=>h_.1))):P_:=h_
theorem laws_FnExactCompareTerms.a13 {P_:Prop} (h_:P_:=by (with_reducible repeat (first | apply Kd.R_alloc | apply Kd.R_drewN | apply Kd.R_drew));exact (Kd.R_mono (Kd.R_far (p:=⟨A7,3,none⟩) (Kd.R_far (p:=⟨A7,2,none⟩) (Kd.R_far (p:=⟨A7,1,none⟩) (Kd.R_far (p:=⟨A7,0,none⟩) (Kd.R_mono A6.out (fun k_ hk=>(⟨hk,hk.2⟩:_∧k_≠A7))) (fun _ hk=>hk.2) (.int .i64 t168)) (fun _ hk=>hk.2) (.string t169)) (fun _ hk=>hk.2) (.int .i64 t170)) (fun _ hk=>hk.2) (.slice D8 t171.length D3)) (fun _ h_=>h_.1))):P_:=h_
theorem laws_FnExactCompareTerms.a14 {P_:Prop} (h_:P_:=by (with_reducible repeat (first | apply Kd.R_alloc | apply Kd.R_drewN | apply Kd.R_drew));exact (Kd.R_mono (Kd.R_far (p:=⟨A7,3,none⟩) (Kd.R_far (p:=⟨A7,2,none⟩) (Kd.R_far (p:=⟨A7,1,none⟩) (Kd.R_far (p:=⟨A7,0,none⟩) (Kd.R_mono A8.out (fun k_ hk=>(⟨hk,hk.2⟩:_∧k_≠A7))) (fun _ hk=>hk.2) (.int .i64 t168)) (fun _ hk=>hk.2) (.string t169)) (fun _ hk=>hk.2) (.int .i64 t170)) (fun _ hk=>hk.2) (.slice D8 t171.length D3)) (fun _ h_=>h_.1))):P_:=h_
theorem laws_FnExactCompareTerms.a15 {P_:Prop} (h_:P_:=by (with_reducible repeat (first | apply Kd.R_alloc | apply Kd.R_drewN | apply Kd.R_drew));exact (Kd.R_mono (Kd.R_far (p:=⟨A4,3,none⟩) (Kd.R_far (p:=⟨A4,2,none⟩) (Kd.R_far (p:=⟨A4,1,none⟩) (Kd.R_far (p:=⟨A4,0,none⟩) (Kd.R_mono A8.out (fun k_ hk=>(⟨hk,hk.2⟩:_∧k_≠A4))) (fun _ hk=>hk.2) (.int .i64 t175)) (fun _ hk=>hk.2) (.string t176)) (fun _ hk=>hk.2) (.int .i64 t177)) (fun _ hk=>hk.2) (.slice D9 t178.length D4)) (fun _ h_=>h_.1))):P_:=h_
theorem laws_FnExactCompareTerms.a16 {P_:Prop} (h_:P_:=by (with_reducible repeat (first | apply Kd.R_alloc | apply Kd.R_drewN | apply Kd.R_drew));exact (Kd.R_mono (Kd.R_far (p:=⟨A4,3,none⟩) (Kd.R_far (p:=⟨A4,2,none⟩) (Kd.R_far (p:=⟨A4,1,none⟩) (Kd.R_far (p:=⟨A4,0,none⟩) (Kd.R_mono B0.out (fun k_ hk=>(⟨hk,hk.2⟩:_∧k_≠A4))) (fun _ hk=>hk.2) (.int .i64 t175)) (fun _ hk=>hk.2) (.string t176)) (fun _ hk=>hk.2) (.int .i64 t177)) (fun _ hk=>hk.2) (.slice D9 t178.length D4)) (fun _ h_=>h_.1))):P_:=h_
theorem laws_FnExactCompareTerms.a17 {P_:Prop} (h_:P_:=by (with_reducible repeat (first | apply Kd.R_alloc | apply Kd.R_drewN | apply Kd.R_drew));exact (Kd.R_mono (Kd.R_far (p:=⟨A7,3,none⟩) (Kd.R_far (p:=⟨A7,2,none⟩) (Kd.R_far (p:=⟨A7,1,none⟩) (Kd.R_far (p:=⟨A7,0,none⟩) (Kd.R_mono A5.out (fun k_ hk=>(⟨hk,hk.2⟩:_∧k_≠A7))) (fun _ hk=>hk.2) (.int .i64 t168)) (fun _ hk=>hk.2) (.string t169)) (fun _ hk=>hk.2) (.int .i64 t170)) (fun _ hk=>hk.2) (.slice E0 t171.length D5)) (fun _ h_=>h_.1))):P_:=h_
theorem laws_FnExactCompareTerms.a18 {P_:Prop} (h_:P_:=by (with_reducible repeat (first | apply Kd.R_alloc | apply Kd.R_drewN | apply Kd.R_drew));exact (Kd.R_mono (Kd.R_far (p:=⟨A7,3,none⟩) (Kd.R_far (p:=⟨A7,2,none⟩) (Kd.R_far (p:=⟨A7,1,none⟩) (Kd.R_far (p:=⟨A7,0,none⟩) (Kd.R_mono A6.out (fun k_ hk=>(⟨hk,hk.2⟩:_∧k_≠A7))) (fun _ hk=>hk.2) (.int .i64 t168)) (fun _ hk=>hk.2) (.string t169)) (fun _ hk=>hk.2) (.int .i64 t170)) (fun _ hk=>hk.2) (.slice E0 t171.length D5)) (fun _ h_=>h_.1))):P_:=h_
theorem laws_FnExactCompareTerms.a19 {P_:Prop} (h_:P_:=by (with_reducible repeat (first | apply Kd.R_alloc | apply Kd.R_drewN | apply Kd.R_drew));exact (Kd.R_mono (Kd.R_far (p:=⟨A7,3,none⟩) (Kd.R_far (p:=⟨A7,2,none⟩) (Kd.R_far (p:=⟨A7,1,none⟩) (Kd.R_far (p:=⟨A7,0,none⟩) (Kd.R_mono A8.out (fun k_ hk=>(⟨hk,hk.2⟩:_∧k_≠A7))) (fun _ hk=>hk.2) (.int .i64 t168)) (fun _ hk=>hk.2) (.string t169)) (fun _ hk=>hk.2) (.int .i64 t170)) (fun _ hk=>hk.2) (.slice E0 t171.length D5)) (fun _ h_=>h_.1))):P_:=h_
theorem laws_FnExactCompareTerms.a20 {P_:Prop} (h_:P_:=by (with_reducible repeat (first | apply Kd.R_alloc | apply Kd.R_drewN | apply Kd.R_drew));exact (Kd.R_mono (Kd.R_far (p:=⟨A4,3,none⟩) (Kd.R_far (p:=⟨A4,2,none⟩) (Kd.R_far (p:=⟨A4,1,none⟩) (Kd.R_far (p:=⟨A4,0,none⟩) (Kd.R_mono A8.out (fun k_ hk=>(⟨hk,hk.2⟩:_∧k_≠A4))) (fun _ hk=>hk.2) (.int .i64 t175)) (fun _ hk=>hk.2) (.string t176)) (fun _ hk=>hk.2) (.int .i64 t177)) (fun _ hk=>hk.2) (.slice E1 t178.length D6)) (fun _ h_=>h_.1))):P_:=h_
theorem laws_FnExactCompareTerms.a21 {P_:Prop} (h_:P_:=by (with_reducible repeat (first | apply Kd.R_alloc | apply Kd.R_drewN | apply Kd.R_drew));exact (Kd.R_mono (Kd.R_far (p:=⟨A4,3,none⟩) (Kd.R_far (p:=⟨A4,2,none⟩) (Kd.R_far (p:=⟨A4,1,none⟩) (Kd.R_far (p:=⟨A4,0,none⟩) (Kd.R_mono B0.out (fun k_ hk=>(⟨hk,hk.2⟩:_∧k_≠A4))) (fun _ hk=>hk.2) (.int .i64 t175)) (fun _ hk=>hk.2) (.string t176)) (fun _ hk=>hk.2) (.int .i64 t177)) (fun _ hk=>hk.2) (.slice E1 t178.length D6)) (fun _ h_=>h_.1))):P_:=h_
theorem laws_FnExactCompareTerms.a22 {P_:Prop} (h_:P_:=by first | rfl | (simp [errW_none,errW_some] <;> rfl) | (simp [*,errW_none,errW_some] <;> rfl)):P_:=h_
theorem laws_FnExactCompareTerms.a23 {P_:Prop} (h_:P_:=by kernel_rfl):P_:=h_
def laws_FnExactCompareTerms.f (k:Nat) (a0_0:Int) (a0_1:ByteArray) (a0_2:Int) (l0_3:List (S24)) (a1_0:Int) (a1_1:ByteArray) (a1_2:Int) (l1_3:List (S24)):Option (Bool):=(laws_szTerm.f k a0_0 a0_1 a0_2 l0_3 1048576).bind fun t153=>(if t153 < 0 then (some true) else ((laws_szTerm.f k a1_0 a1_1 a1_2 l1_3 t153).bind fun t154=>(if t154 < 0 then (some true) else ((laws_toTerm.f k a0_0 a0_1 a0_2 l0_3).bind fun bt155=>((laws_toTerm.f k a1_0 a1_1 a1_2 l1_3).bind fun bt161=>((spec_CompareTerms.f k bt155.1 bt155.2.1 bt155.2.2.1 bt155.2.2.2 bt161.1 bt161.2.1 bt161.2.2.1 bt161.2.2.2).bind fun t167=>((laws_toTerm.f k a0_0 a0_1 a0_2 l0_3).bind fun bt168=>((laws_toTerm.f k a1_0 a1_1 a1_2 l1_3).bind fun bt175=>((impl_CompareTerms.f k bt168.1 bt168.2.1 bt168.2.2.1 bt168.2.2.2 bt175.1 bt175.2.1 bt175.2.2.1 bt175.2.2.2).bind fun t182=>(if t182=t167 then ((laws_toTerm.f k a0_0 a0_1 a0_2 l0_3).bind fun bt183=>((laws_eqTerm.f k bt168.1 bt168.2.1 bt168.2.2.1 bt168.2.2.2 bt183.1 bt183.2.1 bt183.2.2.1 bt183.2.2.2).bind fun t189=>(if t189=true then ((laws_toTerm.f k a1_0 a1_1 a1_2 l1_3).bind fun bt190=>((laws_eqTerm.f k bt175.1 bt175.2.1 bt175.2.2.1 bt175.2.2.2 bt190.1 bt190.2.1 bt190.2.2.1 bt190.2.2.2).bind fun t196=>(if t196=true then (some true) else (some false)))) else (some false)))) else (some false)))))))))))
set_option maxHeartbeats 8000000 in
set_option maxRecDepth 100000 in
theorem laws_FnExactCompareTerms.calls (k:Nat) (a0_0:Int) (a0_1:ByteArray) (a0_2:Int) (A0_3:Option Addr) (c0_3:Nat) (l0_3:List (S24)) (a1_0:Int) (a1_1:ByteArray) (a1_2:Int) (A1_3:Option Addr) (c1_3:Nat) (l1_3:List (S24)) (r:Bool) (w:World) (hr0_3:Kd.C k24 w A0_3 l0_3.length l0_3) (hc0_3:l0_3.length≤c0_3) (hr1_3:Kd.C k24 w A1_3 l1_3.length l1_3) (hc1_3:l1_3.length≤c1_3) (h:laws_FnExactCompareTerms.f k a0_0 a0_1 a0_2 l0_3 a1_0 a1_1 a1_2 l1_3=some r) :
  Calls Try.prog 3 #[.agg #[.int .i64 a0_0,.string a0_1,.int .i64 a0_2,.slice A0_3 l0_3.length c0_3],.agg #[.int .i64 a1_0,.string a1_1,.int .i64 a1_2,.slice A1_3 l1_3.length c1_3]] w fun e w'=>e=.returned (.bool r)∧Below w.heap.size w w':=by
 have hu24:=Try.underlying24
 have hu29:=Try.underlying29
 have B6:=Aside0.mk hr0_3
 have B7:=Aside0.mk hc0_3
 clear hr0_3 hc0_3
 have B8:=Aside0.mk hr1_3
 have B9:=Aside0.mk hc1_3
 clear hr1_3 hc1_3
 have HB:=Aside0.mk (Below.refl w.heap.size w)
 have H:((laws_szTerm.f k a0_0 a0_1 a0_2 l0_3 1048576).bind fun t153=>(if t153 < 0 then (some true) else ((laws_szTerm.f k a1_0 a1_1 a1_2 l1_3 t153).bind fun t154=>(if t154 < 0 then (some true) else ((laws_toTerm.f k a0_0 a0_1 a0_2 l0_3).bind fun bt155=>((laws_toTerm.f k a1_0 a1_1 a1_2 l1_3).bind fun bt161=>((spec_CompareTerms.f k bt155.1 bt155.2.1 bt155.2.2.1 bt155.2.2.2 bt161.1 bt161.2.1 bt161.2.2.1 bt161.2.2.2).bind fun t167=>((laws_toTerm.f k a0_0 a0_1 a0_2 l0_3).bind fun bt168=>((laws_toTerm.f k a1_0 a1_1 a1_2 l1_3).bind fun bt175=>((impl_CompareTerms.f k bt168.1 bt168.2.1 bt168.2.2.1 bt168.2.2.2 bt175.1 bt175.2.1 bt175.2.2.1 bt175.2.2.2).bind fun t182=>(if t182=t167 then ((laws_toTerm.f k a0_0 a0_1 a0_2 l0_3).bind fun bt183=>((laws_eqTerm.f k bt168.1 bt168.2.1 bt168.2.2.1 bt168.2.2.2 bt183.1 bt183.2.1 bt183.2.2.1 bt183.2.2.2).bind fun t189=>(if t189=true then ((laws_toTerm.f k a1_0 a1_1 a1_2 l1_3).bind fun bt190=>((laws_eqTerm.f k bt175.1 bt175.2.1 bt175.2.2.1 bt175.2.2.2 bt190.1 bt190.2.1 bt190.2.2.1 bt190.2.2.2).bind fun t196=>(if t196=true then (some true) else (some false)))) else (some false)))) else (some false))))))))))))=some r:=h
 clear h
 replace H:=Option.bind_eq_some_iff.mp H
 obtain ⟨t153,A30,H⟩:=H
 replace H:(if t153 < 0 then (some true) else ((laws_szTerm.f k a1_0 a1_1 a1_2 l1_3 t153).bind fun t154=>(if t154 < 0 then (some true) else ((laws_toTerm.f k a0_0 a0_1 a0_2 l0_3).bind fun bt155=>((laws_toTerm.f k a1_0 a1_1 a1_2 l1_3).bind fun bt161=>((spec_CompareTerms.f k bt155.1 bt155.2.1 bt155.2.2.1 bt155.2.2.2 bt161.1 bt161.2.1 bt161.2.2.1 bt161.2.2.2).bind fun t167=>((laws_toTerm.f k a0_0 a0_1 a0_2 l0_3).bind fun bt168=>((laws_toTerm.f k a1_0 a1_1 a1_2 l1_3).bind fun bt175=>((impl_CompareTerms.f k bt168.1 bt168.2.1 bt168.2.2.1 bt168.2.2.2 bt175.1 bt175.2.1 bt175.2.2.1 bt175.2.2.2).bind fun t182=>(if t182=t167 then ((laws_toTerm.f k a0_0 a0_1 a0_2 l0_3).bind fun bt183=>((laws_eqTerm.f k bt168.1 bt168.2.1 bt168.2.2.1 bt168.2.2.2 bt183.1 bt183.2.1 bt183.2.2.1 bt183.2.2.2).bind fun t189=>(if t189=true then ((laws_toTerm.f k a1_0 a1_1 a1_2 l1_3).bind fun bt190=>((laws_eqTerm.f k bt175.1 bt175.2.1 bt175.2.2.1 bt175.2.2.2 bt190.1 bt190.2.1 bt190.2.2.1 bt190.2.2.2).bind fun t196=>(if t196=true then (some true) else (some false)))) else (some false)))) else (some false)))))))))))=some r:=H
 have A3:=Aside0.mk A30
 clear A30
 by_cases c4:t153 < 0
 ·rw [if_pos c4] at H
  have I0:=decide_eq_true c4
  clear c4
  obtain rfl:=Option.some.inj H
  go_enter Try.func3,Try.ntmps3
  go_wp2_with (first | (refine bx 2 rfl #[.int .i64 a0_0,.string a0_1,.int .i64 a0_2,.slice A0_3 l0_3.length c0_3] 24 ?_;intro B1 hg w5 hbox hb;have A0:=Aside0.mk (hbox);have E7:=hZ HB hg;have E8:=hZ HB hg;replace HB:=hS HB hb;clear hb hbox hg) | (refine bx 3 rfl #[.int .i64 a1_0,.string a1_1,.int .i64 a1_2,.slice A1_3 l1_3.length c1_3] 24 ?_;intro B3 hg w6 hbox hb;have A1:=Aside0.mk (hbox);have E9:=hZ HB hg;have F0:=hZ HB hg;replace HB:=hS HB hb;have B4:=nL A0 hg;have B5:=nG A0 hg;replace A0:=bB A0 hb;clear hb hbox hg;have n4:=B4.out;have n5:=B5.out;obtain ⟨h6,h7,h8,h9,i0,i1,i2,i3⟩:=cf4 A0) | (refine goK 11 (some 12) rfl Try.func11 #[.agg #[.int .i64 a0_0,.string a0_1,.int .i64 a0_2,.slice A0_3 l0_3.length c0_3],.int .i64 1048576] ?_;(with_reducible refine (laws_szTerm.calls k a0_0 a0_1 a0_2 _ _ l0_3 1048576 t153 _ ?side1 ?side2 A3.out).mono ?_);(case side1=>exact cB B6 HB);(case side2=>exact B7.out);rintro e w9 ⟨rfl,hb⟩;refine ⟨_,rfl,?_⟩;replace A0:=bB A0 hb;replace A1:=bB A1 hb;replace HB:=hS HB hb;(try clear hb);(try clear hb2);(try clear hk);(try clear hi)))
  go_ret
  exact ⟨laws_FnExactCompareTerms.a22,hV HB⟩
 rw [if_neg c4] at H
 have I0:=decide_eq_false c4
 clear c4
 replace H:=Option.bind_eq_some_iff.mp H
 obtain ⟨t154,A100,H⟩:=H
 replace H:(if t154 < 0 then (some true) else ((laws_toTerm.f k a0_0 a0_1 a0_2 l0_3).bind fun bt155=>((laws_toTerm.f k a1_0 a1_1 a1_2 l1_3).bind fun bt161=>((spec_CompareTerms.f k bt155.1 bt155.2.1 bt155.2.2.1 bt155.2.2.2 bt161.1 bt161.2.1 bt161.2.2.1 bt161.2.2.2).bind fun t167=>((laws_toTerm.f k a0_0 a0_1 a0_2 l0_3).bind fun bt168=>((laws_toTerm.f k a1_0 a1_1 a1_2 l1_3).bind fun bt175=>((impl_CompareTerms.f k bt168.1 bt168.2.1 bt168.2.2.1 bt168.2.2.2 bt175.1 bt175.2.1 bt175.2.2.1 bt175.2.2.2).bind fun t182=>(if t182=t167 then ((laws_toTerm.f k a0_0 a0_1 a0_2 l0_3).bind fun bt183=>((laws_eqTerm.f k bt168.1 bt168.2.1 bt168.2.2.1 bt168.2.2.2 bt183.1 bt183.2.1 bt183.2.2.1 bt183.2.2.2).bind fun t189=>(if t189=true then ((laws_toTerm.f k a1_0 a1_1 a1_2 l1_3).bind fun bt190=>((laws_eqTerm.f k bt175.1 bt175.2.1 bt175.2.2.1 bt175.2.2.2 bt190.1 bt190.2.1 bt190.2.2.1 bt190.2.2.2).bind fun t196=>(if t196=true then (some true) else (some false)))) else (some false)))) else (some false)))))))))=some r:=H
 have A10:=Aside0.mk A100
 clear A100
 by_cases c11:t154 < 0
 ·rw [if_pos c11] at H
  have H1:=decide_eq_true c11
  clear c11
  obtain rfl:=Option.some.inj H
  go_enter Try.func3,Try.ntmps3
  go_wp2_with (first | (refine bx 2 rfl #[.int .i64 a0_0,.string a0_1,.int .i64 a0_2,.slice A0_3 l0_3.length c0_3] 24 ?_;intro B1 hg w12 hbox hb;have A0:=Aside0.mk (hbox);have E7:=hZ HB hg;have E8:=hZ HB hg;replace HB:=hS HB hb;clear hb hbox hg) | (refine bx 3 rfl #[.int .i64 a1_0,.string a1_1,.int .i64 a1_2,.slice A1_3 l1_3.length c1_3] 24 ?_;intro B3 hg w13 hbox hb;have A1:=Aside0.mk (hbox);have E9:=hZ HB hg;have F0:=hZ HB hg;replace HB:=hS HB hb;have B4:=nL A0 hg;have B5:=nG A0 hg;replace A0:=bB A0 hb;clear hb hbox hg;have k8:=B4.out;have k9:=B5.out;obtain ⟨T7,T8,T9,U0,U1,U2,U3,U4⟩:=cf4 A0) | (refine goK 11 (some 12) rfl Try.func11 #[.agg #[.int .i64 a0_0,.string a0_1,.int .i64 a0_2,.slice A0_3 l0_3.length c0_3],.int .i64 1048576] ?_;(with_reducible refine (laws_szTerm.calls k a0_0 a0_1 a0_2 _ _ l0_3 1048576 t153 _ ?side1 ?side2 A3.out).mono ?_);(case side1=>exact cB B6 HB);(case side2=>exact B7.out);rintro e w16 ⟨rfl,hb⟩;refine ⟨_,rfl,?_⟩;replace A0:=bB A0 hb;replace A1:=bB A1 hb;replace HB:=hS HB hb;(try clear hb);(try clear hb2);(try clear hk);(try clear hi);obtain ⟨U5,U6,U7,U8,U9,V0,V1,V2⟩:=cf4 A1) | (refine goK 11 (some 17) rfl Try.func11 #[.agg #[.int .i64 a1_0,.string a1_1,.int .i64 a1_2,.slice A1_3 l1_3.length c1_3],.int .i64 t153] ?_;(with_reducible refine (laws_szTerm.calls k a1_0 a1_1 a1_2 _ _ l1_3 t153 t154 _ ?side1 ?side2 A10.out).mono ?_);(case side1=>exact cB B8 HB);(case side2=>exact B9.out);rintro e w18 ⟨rfl,hb⟩;refine ⟨_,rfl,?_⟩;replace A0:=bB A0 hb;replace A1:=bB A1 hb;replace HB:=hS HB hb;(try clear hb);(try clear hb2);(try clear hk);(try clear hi)))
  go_ret
  exact ⟨laws_FnExactCompareTerms.a22,hV HB⟩
 rw [if_neg c11] at H
 have H1:=decide_eq_false c11
 clear c11
 replace H:=Option.bind_eq_some_iff.mp H
 obtain ⟨⟨t155,t156,t157,t158⟩,A190,H⟩:=H
 replace H:((laws_toTerm.f k a1_0 a1_1 a1_2 l1_3).bind fun bt161=>((spec_CompareTerms.f k t155 t156 t157 t158 bt161.1 bt161.2.1 bt161.2.2.1 bt161.2.2.2).bind fun t167=>((laws_toTerm.f k a0_0 a0_1 a0_2 l0_3).bind fun bt168=>((laws_toTerm.f k a1_0 a1_1 a1_2 l1_3).bind fun bt175=>((impl_CompareTerms.f k bt168.1 bt168.2.1 bt168.2.2.1 bt168.2.2.2 bt175.1 bt175.2.1 bt175.2.2.1 bt175.2.2.2).bind fun t182=>(if t182=t167 then ((laws_toTerm.f k a0_0 a0_1 a0_2 l0_3).bind fun bt183=>((laws_eqTerm.f k bt168.1 bt168.2.1 bt168.2.2.1 bt168.2.2.2 bt183.1 bt183.2.1 bt183.2.2.1 bt183.2.2.2).bind fun t189=>(if t189=true then ((laws_toTerm.f k a1_0 a1_1 a1_2 l1_3).bind fun bt190=>((laws_eqTerm.f k bt175.1 bt175.2.1 bt175.2.2.1 bt175.2.2.2 bt190.1 bt190.2.1 bt190.2.2.1 bt190.2.2.2).bind fun t196=>(if t196=true then (some true) else (some false)))) else (some false)))) else (some false)))))))=some r:=H
 have A19:=Aside0.mk A190
 clear A190
 replace H:=Option.bind_eq_some_iff.mp H
 obtain ⟨⟨t161,t162,t163,t164⟩,A200,H⟩:=H
 replace H:((spec_CompareTerms.f k t155 t156 t157 t158 t161 t162 t163 t164).bind fun t167=>((laws_toTerm.f k a0_0 a0_1 a0_2 l0_3).bind fun bt168=>((laws_toTerm.f k a1_0 a1_1 a1_2 l1_3).bind fun bt175=>((impl_CompareTerms.f k bt168.1 bt168.2.1 bt168.2.2.1 bt168.2.2.2 bt175.1 bt175.2.1 bt175.2.2.1 bt175.2.2.2).bind fun t182=>(if t182=t167 then ((laws_toTerm.f k a0_0 a0_1 a0_2 l0_3).bind fun bt183=>((laws_eqTerm.f k bt168.1 bt168.2.1 bt168.2.2.1 bt168.2.2.2 bt183.1 bt183.2.1 bt183.2.2.1 bt183.2.2.2).bind fun t189=>(if t189=true then ((laws_toTerm.f k a1_0 a1_1 a1_2 l1_3).bind fun bt190=>((laws_eqTerm.f k bt175.1 bt175.2.1 bt175.2.2.1 bt175.2.2.2 bt190.1 bt190.2.1 bt190.2.2.1 bt190.2.2.2).bind fun t196=>(if t196=true then (some true) else (some false)))) else (some false)))) else (some false))))))=some r:=H
 have A20:=Aside0.mk A200
 clear A200
 replace H:=Option.bind_eq_some_iff.mp H
 obtain ⟨t167,A210,H⟩:=H
 replace H:((laws_toTerm.f k a0_0 a0_1 a0_2 l0_3).bind fun bt168=>((laws_toTerm.f k a1_0 a1_1 a1_2 l1_3).bind fun bt175=>((impl_CompareTerms.f k bt168.1 bt168.2.1 bt168.2.2.1 bt168.2.2.2 bt175.1 bt175.2.1 bt175.2.2.1 bt175.2.2.2).bind fun t182=>(if t182=t167 then ((laws_toTerm.f k a0_0 a0_1 a0_2 l0_3).bind fun bt183=>((laws_eqTerm.f k bt168.1 bt168.2.1 bt168.2.2.1 bt168.2.2.2 bt183.1 bt183.2.1 bt183.2.2.1 bt183.2.2.2).bind fun t189=>(if t189=true then ((laws_toTerm.f k a1_0 a1_1 a1_2 l1_3).bind fun bt190=>((laws_eqTerm.f k bt175.1 bt175.2.1 bt175.2.2.1 bt175.2.2.2 bt190.1 bt190.2.1 bt190.2.2.1 bt190.2.2.2).bind fun t196=>(if t196=true then (some true) else (some false)))) else (some false)))) else (some false)))))=some r:=H
 have A21:=Aside0.mk A210
 clear A210
 replace H:=Option.bind_eq_some_iff.mp H
 obtain ⟨⟨t168,t169,t170,t171⟩,A220,H⟩:=H
 replace H:((laws_toTerm.f k a1_0 a1_1 a1_2 l1_3).bind fun bt175=>((impl_CompareTerms.f k t168 t169 t170 t171 bt175.1 bt175.2.1 bt175.2.2.1 bt175.2.2.2).bind fun t182=>(if t182=t167 then ((laws_toTerm.f k a0_0 a0_1 a0_2 l0_3).bind fun bt183=>((laws_eqTerm.f k t168 t169 t170 t171 bt183.1 bt183.2.1 bt183.2.2.1 bt183.2.2.2).bind fun t189=>(if t189=true then ((laws_toTerm.f k a1_0 a1_1 a1_2 l1_3).bind fun bt190=>((laws_eqTerm.f k bt175.1 bt175.2.1 bt175.2.2.1 bt175.2.2.2 bt190.1 bt190.2.1 bt190.2.2.1 bt190.2.2.2).bind fun t196=>(if t196=true then (some true) else (some false)))) else (some false)))) else (some false))))=some r:=H
 have A22:=Aside0.mk A220
 clear A220
 replace H:=Option.bind_eq_some_iff.mp H
 obtain ⟨⟨t175,t176,t177,t178⟩,A230,H⟩:=H
 replace H:((impl_CompareTerms.f k t168 t169 t170 t171 t175 t176 t177 t178).bind fun t182=>(if t182=t167 then ((laws_toTerm.f k a0_0 a0_1 a0_2 l0_3).bind fun bt183=>((laws_eqTerm.f k t168 t169 t170 t171 bt183.1 bt183.2.1 bt183.2.2.1 bt183.2.2.2).bind fun t189=>(if t189=true then ((laws_toTerm.f k a1_0 a1_1 a1_2 l1_3).bind fun bt190=>((laws_eqTerm.f k t175 t176 t177 t178 bt190.1 bt190.2.1 bt190.2.2.1 bt190.2.2.2).bind fun t196=>(if t196=true then (some true) else (some false)))) else (some false)))) else (some false)))=some r:=H
 have A23:=Aside0.mk A230
 clear A230
 replace H:=Option.bind_eq_some_iff.mp H
 obtain ⟨t182,A240,H⟩:=H
 replace H:(if t182=t167 then ((laws_toTerm.f k a0_0 a0_1 a0_2 l0_3).bind fun bt183=>((laws_eqTerm.f k t168 t169 t170 t171 bt183.1 bt183.2.1 bt183.2.2.1 bt183.2.2.2).bind fun t189=>(if t189=true then ((laws_toTerm.f k a1_0 a1_1 a1_2 l1_3).bind fun bt190=>((laws_eqTerm.f k t175 t176 t177 t178 bt190.1 bt190.2.1 bt190.2.2.1 bt190.2.2.2).bind fun t196=>(if t196=true then (some true) else (some false)))) else (some false)))) else (some false))=some r:=H
 have A24:=Aside0.mk A240
 clear A240
 by_cases c25:t182=t167
 ·rw [if_pos c25] at H
  have H2:(t182 == t167)=true:=beq_iff_eq.mpr c25
  have H3:(t182 != t167)=false:=bne_eq_false_iff_eq.mpr c25
  clear c25
  replace H:=Option.bind_eq_some_iff.mp H
  obtain ⟨⟨t183,t184,t185,t186⟩,A260,H⟩:=H
  replace H:((laws_eqTerm.f k t168 t169 t170 t171 t183 t184 t185 t186).bind fun t189=>(if t189=true then ((laws_toTerm.f k a1_0 a1_1 a1_2 l1_3).bind fun bt190=>((laws_eqTerm.f k t175 t176 t177 t178 bt190.1 bt190.2.1 bt190.2.2.1 bt190.2.2.2).bind fun t196=>(if t196=true then (some true) else (some false)))) else (some false)))=some r:=H
  have A26:=Aside0.mk A260
  clear A260
  replace H:=Option.bind_eq_some_iff.mp H
  obtain ⟨t189,A270,H⟩:=H
  replace H:(if t189=true then ((laws_toTerm.f k a1_0 a1_1 a1_2 l1_3).bind fun bt190=>((laws_eqTerm.f k t175 t176 t177 t178 bt190.1 bt190.2.1 bt190.2.2.1 bt190.2.2.2).bind fun t196=>(if t196=true then (some true) else (some false)))) else (some false))=some r:=H
  have A27:=Aside0.mk A270
  clear A270
  by_cases c28:t189=true
  ·subst c28
   rw [if_pos rfl] at H
   replace H:=Option.bind_eq_some_iff.mp H
   obtain ⟨⟨t190,t191,t192,t193⟩,A290,H⟩:=H
   replace H:((laws_eqTerm.f k t175 t176 t177 t178 t190 t191 t192 t193).bind fun t196=>(if t196=true then (some true) else (some false)))=some r:=H
   have A29:=Aside0.mk A290
   clear A290
   replace H:=Option.bind_eq_some_iff.mp H
   obtain ⟨t196,A300,H⟩:=H
   replace H:(if t196=true then (some true) else (some false))=some r:=H
   have A30:=Aside0.mk A300
   clear A300
   by_cases c31:t196=true
   ·subst c31
    rw [if_pos rfl] at H
    obtain rfl:=Option.some.inj H
    go_enter Try.func3,Try.ntmps3
    try go_wp2_with (first | (refine bx 2 rfl #[.int .i64 a0_0,.string a0_1,.int .i64 a0_2,.slice A0_3 l0_3.length c0_3] 24 ?_;intro B1 hg w32 hbox hb;have A0:=Aside0.mk (hbox);have E7:=hZ HB hg;have E8:=hZ HB hg;replace HB:=hS HB hb;clear hb hbox hg) | (refine bx 3 rfl #[.int .i64 a1_0,.string a1_1,.int .i64 a1_2,.slice A1_3 l1_3.length c1_3] 24 ?_;intro B3 hg w33 hbox hb;have A1:=Aside0.mk (hbox);have E9:=hZ HB hg;have F0:=hZ HB hg;replace HB:=hS HB hb;have B4:=nL A0 hg;have B5:=nG A0 hg;replace A0:=bB A0 hb;clear hb hbox hg;have l0:=B4.out;have l1:=B5.out;obtain ⟨V3,V4,V5,V6,V7,V8,V9,W0⟩:=cf4 A0) | (refine goK 11 (some 12) rfl Try.func11 #[.agg #[.int .i64 a0_0,.string a0_1,.int .i64 a0_2,.slice A0_3 l0_3.length c0_3],.int .i64 1048576] ?_;(with_reducible refine (laws_szTerm.calls k a0_0 a0_1 a0_2 _ _ l0_3 1048576 t153 _ ?side1 ?side2 A3.out).mono ?_);(case side1=>exact cB B6 HB);(case side2=>exact B7.out);rintro e w36 ⟨rfl,hb⟩;refine ⟨_,rfl,?_⟩;replace A0:=bB A0 hb;replace A1:=bB A1 hb;replace HB:=hS HB hb;(try clear hb);(try clear hb2);(try clear hk);(try clear hi);obtain ⟨W1,W2,W3,W4,W5,W6,W7,W8⟩:=cf4 A1) | (refine goK 11 (some 17) rfl Try.func11 #[.agg #[.int .i64 a1_0,.string a1_1,.int .i64 a1_2,.slice A1_3 l1_3.length c1_3],.int .i64 t153] ?_;(with_reducible refine (laws_szTerm.calls k a1_0 a1_1 a1_2 _ _ l1_3 t153 t154 _ ?side1 ?side2 A10.out).mono ?_);(case side1=>exact cB B8 HB);(case side2=>exact B9.out);rintro e w38 ⟨rfl,hb⟩;refine ⟨_,rfl,?_⟩;replace A0:=bB A0 hb;replace A1:=bB A1 hb;replace HB:=hS HB hb;(try clear hb);(try clear hb2);(try clear hk);(try clear hi)))
    replace A0:=Aside0.mk (blk_drew A0.out)
    replace A1:=Aside0.mk (blk_drew A1.out)
    replace HB:=Aside0.mk (below_drew1 HB.out)
    refine start_ (n:=6) (S:=fun w'=>w'.cell? ⟨B1,0,none⟩=some (.int .i64 a0_0)∧w'.cell? ⟨B1,1,none⟩=some (.string a0_1)∧w'.cell? ⟨B1,2,none⟩=some (.int .i64 a0_2)∧w'.cell? ⟨B1,3,none⟩=some (.slice A0_3 l0_3.length c0_3)∧w'.cell? ⟨B3,0,none⟩=some (.int .i64 a1_0)∧w'.cell? ⟨B3,1,none⟩=some (.string a1_1)∧w'.cell? ⟨B3,2,none⟩=some (.int .i64 a1_2)∧w'.cell? ⟨B3,3,none⟩=some (.slice A1_3 l1_3.length c1_3)) (ds:=[]) #[false,false,false,false,false,false] laws_FnExactCompareTerms.a23 rfl rfl ⟨cz0 A0,cz1 A0,cz2 A0,cz3 A0,cz0 A1,cz1 A1,cz2 A1,cz3 A1⟩ (fun hHeld=> ?_)
    generalize w38.drew=w39 at A0 A1 HB hHeld ⊢
    refine takeK 0 20 rfl rfl hHeld ?_ laws_FnExactCompareTerms.a1
    refine takeK 2 22 rfl rfl hHeld ?_ laws_FnExactCompareTerms.a1
    refine one_ (i:=1) (N:=some 21) #[true,true,true,false,false,false] rfl rfl laws_FnExactCompareTerms.a23 (by decide) (fun K hK=> ?_)
    refine goes_ Try.func13 laws_FnExactCompareTerms.a23 rfl #[.agg #[.int .i64 a0_0,.string a0_1,.int .i64 a0_2,.slice A0_3 l0_3.length c0_3]] (by rfl) rfl rfl laws_FnExactCompareTerms.a0 ?_
    with_reducible refine (laws_toTerm.calls k a0_0 a0_1 a0_2 _ _ l0_3 t155 t156 t157 t158 _ ?side1 ?side2 A19.out).mono ?_
    (case side1=>exact cB B6 HB)
    (case side2=>exact B7.out)
    rintro e w40 ⟨v159,rfl,ho0,hb⟩
    refine ⟨_,rfl,?_⟩
    have A5:=rL ho0 HB
    replace A0:=bB A0 hb
    replace A1:=bB A1 hb
    replace HB:=hS HB hb
    (try clear hb)
    (try clear hb2)
    (try clear hk)
    (try clear hi)
    (try clear ho0)
    refine hK.out _ _ ⟨cz0 A0,cz1 A0,cz2 A0,cz3 A0,cz0 A1,cz1 A1,cz2 A1,cz3 A1⟩ (fun hHeld=> ?_)
    clear hK K
    refine norm_ (a':=?_) ?_ ?_
    rotate_left
    ·show Act.put _ (some 21) _=_
     simp only [Act.put,List.setIfInBounds_toArray,List.set_cons_zero,List.set_cons_succ,i64_w,i32_w]
     rfl
    refine one_ (i:=3) (N:=some 23) #[true,true,true,true,false,false] rfl rfl laws_FnExactCompareTerms.a23 (by decide) (fun K hK=> ?_)
    refine goes_ Try.func13 laws_FnExactCompareTerms.a23 rfl #[.agg #[.int .i64 a1_0,.string a1_1,.int .i64 a1_2,.slice A1_3 l1_3.length c1_3]] (by rfl) rfl rfl laws_FnExactCompareTerms.a0 ?_
    with_reducible refine (laws_toTerm.calls k a1_0 a1_1 a1_2 _ _ l1_3 t161 t162 t163 t164 _ ?side1 ?side2 A20.out).mono ?_
    (case side1=>exact cB B8 HB)
    (case side2=>exact B9.out)
    rintro e w41 ⟨v165,rfl,ho0,hb⟩
    refine ⟨_,rfl,?_⟩
    have A6:=rL (rN ho0 A5) HB
    replace A5:=rE A5 ho0 hb
    replace A0:=bB A0 hb
    replace A1:=bB A1 hb
    replace HB:=hS HB hb
    (try clear hb)
    (try clear hb2)
    (try clear hk)
    (try clear hi)
    (try clear ho0)
    obtain ⟨G3,G4,eo42⟩:=Kd.R_slice A5.out
    (first | subst eo42 | (injection eo42 with f1_ f2_ f3_;have f4_:=f1_.symm;have f5_:=f3_.symm;clear f1_ f2_ f3_;subst f4_;subst f5_))
    obtain ⟨G5,G6,eo43⟩:=Kd.R_slice A6.out
    (first | subst eo43 | (injection eo43 with f1_ f2_ f3_;have f4_:=f1_.symm;have f5_:=f3_.symm;clear f1_ f2_ f3_;subst f4_;subst f5_))
    refine hK.out _ _ ⟨cz0 A0,cz1 A0,cz2 A0,cz3 A0,cz0 A1,cz1 A1,cz2 A1,cz3 A1⟩ (fun hHeld=> ?_)
    clear hK K
    refine norm_ (a':=?_) ?_ ?_
    rotate_left
    ·show Act.put _ (some 23) _=_
     simp only [Act.put,List.setIfInBounds_toArray,List.set_cons_zero,List.set_cons_succ,i64_w,i32_w]
     rfl
    refine one_ (i:=4) (N:=some 24) #[true,true,true,true,true,false] rfl rfl laws_FnExactCompareTerms.a23 (by decide) (fun K hK=> ?_)
    refine goes_ Try.func12 laws_FnExactCompareTerms.a23 rfl #[.agg #[.int .i64 t155,.string t156,.int .i64 t157,.slice G3 t158.length G4],.agg #[.int .i64 t161,.string t162,.int .i64 t163,.slice G5 t164.length G6]] (by rfl) rfl rfl laws_FnExactCompareTerms.a0 ?_
    with_reducible refine (spec_CompareTerms.calls k t155 t156 t157 _ _ t158 t161 t162 t163 _ _ t164 t167 _ ?side1 ?side2 ?side3 ?side4 A21.out).mono ?_
    (case side1=>repeat (first | exact (Kd.R_reads' A5.out).2.2 | (with_reducible refine Kd.C_alloc ?_ _) | (with_reducible refine Kd.C_drewN ?_ _) | (with_reducible refine Kd.C_drew ?_)))
    (case side2=>exact (Kd.R_reads' A5.out).2.1)
    (case side3=>repeat (first | exact (Kd.R_reads' A6.out).2.2 | (with_reducible refine Kd.C_alloc ?_ _) | (with_reducible refine Kd.C_drewN ?_ _) | (with_reducible refine Kd.C_drew ?_)))
    (case side4=>exact (Kd.R_reads' A6.out).2.1)
    rintro e w44 ⟨rfl,hb⟩
    refine ⟨_,rfl,?_⟩
    replace A5:=rB A5 hb
    replace A6:=rB A6 hb
    replace A0:=bB A0 hb
    replace A1:=bB A1 hb
    replace HB:=hS HB hb
    (try clear hb)
    (try clear hb2)
    (try clear hk)
    (try clear hi)
    refine hK.out _ _ ⟨cz0 A0,cz1 A0,cz2 A0,cz3 A0,cz0 A1,cz1 A1,cz2 A1,cz3 A1⟩ (fun hHeld=> ?_)
    clear hK K
    refine norm_ (a':=?_) ?_ ?_
    rotate_left
    ·show Act.put _ (some 24) _=_
     simp only [Act.put,List.setIfInBounds_toArray,List.set_cons_zero,List.set_cons_succ,i64_w,i32_w]
     rfl
    refine pureK 5 6 rfl rfl ?_
    refine done_ laws_FnExactCompareTerms.a23 ?_
    obtain ⟨W9,X0,X1,X2,X3,X4,X5,X6⟩:=cf4 A0
    try go_wp2_with (first | (refine goK 13 (some 26) rfl Try.func13 #[.agg #[.int .i64 a0_0,.string a0_1,.int .i64 a0_2,.slice A0_3 l0_3.length c0_3]] ?_;(with_reducible refine (laws_toTerm.calls k a0_0 a0_1 a0_2 _ _ l0_3 t168 t169 t170 t171 _ ?side1 ?side2 A22.out).mono ?_);(case side1=>exact cB B6 HB);(case side2=>exact B7.out);rintro e w46 ⟨v172,rfl,ho0,hb⟩;refine ⟨_,rfl,?_⟩;have A8:=rL (rN (rN ho0 A5) A6) HB;replace A5:=rE A5 ho0 hb;replace A6:=rE A6 ho0 hb;replace A0:=bB A0 hb;replace A1:=bB A1 hb;replace HB:=hS HB hb;(try clear hb);(try clear hb2);(try clear hk);(try clear hi);(try clear ho0)) | (refine bx 7 rfl #[.int .i64 0,.string (⟨#[]⟩:ByteArray),.int .i64 0,.slice none 0 0] 29 ?_;intro A7 hg w47 hbox hb;replace A5:=Aside0.mk (Kd.R_below (Kd.R_elderB (rV A5) A7 (Nat.le_of_eq hg.symm)) hb);replace A6:=Aside0.mk (Kd.R_below (Kd.R_elderB (rV A6) A7 (Nat.le_of_eq hg.symm)) hb);replace A8:=Aside0.mk (Kd.R_below (Kd.R_elderB (rV A8) A7 (Nat.le_of_eq hg.symm)) hb);have A2:=Aside0.mk (hbox);have F1:=hZ HB hg;have F2:=hZ HB hg;replace HB:=hS HB hb;have C0:=nL A0 hg;have C1:=nG A0 hg;replace A0:=bB A0 hb;have C2:=nL A1 hg;have C3:=nG A1 hg;replace A1:=bB A1 hb;clear hb hbox hg;have l2:=C1.out;have l3:=C0.out;have l4:=C3.out;have l5:=C2.out;obtain ⟨X7,X8,X9,Y0,Y1,Y2,Y3,Y4⟩:=cf4 A2;obtain ⟨D8,D3,eo51⟩:=Kd.R_slice A8.out;subst eo51;obtain ⟨Y5,Y6,Y7,Y8,Y9,Z0,Z1,Z2⟩:=cf4 A1) | (refine goK 13 (some 28) rfl Try.func13 #[.agg #[.int .i64 a1_0,.string a1_1,.int .i64 a1_2,.slice A1_3 l1_3.length c1_3]] ?_;(with_reducible refine (laws_toTerm.calls k a1_0 a1_1 a1_2 _ _ l1_3 t175 t176 t177 t178 _ ?side1 ?side2 A23.out).mono ?_);(case side1=>exact cV B8 HB);(case side2=>exact B9.out);rintro e w53 ⟨v179,rfl,ho0,hb⟩;refine ⟨_,rfl,?_⟩;have B0:=Aside0.mk (Kd.R_lower (Kd.R_newB (Kd.R_new' (Kd.R_new' (Kd.R_new' ho0 (Kd.R_lt laws_FnExactCompareTerms.a12)) (Kd.R_lt laws_FnExactCompareTerms.a13)) (Kd.R_lt laws_FnExactCompareTerms.a14)) (g:=A7) (o:=.cells #[.int .i64 t168,.string t169,.int .i64 t170,.slice D8 t171.length D3] 29 (0,0)) (vP A2)) (below_size (hV HB)));replace A5:=Aside0.mk (Kd.R_elder' laws_FnExactCompareTerms.a12 (Kd.R_base ho0) hb);replace A6:=Aside0.mk (Kd.R_elder' laws_FnExactCompareTerms.a13 (Kd.R_base ho0) hb);replace A8:=Aside0.mk (Kd.R_elder' laws_FnExactCompareTerms.a14 (Kd.R_base ho0) hb);replace A0:=bB A0 hb;replace A1:=bB A1 hb;replace A2:=bP (o:=.cells #[.int .i64 t168,.string t169,.int .i64 t170,.slice D8 t171.length D3] 29 (0,0)) A2 hb;replace HB:=hS HB hb;(try clear hb);(try clear hb2);(try clear hk);(try clear hi);(try clear ho0)) | (refine bx 8 rfl #[.int .i64 0,.string (⟨#[]⟩:ByteArray),.int .i64 0,.slice none 0 0] 29 ?_;intro A4 hg w54 hbox hb;replace A5:=Aside0.mk (Kd.R_below (Kd.R_elderB (rV A5) A4 (Nat.le_of_eq hg.symm)) hb);replace A6:=Aside0.mk (Kd.R_below (Kd.R_elderB (rV A6) A4 (Nat.le_of_eq hg.symm)) hb);replace A8:=Aside0.mk (Kd.R_below (Kd.R_elderB (rV A8) A4 (Nat.le_of_eq hg.symm)) hb);replace B0:=Aside0.mk (Kd.R_below (Kd.R_elderB (rV B0) A4 (Nat.le_of_eq hg.symm)) hb);have A9:=Aside0.mk (hbox);have F3:=hZ HB hg;have F4:=hZ HB hg;replace HB:=hS HB hb;have C4:=nL A0 hg;have C5:=nG A0 hg;replace A0:=bB A0 hb;have C6:=nL A1 hg;have C7:=nG A1 hg;replace A1:=bB A1 hb;have C8:=nL A2 hg;have C9:=nG A2 hg;replace A2:=bB A2 hb;clear hb hbox hg;have l6:=C5.out;have l7:=C4.out;have l8:=C7.out;have l9:=C6.out;have m0:=C9.out;have m1:=C8.out;obtain ⟨Z3,Z4,Z5,Z6,Z7,Z8,Z9,b0⟩:=cf4 A9;obtain ⟨D9,D4,eo59⟩:=Kd.R_slice B0.out;subst eo59;obtain ⟨b1,b2,b3,b4,b5,b6,b7,b8⟩:=cf4 A2) | (refine goK 14 (some 31) rfl Try.func14 #[.agg #[.int .i64 t168,.string t169,.int .i64 t170,.slice D8 t171.length D3],.agg #[.int .i64 t175,.string t176,.int .i64 t177,.slice D9 t178.length D4]] ?_;(with_reducible refine (impl_CompareTerms.calls k t168 t169 t170 _ _ t171 t175 t176 t177 _ _ t178 t182 _ ?side1 ?side2 ?side3 ?side4 A24.out).mono ?_);(case side1=>refine (Kd.R_reads' (e:=29) (base:=w.heap.size) (ok:=fun k_=>(((((True∧some k_≠(.slice G3 t158.length G4:Value).ownBlock)∧some k_≠(.slice G5 t164.length G6:Value).ownBlock)∧k_≠A7)∧some k_≠(.slice D9 t178.length D4:Value).ownBlock)∧k_≠A4)) (n:=t171.length) (c:=D3) ?_).2.2;exact laws_FnExactCompareTerms.a15);(case side2=>exact (Kd.R_reads' A8.out).2.1);(case side3=>refine (Kd.R_reads' (e:=29) (base:=w.heap.size) (ok:=fun k_=>(((((True∧some k_≠(.slice G3 t158.length G4:Value).ownBlock)∧some k_≠(.slice G5 t164.length G6:Value).ownBlock)∧some k_≠(.slice D8 t171.length D3:Value).ownBlock)∧k_≠A7)∧k_≠A4)) (n:=t178.length) (c:=D4) ?_).2.2;exact laws_FnExactCompareTerms.a16);(case side4=>exact (Kd.R_reads' B0.out).2.1);rintro e w61 ⟨rfl,hb⟩;refine ⟨_,rfl,?_⟩;replace A5:=Aside0.mk (Kd.R_below (by (with_reducible repeat (first | apply Kd.R_alloc | apply Kd.R_drewN | apply Kd.R_drew));exact (Kd.R_mono (Kd.R_far (p:=⟨A4,3,none⟩) (Kd.R_far (p:=⟨A4,2,none⟩) (Kd.R_far (p:=⟨A4,1,none⟩) (Kd.R_far (p:=⟨A4,0,none⟩) (Kd.R_mono A5.out (fun k_ hk=>(⟨hk,hk.2⟩:_∧k_≠A4))) (fun _ hk=>hk.2) (.int .i64 t175)) (fun _ hk=>hk.2) (.string t176)) (fun _ hk=>hk.2) (.int .i64 t177)) (fun _ hk=>hk.2) (.slice D9 t178.length D4)) (fun _ h_=>h_.1))) hb);replace A6:=Aside0.mk (Kd.R_below (by (with_reducible repeat (first | apply Kd.R_alloc | apply Kd.R_drewN | apply Kd.R_drew));exact (Kd.R_mono (Kd.R_far (p:=⟨A4,3,none⟩) (Kd.R_far (p:=⟨A4,2,none⟩) (Kd.R_far (p:=⟨A4,1,none⟩) (Kd.R_far (p:=⟨A4,0,none⟩) (Kd.R_mono A6.out (fun k_ hk=>(⟨hk,hk.2⟩:_∧k_≠A4))) (fun _ hk=>hk.2) (.int .i64 t175)) (fun _ hk=>hk.2) (.string t176)) (fun _ hk=>hk.2) (.int .i64 t177)) (fun _ hk=>hk.2) (.slice D9 t178.length D4)) (fun _ h_=>h_.1))) hb);replace A8:=Aside0.mk (Kd.R_below laws_FnExactCompareTerms.a15 hb);replace B0:=Aside0.mk (Kd.R_below laws_FnExactCompareTerms.a16 hb);replace A0:=bB A0 hb;replace A1:=bB A1 hb;replace A2:=bB A2 hb;replace A9:=bP (o:=.cells #[.int .i64 t175,.string t176,.int .i64 t177,.slice D9 t178.length D4] 29 (0,0)) A9 hb;replace HB:=hS HB hb;(try clear hb);(try clear hb2);(try clear hk);(try clear hi)))
    replace A5:=Aside0.mk (Kd.R_drew A5.out)
    replace A6:=Aside0.mk (Kd.R_drew A6.out)
    replace A8:=Aside0.mk (Kd.R_drew A8.out)
    replace B0:=Aside0.mk (Kd.R_drew B0.out)
    replace A0:=Aside0.mk (blk_drew A0.out)
    replace A1:=Aside0.mk (blk_drew A1.out)
    replace A2:=Aside0.mk (blk_drew A2.out)
    replace A9:=Aside0.mk (blk_drew A9.out)
    replace HB:=Aside0.mk (below_drew1 HB.out)
    refine start_ (n:=5) (S:=fun w'=>w'.cell? ⟨A7,0,none⟩=some (.int .i64 t168)∧w'.cell? ⟨A7,1,none⟩=some (.string t169)∧w'.cell? ⟨A7,2,none⟩=some (.int .i64 t170)∧w'.cell? ⟨A7,3,none⟩=some (.slice D8 t171.length D3)∧w'.cell? ⟨B1,0,none⟩=some (.int .i64 a0_0)∧w'.cell? ⟨B1,1,none⟩=some (.string a0_1)∧w'.cell? ⟨B1,2,none⟩=some (.int .i64 a0_2)∧w'.cell? ⟨B1,3,none⟩=some (.slice A0_3 l0_3.length c0_3)) (ds:=[]) #[false,false,false,false,false] laws_FnExactCompareTerms.a23 rfl rfl ⟨cz0 A2,cz1 A2,cz2 A2,cz3 A2,cz0 A0,cz1 A0,cz2 A0,cz3 A0⟩ (fun hHeld=> ?_)
    generalize w61.drew=w62 at A5 A6 A8 B0 A0 A1 A2 A9 HB hHeld ⊢
    refine takeK 0 35 rfl rfl hHeld ?_ laws_FnExactCompareTerms.a1
    refine takeK 1 36 rfl rfl hHeld ?_ laws_FnExactCompareTerms.a1
    refine one_ (i:=2) (N:=some 37) #[true,true,true,false,false] rfl rfl laws_FnExactCompareTerms.a23 (by decide) (fun K hK=> ?_)
    refine goes_ Try.func13 laws_FnExactCompareTerms.a23 rfl #[.agg #[.int .i64 a0_0,.string a0_1,.int .i64 a0_2,.slice A0_3 l0_3.length c0_3]] (by rfl) rfl rfl laws_FnExactCompareTerms.a0 ?_
    with_reducible refine (laws_toTerm.calls k a0_0 a0_1 a0_2 _ _ l0_3 t183 t184 t185 t186 _ ?side1 ?side2 A26.out).mono ?_
    (case side1=>exact cB B6 HB)
    (case side2=>exact B7.out)
    rintro e w63 ⟨v187,rfl,ho0,hb⟩
    refine ⟨_,rfl,?_⟩
    have B2:=Aside0.mk (Kd.R_lower (Kd.R_newB (Kd.R_newB (Kd.R_new' (Kd.R_new' (Kd.R_new' (Kd.R_new' ho0 (Kd.R_lt (rV A5))) (Kd.R_lt (rV A6))) (Kd.R_lt (rV A8))) (Kd.R_lt (rV B0))) (g:=A7) (o:=.cells #[.int .i64 t168,.string t169,.int .i64 t170,.slice D8 t171.length D3] 29 (0,0)) (vB A2)) (g:=A4) (o:=.cells #[.int .i64 t175,.string t176,.int .i64 t177,.slice D9 t178.length D4] 29 (0,0)) (vB A9)) (below_size (hV HB)))
    replace A5:=rE A5 ho0 hb
    replace A6:=rE A6 ho0 hb
    replace A8:=rE A8 ho0 hb
    replace B0:=rE B0 ho0 hb
    replace A0:=bB A0 hb
    replace A1:=bB A1 hb
    replace A2:=bB A2 hb
    replace A9:=bB A9 hb
    replace HB:=hS HB hb
    (try clear hb)
    (try clear hb2)
    (try clear hk)
    (try clear hi)
    (try clear ho0)
    obtain ⟨I1,I2,eo64⟩:=Kd.R_slice B2.out
    (first | subst eo64 | (injection eo64 with f1_ f2_ f3_;have f4_:=f1_.symm;have f5_:=f3_.symm;clear f1_ f2_ f3_;subst f4_;subst f5_))
    refine hK.out _ _ ⟨cz0 A2,cz1 A2,cz2 A2,cz3 A2,cz0 A0,cz1 A0,cz2 A0,cz3 A0⟩ (fun hHeld=> ?_)
    clear hK K
    refine norm_ (a':=?_) ?_ ?_
    rotate_left
    ·show Act.put _ (some 37) _=_
     simp only [Act.put,List.setIfInBounds_toArray,List.set_cons_zero,List.set_cons_succ,i64_w,i32_w]
     rfl
    refine one_ (i:=3) (N:=some 38) #[true,true,true,true,false] rfl rfl laws_FnExactCompareTerms.a23 (by decide) (fun K hK=> ?_)
    refine goes_ Try.func15 laws_FnExactCompareTerms.a23 rfl #[.agg #[.int .i64 t168,.string t169,.int .i64 t170,.slice D8 t171.length D3],.agg #[.int .i64 t183,.string t184,.int .i64 t185,.slice I1 t186.length I2]] (by rfl) rfl rfl laws_FnExactCompareTerms.a0 ?_
    with_reducible refine (laws_eqTerm.calls k t168 t169 t170 _ _ t171 t183 t184 t185 _ _ t186 true _ ?side1 ?side2 ?side3 ?side4 A27.out).mono ?_
    (case side1=>repeat (first | exact (Kd.R_reads' A8.out).2.2 | (with_reducible refine Kd.C_alloc ?_ _) | (with_reducible refine Kd.C_drewN ?_ _) | (with_reducible refine Kd.C_drew ?_)))
    (case side2=>exact (Kd.R_reads' A8.out).2.1)
    (case side3=>repeat (first | exact (Kd.R_reads' B2.out).2.2 | (with_reducible refine Kd.C_alloc ?_ _) | (with_reducible refine Kd.C_drewN ?_ _) | (with_reducible refine Kd.C_drew ?_)))
    (case side4=>exact (Kd.R_reads' B2.out).2.1)
    rintro e w65 ⟨rfl,hb⟩
    refine ⟨_,rfl,?_⟩
    replace A5:=rB A5 hb
    replace A6:=rB A6 hb
    replace A8:=rB A8 hb
    replace B0:=rB B0 hb
    replace B2:=rB B2 hb
    replace A0:=bB A0 hb
    replace A1:=bB A1 hb
    replace A2:=bB A2 hb
    replace A9:=bB A9 hb
    replace HB:=hS HB hb
    (try clear hb)
    (try clear hb2)
    (try clear hk)
    (try clear hi)
    refine hK.out _ _ ⟨cz0 A2,cz1 A2,cz2 A2,cz3 A2,cz0 A0,cz1 A0,cz2 A0,cz3 A0⟩ (fun hHeld=> ?_)
    clear hK K
    refine norm_ (a':=?_) ?_ ?_
    rotate_left
    ·show Act.put _ (some 38) _=_
     simp only [Act.put,List.setIfInBounds_toArray,List.set_cons_zero,List.set_cons_succ,i64_w,i32_w]
     rfl
    refine pureK 4 39 rfl rfl ?_
    refine done_ laws_FnExactCompareTerms.a23 ?_
    try go_wp2
    replace A5:=Aside0.mk (Kd.R_drew A5.out)
    replace A6:=Aside0.mk (Kd.R_drew A6.out)
    replace A8:=Aside0.mk (Kd.R_drew A8.out)
    replace B0:=Aside0.mk (Kd.R_drew B0.out)
    replace B2:=Aside0.mk (Kd.R_drew B2.out)
    replace A0:=Aside0.mk (blk_drew A0.out)
    replace A1:=Aside0.mk (blk_drew A1.out)
    replace A2:=Aside0.mk (blk_drew A2.out)
    replace A9:=Aside0.mk (blk_drew A9.out)
    replace HB:=Aside0.mk (below_drew1 HB.out)
    refine start_ (n:=5) (S:=fun w'=>w'.cell? ⟨A4,0,none⟩=some (.int .i64 t175)∧w'.cell? ⟨A4,1,none⟩=some (.string t176)∧w'.cell? ⟨A4,2,none⟩=some (.int .i64 t177)∧w'.cell? ⟨A4,3,none⟩=some (.slice D9 t178.length D4)∧w'.cell? ⟨B3,0,none⟩=some (.int .i64 a1_0)∧w'.cell? ⟨B3,1,none⟩=some (.string a1_1)∧w'.cell? ⟨B3,2,none⟩=some (.int .i64 a1_2)∧w'.cell? ⟨B3,3,none⟩=some (.slice A1_3 l1_3.length c1_3)) (ds:=[]) #[false,false,false,false,false] laws_FnExactCompareTerms.a23 rfl rfl ⟨cz0 A9,cz1 A9,cz2 A9,cz3 A9,cz0 A1,cz1 A1,cz2 A1,cz3 A1⟩ (fun hHeld=> ?_)
    generalize w65.drew=w66 at A5 A6 A8 B0 B2 A0 A1 A2 A9 HB hHeld ⊢
    refine takeK 0 40 rfl rfl hHeld ?_ laws_FnExactCompareTerms.a1
    refine takeK 1 41 rfl rfl hHeld ?_ laws_FnExactCompareTerms.a1
    refine one_ (i:=2) (N:=some 42) #[true,true,true,false,false] rfl rfl laws_FnExactCompareTerms.a23 (by decide) (fun K hK=> ?_)
    refine goes_ Try.func13 laws_FnExactCompareTerms.a23 rfl #[.agg #[.int .i64 a1_0,.string a1_1,.int .i64 a1_2,.slice A1_3 l1_3.length c1_3]] (by rfl) rfl rfl laws_FnExactCompareTerms.a0 ?_
    with_reducible refine (laws_toTerm.calls k a1_0 a1_1 a1_2 _ _ l1_3 t190 t191 t192 t193 _ ?side1 ?side2 A29.out).mono ?_
    (case side1=>exact cB B8 HB)
    (case side2=>exact B9.out)
    rintro e w67 ⟨v194,rfl,ho0,hb⟩
    refine ⟨_,rfl,?_⟩
    have D1:=Aside0.mk (Kd.R_lower (Kd.R_newB (Kd.R_newB (Kd.R_new' (Kd.R_new' (Kd.R_new' (Kd.R_new' (Kd.R_new' ho0 (Kd.R_lt (rV A5))) (Kd.R_lt (rV A6))) (Kd.R_lt (rV A8))) (Kd.R_lt (rV B0))) (Kd.R_lt (rV B2))) (g:=A7) (o:=.cells #[.int .i64 t168,.string t169,.int .i64 t170,.slice D8 t171.length D3] 29 (0,0)) (vB A2)) (g:=A4) (o:=.cells #[.int .i64 t175,.string t176,.int .i64 t177,.slice D9 t178.length D4] 29 (0,0)) (vB A9)) (below_size (hV HB)))
    replace A5:=rE A5 ho0 hb
    replace A6:=rE A6 ho0 hb
    replace A8:=rE A8 ho0 hb
    replace B0:=rE B0 ho0 hb
    replace B2:=rE B2 ho0 hb
    replace A0:=bB A0 hb
    replace A1:=bB A1 hb
    replace A2:=bB A2 hb
    replace A9:=bB A9 hb
    replace HB:=hS HB hb
    (try clear hb)
    (try clear hb2)
    (try clear hk)
    (try clear hi)
    (try clear ho0)
    obtain ⟨I3,I4,eo68⟩:=Kd.R_slice D1.out
    (first | subst eo68 | (injection eo68 with f1_ f2_ f3_;have f4_:=f1_.symm;have f5_:=f3_.symm;clear f1_ f2_ f3_;subst f4_;subst f5_))
    refine hK.out _ _ ⟨cz0 A9,cz1 A9,cz2 A9,cz3 A9,cz0 A1,cz1 A1,cz2 A1,cz3 A1⟩ (fun hHeld=> ?_)
    clear hK K
    refine norm_ (a':=?_) ?_ ?_
    rotate_left
    ·show Act.put _ (some 42) _=_
     simp only [Act.put,List.setIfInBounds_toArray,List.set_cons_zero,List.set_cons_succ,i64_w,i32_w]
     rfl
    refine one_ (i:=3) (N:=some 43) #[true,true,true,true,false] rfl rfl laws_FnExactCompareTerms.a23 (by decide) (fun K hK=> ?_)
    refine goes_ Try.func15 laws_FnExactCompareTerms.a23 rfl #[.agg #[.int .i64 t175,.string t176,.int .i64 t177,.slice D9 t178.length D4],.agg #[.int .i64 t190,.string t191,.int .i64 t192,.slice I3 t193.length I4]] (by rfl) rfl rfl laws_FnExactCompareTerms.a0 ?_
    with_reducible refine (laws_eqTerm.calls k t175 t176 t177 _ _ t178 t190 t191 t192 _ _ t193 true _ ?side1 ?side2 ?side3 ?side4 A30.out).mono ?_
    (case side1=>repeat (first | exact (Kd.R_reads' B0.out).2.2 | (with_reducible refine Kd.C_alloc ?_ _) | (with_reducible refine Kd.C_drewN ?_ _) | (with_reducible refine Kd.C_drew ?_)))
    (case side2=>exact (Kd.R_reads' B0.out).2.1)
    (case side3=>repeat (first | exact (Kd.R_reads' D1.out).2.2 | (with_reducible refine Kd.C_alloc ?_ _) | (with_reducible refine Kd.C_drewN ?_ _) | (with_reducible refine Kd.C_drew ?_)))
    (case side4=>exact (Kd.R_reads' D1.out).2.1)
    rintro e w69 ⟨rfl,hb⟩
    refine ⟨_,rfl,?_⟩
    replace A5:=rB A5 hb
    replace A6:=rB A6 hb
    replace A8:=rB A8 hb
    replace B0:=rB B0 hb
    replace B2:=rB B2 hb
    replace D1:=rB D1 hb
    replace A0:=bB A0 hb
    replace A1:=bB A1 hb
    replace A2:=bB A2 hb
    replace A9:=bB A9 hb
    replace HB:=hS HB hb
    (try clear hb)
    (try clear hb2)
    (try clear hk)
    (try clear hi)
    refine hK.out _ _ ⟨cz0 A9,cz1 A9,cz2 A9,cz3 A9,cz0 A1,cz1 A1,cz2 A1,cz3 A1⟩ (fun hHeld=> ?_)
    clear hK K
    refine norm_ (a':=?_) ?_ ?_
    rotate_left
    ·show Act.put _ (some 43) _=_
     simp only [Act.put,List.setIfInBounds_toArray,List.set_cons_zero,List.set_cons_succ,i64_w,i32_w]
     rfl
    refine pureK 4 44 rfl rfl ?_
    refine done_ laws_FnExactCompareTerms.a23 ?_
    try go_wp2
    go_ret
    exact ⟨laws_FnExactCompareTerms.a22,hV HB⟩
   ·replace c31:=Bool.eq_false_iff.mpr c31
    subst c31
    rw [if_neg (show ¬ (false=true) by decide)] at H
    obtain rfl:=Option.some.inj H
    go_enter Try.func3,Try.ntmps3
    try go_wp2_with (first | (refine bx 2 rfl #[.int .i64 a0_0,.string a0_1,.int .i64 a0_2,.slice A0_3 l0_3.length c0_3] 24 ?_;intro B1 hg w70 hbox hb;have A0:=Aside0.mk (hbox);have E7:=hZ HB hg;have E8:=hZ HB hg;replace HB:=hS HB hb;clear hb hbox hg) | (refine bx 3 rfl #[.int .i64 a1_0,.string a1_1,.int .i64 a1_2,.slice A1_3 l1_3.length c1_3] 24 ?_;intro B3 hg w71 hbox hb;have A1:=Aside0.mk (hbox);have E9:=hZ HB hg;have F0:=hZ HB hg;replace HB:=hS HB hb;have B4:=nL A0 hg;have B5:=nG A0 hg;replace A0:=bB A0 hb;clear hb hbox hg;have m2:=B4.out;have m3:=B5.out;obtain ⟨b9,c0,c1,c2,c3,c5,c6,c7⟩:=cf4 A0) | (refine goK 11 (some 12) rfl Try.func11 #[.agg #[.int .i64 a0_0,.string a0_1,.int .i64 a0_2,.slice A0_3 l0_3.length c0_3],.int .i64 1048576] ?_;(with_reducible refine (laws_szTerm.calls k a0_0 a0_1 a0_2 _ _ l0_3 1048576 t153 _ ?side1 ?side2 A3.out).mono ?_);(case side1=>exact cB B6 HB);(case side2=>exact B7.out);rintro e w74 ⟨rfl,hb⟩;refine ⟨_,rfl,?_⟩;replace A0:=bB A0 hb;replace A1:=bB A1 hb;replace HB:=hS HB hb;(try clear hb);(try clear hb2);(try clear hk);(try clear hi);obtain ⟨c8,c9,d0,d1,d2,d3,d4,d5⟩:=cf4 A1) | (refine goK 11 (some 17) rfl Try.func11 #[.agg #[.int .i64 a1_0,.string a1_1,.int .i64 a1_2,.slice A1_3 l1_3.length c1_3],.int .i64 t153] ?_;(with_reducible refine (laws_szTerm.calls k a1_0 a1_1 a1_2 _ _ l1_3 t153 t154 _ ?side1 ?side2 A10.out).mono ?_);(case side1=>exact cB B8 HB);(case side2=>exact B9.out);rintro e w76 ⟨rfl,hb⟩;refine ⟨_,rfl,?_⟩;replace A0:=bB A0 hb;replace A1:=bB A1 hb;replace HB:=hS HB hb;(try clear hb);(try clear hb2);(try clear hk);(try clear hi)))
    replace A0:=Aside0.mk (blk_drew A0.out)
    replace A1:=Aside0.mk (blk_drew A1.out)
    replace HB:=Aside0.mk (below_drew1 HB.out)
    refine start_ (n:=6) (S:=fun w'=>w'.cell? ⟨B1,0,none⟩=some (.int .i64 a0_0)∧w'.cell? ⟨B1,1,none⟩=some (.string a0_1)∧w'.cell? ⟨B1,2,none⟩=some (.int .i64 a0_2)∧w'.cell? ⟨B1,3,none⟩=some (.slice A0_3 l0_3.length c0_3)∧w'.cell? ⟨B3,0,none⟩=some (.int .i64 a1_0)∧w'.cell? ⟨B3,1,none⟩=some (.string a1_1)∧w'.cell? ⟨B3,2,none⟩=some (.int .i64 a1_2)∧w'.cell? ⟨B3,3,none⟩=some (.slice A1_3 l1_3.length c1_3)) (ds:=[]) #[false,false,false,false,false,false] laws_FnExactCompareTerms.a23 rfl rfl ⟨cz0 A0,cz1 A0,cz2 A0,cz3 A0,cz0 A1,cz1 A1,cz2 A1,cz3 A1⟩ (fun hHeld=> ?_)
    generalize w76.drew=w77 at A0 A1 HB hHeld ⊢
    refine takeK 0 20 rfl rfl hHeld ?_ laws_FnExactCompareTerms.a1
    refine takeK 2 22 rfl rfl hHeld ?_ laws_FnExactCompareTerms.a1
    refine one_ (i:=1) (N:=some 21) #[true,true,true,false,false,false] rfl rfl laws_FnExactCompareTerms.a23 (by decide) (fun K hK=> ?_)
    refine goes_ Try.func13 laws_FnExactCompareTerms.a23 rfl #[.agg #[.int .i64 a0_0,.string a0_1,.int .i64 a0_2,.slice A0_3 l0_3.length c0_3]] (by rfl) rfl rfl laws_FnExactCompareTerms.a0 ?_
    with_reducible refine (laws_toTerm.calls k a0_0 a0_1 a0_2 _ _ l0_3 t155 t156 t157 t158 _ ?side1 ?side2 A19.out).mono ?_
    (case side1=>exact cB B6 HB)
    (case side2=>exact B7.out)
    rintro e w78 ⟨v159,rfl,ho0,hb⟩
    refine ⟨_,rfl,?_⟩
    have A5:=rL ho0 HB
    replace A0:=bB A0 hb
    replace A1:=bB A1 hb
    replace HB:=hS HB hb
    (try clear hb)
    (try clear hb2)
    (try clear hk)
    (try clear hi)
    (try clear ho0)
    refine hK.out _ _ ⟨cz0 A0,cz1 A0,cz2 A0,cz3 A0,cz0 A1,cz1 A1,cz2 A1,cz3 A1⟩ (fun hHeld=> ?_)
    clear hK K
    refine norm_ (a':=?_) ?_ ?_
    rotate_left
    ·show Act.put _ (some 21) _=_
     simp only [Act.put,List.setIfInBounds_toArray,List.set_cons_zero,List.set_cons_succ,i64_w,i32_w]
     rfl
    refine one_ (i:=3) (N:=some 23) #[true,true,true,true,false,false] rfl rfl laws_FnExactCompareTerms.a23 (by decide) (fun K hK=> ?_)
    refine goes_ Try.func13 laws_FnExactCompareTerms.a23 rfl #[.agg #[.int .i64 a1_0,.string a1_1,.int .i64 a1_2,.slice A1_3 l1_3.length c1_3]] (by rfl) rfl rfl laws_FnExactCompareTerms.a0 ?_
    with_reducible refine (laws_toTerm.calls k a1_0 a1_1 a1_2 _ _ l1_3 t161 t162 t163 t164 _ ?side1 ?side2 A20.out).mono ?_
    (case side1=>exact cB B8 HB)
    (case side2=>exact B9.out)
    rintro e w79 ⟨v165,rfl,ho0,hb⟩
    refine ⟨_,rfl,?_⟩
    have A6:=rL (rN ho0 A5) HB
    replace A5:=rE A5 ho0 hb
    replace A0:=bB A0 hb
    replace A1:=bB A1 hb
    replace HB:=hS HB hb
    (try clear hb)
    (try clear hb2)
    (try clear hk)
    (try clear hi)
    (try clear ho0)
    obtain ⟨G7,G8,eo80⟩:=Kd.R_slice A5.out
    (first | subst eo80 | (injection eo80 with f1_ f2_ f3_;have f4_:=f1_.symm;have f5_:=f3_.symm;clear f1_ f2_ f3_;subst f4_;subst f5_))
    obtain ⟨G9,H0,eo81⟩:=Kd.R_slice A6.out
    (first | subst eo81 | (injection eo81 with f1_ f2_ f3_;have f4_:=f1_.symm;have f5_:=f3_.symm;clear f1_ f2_ f3_;subst f4_;subst f5_))
    refine hK.out _ _ ⟨cz0 A0,cz1 A0,cz2 A0,cz3 A0,cz0 A1,cz1 A1,cz2 A1,cz3 A1⟩ (fun hHeld=> ?_)
    clear hK K
    refine norm_ (a':=?_) ?_ ?_
    rotate_left
    ·show Act.put _ (some 23) _=_
     simp only [Act.put,List.setIfInBounds_toArray,List.set_cons_zero,List.set_cons_succ,i64_w,i32_w]
     rfl
    refine one_ (i:=4) (N:=some 24) #[true,true,true,true,true,false] rfl rfl laws_FnExactCompareTerms.a23 (by decide) (fun K hK=> ?_)
    refine goes_ Try.func12 laws_FnExactCompareTerms.a23 rfl #[.agg #[.int .i64 t155,.string t156,.int .i64 t157,.slice G7 t158.length G8],.agg #[.int .i64 t161,.string t162,.int .i64 t163,.slice G9 t164.length H0]] (by rfl) rfl rfl laws_FnExactCompareTerms.a0 ?_
    with_reducible refine (spec_CompareTerms.calls k t155 t156 t157 _ _ t158 t161 t162 t163 _ _ t164 t167 _ ?side1 ?side2 ?side3 ?side4 A21.out).mono ?_
    (case side1=>repeat (first | exact (Kd.R_reads' A5.out).2.2 | (with_reducible refine Kd.C_alloc ?_ _) | (with_reducible refine Kd.C_drewN ?_ _) | (with_reducible refine Kd.C_drew ?_)))
    (case side2=>exact (Kd.R_reads' A5.out).2.1)
    (case side3=>repeat (first | exact (Kd.R_reads' A6.out).2.2 | (with_reducible refine Kd.C_alloc ?_ _) | (with_reducible refine Kd.C_drewN ?_ _) | (with_reducible refine Kd.C_drew ?_)))
    (case side4=>exact (Kd.R_reads' A6.out).2.1)
    rintro e w82 ⟨rfl,hb⟩
    refine ⟨_,rfl,?_⟩
    replace A5:=rB A5 hb
    replace A6:=rB A6 hb
    replace A0:=bB A0 hb
    replace A1:=bB A1 hb
    replace HB:=hS HB hb
    (try clear hb)
    (try clear hb2)
    (try clear hk)
    (try clear hi)
    refine hK.out _ _ ⟨cz0 A0,cz1 A0,cz2 A0,cz3 A0,cz0 A1,cz1 A1,cz2 A1,cz3 A1⟩ (fun hHeld=> ?_)
    clear hK K
    refine norm_ (a':=?_) ?_ ?_
    rotate_left
    ·show Act.put _ (some 24) _=_
     simp only [Act.put,List.setIfInBounds_toArray,List.set_cons_zero,List.set_cons_succ,i64_w,i32_w]
     rfl
    refine pureK 5 6 rfl rfl ?_
    refine done_ laws_FnExactCompareTerms.a23 ?_
    obtain ⟨d6,d7,d8,d9,e0,e1,e2,e3⟩:=cf4 A0
    try go_wp2_with (first | (refine goK 13 (some 26) rfl Try.func13 #[.agg #[.int .i64 a0_0,.string a0_1,.int .i64 a0_2,.slice A0_3 l0_3.length c0_3]] ?_;(with_reducible refine (laws_toTerm.calls k a0_0 a0_1 a0_2 _ _ l0_3 t168 t169 t170 t171 _ ?side1 ?side2 A22.out).mono ?_);(case side1=>exact cB B6 HB);(case side2=>exact B7.out);rintro e w84 ⟨v172,rfl,ho0,hb⟩;refine ⟨_,rfl,?_⟩;have A8:=rL (rN (rN ho0 A5) A6) HB;replace A5:=rE A5 ho0 hb;replace A6:=rE A6 ho0 hb;replace A0:=bB A0 hb;replace A1:=bB A1 hb;replace HB:=hS HB hb;(try clear hb);(try clear hb2);(try clear hk);(try clear hi);(try clear ho0)) | (refine bx 7 rfl #[.int .i64 0,.string (⟨#[]⟩:ByteArray),.int .i64 0,.slice none 0 0] 29 ?_;intro A7 hg w85 hbox hb;replace A5:=Aside0.mk (Kd.R_below (Kd.R_elderB (rV A5) A7 (Nat.le_of_eq hg.symm)) hb);replace A6:=Aside0.mk (Kd.R_below (Kd.R_elderB (rV A6) A7 (Nat.le_of_eq hg.symm)) hb);replace A8:=Aside0.mk (Kd.R_below (Kd.R_elderB (rV A8) A7 (Nat.le_of_eq hg.symm)) hb);have A2:=Aside0.mk (hbox);have F1:=hZ HB hg;have F2:=hZ HB hg;replace HB:=hS HB hb;have C0:=nL A0 hg;have C1:=nG A0 hg;replace A0:=bB A0 hb;have C2:=nL A1 hg;have C3:=nG A1 hg;replace A1:=bB A1 hb;clear hb hbox hg;have m4:=C1.out;have m5:=C0.out;have m6:=C3.out;have m7:=C2.out;obtain ⟨e4,e5,e6,e7,e8,e9,f0,f1⟩:=cf4 A2;obtain ⟨E0,D5,eo89⟩:=Kd.R_slice A8.out;subst eo89;obtain ⟨f2,f3,f4,f5,f6,f7,f8,f9⟩:=cf4 A1) | (refine goK 13 (some 28) rfl Try.func13 #[.agg #[.int .i64 a1_0,.string a1_1,.int .i64 a1_2,.slice A1_3 l1_3.length c1_3]] ?_;(with_reducible refine (laws_toTerm.calls k a1_0 a1_1 a1_2 _ _ l1_3 t175 t176 t177 t178 _ ?side1 ?side2 A23.out).mono ?_);(case side1=>exact cV B8 HB);(case side2=>exact B9.out);rintro e w91 ⟨v179,rfl,ho0,hb⟩;refine ⟨_,rfl,?_⟩;have B0:=Aside0.mk (Kd.R_lower (Kd.R_newB (Kd.R_new' (Kd.R_new' (Kd.R_new' ho0 (Kd.R_lt laws_FnExactCompareTerms.a17)) (Kd.R_lt laws_FnExactCompareTerms.a18)) (Kd.R_lt laws_FnExactCompareTerms.a19)) (g:=A7) (o:=.cells #[.int .i64 t168,.string t169,.int .i64 t170,.slice E0 t171.length D5] 29 (0,0)) (vP A2)) (below_size (hV HB)));replace A5:=Aside0.mk (Kd.R_elder' laws_FnExactCompareTerms.a17 (Kd.R_base ho0) hb);replace A6:=Aside0.mk (Kd.R_elder' laws_FnExactCompareTerms.a18 (Kd.R_base ho0) hb);replace A8:=Aside0.mk (Kd.R_elder' laws_FnExactCompareTerms.a19 (Kd.R_base ho0) hb);replace A0:=bB A0 hb;replace A1:=bB A1 hb;replace A2:=bP (o:=.cells #[.int .i64 t168,.string t169,.int .i64 t170,.slice E0 t171.length D5] 29 (0,0)) A2 hb;replace HB:=hS HB hb;(try clear hb);(try clear hb2);(try clear hk);(try clear hi);(try clear ho0)) | (refine bx 8 rfl #[.int .i64 0,.string (⟨#[]⟩:ByteArray),.int .i64 0,.slice none 0 0] 29 ?_;intro A4 hg w92 hbox hb;replace A5:=Aside0.mk (Kd.R_below (Kd.R_elderB (rV A5) A4 (Nat.le_of_eq hg.symm)) hb);replace A6:=Aside0.mk (Kd.R_below (Kd.R_elderB (rV A6) A4 (Nat.le_of_eq hg.symm)) hb);replace A8:=Aside0.mk (Kd.R_below (Kd.R_elderB (rV A8) A4 (Nat.le_of_eq hg.symm)) hb);replace B0:=Aside0.mk (Kd.R_below (Kd.R_elderB (rV B0) A4 (Nat.le_of_eq hg.symm)) hb);have A9:=Aside0.mk (hbox);have F3:=hZ HB hg;have F4:=hZ HB hg;replace HB:=hS HB hb;have C4:=nL A0 hg;have C5:=nG A0 hg;replace A0:=bB A0 hb;have C6:=nL A1 hg;have C7:=nG A1 hg;replace A1:=bB A1 hb;have C8:=nL A2 hg;have C9:=nG A2 hg;replace A2:=bB A2 hb;clear hb hbox hg;have m8:=C5.out;have m9:=C4.out;have n0:=C7.out;have n1:=C6.out;have n2:=C9.out;have n3:=C8.out;obtain ⟨g0,g1,g2,g3,g4,g5,g6,g7⟩:=cf4 A9;obtain ⟨E1,D6,eo97⟩:=Kd.R_slice B0.out;subst eo97;obtain ⟨g8,g9,h0,h1,h2,h3,h4,h5⟩:=cf4 A2) | (refine goK 14 (some 31) rfl Try.func14 #[.agg #[.int .i64 t168,.string t169,.int .i64 t170,.slice E0 t171.length D5],.agg #[.int .i64 t175,.string t176,.int .i64 t177,.slice E1 t178.length D6]] ?_;(with_reducible refine (impl_CompareTerms.calls k t168 t169 t170 _ _ t171 t175 t176 t177 _ _ t178 t182 _ ?side1 ?side2 ?side3 ?side4 A24.out).mono ?_);(case side1=>refine (Kd.R_reads' (e:=29) (base:=w.heap.size) (ok:=fun k_=>(((((True∧some k_≠(.slice G7 t158.length G8:Value).ownBlock)∧some k_≠(.slice G9 t164.length H0:Value).ownBlock)∧k_≠A7)∧some k_≠(.slice E1 t178.length D6:Value).ownBlock)∧k_≠A4)) (n:=t171.length) (c:=D5) ?_).2.2;exact laws_FnExactCompareTerms.a20);(case side2=>exact (Kd.R_reads' A8.out).2.1);(case side3=>refine (Kd.R_reads' (e:=29) (base:=w.heap.size) (ok:=fun k_=>(((((True∧some k_≠(.slice G7 t158.length G8:Value).ownBlock)∧some k_≠(.slice G9 t164.length H0:Value).ownBlock)∧some k_≠(.slice E0 t171.length D5:Value).ownBlock)∧k_≠A7)∧k_≠A4)) (n:=t178.length) (c:=D6) ?_).2.2;exact laws_FnExactCompareTerms.a21);(case side4=>exact (Kd.R_reads' B0.out).2.1);rintro e w99 ⟨rfl,hb⟩;refine ⟨_,rfl,?_⟩;replace A5:=Aside0.mk (Kd.R_below (by (with_reducible repeat (first | apply Kd.R_alloc | apply Kd.R_drewN | apply Kd.R_drew));exact (Kd.R_mono (Kd.R_far (p:=⟨A4,3,none⟩) (Kd.R_far (p:=⟨A4,2,none⟩) (Kd.R_far (p:=⟨A4,1,none⟩) (Kd.R_far (p:=⟨A4,0,none⟩) (Kd.R_mono A5.out (fun k_ hk=>(⟨hk,hk.2⟩:_∧k_≠A4))) (fun _ hk=>hk.2) (.int .i64 t175)) (fun _ hk=>hk.2) (.string t176)) (fun _ hk=>hk.2) (.int .i64 t177)) (fun _ hk=>hk.2) (.slice E1 t178.length D6)) (fun _ h_=>h_.1))) hb);replace A6:=Aside0.mk (Kd.R_below (by (with_reducible repeat (first | apply Kd.R_alloc | apply Kd.R_drewN | apply Kd.R_drew));exact (Kd.R_mono (Kd.R_far (p:=⟨A4,3,none⟩) (Kd.R_far (p:=⟨A4,2,none⟩) (Kd.R_far (p:=⟨A4,1,none⟩) (Kd.R_far (p:=⟨A4,0,none⟩) (Kd.R_mono A6.out (fun k_ hk=>(⟨hk,hk.2⟩:_∧k_≠A4))) (fun _ hk=>hk.2) (.int .i64 t175)) (fun _ hk=>hk.2) (.string t176)) (fun _ hk=>hk.2) (.int .i64 t177)) (fun _ hk=>hk.2) (.slice E1 t178.length D6)) (fun _ h_=>h_.1))) hb);replace A8:=Aside0.mk (Kd.R_below laws_FnExactCompareTerms.a20 hb);replace B0:=Aside0.mk (Kd.R_below laws_FnExactCompareTerms.a21 hb);replace A0:=bB A0 hb;replace A1:=bB A1 hb;replace A2:=bB A2 hb;replace A9:=bP (o:=.cells #[.int .i64 t175,.string t176,.int .i64 t177,.slice E1 t178.length D6] 29 (0,0)) A9 hb;replace HB:=hS HB hb;(try clear hb);(try clear hb2);(try clear hk);(try clear hi)))
    replace A5:=Aside0.mk (Kd.R_drew A5.out)
    replace A6:=Aside0.mk (Kd.R_drew A6.out)
    replace A8:=Aside0.mk (Kd.R_drew A8.out)
    replace B0:=Aside0.mk (Kd.R_drew B0.out)
    replace A0:=Aside0.mk (blk_drew A0.out)
    replace A1:=Aside0.mk (blk_drew A1.out)
    replace A2:=Aside0.mk (blk_drew A2.out)
    replace A9:=Aside0.mk (blk_drew A9.out)
    replace HB:=Aside0.mk (below_drew1 HB.out)
    refine start_ (n:=5) (S:=fun w'=>w'.cell? ⟨A7,0,none⟩=some (.int .i64 t168)∧w'.cell? ⟨A7,1,none⟩=some (.string t169)∧w'.cell? ⟨A7,2,none⟩=some (.int .i64 t170)∧w'.cell? ⟨A7,3,none⟩=some (.slice E0 t171.length D5)∧w'.cell? ⟨B1,0,none⟩=some (.int .i64 a0_0)∧w'.cell? ⟨B1,1,none⟩=some (.string a0_1)∧w'.cell? ⟨B1,2,none⟩=some (.int .i64 a0_2)∧w'.cell? ⟨B1,3,none⟩=some (.slice A0_3 l0_3.length c0_3)) (ds:=[]) #[false,false,false,false,false] laws_FnExactCompareTerms.a23 rfl rfl ⟨cz0 A2,cz1 A2,cz2 A2,cz3 A2,cz0 A0,cz1 A0,cz2 A0,cz3 A0⟩ (fun hHeld=> ?_)
    generalize w99.drew=w100 at A5 A6 A8 B0 A0 A1 A2 A9 HB hHeld ⊢
    refine takeK 0 35 rfl rfl hHeld ?_ laws_FnExactCompareTerms.a1
    refine takeK 1 36 rfl rfl hHeld ?_ laws_FnExactCompareTerms.a1
    refine one_ (i:=2) (N:=some 37) #[true,true,true,false,false] rfl rfl laws_FnExactCompareTerms.a23 (by decide) (fun K hK=> ?_)
    refine goes_ Try.func13 laws_FnExactCompareTerms.a23 rfl #[.agg #[.int .i64 a0_0,.string a0_1,.int .i64 a0_2,.slice A0_3 l0_3.length c0_3]] (by rfl) rfl rfl laws_FnExactCompareTerms.a0 ?_
    with_reducible refine (laws_toTerm.calls k a0_0 a0_1 a0_2 _ _ l0_3 t183 t184 t185 t186 _ ?side1 ?side2 A26.out).mono ?_
    (case side1=>exact cB B6 HB)
    (case side2=>exact B7.out)
    rintro e w101 ⟨v187,rfl,ho0,hb⟩
    refine ⟨_,rfl,?_⟩
    have B2:=Aside0.mk (Kd.R_lower (Kd.R_newB (Kd.R_newB (Kd.R_new' (Kd.R_new' (Kd.R_new' (Kd.R_new' ho0 (Kd.R_lt (rV A5))) (Kd.R_lt (rV A6))) (Kd.R_lt (rV A8))) (Kd.R_lt (rV B0))) (g:=A7) (o:=.cells #[.int .i64 t168,.string t169,.int .i64 t170,.slice E0 t171.length D5] 29 (0,0)) (vB A2)) (g:=A4) (o:=.cells #[.int .i64 t175,.string t176,.int .i64 t177,.slice E1 t178.length D6] 29 (0,0)) (vB A9)) (below_size (hV HB)))
    replace A5:=rE A5 ho0 hb
    replace A6:=rE A6 ho0 hb
    replace A8:=rE A8 ho0 hb
    replace B0:=rE B0 ho0 hb
    replace A0:=bB A0 hb
    replace A1:=bB A1 hb
    replace A2:=bB A2 hb
    replace A9:=bB A9 hb
    replace HB:=hS HB hb
    (try clear hb)
    (try clear hb2)
    (try clear hk)
    (try clear hi)
    (try clear ho0)
    obtain ⟨H4,H5,eo102⟩:=Kd.R_slice B2.out
    (first | subst eo102 | (injection eo102 with f1_ f2_ f3_;have f4_:=f1_.symm;have f5_:=f3_.symm;clear f1_ f2_ f3_;subst f4_;subst f5_))
    refine hK.out _ _ ⟨cz0 A2,cz1 A2,cz2 A2,cz3 A2,cz0 A0,cz1 A0,cz2 A0,cz3 A0⟩ (fun hHeld=> ?_)
    clear hK K
    refine norm_ (a':=?_) ?_ ?_
    rotate_left
    ·show Act.put _ (some 37) _=_
     simp only [Act.put,List.setIfInBounds_toArray,List.set_cons_zero,List.set_cons_succ,i64_w,i32_w]
     rfl
    refine one_ (i:=3) (N:=some 38) #[true,true,true,true,false] rfl rfl laws_FnExactCompareTerms.a23 (by decide) (fun K hK=> ?_)
    refine goes_ Try.func15 laws_FnExactCompareTerms.a23 rfl #[.agg #[.int .i64 t168,.string t169,.int .i64 t170,.slice E0 t171.length D5],.agg #[.int .i64 t183,.string t184,.int .i64 t185,.slice H4 t186.length H5]] (by rfl) rfl rfl laws_FnExactCompareTerms.a0 ?_
    with_reducible refine (laws_eqTerm.calls k t168 t169 t170 _ _ t171 t183 t184 t185 _ _ t186 true _ ?side1 ?side2 ?side3 ?side4 A27.out).mono ?_
    (case side1=>repeat (first | exact (Kd.R_reads' A8.out).2.2 | (with_reducible refine Kd.C_alloc ?_ _) | (with_reducible refine Kd.C_drewN ?_ _) | (with_reducible refine Kd.C_drew ?_)))
    (case side2=>exact (Kd.R_reads' A8.out).2.1)
    (case side3=>repeat (first | exact (Kd.R_reads' B2.out).2.2 | (with_reducible refine Kd.C_alloc ?_ _) | (with_reducible refine Kd.C_drewN ?_ _) | (with_reducible refine Kd.C_drew ?_)))
    (case side4=>exact (Kd.R_reads' B2.out).2.1)
    rintro e w103 ⟨rfl,hb⟩
    refine ⟨_,rfl,?_⟩
    replace A5:=rB A5 hb
    replace A6:=rB A6 hb
    replace A8:=rB A8 hb
    replace B0:=rB B0 hb
    replace B2:=rB B2 hb
    replace A0:=bB A0 hb
    replace A1:=bB A1 hb
    replace A2:=bB A2 hb
    replace A9:=bB A9 hb
    replace HB:=hS HB hb
    (try clear hb)
    (try clear hb2)
    (try clear hk)
    (try clear hi)
    refine hK.out _ _ ⟨cz0 A2,cz1 A2,cz2 A2,cz3 A2,cz0 A0,cz1 A0,cz2 A0,cz3 A0⟩ (fun hHeld=> ?_)
    clear hK K
    refine norm_ (a':=?_) ?_ ?_
    rotate_left
    ·show Act.put _ (some 38) _=_
     simp only [Act.put,List.setIfInBounds_toArray,List.set_cons_zero,List.set_cons_succ,i64_w,i32_w]
     rfl
    refine pureK 4 39 rfl rfl ?_
    refine done_ laws_FnExactCompareTerms.a23 ?_
    try go_wp2
    replace A5:=Aside0.mk (Kd.R_drew A5.out)
    replace A6:=Aside0.mk (Kd.R_drew A6.out)
    replace A8:=Aside0.mk (Kd.R_drew A8.out)
    replace B0:=Aside0.mk (Kd.R_drew B0.out)
    replace B2:=Aside0.mk (Kd.R_drew B2.out)
    replace A0:=Aside0.mk (blk_drew A0.out)
    replace A1:=Aside0.mk (blk_drew A1.out)
    replace A2:=Aside0.mk (blk_drew A2.out)
    replace A9:=Aside0.mk (blk_drew A9.out)
    replace HB:=Aside0.mk (below_drew1 HB.out)
    refine start_ (n:=5) (S:=fun w'=>w'.cell? ⟨A4,0,none⟩=some (.int .i64 t175)∧w'.cell? ⟨A4,1,none⟩=some (.string t176)∧w'.cell? ⟨A4,2,none⟩=some (.int .i64 t177)∧w'.cell? ⟨A4,3,none⟩=some (.slice E1 t178.length D6)∧w'.cell? ⟨B3,0,none⟩=some (.int .i64 a1_0)∧w'.cell? ⟨B3,1,none⟩=some (.string a1_1)∧w'.cell? ⟨B3,2,none⟩=some (.int .i64 a1_2)∧w'.cell? ⟨B3,3,none⟩=some (.slice A1_3 l1_3.length c1_3)) (ds:=[]) #[false,false,false,false,false] laws_FnExactCompareTerms.a23 rfl rfl ⟨cz0 A9,cz1 A9,cz2 A9,cz3 A9,cz0 A1,cz1 A1,cz2 A1,cz3 A1⟩ (fun hHeld=> ?_)
    generalize w103.drew=w104 at A5 A6 A8 B0 B2 A0 A1 A2 A9 HB hHeld ⊢
    refine takeK 0 40 rfl rfl hHeld ?_ laws_FnExactCompareTerms.a1
    refine takeK 1 41 rfl rfl hHeld ?_ laws_FnExactCompareTerms.a1
    refine one_ (i:=2) (N:=some 42) #[true,true,true,false,false] rfl rfl laws_FnExactCompareTerms.a23 (by decide) (fun K hK=> ?_)
    refine goes_ Try.func13 laws_FnExactCompareTerms.a23 rfl #[.agg #[.int .i64 a1_0,.string a1_1,.int .i64 a1_2,.slice A1_3 l1_3.length c1_3]] (by rfl) rfl rfl laws_FnExactCompareTerms.a0 ?_
    with_reducible refine (laws_toTerm.calls k a1_0 a1_1 a1_2 _ _ l1_3 t190 t191 t192 t193 _ ?side1 ?side2 A29.out).mono ?_
    (case side1=>exact cB B8 HB)
    (case side2=>exact B9.out)
    rintro e w105 ⟨v194,rfl,ho0,hb⟩
    refine ⟨_,rfl,?_⟩
    have D1:=Aside0.mk (Kd.R_lower (Kd.R_newB (Kd.R_newB (Kd.R_new' (Kd.R_new' (Kd.R_new' (Kd.R_new' (Kd.R_new' ho0 (Kd.R_lt (rV A5))) (Kd.R_lt (rV A6))) (Kd.R_lt (rV A8))) (Kd.R_lt (rV B0))) (Kd.R_lt (rV B2))) (g:=A7) (o:=.cells #[.int .i64 t168,.string t169,.int .i64 t170,.slice E0 t171.length D5] 29 (0,0)) (vB A2)) (g:=A4) (o:=.cells #[.int .i64 t175,.string t176,.int .i64 t177,.slice E1 t178.length D6] 29 (0,0)) (vB A9)) (below_size (hV HB)))
    replace A5:=rE A5 ho0 hb
    replace A6:=rE A6 ho0 hb
    replace A8:=rE A8 ho0 hb
    replace B0:=rE B0 ho0 hb
    replace B2:=rE B2 ho0 hb
    replace A0:=bB A0 hb
    replace A1:=bB A1 hb
    replace A2:=bB A2 hb
    replace A9:=bB A9 hb
    replace HB:=hS HB hb
    (try clear hb)
    (try clear hb2)
    (try clear hk)
    (try clear hi)
    (try clear ho0)
    obtain ⟨H6,H7,eo106⟩:=Kd.R_slice D1.out
    (first | subst eo106 | (injection eo106 with f1_ f2_ f3_;have f4_:=f1_.symm;have f5_:=f3_.symm;clear f1_ f2_ f3_;subst f4_;subst f5_))
    refine hK.out _ _ ⟨cz0 A9,cz1 A9,cz2 A9,cz3 A9,cz0 A1,cz1 A1,cz2 A1,cz3 A1⟩ (fun hHeld=> ?_)
    clear hK K
    refine norm_ (a':=?_) ?_ ?_
    rotate_left
    ·show Act.put _ (some 42) _=_
     simp only [Act.put,List.setIfInBounds_toArray,List.set_cons_zero,List.set_cons_succ,i64_w,i32_w]
     rfl
    refine one_ (i:=3) (N:=some 43) #[true,true,true,true,false] rfl rfl laws_FnExactCompareTerms.a23 (by decide) (fun K hK=> ?_)
    refine goes_ Try.func15 laws_FnExactCompareTerms.a23 rfl #[.agg #[.int .i64 t175,.string t176,.int .i64 t177,.slice E1 t178.length D6],.agg #[.int .i64 t190,.string t191,.int .i64 t192,.slice H6 t193.length H7]] (by rfl) rfl rfl laws_FnExactCompareTerms.a0 ?_
    with_reducible refine (laws_eqTerm.calls k t175 t176 t177 _ _ t178 t190 t191 t192 _ _ t193 false _ ?side1 ?side2 ?side3 ?side4 A30.out).mono ?_
    (case side1=>repeat (first | exact (Kd.R_reads' B0.out).2.2 | (with_reducible refine Kd.C_alloc ?_ _) | (with_reducible refine Kd.C_drewN ?_ _) | (with_reducible refine Kd.C_drew ?_)))
    (case side2=>exact (Kd.R_reads' B0.out).2.1)
    (case side3=>repeat (first | exact (Kd.R_reads' D1.out).2.2 | (with_reducible refine Kd.C_alloc ?_ _) | (with_reducible refine Kd.C_drewN ?_ _) | (with_reducible refine Kd.C_drew ?_)))
    (case side4=>exact (Kd.R_reads' D1.out).2.1)
    rintro e w107 ⟨rfl,hb⟩
    refine ⟨_,rfl,?_⟩
    replace A5:=rB A5 hb
    replace A6:=rB A6 hb
    replace A8:=rB A8 hb
    replace B0:=rB B0 hb
    replace B2:=rB B2 hb
    replace D1:=rB D1 hb
    replace A0:=bB A0 hb
    replace A1:=bB A1 hb
    replace A2:=bB A2 hb
    replace A9:=bB A9 hb
    replace HB:=hS HB hb
    (try clear hb)
    (try clear hb2)
    (try clear hk)
    (try clear hi)
    refine hK.out _ _ ⟨cz0 A9,cz1 A9,cz2 A9,cz3 A9,cz0 A1,cz1 A1,cz2 A1,cz3 A1⟩ (fun hHeld=> ?_)
    clear hK K
    refine norm_ (a':=?_) ?_ ?_
    rotate_left
    ·show Act.put _ (some 43) _=_
     simp only [Act.put,List.setIfInBounds_toArray,List.set_cons_zero,List.set_cons_succ,i64_w,i32_w]
     rfl
    refine pureK 4 44 rfl rfl ?_
    refine done_ laws_FnExactCompareTerms.a23 ?_
    try go_wp2
    go_ret
    exact ⟨laws_FnExactCompareTerms.a22,hV HB⟩
  ·replace c28:=Bool.eq_false_iff.mpr c28
   subst c28
   rw [if_neg (show ¬ (false=true) by decide)] at H
   obtain rfl:=Option.some.inj H
   go_enter Try.func3,Try.ntmps3
   try go_wp2_with (first | (refine bx 2 rfl #[.int .i64 a0_0,.string a0_1,.int .i64 a0_2,.slice A0_3 l0_3.length c0_3] 24 ?_;intro B1 hg w108 hbox hb;have A0:=Aside0.mk (hbox);have E7:=hZ HB hg;have E8:=hZ HB hg;replace HB:=hS HB hb;clear hb hbox hg) | (refine bx 3 rfl #[.int .i64 a1_0,.string a1_1,.int .i64 a1_2,.slice A1_3 l1_3.length c1_3] 24 ?_;intro B3 hg w109 hbox hb;have A1:=Aside0.mk (hbox);have E9:=hZ HB hg;have F0:=hZ HB hg;replace HB:=hS HB hb;have B4:=nL A0 hg;have B5:=nG A0 hg;replace A0:=bB A0 hb;clear hb hbox hg;have i4:=B4.out;have i5:=B5.out;obtain ⟨I5,I6,I7,I8,I9,J0,J1,J2⟩:=cf4 A0) | (refine goK 11 (some 12) rfl Try.func11 #[.agg #[.int .i64 a0_0,.string a0_1,.int .i64 a0_2,.slice A0_3 l0_3.length c0_3],.int .i64 1048576] ?_;(with_reducible refine (laws_szTerm.calls k a0_0 a0_1 a0_2 _ _ l0_3 1048576 t153 _ ?side1 ?side2 A3.out).mono ?_);(case side1=>exact cB B6 HB);(case side2=>exact B7.out);rintro e w112 ⟨rfl,hb⟩;refine ⟨_,rfl,?_⟩;replace A0:=bB A0 hb;replace A1:=bB A1 hb;replace HB:=hS HB hb;(try clear hb);(try clear hb2);(try clear hk);(try clear hi);obtain ⟨J3,J4,J5,J6,J7,J8,J9,K0⟩:=cf4 A1) | (refine goK 11 (some 17) rfl Try.func11 #[.agg #[.int .i64 a1_0,.string a1_1,.int .i64 a1_2,.slice A1_3 l1_3.length c1_3],.int .i64 t153] ?_;(with_reducible refine (laws_szTerm.calls k a1_0 a1_1 a1_2 _ _ l1_3 t153 t154 _ ?side1 ?side2 A10.out).mono ?_);(case side1=>exact cB B8 HB);(case side2=>exact B9.out);rintro e w114 ⟨rfl,hb⟩;refine ⟨_,rfl,?_⟩;replace A0:=bB A0 hb;replace A1:=bB A1 hb;replace HB:=hS HB hb;(try clear hb);(try clear hb2);(try clear hk);(try clear hi)))
   replace A0:=Aside0.mk (blk_drew A0.out)
   replace A1:=Aside0.mk (blk_drew A1.out)
   replace HB:=Aside0.mk (below_drew1 HB.out)
   refine start_ (n:=6) (S:=fun w'=>w'.cell? ⟨B1,0,none⟩=some (.int .i64 a0_0)∧w'.cell? ⟨B1,1,none⟩=some (.string a0_1)∧w'.cell? ⟨B1,2,none⟩=some (.int .i64 a0_2)∧w'.cell? ⟨B1,3,none⟩=some (.slice A0_3 l0_3.length c0_3)∧w'.cell? ⟨B3,0,none⟩=some (.int .i64 a1_0)∧w'.cell? ⟨B3,1,none⟩=some (.string a1_1)∧w'.cell? ⟨B3,2,none⟩=some (.int .i64 a1_2)∧w'.cell? ⟨B3,3,none⟩=some (.slice A1_3 l1_3.length c1_3)) (ds:=[]) #[false,false,false,false,false,false] laws_FnExactCompareTerms.a23 rfl rfl ⟨cz0 A0,cz1 A0,cz2 A0,cz3 A0,cz0 A1,cz1 A1,cz2 A1,cz3 A1⟩ (fun hHeld=> ?_)
   generalize w114.drew=w115 at A0 A1 HB hHeld ⊢
   refine takeK 0 20 rfl rfl hHeld ?_ laws_FnExactCompareTerms.a1
   refine takeK 2 22 rfl rfl hHeld ?_ laws_FnExactCompareTerms.a1
   refine one_ (i:=1) (N:=some 21) #[true,true,true,false,false,false] rfl rfl laws_FnExactCompareTerms.a23 (by decide) (fun K hK=> ?_)
   refine goes_ Try.func13 laws_FnExactCompareTerms.a23 rfl #[.agg #[.int .i64 a0_0,.string a0_1,.int .i64 a0_2,.slice A0_3 l0_3.length c0_3]] (by rfl) rfl rfl laws_FnExactCompareTerms.a0 ?_
   with_reducible refine (laws_toTerm.calls k a0_0 a0_1 a0_2 _ _ l0_3 t155 t156 t157 t158 _ ?side1 ?side2 A19.out).mono ?_
   (case side1=>exact cB B6 HB)
   (case side2=>exact B7.out)
   rintro e w116 ⟨v159,rfl,ho0,hb⟩
   refine ⟨_,rfl,?_⟩
   have A5:=rL ho0 HB
   replace A0:=bB A0 hb
   replace A1:=bB A1 hb
   replace HB:=hS HB hb
   (try clear hb)
   (try clear hb2)
   (try clear hk)
   (try clear hi)
   (try clear ho0)
   refine hK.out _ _ ⟨cz0 A0,cz1 A0,cz2 A0,cz3 A0,cz0 A1,cz1 A1,cz2 A1,cz3 A1⟩ (fun hHeld=> ?_)
   clear hK K
   refine norm_ (a':=?_) ?_ ?_
   rotate_left
   ·show Act.put _ (some 21) _=_
    simp only [Act.put,List.setIfInBounds_toArray,List.set_cons_zero,List.set_cons_succ,i64_w,i32_w]
    rfl
   refine one_ (i:=3) (N:=some 23) #[true,true,true,true,false,false] rfl rfl laws_FnExactCompareTerms.a23 (by decide) (fun K hK=> ?_)
   refine goes_ Try.func13 laws_FnExactCompareTerms.a23 rfl #[.agg #[.int .i64 a1_0,.string a1_1,.int .i64 a1_2,.slice A1_3 l1_3.length c1_3]] (by rfl) rfl rfl laws_FnExactCompareTerms.a0 ?_
   with_reducible refine (laws_toTerm.calls k a1_0 a1_1 a1_2 _ _ l1_3 t161 t162 t163 t164 _ ?side1 ?side2 A20.out).mono ?_
   (case side1=>exact cB B8 HB)
   (case side2=>exact B9.out)
   rintro e w117 ⟨v165,rfl,ho0,hb⟩
   refine ⟨_,rfl,?_⟩
   have A6:=rL (rN ho0 A5) HB
   replace A5:=rE A5 ho0 hb
   replace A0:=bB A0 hb
   replace A1:=bB A1 hb
   replace HB:=hS HB hb
   (try clear hb)
   (try clear hb2)
   (try clear hk)
   (try clear hi)
   (try clear ho0)
   obtain ⟨F5,F6,eo118⟩:=Kd.R_slice A5.out
   (first | subst eo118 | (injection eo118 with f1_ f2_ f3_;have f4_:=f1_.symm;have f5_:=f3_.symm;clear f1_ f2_ f3_;subst f4_;subst f5_))
   obtain ⟨F7,F8,eo119⟩:=Kd.R_slice A6.out
   (first | subst eo119 | (injection eo119 with f1_ f2_ f3_;have f4_:=f1_.symm;have f5_:=f3_.symm;clear f1_ f2_ f3_;subst f4_;subst f5_))
   refine hK.out _ _ ⟨cz0 A0,cz1 A0,cz2 A0,cz3 A0,cz0 A1,cz1 A1,cz2 A1,cz3 A1⟩ (fun hHeld=> ?_)
   clear hK K
   refine norm_ (a':=?_) ?_ ?_
   rotate_left
   ·show Act.put _ (some 23) _=_
    simp only [Act.put,List.setIfInBounds_toArray,List.set_cons_zero,List.set_cons_succ,i64_w,i32_w]
    rfl
   refine one_ (i:=4) (N:=some 24) #[true,true,true,true,true,false] rfl rfl laws_FnExactCompareTerms.a23 (by decide) (fun K hK=> ?_)
   refine goes_ Try.func12 laws_FnExactCompareTerms.a23 rfl #[.agg #[.int .i64 t155,.string t156,.int .i64 t157,.slice F5 t158.length F6],.agg #[.int .i64 t161,.string t162,.int .i64 t163,.slice F7 t164.length F8]] (by rfl) rfl rfl laws_FnExactCompareTerms.a0 ?_
   with_reducible refine (spec_CompareTerms.calls k t155 t156 t157 _ _ t158 t161 t162 t163 _ _ t164 t167 _ ?side1 ?side2 ?side3 ?side4 A21.out).mono ?_
   (case side1=>repeat (first | exact (Kd.R_reads' A5.out).2.2 | (with_reducible refine Kd.C_alloc ?_ _) | (with_reducible refine Kd.C_drewN ?_ _) | (with_reducible refine Kd.C_drew ?_)))
   (case side2=>exact (Kd.R_reads' A5.out).2.1)
   (case side3=>repeat (first | exact (Kd.R_reads' A6.out).2.2 | (with_reducible refine Kd.C_alloc ?_ _) | (with_reducible refine Kd.C_drewN ?_ _) | (with_reducible refine Kd.C_drew ?_)))
   (case side4=>exact (Kd.R_reads' A6.out).2.1)
   rintro e w120 ⟨rfl,hb⟩
   refine ⟨_,rfl,?_⟩
   replace A5:=rB A5 hb
   replace A6:=rB A6 hb
   replace A0:=bB A0 hb
   replace A1:=bB A1 hb
   replace HB:=hS HB hb
   (try clear hb)
   (try clear hb2)
   (try clear hk)
   (try clear hi)
   refine hK.out _ _ ⟨cz0 A0,cz1 A0,cz2 A0,cz3 A0,cz0 A1,cz1 A1,cz2 A1,cz3 A1⟩ (fun hHeld=> ?_)
   clear hK K
   refine norm_ (a':=?_) ?_ ?_
   rotate_left
   ·show Act.put _ (some 24) _=_
    simp only [Act.put,List.setIfInBounds_toArray,List.set_cons_zero,List.set_cons_succ,i64_w,i32_w]
    rfl
   refine pureK 5 6 rfl rfl ?_
   refine done_ laws_FnExactCompareTerms.a23 ?_
   obtain ⟨K1,K2,K3,K4,K5,K6,K7,K8⟩:=cf4 A0
   try go_wp2_with (first | (refine goK 13 (some 26) rfl Try.func13 #[.agg #[.int .i64 a0_0,.string a0_1,.int .i64 a0_2,.slice A0_3 l0_3.length c0_3]] ?_;(with_reducible refine (laws_toTerm.calls k a0_0 a0_1 a0_2 _ _ l0_3 t168 t169 t170 t171 _ ?side1 ?side2 A22.out).mono ?_);(case side1=>exact cB B6 HB);(case side2=>exact B7.out);rintro e w122 ⟨v172,rfl,ho0,hb⟩;refine ⟨_,rfl,?_⟩;have A8:=rL (rN (rN ho0 A5) A6) HB;replace A5:=rE A5 ho0 hb;replace A6:=rE A6 ho0 hb;replace A0:=bB A0 hb;replace A1:=bB A1 hb;replace HB:=hS HB hb;(try clear hb);(try clear hb2);(try clear hk);(try clear hi);(try clear ho0)) | (refine bx 7 rfl #[.int .i64 0,.string (⟨#[]⟩:ByteArray),.int .i64 0,.slice none 0 0] 29 ?_;intro A7 hg w123 hbox hb;replace A5:=Aside0.mk (Kd.R_below (Kd.R_elderB (rV A5) A7 (Nat.le_of_eq hg.symm)) hb);replace A6:=Aside0.mk (Kd.R_below (Kd.R_elderB (rV A6) A7 (Nat.le_of_eq hg.symm)) hb);replace A8:=Aside0.mk (Kd.R_below (Kd.R_elderB (rV A8) A7 (Nat.le_of_eq hg.symm)) hb);have A2:=Aside0.mk (hbox);have F1:=hZ HB hg;have F2:=hZ HB hg;replace HB:=hS HB hb;have C0:=nL A0 hg;have C1:=nG A0 hg;replace A0:=bB A0 hb;have C2:=nL A1 hg;have C3:=nG A1 hg;replace A1:=bB A1 hb;clear hb hbox hg;have i6:=C1.out;have i7:=C0.out;have i8:=C3.out;have i9:=C2.out;obtain ⟨K9,L0,L1,L2,L3,L4,L5,L6⟩:=cf4 A2;obtain ⟨D2,D0,eo127⟩:=Kd.R_slice A8.out;subst eo127;obtain ⟨L7,L8,L9,M0,M1,M2,M3,M4⟩:=cf4 A1) | (refine goK 13 (some 28) rfl Try.func13 #[.agg #[.int .i64 a1_0,.string a1_1,.int .i64 a1_2,.slice A1_3 l1_3.length c1_3]] ?_;(with_reducible refine (laws_toTerm.calls k a1_0 a1_1 a1_2 _ _ l1_3 t175 t176 t177 t178 _ ?side1 ?side2 A23.out).mono ?_);(case side1=>exact cV B8 HB);(case side2=>exact B9.out);rintro e w129 ⟨v179,rfl,ho0,hb⟩;refine ⟨_,rfl,?_⟩;have B0:=Aside0.mk (Kd.R_lower (Kd.R_newB (Kd.R_new' (Kd.R_new' (Kd.R_new' ho0 (Kd.R_lt laws_FnExactCompareTerms.a2)) (Kd.R_lt laws_FnExactCompareTerms.a3)) (Kd.R_lt laws_FnExactCompareTerms.a4)) (g:=A7) (o:=.cells #[.int .i64 t168,.string t169,.int .i64 t170,.slice D2 t171.length D0] 29 (0,0)) (vP A2)) (below_size (hV HB)));replace A5:=Aside0.mk (Kd.R_elder' laws_FnExactCompareTerms.a2 (Kd.R_base ho0) hb);replace A6:=Aside0.mk (Kd.R_elder' laws_FnExactCompareTerms.a3 (Kd.R_base ho0) hb);replace A8:=Aside0.mk (Kd.R_elder' laws_FnExactCompareTerms.a4 (Kd.R_base ho0) hb);replace A0:=bB A0 hb;replace A1:=bB A1 hb;replace A2:=bP (o:=.cells #[.int .i64 t168,.string t169,.int .i64 t170,.slice D2 t171.length D0] 29 (0,0)) A2 hb;replace HB:=hS HB hb;(try clear hb);(try clear hb2);(try clear hk);(try clear hi);(try clear ho0)) | (refine bx 8 rfl #[.int .i64 0,.string (⟨#[]⟩:ByteArray),.int .i64 0,.slice none 0 0] 29 ?_;intro A4 hg w130 hbox hb;replace A5:=Aside0.mk (Kd.R_below (Kd.R_elderB (rV A5) A4 (Nat.le_of_eq hg.symm)) hb);replace A6:=Aside0.mk (Kd.R_below (Kd.R_elderB (rV A6) A4 (Nat.le_of_eq hg.symm)) hb);replace A8:=Aside0.mk (Kd.R_below (Kd.R_elderB (rV A8) A4 (Nat.le_of_eq hg.symm)) hb);replace B0:=Aside0.mk (Kd.R_below (Kd.R_elderB (rV B0) A4 (Nat.le_of_eq hg.symm)) hb);have A9:=Aside0.mk (hbox);have F3:=hZ HB hg;have F4:=hZ HB hg;replace HB:=hS HB hb;have C4:=nL A0 hg;have C5:=nG A0 hg;replace A0:=bB A0 hb;have C6:=nL A1 hg;have C7:=nG A1 hg;replace A1:=bB A1 hb;have C8:=nL A2 hg;have C9:=nG A2 hg;replace A2:=bB A2 hb;clear hb hbox hg;have j0:=C5.out;have j1:=C4.out;have j2:=C7.out;have j3:=C6.out;have j4:=C9.out;have j5:=C8.out;obtain ⟨M5,M6,M7,M8,M9,N0,N1,N2⟩:=cf4 A9;obtain ⟨E2,D7,eo135⟩:=Kd.R_slice B0.out;subst eo135;obtain ⟨N3,N4,N5,N6,N7,N8,N9,O0⟩:=cf4 A2) | (refine goK 14 (some 31) rfl Try.func14 #[.agg #[.int .i64 t168,.string t169,.int .i64 t170,.slice D2 t171.length D0],.agg #[.int .i64 t175,.string t176,.int .i64 t177,.slice E2 t178.length D7]] ?_;(with_reducible refine (impl_CompareTerms.calls k t168 t169 t170 _ _ t171 t175 t176 t177 _ _ t178 t182 _ ?side1 ?side2 ?side3 ?side4 A24.out).mono ?_);(case side1=>refine (Kd.R_reads' (e:=29) (base:=w.heap.size) (ok:=fun k_=>(((((True∧some k_≠(.slice F5 t158.length F6:Value).ownBlock)∧some k_≠(.slice F7 t164.length F8:Value).ownBlock)∧k_≠A7)∧some k_≠(.slice E2 t178.length D7:Value).ownBlock)∧k_≠A4)) (n:=t171.length) (c:=D0) ?_).2.2;exact laws_FnExactCompareTerms.a5);(case side2=>exact (Kd.R_reads' A8.out).2.1);(case side3=>refine (Kd.R_reads' (e:=29) (base:=w.heap.size) (ok:=fun k_=>(((((True∧some k_≠(.slice F5 t158.length F6:Value).ownBlock)∧some k_≠(.slice F7 t164.length F8:Value).ownBlock)∧some k_≠(.slice D2 t171.length D0:Value).ownBlock)∧k_≠A7)∧k_≠A4)) (n:=t178.length) (c:=D7) ?_).2.2;exact laws_FnExactCompareTerms.a6);(case side4=>exact (Kd.R_reads' B0.out).2.1);rintro e w137 ⟨rfl,hb⟩;refine ⟨_,rfl,?_⟩;replace A5:=Aside0.mk (Kd.R_below (by (with_reducible repeat (first | apply Kd.R_alloc | apply Kd.R_drewN | apply Kd.R_drew));exact (Kd.R_mono (Kd.R_far (p:=⟨A4,3,none⟩) (Kd.R_far (p:=⟨A4,2,none⟩) (Kd.R_far (p:=⟨A4,1,none⟩) (Kd.R_far (p:=⟨A4,0,none⟩) (Kd.R_mono A5.out (fun k_ hk=>(⟨hk,hk.2⟩:_∧k_≠A4))) (fun _ hk=>hk.2) (.int .i64 t175)) (fun _ hk=>hk.2) (.string t176)) (fun _ hk=>hk.2) (.int .i64 t177)) (fun _ hk=>hk.2) (.slice E2 t178.length D7)) (fun _ h_=>h_.1))) hb);replace A6:=Aside0.mk (Kd.R_below (by (with_reducible repeat (first | apply Kd.R_alloc | apply Kd.R_drewN | apply Kd.R_drew));exact (Kd.R_mono (Kd.R_far (p:=⟨A4,3,none⟩) (Kd.R_far (p:=⟨A4,2,none⟩) (Kd.R_far (p:=⟨A4,1,none⟩) (Kd.R_far (p:=⟨A4,0,none⟩) (Kd.R_mono A6.out (fun k_ hk=>(⟨hk,hk.2⟩:_∧k_≠A4))) (fun _ hk=>hk.2) (.int .i64 t175)) (fun _ hk=>hk.2) (.string t176)) (fun _ hk=>hk.2) (.int .i64 t177)) (fun _ hk=>hk.2) (.slice E2 t178.length D7)) (fun _ h_=>h_.1))) hb);replace A8:=Aside0.mk (Kd.R_below laws_FnExactCompareTerms.a5 hb);replace B0:=Aside0.mk (Kd.R_below laws_FnExactCompareTerms.a6 hb);replace A0:=bB A0 hb;replace A1:=bB A1 hb;replace A2:=bB A2 hb;replace A9:=bP (o:=.cells #[.int .i64 t175,.string t176,.int .i64 t177,.slice E2 t178.length D7] 29 (0,0)) A9 hb;replace HB:=hS HB hb;(try clear hb);(try clear hb2);(try clear hk);(try clear hi)))
   replace A5:=Aside0.mk (Kd.R_drew A5.out)
   replace A6:=Aside0.mk (Kd.R_drew A6.out)
   replace A8:=Aside0.mk (Kd.R_drew A8.out)
   replace B0:=Aside0.mk (Kd.R_drew B0.out)
   replace A0:=Aside0.mk (blk_drew A0.out)
   replace A1:=Aside0.mk (blk_drew A1.out)
   replace A2:=Aside0.mk (blk_drew A2.out)
   replace A9:=Aside0.mk (blk_drew A9.out)
   replace HB:=Aside0.mk (below_drew1 HB.out)
   refine start_ (n:=5) (S:=fun w'=>w'.cell? ⟨A7,0,none⟩=some (.int .i64 t168)∧w'.cell? ⟨A7,1,none⟩=some (.string t169)∧w'.cell? ⟨A7,2,none⟩=some (.int .i64 t170)∧w'.cell? ⟨A7,3,none⟩=some (.slice D2 t171.length D0)∧w'.cell? ⟨B1,0,none⟩=some (.int .i64 a0_0)∧w'.cell? ⟨B1,1,none⟩=some (.string a0_1)∧w'.cell? ⟨B1,2,none⟩=some (.int .i64 a0_2)∧w'.cell? ⟨B1,3,none⟩=some (.slice A0_3 l0_3.length c0_3)) (ds:=[]) #[false,false,false,false,false] laws_FnExactCompareTerms.a23 rfl rfl ⟨cz0 A2,cz1 A2,cz2 A2,cz3 A2,cz0 A0,cz1 A0,cz2 A0,cz3 A0⟩ (fun hHeld=> ?_)
   generalize w137.drew=w138 at A5 A6 A8 B0 A0 A1 A2 A9 HB hHeld ⊢
   refine takeK 0 35 rfl rfl hHeld ?_ laws_FnExactCompareTerms.a1
   refine takeK 1 36 rfl rfl hHeld ?_ laws_FnExactCompareTerms.a1
   refine one_ (i:=2) (N:=some 37) #[true,true,true,false,false] rfl rfl laws_FnExactCompareTerms.a23 (by decide) (fun K hK=> ?_)
   refine goes_ Try.func13 laws_FnExactCompareTerms.a23 rfl #[.agg #[.int .i64 a0_0,.string a0_1,.int .i64 a0_2,.slice A0_3 l0_3.length c0_3]] (by rfl) rfl rfl laws_FnExactCompareTerms.a0 ?_
   with_reducible refine (laws_toTerm.calls k a0_0 a0_1 a0_2 _ _ l0_3 t183 t184 t185 t186 _ ?side1 ?side2 A26.out).mono ?_
   (case side1=>exact cB B6 HB)
   (case side2=>exact B7.out)
   rintro e w139 ⟨v187,rfl,ho0,hb⟩
   refine ⟨_,rfl,?_⟩
   have B2:=Aside0.mk (Kd.R_lower (Kd.R_newB (Kd.R_newB (Kd.R_new' (Kd.R_new' (Kd.R_new' (Kd.R_new' ho0 (Kd.R_lt (rV A5))) (Kd.R_lt (rV A6))) (Kd.R_lt (rV A8))) (Kd.R_lt (rV B0))) (g:=A7) (o:=.cells #[.int .i64 t168,.string t169,.int .i64 t170,.slice D2 t171.length D0] 29 (0,0)) (vB A2)) (g:=A4) (o:=.cells #[.int .i64 t175,.string t176,.int .i64 t177,.slice E2 t178.length D7] 29 (0,0)) (vB A9)) (below_size (hV HB)))
   replace A5:=rE A5 ho0 hb
   replace A6:=rE A6 ho0 hb
   replace A8:=rE A8 ho0 hb
   replace B0:=rE B0 ho0 hb
   replace A0:=bB A0 hb
   replace A1:=bB A1 hb
   replace A2:=bB A2 hb
   replace A9:=bB A9 hb
   replace HB:=hS HB hb
   (try clear hb)
   (try clear hb2)
   (try clear hk)
   (try clear hi)
   (try clear ho0)
   obtain ⟨H8,H9,eo140⟩:=Kd.R_slice B2.out
   (first | subst eo140 | (injection eo140 with f1_ f2_ f3_;have f4_:=f1_.symm;have f5_:=f3_.symm;clear f1_ f2_ f3_;subst f4_;subst f5_))
   refine hK.out _ _ ⟨cz0 A2,cz1 A2,cz2 A2,cz3 A2,cz0 A0,cz1 A0,cz2 A0,cz3 A0⟩ (fun hHeld=> ?_)
   clear hK K
   refine norm_ (a':=?_) ?_ ?_
   rotate_left
   ·show Act.put _ (some 37) _=_
    simp only [Act.put,List.setIfInBounds_toArray,List.set_cons_zero,List.set_cons_succ,i64_w,i32_w]
    rfl
   refine one_ (i:=3) (N:=some 38) #[true,true,true,true,false] rfl rfl laws_FnExactCompareTerms.a23 (by decide) (fun K hK=> ?_)
   refine goes_ Try.func15 laws_FnExactCompareTerms.a23 rfl #[.agg #[.int .i64 t168,.string t169,.int .i64 t170,.slice D2 t171.length D0],.agg #[.int .i64 t183,.string t184,.int .i64 t185,.slice H8 t186.length H9]] (by rfl) rfl rfl laws_FnExactCompareTerms.a0 ?_
   with_reducible refine (laws_eqTerm.calls k t168 t169 t170 _ _ t171 t183 t184 t185 _ _ t186 false _ ?side1 ?side2 ?side3 ?side4 A27.out).mono ?_
   (case side1=>repeat (first | exact (Kd.R_reads' A8.out).2.2 | (with_reducible refine Kd.C_alloc ?_ _) | (with_reducible refine Kd.C_drewN ?_ _) | (with_reducible refine Kd.C_drew ?_)))
   (case side2=>exact (Kd.R_reads' A8.out).2.1)
   (case side3=>repeat (first | exact (Kd.R_reads' B2.out).2.2 | (with_reducible refine Kd.C_alloc ?_ _) | (with_reducible refine Kd.C_drewN ?_ _) | (with_reducible refine Kd.C_drew ?_)))
   (case side4=>exact (Kd.R_reads' B2.out).2.1)
   rintro e w141 ⟨rfl,hb⟩
   refine ⟨_,rfl,?_⟩
   replace A5:=rB A5 hb
   replace A6:=rB A6 hb
   replace A8:=rB A8 hb
   replace B0:=rB B0 hb
   replace B2:=rB B2 hb
   replace A0:=bB A0 hb
   replace A1:=bB A1 hb
   replace A2:=bB A2 hb
   replace A9:=bB A9 hb
   replace HB:=hS HB hb
   (try clear hb)
   (try clear hb2)
   (try clear hk)
   (try clear hi)
   refine hK.out _ _ ⟨cz0 A2,cz1 A2,cz2 A2,cz3 A2,cz0 A0,cz1 A0,cz2 A0,cz3 A0⟩ (fun hHeld=> ?_)
   clear hK K
   refine norm_ (a':=?_) ?_ ?_
   rotate_left
   ·show Act.put _ (some 38) _=_
    simp only [Act.put,List.setIfInBounds_toArray,List.set_cons_zero,List.set_cons_succ,i64_w,i32_w]
    rfl
   refine pureK 4 39 rfl rfl ?_
   refine done_ laws_FnExactCompareTerms.a23 ?_
   try go_wp2
   go_ret
   exact ⟨laws_FnExactCompareTerms.a22,hV HB⟩
 ·rw [if_neg c25] at H
  have H2:(t182 == t167)=false:=beq_eq_false_iff_ne.mpr c25
  have H3:(t182 != t167)=true:=bne_iff_ne.mpr c25
  obtain rfl:=Option.some.inj H
  go_enter Try.func3,Try.ntmps3
  try go_wp2_with (first | (refine bx 2 rfl #[.int .i64 a0_0,.string a0_1,.int .i64 a0_2,.slice A0_3 l0_3.length c0_3] 24 ?_;intro B1 hg w142 hbox hb;have A0:=Aside0.mk (hbox);have E7:=hZ HB hg;have E8:=hZ HB hg;replace HB:=hS HB hb;clear hb hbox hg) | (refine bx 3 rfl #[.int .i64 a1_0,.string a1_1,.int .i64 a1_2,.slice A1_3 l1_3.length c1_3] 24 ?_;intro B3 hg w143 hbox hb;have A1:=Aside0.mk (hbox);have E9:=hZ HB hg;have F0:=hZ HB hg;replace HB:=hS HB hb;have B4:=nL A0 hg;have B5:=nG A0 hg;replace A0:=bB A0 hb;clear hb hbox hg;have j6:=B4.out;have j7:=B5.out;obtain ⟨O1,O2,O3,O4,O5,O6,O7,O8⟩:=cf4 A0) | (refine goK 11 (some 12) rfl Try.func11 #[.agg #[.int .i64 a0_0,.string a0_1,.int .i64 a0_2,.slice A0_3 l0_3.length c0_3],.int .i64 1048576] ?_;(with_reducible refine (laws_szTerm.calls k a0_0 a0_1 a0_2 _ _ l0_3 1048576 t153 _ ?side1 ?side2 A3.out).mono ?_);(case side1=>exact cB B6 HB);(case side2=>exact B7.out);rintro e w146 ⟨rfl,hb⟩;refine ⟨_,rfl,?_⟩;replace A0:=bB A0 hb;replace A1:=bB A1 hb;replace HB:=hS HB hb;(try clear hb);(try clear hb2);(try clear hk);(try clear hi);obtain ⟨O9,P0,P1,P2,P3,P4,P5,P6⟩:=cf4 A1) | (refine goK 11 (some 17) rfl Try.func11 #[.agg #[.int .i64 a1_0,.string a1_1,.int .i64 a1_2,.slice A1_3 l1_3.length c1_3],.int .i64 t153] ?_;(with_reducible refine (laws_szTerm.calls k a1_0 a1_1 a1_2 _ _ l1_3 t153 t154 _ ?side1 ?side2 A10.out).mono ?_);(case side1=>exact cB B8 HB);(case side2=>exact B9.out);rintro e w148 ⟨rfl,hb⟩;refine ⟨_,rfl,?_⟩;replace A0:=bB A0 hb;replace A1:=bB A1 hb;replace HB:=hS HB hb;(try clear hb);(try clear hb2);(try clear hk);(try clear hi)))
  replace A0:=Aside0.mk (blk_drew A0.out)
  replace A1:=Aside0.mk (blk_drew A1.out)
  replace HB:=Aside0.mk (below_drew1 HB.out)
  refine start_ (n:=6) (S:=fun w'=>w'.cell? ⟨B1,0,none⟩=some (.int .i64 a0_0)∧w'.cell? ⟨B1,1,none⟩=some (.string a0_1)∧w'.cell? ⟨B1,2,none⟩=some (.int .i64 a0_2)∧w'.cell? ⟨B1,3,none⟩=some (.slice A0_3 l0_3.length c0_3)∧w'.cell? ⟨B3,0,none⟩=some (.int .i64 a1_0)∧w'.cell? ⟨B3,1,none⟩=some (.string a1_1)∧w'.cell? ⟨B3,2,none⟩=some (.int .i64 a1_2)∧w'.cell? ⟨B3,3,none⟩=some (.slice A1_3 l1_3.length c1_3)) (ds:=[]) #[false,false,false,false,false,false] laws_FnExactCompareTerms.a23 rfl rfl ⟨cz0 A0,cz1 A0,cz2 A0,cz3 A0,cz0 A1,cz1 A1,cz2 A1,cz3 A1⟩ (fun hHeld=> ?_)
  generalize w148.drew=w149 at A0 A1 HB hHeld ⊢
  refine takeK 0 20 rfl rfl hHeld ?_ laws_FnExactCompareTerms.a1
  refine takeK 2 22 rfl rfl hHeld ?_ laws_FnExactCompareTerms.a1
  refine one_ (i:=1) (N:=some 21) #[true,true,true,false,false,false] rfl rfl laws_FnExactCompareTerms.a23 (by decide) (fun K hK=> ?_)
  refine goes_ Try.func13 laws_FnExactCompareTerms.a23 rfl #[.agg #[.int .i64 a0_0,.string a0_1,.int .i64 a0_2,.slice A0_3 l0_3.length c0_3]] (by rfl) rfl rfl laws_FnExactCompareTerms.a0 ?_
  with_reducible refine (laws_toTerm.calls k a0_0 a0_1 a0_2 _ _ l0_3 t155 t156 t157 t158 _ ?side1 ?side2 A19.out).mono ?_
  (case side1=>exact cB B6 HB)
  (case side2=>exact B7.out)
  rintro e w150 ⟨v159,rfl,ho0,hb⟩
  refine ⟨_,rfl,?_⟩
  have A5:=rL ho0 HB
  replace A0:=bB A0 hb
  replace A1:=bB A1 hb
  replace HB:=hS HB hb
  (try clear hb)
  (try clear hb2)
  (try clear hk)
  (try clear hi)
  (try clear ho0)
  refine hK.out _ _ ⟨cz0 A0,cz1 A0,cz2 A0,cz3 A0,cz0 A1,cz1 A1,cz2 A1,cz3 A1⟩ (fun hHeld=> ?_)
  clear hK K
  refine norm_ (a':=?_) ?_ ?_
  rotate_left
  ·show Act.put _ (some 21) _=_
   simp only [Act.put,List.setIfInBounds_toArray,List.set_cons_zero,List.set_cons_succ,i64_w,i32_w]
   rfl
  refine one_ (i:=3) (N:=some 23) #[true,true,true,true,false,false] rfl rfl laws_FnExactCompareTerms.a23 (by decide) (fun K hK=> ?_)
  refine goes_ Try.func13 laws_FnExactCompareTerms.a23 rfl #[.agg #[.int .i64 a1_0,.string a1_1,.int .i64 a1_2,.slice A1_3 l1_3.length c1_3]] (by rfl) rfl rfl laws_FnExactCompareTerms.a0 ?_
  with_reducible refine (laws_toTerm.calls k a1_0 a1_1 a1_2 _ _ l1_3 t161 t162 t163 t164 _ ?side1 ?side2 A20.out).mono ?_
  (case side1=>exact cB B8 HB)
  (case side2=>exact B9.out)
  rintro e w151 ⟨v165,rfl,ho0,hb⟩
  refine ⟨_,rfl,?_⟩
  have A6:=rL (rN ho0 A5) HB
  replace A5:=rE A5 ho0 hb
  replace A0:=bB A0 hb
  replace A1:=bB A1 hb
  replace HB:=hS HB hb
  (try clear hb)
  (try clear hb2)
  (try clear hk)
  (try clear hi)
  (try clear ho0)
  obtain ⟨F9,G0,eo152⟩:=Kd.R_slice A5.out
  (first | subst eo152 | (injection eo152 with f1_ f2_ f3_;have f4_:=f1_.symm;have f5_:=f3_.symm;clear f1_ f2_ f3_;subst f4_;subst f5_))
  obtain ⟨G1,G2,eo153⟩:=Kd.R_slice A6.out
  (first | subst eo153 | (injection eo153 with f1_ f2_ f3_;have f4_:=f1_.symm;have f5_:=f3_.symm;clear f1_ f2_ f3_;subst f4_;subst f5_))
  refine hK.out _ _ ⟨cz0 A0,cz1 A0,cz2 A0,cz3 A0,cz0 A1,cz1 A1,cz2 A1,cz3 A1⟩ (fun hHeld=> ?_)
  clear hK K
  refine norm_ (a':=?_) ?_ ?_
  rotate_left
  ·show Act.put _ (some 23) _=_
   simp only [Act.put,List.setIfInBounds_toArray,List.set_cons_zero,List.set_cons_succ,i64_w,i32_w]
   rfl
  refine one_ (i:=4) (N:=some 24) #[true,true,true,true,true,false] rfl rfl laws_FnExactCompareTerms.a23 (by decide) (fun K hK=> ?_)
  refine goes_ Try.func12 laws_FnExactCompareTerms.a23 rfl #[.agg #[.int .i64 t155,.string t156,.int .i64 t157,.slice F9 t158.length G0],.agg #[.int .i64 t161,.string t162,.int .i64 t163,.slice G1 t164.length G2]] (by rfl) rfl rfl laws_FnExactCompareTerms.a0 ?_
  with_reducible refine (spec_CompareTerms.calls k t155 t156 t157 _ _ t158 t161 t162 t163 _ _ t164 t167 _ ?side1 ?side2 ?side3 ?side4 A21.out).mono ?_
  (case side1=>repeat (first | exact (Kd.R_reads' A5.out).2.2 | (with_reducible refine Kd.C_alloc ?_ _) | (with_reducible refine Kd.C_drewN ?_ _) | (with_reducible refine Kd.C_drew ?_)))
  (case side2=>exact (Kd.R_reads' A5.out).2.1)
  (case side3=>repeat (first | exact (Kd.R_reads' A6.out).2.2 | (with_reducible refine Kd.C_alloc ?_ _) | (with_reducible refine Kd.C_drewN ?_ _) | (with_reducible refine Kd.C_drew ?_)))
  (case side4=>exact (Kd.R_reads' A6.out).2.1)
  rintro e w154 ⟨rfl,hb⟩
  refine ⟨_,rfl,?_⟩
  replace A5:=rB A5 hb
  replace A6:=rB A6 hb
  replace A0:=bB A0 hb
  replace A1:=bB A1 hb
  replace HB:=hS HB hb
  (try clear hb)
  (try clear hb2)
  (try clear hk)
  (try clear hi)
  refine hK.out _ _ ⟨cz0 A0,cz1 A0,cz2 A0,cz3 A0,cz0 A1,cz1 A1,cz2 A1,cz3 A1⟩ (fun hHeld=> ?_)
  clear hK K
  refine norm_ (a':=?_) ?_ ?_
  rotate_left
  ·show Act.put _ (some 24) _=_
   simp only [Act.put,List.setIfInBounds_toArray,List.set_cons_zero,List.set_cons_succ,i64_w,i32_w]
   rfl
  refine pureK 5 6 rfl rfl ?_
  refine done_ laws_FnExactCompareTerms.a23 ?_
  obtain ⟨P7,P8,P9,Q0,Q1,Q2,Q3,Q4⟩:=cf4 A0
  try go_wp2_with (first | (refine goK 13 (some 26) rfl Try.func13 #[.agg #[.int .i64 a0_0,.string a0_1,.int .i64 a0_2,.slice A0_3 l0_3.length c0_3]] ?_;(with_reducible refine (laws_toTerm.calls k a0_0 a0_1 a0_2 _ _ l0_3 t168 t169 t170 t171 _ ?side1 ?side2 A22.out).mono ?_);(case side1=>exact cB B6 HB);(case side2=>exact B7.out);rintro e w156 ⟨v172,rfl,ho0,hb⟩;refine ⟨_,rfl,?_⟩;have A8:=rL (rN (rN ho0 A5) A6) HB;replace A5:=rE A5 ho0 hb;replace A6:=rE A6 ho0 hb;replace A0:=bB A0 hb;replace A1:=bB A1 hb;replace HB:=hS HB hb;(try clear hb);(try clear hb2);(try clear hk);(try clear hi);(try clear ho0)) | (refine bx 7 rfl #[.int .i64 0,.string (⟨#[]⟩:ByteArray),.int .i64 0,.slice none 0 0] 29 ?_;intro A7 hg w157 hbox hb;replace A5:=Aside0.mk (Kd.R_below (Kd.R_elderB (rV A5) A7 (Nat.le_of_eq hg.symm)) hb);replace A6:=Aside0.mk (Kd.R_below (Kd.R_elderB (rV A6) A7 (Nat.le_of_eq hg.symm)) hb);replace A8:=Aside0.mk (Kd.R_below (Kd.R_elderB (rV A8) A7 (Nat.le_of_eq hg.symm)) hb);have A2:=Aside0.mk (hbox);have F1:=hZ HB hg;have F2:=hZ HB hg;replace HB:=hS HB hb;have C0:=nL A0 hg;have C1:=nG A0 hg;replace A0:=bB A0 hb;have C2:=nL A1 hg;have C3:=nG A1 hg;replace A1:=bB A1 hb;clear hb hbox hg;have j8:=C1.out;have j9:=C0.out;have k0:=C3.out;have k1:=C2.out;obtain ⟨Q5,Q6,Q7,Q8,Q9,R0,R1,R2⟩:=cf4 A2;obtain ⟨E5,E3,eo161⟩:=Kd.R_slice A8.out;subst eo161;obtain ⟨R3,R4,R5,R6,R7,R8,R9,S0⟩:=cf4 A1) | (refine goK 13 (some 28) rfl Try.func13 #[.agg #[.int .i64 a1_0,.string a1_1,.int .i64 a1_2,.slice A1_3 l1_3.length c1_3]] ?_;(with_reducible refine (laws_toTerm.calls k a1_0 a1_1 a1_2 _ _ l1_3 t175 t176 t177 t178 _ ?side1 ?side2 A23.out).mono ?_);(case side1=>exact cV B8 HB);(case side2=>exact B9.out);rintro e w163 ⟨v179,rfl,ho0,hb⟩;refine ⟨_,rfl,?_⟩;have B0:=Aside0.mk (Kd.R_lower (Kd.R_newB (Kd.R_new' (Kd.R_new' (Kd.R_new' ho0 (Kd.R_lt laws_FnExactCompareTerms.a7)) (Kd.R_lt laws_FnExactCompareTerms.a8)) (Kd.R_lt laws_FnExactCompareTerms.a9)) (g:=A7) (o:=.cells #[.int .i64 t168,.string t169,.int .i64 t170,.slice E5 t171.length E3] 29 (0,0)) (vP A2)) (below_size (hV HB)));replace A5:=Aside0.mk (Kd.R_elder' laws_FnExactCompareTerms.a7 (Kd.R_base ho0) hb);replace A6:=Aside0.mk (Kd.R_elder' laws_FnExactCompareTerms.a8 (Kd.R_base ho0) hb);replace A8:=Aside0.mk (Kd.R_elder' laws_FnExactCompareTerms.a9 (Kd.R_base ho0) hb);replace A0:=bB A0 hb;replace A1:=bB A1 hb;replace A2:=bP (o:=.cells #[.int .i64 t168,.string t169,.int .i64 t170,.slice E5 t171.length E3] 29 (0,0)) A2 hb;replace HB:=hS HB hb;(try clear hb);(try clear hb2);(try clear hk);(try clear hi);(try clear ho0)) | (refine bx 8 rfl #[.int .i64 0,.string (⟨#[]⟩:ByteArray),.int .i64 0,.slice none 0 0] 29 ?_;intro A4 hg w164 hbox hb;replace A5:=Aside0.mk (Kd.R_below (Kd.R_elderB (rV A5) A4 (Nat.le_of_eq hg.symm)) hb);replace A6:=Aside0.mk (Kd.R_below (Kd.R_elderB (rV A6) A4 (Nat.le_of_eq hg.symm)) hb);replace A8:=Aside0.mk (Kd.R_below (Kd.R_elderB (rV A8) A4 (Nat.le_of_eq hg.symm)) hb);replace B0:=Aside0.mk (Kd.R_below (Kd.R_elderB (rV B0) A4 (Nat.le_of_eq hg.symm)) hb);have A9:=Aside0.mk (hbox);have F3:=hZ HB hg;have F4:=hZ HB hg;replace HB:=hS HB hb;have C4:=nL A0 hg;have C5:=nG A0 hg;replace A0:=bB A0 hb;have C6:=nL A1 hg;have C7:=nG A1 hg;replace A1:=bB A1 hb;have C8:=nL A2 hg;have C9:=nG A2 hg;replace A2:=bB A2 hb;clear hb hbox hg;have k2:=C5.out;have k3:=C4.out;have k4:=C7.out;have k5:=C6.out;have k6:=C9.out;have k7:=C8.out;obtain ⟨S1,S2,S3,S4,S5,S6,S7,S8⟩:=cf4 A9;obtain ⟨E6,E4,eo169⟩:=Kd.R_slice B0.out;subst eo169;obtain ⟨S9,T0,T1,T2,T3,T4,T5,T6⟩:=cf4 A2) | (refine goK 14 (some 31) rfl Try.func14 #[.agg #[.int .i64 t168,.string t169,.int .i64 t170,.slice E5 t171.length E3],.agg #[.int .i64 t175,.string t176,.int .i64 t177,.slice E6 t178.length E4]] ?_;(with_reducible refine (impl_CompareTerms.calls k t168 t169 t170 _ _ t171 t175 t176 t177 _ _ t178 t182 _ ?side1 ?side2 ?side3 ?side4 A24.out).mono ?_);(case side1=>refine (Kd.R_reads' (e:=29) (base:=w.heap.size) (ok:=fun k_=>(((((True∧some k_≠(.slice F9 t158.length G0:Value).ownBlock)∧some k_≠(.slice G1 t164.length G2:Value).ownBlock)∧k_≠A7)∧some k_≠(.slice E6 t178.length E4:Value).ownBlock)∧k_≠A4)) (n:=t171.length) (c:=E3) ?_).2.2;exact laws_FnExactCompareTerms.a10);(case side2=>exact (Kd.R_reads' A8.out).2.1);(case side3=>refine (Kd.R_reads' (e:=29) (base:=w.heap.size) (ok:=fun k_=>(((((True∧some k_≠(.slice F9 t158.length G0:Value).ownBlock)∧some k_≠(.slice G1 t164.length G2:Value).ownBlock)∧some k_≠(.slice E5 t171.length E3:Value).ownBlock)∧k_≠A7)∧k_≠A4)) (n:=t178.length) (c:=E4) ?_).2.2;exact laws_FnExactCompareTerms.a11);(case side4=>exact (Kd.R_reads' B0.out).2.1);rintro e w171 ⟨rfl,hb⟩;refine ⟨_,rfl,?_⟩;replace A5:=Aside0.mk (Kd.R_below (by (with_reducible repeat (first | apply Kd.R_alloc | apply Kd.R_drewN | apply Kd.R_drew));exact (Kd.R_mono (Kd.R_far (p:=⟨A4,3,none⟩) (Kd.R_far (p:=⟨A4,2,none⟩) (Kd.R_far (p:=⟨A4,1,none⟩) (Kd.R_far (p:=⟨A4,0,none⟩) (Kd.R_mono A5.out (fun k_ hk=>(⟨hk,hk.2⟩:_∧k_≠A4))) (fun _ hk=>hk.2) (.int .i64 t175)) (fun _ hk=>hk.2) (.string t176)) (fun _ hk=>hk.2) (.int .i64 t177)) (fun _ hk=>hk.2) (.slice E6 t178.length E4)) (fun _ h_=>h_.1))) hb);replace A6:=Aside0.mk (Kd.R_below (by (with_reducible repeat (first | apply Kd.R_alloc | apply Kd.R_drewN | apply Kd.R_drew));exact (Kd.R_mono (Kd.R_far (p:=⟨A4,3,none⟩) (Kd.R_far (p:=⟨A4,2,none⟩) (Kd.R_far (p:=⟨A4,1,none⟩) (Kd.R_far (p:=⟨A4,0,none⟩) (Kd.R_mono A6.out (fun k_ hk=>(⟨hk,hk.2⟩:_∧k_≠A4))) (fun _ hk=>hk.2) (.int .i64 t175)) (fun _ hk=>hk.2) (.string t176)) (fun _ hk=>hk.2) (.int .i64 t177)) (fun _ hk=>hk.2) (.slice E6 t178.length E4)) (fun _ h_=>h_.1))) hb);replace A8:=Aside0.mk (Kd.R_below laws_FnExactCompareTerms.a10 hb);replace B0:=Aside0.mk (Kd.R_below laws_FnExactCompareTerms.a11 hb);replace A0:=bB A0 hb;replace A1:=bB A1 hb;replace A2:=bB A2 hb;replace A9:=bP (o:=.cells #[.int .i64 t175,.string t176,.int .i64 t177,.slice E6 t178.length E4] 29 (0,0)) A9 hb;replace HB:=hS HB hb;(try clear hb);(try clear hb2);(try clear hk);(try clear hi)))
  go_ret
  exact ⟨laws_FnExactCompareTerms.a22,hV HB⟩

end Go.Proofs.Ytcofpnddfmlafaa.Q

