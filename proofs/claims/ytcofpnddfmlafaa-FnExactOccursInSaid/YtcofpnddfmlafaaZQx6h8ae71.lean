/- Functions of the program as plain Lean functions,and that the calls come to what they say. -/
import Derived.Test.YtcofpnddfmlafaaZQx0ha0a76
import Derived.Test.YtcofpnddfmlafaaZQx1h0e98e
import Derived.Test.YtcofpnddfmlafaaZQx2h35a82
import Derived.Test.YtcofpnddfmlafaaZQx3hdb5d2
import Derived.Test.YtcofpnddfmlafaaZQx5h31217
import Derived.Test.YtcofpnddfmlafaaZShorthad1fd
namespace Go.Proofs.Ytcofpnddfmlafaa.Q
open Go.RowKit Go.Proofs.YtcofpnddfmlafaaW.PrintWords Go.Proofs.YtcofpnddfmlafaaW.PrintLast Go.Proofs.YtcofpnddfmlafaaW.PrintMore
attribute [local go_sem] max2_int min2_int max_two min_two max_three min_three max_four min_four   -- for this text's walks alone
set_option linter.unusedVariables false
set_option linter.unusedSimpArgs false

/-! ### laws_FnExactOccursIn: function 4 -/
theorem laws_FnExactOccursIn.a0 {P_:Prop} (h_:P_:=by (try simp only [List.map_toArray,List.map_cons,List.map_nil]);first | done | rfl | (simp only [List.length_drop,List.length_take];rfl)):P_:=h_
theorem laws_FnExactOccursIn.a1 {P_:Prop} (h_:P_:=by rintro w' ⟨s0,s1,s2,s3,s4,s5,s6,s7⟩;go_simp;with_reducible rfl):P_:=h_
theorem laws_FnExactOccursIn.a2 {P_:Prop} (h_:P_:=by (with_reducible repeat (first | apply Kd.R_alloc | apply Kd.R_drewN | apply Kd.R_drew));exact (Kd.R_mono (Kd.R_far (p:=⟨A7,3,none⟩) (Kd.R_far (p:=⟨A7,2,none⟩) (Kd.R_far (p:=⟨A7,1,none⟩) (Kd.R_far (p:=⟨A7,0,none⟩) (Kd.R_mono A5.out (fun k_ hk=>(⟨hk,hk.2⟩:_∧k_≠A7))) (fun _ hk=>hk.2) (.int .i64 t231)) (fun _ hk=>hk.2) (.string t232)) (fun _ hk=>hk.2) (.int .i64 t233)) (fun _ hk=>hk.2) (.slice D2 t234.length D0)) (fun _ h_=>h_.1))):P_:=h_
theorem laws_FnExactOccursIn.a3 {P_:Prop} (h_:P_:=by (with_reducible repeat (first | apply Kd.R_alloc | apply Kd.R_drewN | apply Kd.R_drew));exact (Kd.R_mono (Kd.R_far (p:=⟨A7,3,none⟩) (Kd.R_far (p:=⟨A7,2,none⟩) (Kd.R_far (p:=⟨A7,1,none⟩) (Kd.R_far (p:=⟨A7,0,none⟩) (Kd.R_mono A6.out (fun k_ hk=>(⟨hk,hk.2⟩:_∧k_≠A7))) (fun _ hk=>hk.2) (.int .i64 t231)) (fun _ hk=>hk.2) (.string t232)) (fun _ hk=>hk.2) (.int .i64 t233)) (fun _ hk=>hk.2) (.slice D2 t234.length D0)) (fun _ h_=>h_.1))):P_:=h_
theorem laws_FnExactOccursIn.a4 {P_:Prop} (h_:P_:=by (with_reducible repeat (first | apply Kd.R_alloc | apply Kd.R_drewN | apply Kd.R_drew));exact (Kd.R_mono (Kd.R_far (p:=⟨A7,3,none⟩) (Kd.R_far (p:=⟨A7,2,none⟩) (Kd.R_far (p:=⟨A7,1,none⟩) (Kd.R_far (p:=⟨A7,0,none⟩) (Kd.R_mono A8.out (fun k_ hk=>(⟨hk,hk.2⟩:_∧k_≠A7))) (fun _ hk=>hk.2) (.int .i64 t231)) (fun _ hk=>hk.2) (.string t232)) (fun _ hk=>hk.2) (.int .i64 t233)) (fun _ hk=>hk.2) (.slice D2 t234.length D0)) (fun _ h_=>h_.1))):P_:=h_
theorem laws_FnExactOccursIn.a5 {P_:Prop} (h_:P_:=by (with_reducible repeat (first | apply Kd.R_alloc | apply Kd.R_drewN | apply Kd.R_drew));exact (Kd.R_mono (Kd.R_far (p:=⟨A4,3,none⟩) (Kd.R_far (p:=⟨A4,2,none⟩) (Kd.R_far (p:=⟨A4,1,none⟩) (Kd.R_far (p:=⟨A4,0,none⟩) (Kd.R_mono A8.out (fun k_ hk=>(⟨hk,hk.2⟩:_∧k_≠A4))) (fun _ hk=>hk.2) (.int .i64 t238)) (fun _ hk=>hk.2) (.string t239)) (fun _ hk=>hk.2) (.int .i64 t240)) (fun _ hk=>hk.2) (.slice D3 t241.length D1)) (fun _ h_=>h_.1))):P_:=h_
theorem laws_FnExactOccursIn.a6 {P_:Prop} (h_:P_:=by (with_reducible repeat (first | apply Kd.R_alloc | apply Kd.R_drewN | apply Kd.R_drew));exact (Kd.R_mono (Kd.R_far (p:=⟨A4,3,none⟩) (Kd.R_far (p:=⟨A4,2,none⟩) (Kd.R_far (p:=⟨A4,1,none⟩) (Kd.R_far (p:=⟨A4,0,none⟩) (Kd.R_mono B0.out (fun k_ hk=>(⟨hk,hk.2⟩:_∧k_≠A4))) (fun _ hk=>hk.2) (.int .i64 t238)) (fun _ hk=>hk.2) (.string t239)) (fun _ hk=>hk.2) (.int .i64 t240)) (fun _ hk=>hk.2) (.slice D3 t241.length D1)) (fun _ h_=>h_.1))):P_:=h_
theorem laws_FnExactOccursIn.a7 {P_:Prop} (h_:P_:=by (with_reducible repeat (first | apply Kd.R_alloc | apply Kd.R_drewN | apply Kd.R_drew));exact (Kd.R_mono (Kd.R_far (p:=⟨A7,3,none⟩) (Kd.R_far (p:=⟨A7,2,none⟩) (Kd.R_far (p:=⟨A7,1,none⟩) (Kd.R_far (p:=⟨A7,0,none⟩) (Kd.R_mono A5.out (fun k_ hk=>(⟨hk,hk.2⟩:_∧k_≠A7))) (fun _ hk=>hk.2) (.int .i64 t231)) (fun _ hk=>hk.2) (.string t232)) (fun _ hk=>hk.2) (.int .i64 t233)) (fun _ hk=>hk.2) (.slice D6 t234.length D4)) (fun _ h_=>h_.1))):P_:=h_
theorem laws_FnExactOccursIn.a8 {P_:Prop} (h_:P_:=by (with_reducible repeat (first | apply Kd.R_alloc | apply Kd.R_drewN | apply Kd.R_drew));exact (Kd.R_mono (Kd.R_far (p:=⟨A7,3,none⟩) (Kd.R_far (p:=⟨A7,2,none⟩) (Kd.R_far (p:=⟨A7,1,none⟩) (Kd.R_far (p:=⟨A7,0,none⟩) (Kd.R_mono A6.out (fun k_ hk=>(⟨hk,hk.2⟩:_∧k_≠A7))) (fun _ hk=>hk.2) (.int .i64 t231)) (fun _ hk=>hk.2) (.string t232)) (fun _ hk=>hk.2) (.int .i64 t233)) (fun _ hk=>hk.2) (.slice D6 t234.length D4)) (fun _ h_=>h_.1))):P_:=h_
theorem laws_FnExactOccursIn.a9 {P_:Prop} (h_:P_:=by (with_reducible repeat (first | apply Kd.R_alloc | apply Kd.R_drewN | apply Kd.R_drew));exact (Kd.R_mono (Kd.R_far (p:=⟨A7,3,none⟩) (Kd.R_far (p:=⟨A7,2,none⟩) (Kd.R_far (p:=⟨A7,1,none⟩) (Kd.R_far (p:=⟨A7,0,none⟩) (Kd.R_mono A8.out (fun k_ hk=>(⟨hk,hk.2⟩:_∧k_≠A7))) (fun _ hk=>hk.2) (.int .i64 t231)) (fun _ hk=>hk.2) (.string t232)) (fun _ hk=>hk.2) (.int .i64 t233)) (fun _ hk=>hk.2) (.slice D6 t234.length D4)) (fun _ h_=>h_.1))):P_:=h_
theorem laws_FnExactOccursIn.a10 {P_:Prop} (h_:P_:=by (with_reducible repeat (first | apply Kd.R_alloc | apply Kd.R_drewN | apply Kd.R_drew));exact (Kd.R_mono (Kd.R_far (p:=⟨A4,3,none⟩) (Kd.R_far (p:=⟨A4,2,none⟩) (Kd.R_far (p:=⟨A4,1,none⟩) (Kd.R_far (p:=⟨A4,0,none⟩) (Kd.R_mono A8.out (fun k_ hk=>(⟨hk,hk.2⟩:_∧k_≠A4))) (fun _ hk=>hk.2) (.int .i64 t238)) (fun _ hk=>hk.2) (.string t239)) (fun _ hk=>hk.2) (.int .i64 t240)) (fun _ hk=>hk.2) (.slice E2 t241.length D9)) (fun _ h_=>h_.1))):P_:=h_
theorem laws_FnExactOccursIn.a11 {P_:Prop} (h_:P_:=by (with_reducible repeat (first | apply Kd.R_alloc | apply Kd.R_drewN | apply Kd.R_drew));exact (Kd.R_mono (Kd.R_far (p:=⟨A4,3,none⟩) (Kd.R_far (p:=⟨A4,2,none⟩) (Kd.R_far (p:=⟨A4,1,none⟩) (Kd.R_far (p:=⟨A4,0,none⟩) (Kd.R_mono B0.out (fun k_ hk=>(⟨hk,hk.2⟩:_∧k_≠A4))) (fun _ hk=>hk.2) (.int .i64 t238)) (fun _ hk=>hk.2) (.string t239)) (fun _ hk=>hk.2) (.int .i64 t240)) (fun _ hk=>hk.2) (.slice E2 t241.length D9)) (fun _ h_=>h_.1))):P_:=h_
theorem laws_FnExactOccursIn.a12 {P_:Prop} (h_:P_:=by (with_reducible repeat (first | apply Kd.R_alloc | apply Kd.R_drewN | apply Kd.R_drew));exact (Kd.R_mono (Kd.R_far (p:=⟨A7,3,none⟩) (Kd.R_far (p:=⟨A7,2,none⟩) (Kd.R_far (p:=⟨A7,1,none⟩) (Kd.R_far (p:=⟨A7,0,none⟩) (Kd.R_mono A5.out (fun k_ hk=>(⟨hk,hk.2⟩:_∧k_≠A7))) (fun _ hk=>hk.2) (.int .i64 t231)) (fun _ hk=>hk.2) (.string t232)) (fun _ hk=>hk.2) (.int .i64 t233)) (fun _ hk=>hk.2) (.slice E5 t234.length E3)) (fun _ h_=>h_.1))):P_:=h_
theorem laws_FnExactOccursIn.a13 {P_:Prop} (h_:P_:=by (with_reducible repeat (first | apply Kd.R_alloc | apply Kd.R_drewN | apply Kd.R_drew));exact (Kd.R_mono (Kd.R_far (p:=⟨A7,3,none⟩) (Kd.R_far (p:=⟨A7,2,none⟩) (Kd.R_far (p:=⟨A7,1,none⟩) (Kd.R_far (p:=⟨A7,0,none⟩) (Kd.R_mono A6.out (fun k_ hk=>(⟨hk,hk.2⟩:_∧k_≠A7))) (fun _ hk=>hk.2) (.int .i64 t231)) (fun _ hk=>hk.2) (.string t232)) (fun _ hk=>hk.2) (.int .i64 t233)) (fun _ hk=>hk.2) (.slice E5 t234.length E3)) (fun _ h_=>h_.1))):P_:=h_
theorem laws_FnExactOccursIn.a14 {P_:Prop} (h_:P_:=by (with_reducible repeat (first | apply Kd.R_alloc | apply Kd.R_drewN | apply Kd.R_drew));exact (Kd.R_mono (Kd.R_far (p:=⟨A7,3,none⟩) (Kd.R_far (p:=⟨A7,2,none⟩) (Kd.R_far (p:=⟨A7,1,none⟩) (Kd.R_far (p:=⟨A7,0,none⟩) (Kd.R_mono A8.out (fun k_ hk=>(⟨hk,hk.2⟩:_∧k_≠A7))) (fun _ hk=>hk.2) (.int .i64 t231)) (fun _ hk=>hk.2) (.string t232)) (fun _ hk=>hk.2) (.int .i64 t233)) (fun _ hk=>hk.2) (.slice E5 t234.length E3)) (fun _ h_=>h_.1))):P_:=h_
theorem laws_FnExactOccursIn.a15 {P_:Prop} (h_:P_:=by (with_reducible repeat (first | apply Kd.R_alloc | apply Kd.R_drewN | apply Kd.R_drew));exact (Kd.R_mono (Kd.R_far (p:=⟨A4,3,none⟩) (Kd.R_far (p:=⟨A4,2,none⟩) (Kd.R_far (p:=⟨A4,1,none⟩) (Kd.R_far (p:=⟨A4,0,none⟩) (Kd.R_mono A8.out (fun k_ hk=>(⟨hk,hk.2⟩:_∧k_≠A4))) (fun _ hk=>hk.2) (.int .i64 t238)) (fun _ hk=>hk.2) (.string t239)) (fun _ hk=>hk.2) (.int .i64 t240)) (fun _ hk=>hk.2) (.slice E6 t241.length E4)) (fun _ h_=>h_.1))):P_:=h_
theorem laws_FnExactOccursIn.a16 {P_:Prop} (h_:P_:=by (with_reducible repeat (first | apply Kd.R_alloc | apply Kd.R_drewN | apply Kd.R_drew));exact (Kd.R_mono (Kd.R_far (p:=⟨A4,3,none⟩) (Kd.R_far (p:=⟨A4,2,none⟩) (Kd.R_far (p:=⟨A4,1,none⟩) (Kd.R_far (p:=⟨A4,0,none⟩) (Kd.R_mono B0.out (fun k_ hk=>(⟨hk,hk.2⟩:_∧k_≠A4))) (fun _ hk=>hk.2) (.int .i64 t238)) (fun _ hk=>hk.2) (.string t239)) (fun _ hk=>hk.2) (.int .i64 t240)) (fun _ hk=>hk.2) (.slice E6 t241.length E4)) (fun _ h_=>h_.1))):P_:=h_
theorem laws_FnExactOccursIn.a17 {P_:Prop} (h_:P_:=by (with_reducible repeat (first | apply Kd.R_alloc | apply Kd.R_drewN | apply Kd.R_drew));exact (Kd.R_mono (Kd.R_far (p:=⟨A7,3,none⟩) (Kd.R_far (p:=⟨A7,2,none⟩) (Kd.R_far (p:=⟨A7,1,none⟩) (Kd.R_far (p:=⟨A7,0,none⟩) (Kd.R_mono A5.out (fun k_ hk=>(⟨hk,hk.2⟩:_∧k_≠A7))) (fun _ hk=>hk.2) (.int .i64 t231)) (fun _ hk=>hk.2) (.string t232)) (fun _ hk=>hk.2) (.int .i64 t233)) (fun _ hk=>hk.2) (.slice E0 t234.length D7)) (fun _ h_=>h_.1))):P_:=h_
theorem laws_FnExactOccursIn.a18 {P_:Prop} (h_:P_:=by (with_reducible repeat (first | apply Kd.R_alloc | apply Kd.R_drewN | apply Kd.R_drew));exact (Kd.R_mono (Kd.R_far (p:=⟨A7,3,none⟩) (Kd.R_far (p:=⟨A7,2,none⟩) (Kd.R_far (p:=⟨A7,1,none⟩) (Kd.R_far (p:=⟨A7,0,none⟩) (Kd.R_mono A6.out (fun k_ hk=>(⟨hk,hk.2⟩:_∧k_≠A7))) (fun _ hk=>hk.2) (.int .i64 t231)) (fun _ hk=>hk.2) (.string t232)) (fun _ hk=>hk.2) (.int .i64 t233)) (fun _ hk=>hk.2) (.slice E0 t234.length D7)) (fun _ h_=>h_.1))):P_:=h_
theorem laws_FnExactOccursIn.a19 {P_:Prop} (h_:P_:=by (with_reducible repeat (first | apply Kd.R_alloc | apply Kd.R_drewN | apply Kd.R_drew));exact (Kd.R_mono (Kd.R_far (p:=⟨A7,3,none⟩) (Kd.R_far (p:=⟨A7,2,none⟩) (Kd.R_far (p:=⟨A7,1,none⟩) (Kd.R_far (p:=⟨A7,0,none⟩) (Kd.R_mono A8.out (fun k_ hk=>(⟨hk,hk.2⟩:_∧k_≠A7))) (fun _ hk=>hk.2) (.int .i64 t231)) (fun _ hk=>hk.2) (.string t232)) (fun _ hk=>hk.2) (.int .i64 t233)) (fun _ hk=>hk.2) (.slice E0 t234.length D7)) (fun _ h_=>h_.1))):P_:=h_
theorem laws_FnExactOccursIn.a20 {P_:Prop} (h_:P_:=by (with_reducible repeat (first | apply Kd.R_alloc | apply Kd.R_drewN | apply Kd.R_drew));exact (Kd.R_mono (Kd.R_far (p:=⟨A4,3,none⟩) (Kd.R_far (p:=⟨A4,2,none⟩) (Kd.R_far (p:=⟨A4,1,none⟩) (Kd.R_far (p:=⟨A4,0,none⟩) (Kd.R_mono A8.out (fun k_ hk=>(⟨hk,hk.2⟩:_∧k_≠A4))) (fun _ hk=>hk.2) (.int .i64 t238)) (fun _ hk=>hk.2) (.string t239)) (fun _ hk=>hk.2) (.int .i64 t240)) (fun _ hk=>hk.2) (.slice E1 t241.length D8)) (fun _ h_=>h_.1))):P_:=h_
theorem laws_FnExactOccursIn.a21 {P_:Prop} (h_:P_:=by (with_reducible repeat (first | apply Kd.R_alloc | apply Kd.R_drewN | apply Kd.R_drew));exact (Kd.R_mono (Kd.R_far (p:=⟨A4,3,none⟩) (Kd.R_far (p:=⟨A4,2,none⟩) (Kd.R_far (p:=⟨A4,1,none⟩) (Kd.R_far (p:=⟨A4,0,none⟩) (Kd.R_mono B0.out (fun k_ hk=>(⟨hk,hk.2⟩:_∧k_≠A4))) (fun _ hk=>hk.2) (.int .i64 t238)) (fun _ hk=>hk.2) (.string t239)) (fun _ hk=>hk.2) (.int .i64 t240)) (fun _ hk=>hk.2) (.slice E1 t241.length D8)) (fun _ h_=>h_.1))):P_:=h_
theorem laws_FnExactOccursIn.a22 {P_:Prop} (h_:P_:=by first | rfl | (simp [errW_none,errW_some] <;> rfl) | (simp [*,errW_none,errW_some] <;> rfl)):P_:=h_
theorem laws_FnExactOccursIn.a23 {P_:Prop} (h_:P_:=by kernel_rfl):P_:=h_
def laws_FnExactOccursIn.f (k:Nat) (a0_0:Int) (a0_1:ByteArray) (a0_2:Int) (l0_3:List (S24)) (a1_0:Int) (a1_1:ByteArray) (a1_2:Int) (l1_3:List (S24)):Option (Bool):=(laws_szTerm.f k a0_0 a0_1 a0_2 l0_3 1048576).bind fun t216=>(if t216 < 0 then (some true) else ((laws_szTerm.f k a1_0 a1_1 a1_2 l1_3 t216).bind fun t217=>(if t217 < 0 then (some true) else ((laws_toTerm.f k a0_0 a0_1 a0_2 l0_3).bind fun bt218=>((laws_toTerm.f k a1_0 a1_1 a1_2 l1_3).bind fun bt224=>((spec_OccursIn.f k bt218.1 bt218.2.1 bt218.2.2.1 bt218.2.2.2 bt224.1 bt224.2.1 bt224.2.2.1 bt224.2.2.2).bind fun t230=>((laws_toTerm.f k a0_0 a0_1 a0_2 l0_3).bind fun bt231=>((laws_toTerm.f k a1_0 a1_1 a1_2 l1_3).bind fun bt238=>((impl_OccursIn.f k bt231.1 bt231.2.1 bt231.2.2.1 bt231.2.2.2 bt238.1 bt238.2.1 bt238.2.2.1 bt238.2.2.2).bind fun t245=>(if (t245 != t230)=true then (some false) else ((laws_toTerm.f k a0_0 a0_1 a0_2 l0_3).bind fun bt246=>((laws_eqTerm.f k bt231.1 bt231.2.1 bt231.2.2.1 bt231.2.2.2 bt246.1 bt246.2.1 bt246.2.2.1 bt246.2.2.2).bind fun t252=>(if t252=true then ((laws_toTerm.f k a1_0 a1_1 a1_2 l1_3).bind fun bt253=>((laws_eqTerm.f k bt238.1 bt238.2.1 bt238.2.2.1 bt238.2.2.2 bt253.1 bt253.2.1 bt253.2.2.1 bt253.2.2.2).bind fun t259=>(if t259=true then (some true) else (some false)))) else (some false))))))))))))))
set_option maxHeartbeats 8000000 in
set_option maxRecDepth 100000 in
theorem laws_FnExactOccursIn.calls (k:Nat) (a0_0:Int) (a0_1:ByteArray) (a0_2:Int) (A0_3:Option Addr) (c0_3:Nat) (l0_3:List (S24)) (a1_0:Int) (a1_1:ByteArray) (a1_2:Int) (A1_3:Option Addr) (c1_3:Nat) (l1_3:List (S24)) (r:Bool) (w:World) (hr0_3:Kd.C k24 w A0_3 l0_3.length l0_3) (hc0_3:l0_3.length≤c0_3) (hr1_3:Kd.C k24 w A1_3 l1_3.length l1_3) (hc1_3:l1_3.length≤c1_3) (h:laws_FnExactOccursIn.f k a0_0 a0_1 a0_2 l0_3 a1_0 a1_1 a1_2 l1_3=some r) :
  Calls Try.prog 4 #[.agg #[.int .i64 a0_0,.string a0_1,.int .i64 a0_2,.slice A0_3 l0_3.length c0_3],.agg #[.int .i64 a1_0,.string a1_1,.int .i64 a1_2,.slice A1_3 l1_3.length c1_3]] w fun e w'=>e=.returned (.bool r)∧Below w.heap.size w w':=by
 have hu24:=Try.underlying24
 have hu29:=Try.underlying29
 have B6:=Aside0.mk hr0_3
 have B7:=Aside0.mk hc0_3
 clear hr0_3 hc0_3
 have B8:=Aside0.mk hr1_3
 have B9:=Aside0.mk hc1_3
 clear hr1_3 hc1_3
 have HB:=Aside0.mk (Below.refl w.heap.size w)
 have H:((laws_szTerm.f k a0_0 a0_1 a0_2 l0_3 1048576).bind fun t216=>(if t216 < 0 then (some true) else ((laws_szTerm.f k a1_0 a1_1 a1_2 l1_3 t216).bind fun t217=>(if t217 < 0 then (some true) else ((laws_toTerm.f k a0_0 a0_1 a0_2 l0_3).bind fun bt218=>((laws_toTerm.f k a1_0 a1_1 a1_2 l1_3).bind fun bt224=>((spec_OccursIn.f k bt218.1 bt218.2.1 bt218.2.2.1 bt218.2.2.2 bt224.1 bt224.2.1 bt224.2.2.1 bt224.2.2.2).bind fun t230=>((laws_toTerm.f k a0_0 a0_1 a0_2 l0_3).bind fun bt231=>((laws_toTerm.f k a1_0 a1_1 a1_2 l1_3).bind fun bt238=>((impl_OccursIn.f k bt231.1 bt231.2.1 bt231.2.2.1 bt231.2.2.2 bt238.1 bt238.2.1 bt238.2.2.1 bt238.2.2.2).bind fun t245=>(if (t245 != t230)=true then (some false) else ((laws_toTerm.f k a0_0 a0_1 a0_2 l0_3).bind fun bt246=>((laws_eqTerm.f k bt231.1 bt231.2.1 bt231.2.2.1 bt231.2.2.2 bt246.1 bt246.2.1 bt246.2.2.1 bt246.2.2.2).bind fun t252=>(if t252=true then ((laws_toTerm.f k a1_0 a1_1 a1_2 l1_3).bind fun bt253=>((laws_eqTerm.f k bt238.1 bt238.2.1 bt238.2.2.1 bt238.2.2.2 bt253.1 bt253.2.1 bt253.2.2.1 bt253.2.2.2).bind fun t259=>(if t259=true then (some true) else (some false)))) else (some false)))))))))))))))=some r:=h
 clear h
 replace H:=Option.bind_eq_some_iff.mp H
 obtain ⟨t216,A30,H⟩:=H
 replace H:(if t216 < 0 then (some true) else ((laws_szTerm.f k a1_0 a1_1 a1_2 l1_3 t216).bind fun t217=>(if t217 < 0 then (some true) else ((laws_toTerm.f k a0_0 a0_1 a0_2 l0_3).bind fun bt218=>((laws_toTerm.f k a1_0 a1_1 a1_2 l1_3).bind fun bt224=>((spec_OccursIn.f k bt218.1 bt218.2.1 bt218.2.2.1 bt218.2.2.2 bt224.1 bt224.2.1 bt224.2.2.1 bt224.2.2.2).bind fun t230=>((laws_toTerm.f k a0_0 a0_1 a0_2 l0_3).bind fun bt231=>((laws_toTerm.f k a1_0 a1_1 a1_2 l1_3).bind fun bt238=>((impl_OccursIn.f k bt231.1 bt231.2.1 bt231.2.2.1 bt231.2.2.2 bt238.1 bt238.2.1 bt238.2.2.1 bt238.2.2.2).bind fun t245=>(if (t245 != t230)=true then (some false) else ((laws_toTerm.f k a0_0 a0_1 a0_2 l0_3).bind fun bt246=>((laws_eqTerm.f k bt231.1 bt231.2.1 bt231.2.2.1 bt231.2.2.2 bt246.1 bt246.2.1 bt246.2.2.1 bt246.2.2.2).bind fun t252=>(if t252=true then ((laws_toTerm.f k a1_0 a1_1 a1_2 l1_3).bind fun bt253=>((laws_eqTerm.f k bt238.1 bt238.2.1 bt238.2.2.1 bt238.2.2.2 bt253.1 bt253.2.1 bt253.2.2.1 bt253.2.2.2).bind fun t259=>(if t259=true then (some true) else (some false)))) else (some false))))))))))))))=some r:=H
 have A3:=Aside0.mk A30
 clear A30
 by_cases c4:t216 < 0
 ·rw [if_pos c4] at H
  have I1:=decide_eq_true c4
  clear c4
  obtain rfl:=Option.some.inj H
  go_enter Try.func4,Try.ntmps4
  go_wp2_with (first | (refine bx 2 rfl #[.int .i64 a0_0,.string a0_1,.int .i64 a0_2,.slice A0_3 l0_3.length c0_3] 24 ?_;intro B1 hg w5 hbox hb;have A0:=Aside0.mk (hbox);have E7:=hZ HB hg;have E8:=hZ HB hg;replace HB:=hS HB hb;clear hb hbox hg) | (refine bx 3 rfl #[.int .i64 a1_0,.string a1_1,.int .i64 a1_2,.slice A1_3 l1_3.length c1_3] 24 ?_;intro B3 hg w6 hbox hb;have A1:=Aside0.mk (hbox);have E9:=hZ HB hg;have F0:=hZ HB hg;replace HB:=hS HB hb;have B4:=nL A0 hg;have B5:=nG A0 hg;replace A0:=bB A0 hb;clear hb hbox hg;have n6:=B4.out;have n7:=B5.out;obtain ⟨h7,h8,h9,i0,i1,i2,i3,i4⟩:=cf4 A0) | (refine goK 11 (some 12) rfl Try.func11 #[.agg #[.int .i64 a0_0,.string a0_1,.int .i64 a0_2,.slice A0_3 l0_3.length c0_3],.int .i64 1048576] ?_;(with_reducible refine (laws_szTerm.calls k a0_0 a0_1 a0_2 _ _ l0_3 1048576 t216 _ ?side1 ?side2 A3.out).mono ?_);(case side1=>exact cB B6 HB);(case side2=>exact B7.out);rintro e w9 ⟨rfl,hb⟩;refine ⟨_,rfl,?_⟩;replace A0:=bB A0 hb;replace A1:=bB A1 hb;replace HB:=hS HB hb;(try clear hb);(try clear hb2);(try clear hk);(try clear hi)))
  go_ret
  exact ⟨laws_FnExactOccursIn.a22,hV HB⟩
 rw [if_neg c4] at H
 have I1:=decide_eq_false c4
 clear c4
 replace H:=Option.bind_eq_some_iff.mp H
 obtain ⟨t217,A100,H⟩:=H
 replace H:(if t217 < 0 then (some true) else ((laws_toTerm.f k a0_0 a0_1 a0_2 l0_3).bind fun bt218=>((laws_toTerm.f k a1_0 a1_1 a1_2 l1_3).bind fun bt224=>((spec_OccursIn.f k bt218.1 bt218.2.1 bt218.2.2.1 bt218.2.2.2 bt224.1 bt224.2.1 bt224.2.2.1 bt224.2.2.2).bind fun t230=>((laws_toTerm.f k a0_0 a0_1 a0_2 l0_3).bind fun bt231=>((laws_toTerm.f k a1_0 a1_1 a1_2 l1_3).bind fun bt238=>((impl_OccursIn.f k bt231.1 bt231.2.1 bt231.2.2.1 bt231.2.2.2 bt238.1 bt238.2.1 bt238.2.2.1 bt238.2.2.2).bind fun t245=>(if (t245 != t230)=true then (some false) else ((laws_toTerm.f k a0_0 a0_1 a0_2 l0_3).bind fun bt246=>((laws_eqTerm.f k bt231.1 bt231.2.1 bt231.2.2.1 bt231.2.2.2 bt246.1 bt246.2.1 bt246.2.2.1 bt246.2.2.2).bind fun t252=>(if t252=true then ((laws_toTerm.f k a1_0 a1_1 a1_2 l1_3).bind fun bt253=>((laws_eqTerm.f k bt238.1 bt238.2.1 bt238.2.2.1 bt238.2.2.2 bt253.1 bt253.2.1 bt253.2.2.1 bt253.2.2.2).bind fun t259=>(if t259=true then (some true) else (some false)))) else (some false))))))))))))=some r:=H
 have A10:=Aside0.mk A100
 clear A100
 by_cases c11:t217 < 0
 ·rw [if_pos c11] at H
  have H1:=decide_eq_true c11
  clear c11
  obtain rfl:=Option.some.inj H
  go_enter Try.func4,Try.ntmps4
  go_wp2_with (first | (refine bx 2 rfl #[.int .i64 a0_0,.string a0_1,.int .i64 a0_2,.slice A0_3 l0_3.length c0_3] 24 ?_;intro B1 hg w12 hbox hb;have A0:=Aside0.mk (hbox);have E7:=hZ HB hg;have E8:=hZ HB hg;replace HB:=hS HB hb;clear hb hbox hg) | (refine bx 3 rfl #[.int .i64 a1_0,.string a1_1,.int .i64 a1_2,.slice A1_3 l1_3.length c1_3] 24 ?_;intro B3 hg w13 hbox hb;have A1:=Aside0.mk (hbox);have E9:=hZ HB hg;have F0:=hZ HB hg;replace HB:=hS HB hb;have B4:=nL A0 hg;have B5:=nG A0 hg;replace A0:=bB A0 hb;clear hb hbox hg;have k9:=B4.out;have l0:=B5.out;obtain ⟨T8,T9,U0,U1,U2,U3,U4,U5⟩:=cf4 A0) | (refine goK 11 (some 12) rfl Try.func11 #[.agg #[.int .i64 a0_0,.string a0_1,.int .i64 a0_2,.slice A0_3 l0_3.length c0_3],.int .i64 1048576] ?_;(with_reducible refine (laws_szTerm.calls k a0_0 a0_1 a0_2 _ _ l0_3 1048576 t216 _ ?side1 ?side2 A3.out).mono ?_);(case side1=>exact cB B6 HB);(case side2=>exact B7.out);rintro e w16 ⟨rfl,hb⟩;refine ⟨_,rfl,?_⟩;replace A0:=bB A0 hb;replace A1:=bB A1 hb;replace HB:=hS HB hb;(try clear hb);(try clear hb2);(try clear hk);(try clear hi);obtain ⟨U6,U7,U8,U9,V0,V1,V2,V3⟩:=cf4 A1) | (refine goK 11 (some 17) rfl Try.func11 #[.agg #[.int .i64 a1_0,.string a1_1,.int .i64 a1_2,.slice A1_3 l1_3.length c1_3],.int .i64 t216] ?_;(with_reducible refine (laws_szTerm.calls k a1_0 a1_1 a1_2 _ _ l1_3 t216 t217 _ ?side1 ?side2 A10.out).mono ?_);(case side1=>exact cB B8 HB);(case side2=>exact B9.out);rintro e w18 ⟨rfl,hb⟩;refine ⟨_,rfl,?_⟩;replace A0:=bB A0 hb;replace A1:=bB A1 hb;replace HB:=hS HB hb;(try clear hb);(try clear hb2);(try clear hk);(try clear hi)))
  go_ret
  exact ⟨laws_FnExactOccursIn.a22,hV HB⟩
 rw [if_neg c11] at H
 have H1:=decide_eq_false c11
 clear c11
 replace H:=Option.bind_eq_some_iff.mp H
 obtain ⟨⟨t218,t219,t220,t221⟩,A190,H⟩:=H
 replace H:((laws_toTerm.f k a1_0 a1_1 a1_2 l1_3).bind fun bt224=>((spec_OccursIn.f k t218 t219 t220 t221 bt224.1 bt224.2.1 bt224.2.2.1 bt224.2.2.2).bind fun t230=>((laws_toTerm.f k a0_0 a0_1 a0_2 l0_3).bind fun bt231=>((laws_toTerm.f k a1_0 a1_1 a1_2 l1_3).bind fun bt238=>((impl_OccursIn.f k bt231.1 bt231.2.1 bt231.2.2.1 bt231.2.2.2 bt238.1 bt238.2.1 bt238.2.2.1 bt238.2.2.2).bind fun t245=>(if (t245 != t230)=true then (some false) else ((laws_toTerm.f k a0_0 a0_1 a0_2 l0_3).bind fun bt246=>((laws_eqTerm.f k bt231.1 bt231.2.1 bt231.2.2.1 bt231.2.2.2 bt246.1 bt246.2.1 bt246.2.2.1 bt246.2.2.2).bind fun t252=>(if t252=true then ((laws_toTerm.f k a1_0 a1_1 a1_2 l1_3).bind fun bt253=>((laws_eqTerm.f k bt238.1 bt238.2.1 bt238.2.2.1 bt238.2.2.2 bt253.1 bt253.2.1 bt253.2.2.1 bt253.2.2.2).bind fun t259=>(if t259=true then (some true) else (some false)))) else (some false))))))))))=some r:=H
 have A19:=Aside0.mk A190
 clear A190
 replace H:=Option.bind_eq_some_iff.mp H
 obtain ⟨⟨t224,t225,t226,t227⟩,A200,H⟩:=H
 replace H:((spec_OccursIn.f k t218 t219 t220 t221 t224 t225 t226 t227).bind fun t230=>((laws_toTerm.f k a0_0 a0_1 a0_2 l0_3).bind fun bt231=>((laws_toTerm.f k a1_0 a1_1 a1_2 l1_3).bind fun bt238=>((impl_OccursIn.f k bt231.1 bt231.2.1 bt231.2.2.1 bt231.2.2.2 bt238.1 bt238.2.1 bt238.2.2.1 bt238.2.2.2).bind fun t245=>(if (t245 != t230)=true then (some false) else ((laws_toTerm.f k a0_0 a0_1 a0_2 l0_3).bind fun bt246=>((laws_eqTerm.f k bt231.1 bt231.2.1 bt231.2.2.1 bt231.2.2.2 bt246.1 bt246.2.1 bt246.2.2.1 bt246.2.2.2).bind fun t252=>(if t252=true then ((laws_toTerm.f k a1_0 a1_1 a1_2 l1_3).bind fun bt253=>((laws_eqTerm.f k bt238.1 bt238.2.1 bt238.2.2.1 bt238.2.2.2 bt253.1 bt253.2.1 bt253.2.2.1 bt253.2.2.2).bind fun t259=>(if t259=true then (some true) else (some false)))) else (some false)))))))))=some r:=H
 have A20:=Aside0.mk A200
 clear A200
 replace H:=Option.bind_eq_some_iff.mp H
 obtain ⟨t230,A210,H⟩:=H
 replace H:((laws_toTerm.f k a0_0 a0_1 a0_2 l0_3).bind fun bt231=>((laws_toTerm.f k a1_0 a1_1 a1_2 l1_3).bind fun bt238=>((impl_OccursIn.f k bt231.1 bt231.2.1 bt231.2.2.1 bt231.2.2.2 bt238.1 bt238.2.1 bt238.2.2.1 bt238.2.2.2).bind fun t245=>(if (t245 != t230)=true then (some false) else ((laws_toTerm.f k a0_0 a0_1 a0_2 l0_3).bind fun bt246=>((laws_eqTerm.f k bt231.1 bt231.2.1 bt231.2.2.1 bt231.2.2.2 bt246.1 bt246.2.1 bt246.2.2.1 bt246.2.2.2).bind fun t252=>(if t252=true then ((laws_toTerm.f k a1_0 a1_1 a1_2 l1_3).bind fun bt253=>((laws_eqTerm.f k bt238.1 bt238.2.1 bt238.2.2.1 bt238.2.2.2 bt253.1 bt253.2.1 bt253.2.2.1 bt253.2.2.2).bind fun t259=>(if t259=true then (some true) else (some false)))) else (some false))))))))=some r:=H
 have A21:=Aside0.mk A210
 clear A210
 replace H:=Option.bind_eq_some_iff.mp H
 obtain ⟨⟨t231,t232,t233,t234⟩,A220,H⟩:=H
 replace H:((laws_toTerm.f k a1_0 a1_1 a1_2 l1_3).bind fun bt238=>((impl_OccursIn.f k t231 t232 t233 t234 bt238.1 bt238.2.1 bt238.2.2.1 bt238.2.2.2).bind fun t245=>(if (t245 != t230)=true then (some false) else ((laws_toTerm.f k a0_0 a0_1 a0_2 l0_3).bind fun bt246=>((laws_eqTerm.f k t231 t232 t233 t234 bt246.1 bt246.2.1 bt246.2.2.1 bt246.2.2.2).bind fun t252=>(if t252=true then ((laws_toTerm.f k a1_0 a1_1 a1_2 l1_3).bind fun bt253=>((laws_eqTerm.f k bt238.1 bt238.2.1 bt238.2.2.1 bt238.2.2.2 bt253.1 bt253.2.1 bt253.2.2.1 bt253.2.2.2).bind fun t259=>(if t259=true then (some true) else (some false)))) else (some false)))))))=some r:=H
 have A22:=Aside0.mk A220
 clear A220
 replace H:=Option.bind_eq_some_iff.mp H
 obtain ⟨⟨t238,t239,t240,t241⟩,A230,H⟩:=H
 replace H:((impl_OccursIn.f k t231 t232 t233 t234 t238 t239 t240 t241).bind fun t245=>(if (t245 != t230)=true then (some false) else ((laws_toTerm.f k a0_0 a0_1 a0_2 l0_3).bind fun bt246=>((laws_eqTerm.f k t231 t232 t233 t234 bt246.1 bt246.2.1 bt246.2.2.1 bt246.2.2.2).bind fun t252=>(if t252=true then ((laws_toTerm.f k a1_0 a1_1 a1_2 l1_3).bind fun bt253=>((laws_eqTerm.f k t238 t239 t240 t241 bt253.1 bt253.2.1 bt253.2.2.1 bt253.2.2.2).bind fun t259=>(if t259=true then (some true) else (some false)))) else (some false))))))=some r:=H
 have A23:=Aside0.mk A230
 clear A230
 replace H:=Option.bind_eq_some_iff.mp H
 obtain ⟨t245,A240,H⟩:=H
 replace H:(if (t245 != t230)=true then (some false) else ((laws_toTerm.f k a0_0 a0_1 a0_2 l0_3).bind fun bt246=>((laws_eqTerm.f k t231 t232 t233 t234 bt246.1 bt246.2.1 bt246.2.2.1 bt246.2.2.2).bind fun t252=>(if t252=true then ((laws_toTerm.f k a1_0 a1_1 a1_2 l1_3).bind fun bt253=>((laws_eqTerm.f k t238 t239 t240 t241 bt253.1 bt253.2.1 bt253.2.2.1 bt253.2.2.2).bind fun t259=>(if t259=true then (some true) else (some false)))) else (some false)))))=some r:=H
 have A24:=Aside0.mk A240
 clear A240
 by_cases c25:(t245 != t230)=true
 ·rw [if_pos c25] at H
  have H2:(t245 != t230)=true:=c25
  (try (have H3:decide (t245=t230)=false:=by simpa using c25))
  (try (have H4:(t245 == t230)=false:=by simpa using c25))
  (try (have l1 : ¬ (t245=t230):=by simpa using c25))
  clear c25
  obtain rfl:=Option.some.inj H
  go_enter Try.func4,Try.ntmps4
  try go_wp2_with (first | (refine bx 2 rfl #[.int .i64 a0_0,.string a0_1,.int .i64 a0_2,.slice A0_3 l0_3.length c0_3] 24 ?_;intro B1 hg w26 hbox hb;have A0:=Aside0.mk (hbox);have E7:=hZ HB hg;have E8:=hZ HB hg;replace HB:=hS HB hb;clear hb hbox hg) | (refine bx 3 rfl #[.int .i64 a1_0,.string a1_1,.int .i64 a1_2,.slice A1_3 l1_3.length c1_3] 24 ?_;intro B3 hg w27 hbox hb;have A1:=Aside0.mk (hbox);have E9:=hZ HB hg;have F0:=hZ HB hg;replace HB:=hS HB hb;have B4:=nL A0 hg;have B5:=nG A0 hg;replace A0:=bB A0 hb;clear hb hbox hg;have l2:=B4.out;have l3:=B5.out;obtain ⟨V4,V5,V6,V7,V8,V9,W0,W1⟩:=cf4 A0) | (refine goK 11 (some 12) rfl Try.func11 #[.agg #[.int .i64 a0_0,.string a0_1,.int .i64 a0_2,.slice A0_3 l0_3.length c0_3],.int .i64 1048576] ?_;(with_reducible refine (laws_szTerm.calls k a0_0 a0_1 a0_2 _ _ l0_3 1048576 t216 _ ?side1 ?side2 A3.out).mono ?_);(case side1=>exact cB B6 HB);(case side2=>exact B7.out);rintro e w30 ⟨rfl,hb⟩;refine ⟨_,rfl,?_⟩;replace A0:=bB A0 hb;replace A1:=bB A1 hb;replace HB:=hS HB hb;(try clear hb);(try clear hb2);(try clear hk);(try clear hi);obtain ⟨W2,W3,W4,W5,W6,W7,W8,W9⟩:=cf4 A1) | (refine goK 11 (some 17) rfl Try.func11 #[.agg #[.int .i64 a1_0,.string a1_1,.int .i64 a1_2,.slice A1_3 l1_3.length c1_3],.int .i64 t216] ?_;(with_reducible refine (laws_szTerm.calls k a1_0 a1_1 a1_2 _ _ l1_3 t216 t217 _ ?side1 ?side2 A10.out).mono ?_);(case side1=>exact cB B8 HB);(case side2=>exact B9.out);rintro e w32 ⟨rfl,hb⟩;refine ⟨_,rfl,?_⟩;replace A0:=bB A0 hb;replace A1:=bB A1 hb;replace HB:=hS HB hb;(try clear hb);(try clear hb2);(try clear hk);(try clear hi)))
  replace A0:=Aside0.mk (blk_drew A0.out)
  replace A1:=Aside0.mk (blk_drew A1.out)
  replace HB:=Aside0.mk (below_drew1 HB.out)
  refine start_ (n:=6) (S:=fun w'=>w'.cell? ⟨B1,0,none⟩=some (.int .i64 a0_0)∧w'.cell? ⟨B1,1,none⟩=some (.string a0_1)∧w'.cell? ⟨B1,2,none⟩=some (.int .i64 a0_2)∧w'.cell? ⟨B1,3,none⟩=some (.slice A0_3 l0_3.length c0_3)∧w'.cell? ⟨B3,0,none⟩=some (.int .i64 a1_0)∧w'.cell? ⟨B3,1,none⟩=some (.string a1_1)∧w'.cell? ⟨B3,2,none⟩=some (.int .i64 a1_2)∧w'.cell? ⟨B3,3,none⟩=some (.slice A1_3 l1_3.length c1_3)) (ds:=[]) #[false,false,false,false,false,false] laws_FnExactOccursIn.a23 rfl rfl ⟨cz0 A0,cz1 A0,cz2 A0,cz3 A0,cz0 A1,cz1 A1,cz2 A1,cz3 A1⟩ (fun hHeld=> ?_)
  generalize w32.drew=w33 at A0 A1 HB hHeld ⊢
  refine takeK 0 20 rfl rfl hHeld ?_ laws_FnExactOccursIn.a1
  refine takeK 2 22 rfl rfl hHeld ?_ laws_FnExactOccursIn.a1
  refine one_ (i:=1) (N:=some 21) #[true,true,true,false,false,false] rfl rfl laws_FnExactOccursIn.a23 (by decide) (fun K hK=> ?_)
  refine goes_ Try.func13 laws_FnExactOccursIn.a23 rfl #[.agg #[.int .i64 a0_0,.string a0_1,.int .i64 a0_2,.slice A0_3 l0_3.length c0_3]] (by rfl) rfl rfl laws_FnExactOccursIn.a0 ?_
  with_reducible refine (laws_toTerm.calls k a0_0 a0_1 a0_2 _ _ l0_3 t218 t219 t220 t221 _ ?side1 ?side2 A19.out).mono ?_
  (case side1=>exact cB B6 HB)
  (case side2=>exact B7.out)
  rintro e w34 ⟨v222,rfl,ho0,hb⟩
  refine ⟨_,rfl,?_⟩
  have A5:=rL ho0 HB
  replace A0:=bB A0 hb
  replace A1:=bB A1 hb
  replace HB:=hS HB hb
  (try clear hb)
  (try clear hb2)
  (try clear hk)
  (try clear hi)
  (try clear ho0)
  refine hK.out _ _ ⟨cz0 A0,cz1 A0,cz2 A0,cz3 A0,cz0 A1,cz1 A1,cz2 A1,cz3 A1⟩ (fun hHeld=> ?_)
  clear hK K
  refine norm_ (a':=?_) ?_ ?_
  rotate_left
  ·show Act.put _ (some 21) _=_
   simp only [Act.put,List.setIfInBounds_toArray,List.set_cons_zero,List.set_cons_succ,i64_w,i32_w]
   rfl
  refine one_ (i:=3) (N:=some 23) #[true,true,true,true,false,false] rfl rfl laws_FnExactOccursIn.a23 (by decide) (fun K hK=> ?_)
  refine goes_ Try.func13 laws_FnExactOccursIn.a23 rfl #[.agg #[.int .i64 a1_0,.string a1_1,.int .i64 a1_2,.slice A1_3 l1_3.length c1_3]] (by rfl) rfl rfl laws_FnExactOccursIn.a0 ?_
  with_reducible refine (laws_toTerm.calls k a1_0 a1_1 a1_2 _ _ l1_3 t224 t225 t226 t227 _ ?side1 ?side2 A20.out).mono ?_
  (case side1=>exact cB B8 HB)
  (case side2=>exact B9.out)
  rintro e w35 ⟨v228,rfl,ho0,hb⟩
  refine ⟨_,rfl,?_⟩
  have A6:=rL (rN ho0 A5) HB
  replace A5:=rE A5 ho0 hb
  replace A0:=bB A0 hb
  replace A1:=bB A1 hb
  replace HB:=hS HB hb
  (try clear hb)
  (try clear hb2)
  (try clear hk)
  (try clear hi)
  (try clear ho0)
  obtain ⟨G3,G4,eo36⟩:=Kd.R_slice A5.out
  (first | subst eo36 | (injection eo36 with f1_ f2_ f3_;have f4_:=f1_.symm;have f5_:=f3_.symm;clear f1_ f2_ f3_;subst f4_;subst f5_))
  obtain ⟨G5,G6,eo37⟩:=Kd.R_slice A6.out
  (first | subst eo37 | (injection eo37 with f1_ f2_ f3_;have f4_:=f1_.symm;have f5_:=f3_.symm;clear f1_ f2_ f3_;subst f4_;subst f5_))
  refine hK.out _ _ ⟨cz0 A0,cz1 A0,cz2 A0,cz3 A0,cz0 A1,cz1 A1,cz2 A1,cz3 A1⟩ (fun hHeld=> ?_)
  clear hK K
  refine norm_ (a':=?_) ?_ ?_
  rotate_left
  ·show Act.put _ (some 23) _=_
   simp only [Act.put,List.setIfInBounds_toArray,List.set_cons_zero,List.set_cons_succ,i64_w,i32_w]
   rfl
  refine one_ (i:=4) (N:=some 24) #[true,true,true,true,true,false] rfl rfl laws_FnExactOccursIn.a23 (by decide) (fun K hK=> ?_)
  refine goes_ Try.func16 laws_FnExactOccursIn.a23 rfl #[.agg #[.int .i64 t218,.string t219,.int .i64 t220,.slice G3 t221.length G4],.agg #[.int .i64 t224,.string t225,.int .i64 t226,.slice G5 t227.length G6]] (by rfl) rfl rfl laws_FnExactOccursIn.a0 ?_
  with_reducible refine (spec_OccursIn.calls k t218 t219 t220 _ _ t221 t224 t225 t226 _ _ t227 t230 _ ?side1 ?side2 ?side3 ?side4 A21.out).mono ?_
  (case side1=>repeat (first | exact (Kd.R_reads' A5.out).2.2 | (with_reducible refine Kd.C_alloc ?_ _) | (with_reducible refine Kd.C_drewN ?_ _) | (with_reducible refine Kd.C_drew ?_)))
  (case side2=>exact (Kd.R_reads' A5.out).2.1)
  (case side3=>repeat (first | exact (Kd.R_reads' A6.out).2.2 | (with_reducible refine Kd.C_alloc ?_ _) | (with_reducible refine Kd.C_drewN ?_ _) | (with_reducible refine Kd.C_drew ?_)))
  (case side4=>exact (Kd.R_reads' A6.out).2.1)
  rintro e w38 ⟨rfl,hb⟩
  refine ⟨_,rfl,?_⟩
  replace A5:=rB A5 hb
  replace A6:=rB A6 hb
  replace A0:=bB A0 hb
  replace A1:=bB A1 hb
  replace HB:=hS HB hb
  (try clear hb)
  (try clear hb2)
  (try clear hk)
  (try clear hi)
  refine hK.out _ _ ⟨cz0 A0,cz1 A0,cz2 A0,cz3 A0,cz0 A1,cz1 A1,cz2 A1,cz3 A1⟩ (fun hHeld=> ?_)
  clear hK K
  refine norm_ (a':=?_) ?_ ?_
  rotate_left
  ·show Act.put _ (some 24) _=_
   simp only [Act.put,List.setIfInBounds_toArray,List.set_cons_zero,List.set_cons_succ,i64_w,i32_w]
   rfl
  refine pureK 5 6 rfl rfl ?_
  refine done_ laws_FnExactOccursIn.a23 ?_
  obtain ⟨X0,X1,X2,X3,X4,X5,X6,X7⟩:=cf4 A0
  try go_wp2_with (first | (refine goK 13 (some 26) rfl Try.func13 #[.agg #[.int .i64 a0_0,.string a0_1,.int .i64 a0_2,.slice A0_3 l0_3.length c0_3]] ?_;(with_reducible refine (laws_toTerm.calls k a0_0 a0_1 a0_2 _ _ l0_3 t231 t232 t233 t234 _ ?side1 ?side2 A22.out).mono ?_);(case side1=>exact cB B6 HB);(case side2=>exact B7.out);rintro e w40 ⟨v235,rfl,ho0,hb⟩;refine ⟨_,rfl,?_⟩;have A8:=rL (rN (rN ho0 A5) A6) HB;replace A5:=rE A5 ho0 hb;replace A6:=rE A6 ho0 hb;replace A0:=bB A0 hb;replace A1:=bB A1 hb;replace HB:=hS HB hb;(try clear hb);(try clear hb2);(try clear hk);(try clear hi);(try clear ho0)) | (refine bx 7 rfl #[.int .i64 0,.string (⟨#[]⟩:ByteArray),.int .i64 0,.slice none 0 0] 29 ?_;intro A7 hg w41 hbox hb;replace A5:=Aside0.mk (Kd.R_below (Kd.R_elderB (rV A5) A7 (Nat.le_of_eq hg.symm)) hb);replace A6:=Aside0.mk (Kd.R_below (Kd.R_elderB (rV A6) A7 (Nat.le_of_eq hg.symm)) hb);replace A8:=Aside0.mk (Kd.R_below (Kd.R_elderB (rV A8) A7 (Nat.le_of_eq hg.symm)) hb);have A2:=Aside0.mk (hbox);have F1:=hZ HB hg;have F2:=hZ HB hg;replace HB:=hS HB hb;have C0:=nL A0 hg;have C1:=nG A0 hg;replace A0:=bB A0 hb;have C2:=nL A1 hg;have C3:=nG A1 hg;replace A1:=bB A1 hb;clear hb hbox hg;have l4:=C1.out;have l5:=C0.out;have l6:=C3.out;have l7:=C2.out;obtain ⟨X8,X9,Y0,Y1,Y2,Y3,Y4,Y5⟩:=cf4 A2;obtain ⟨E5,E3,eo45⟩:=Kd.R_slice A8.out;subst eo45;obtain ⟨Y6,Y7,Y8,Y9,Z0,Z1,Z2,Z3⟩:=cf4 A1) | (refine goK 13 (some 28) rfl Try.func13 #[.agg #[.int .i64 a1_0,.string a1_1,.int .i64 a1_2,.slice A1_3 l1_3.length c1_3]] ?_;(with_reducible refine (laws_toTerm.calls k a1_0 a1_1 a1_2 _ _ l1_3 t238 t239 t240 t241 _ ?side1 ?side2 A23.out).mono ?_);(case side1=>exact cV B8 HB);(case side2=>exact B9.out);rintro e w47 ⟨v242,rfl,ho0,hb⟩;refine ⟨_,rfl,?_⟩;have B0:=Aside0.mk (Kd.R_lower (Kd.R_newB (Kd.R_new' (Kd.R_new' (Kd.R_new' ho0 (Kd.R_lt laws_FnExactOccursIn.a12)) (Kd.R_lt laws_FnExactOccursIn.a13)) (Kd.R_lt laws_FnExactOccursIn.a14)) (g:=A7) (o:=.cells #[.int .i64 t231,.string t232,.int .i64 t233,.slice E5 t234.length E3] 29 (0,0)) (vP A2)) (below_size (hV HB)));replace A5:=Aside0.mk (Kd.R_elder' laws_FnExactOccursIn.a12 (Kd.R_base ho0) hb);replace A6:=Aside0.mk (Kd.R_elder' laws_FnExactOccursIn.a13 (Kd.R_base ho0) hb);replace A8:=Aside0.mk (Kd.R_elder' laws_FnExactOccursIn.a14 (Kd.R_base ho0) hb);replace A0:=bB A0 hb;replace A1:=bB A1 hb;replace A2:=bP (o:=.cells #[.int .i64 t231,.string t232,.int .i64 t233,.slice E5 t234.length E3] 29 (0,0)) A2 hb;replace HB:=hS HB hb;(try clear hb);(try clear hb2);(try clear hk);(try clear hi);(try clear ho0)) | (refine bx 8 rfl #[.int .i64 0,.string (⟨#[]⟩:ByteArray),.int .i64 0,.slice none 0 0] 29 ?_;intro A4 hg w48 hbox hb;replace A5:=Aside0.mk (Kd.R_below (Kd.R_elderB (rV A5) A4 (Nat.le_of_eq hg.symm)) hb);replace A6:=Aside0.mk (Kd.R_below (Kd.R_elderB (rV A6) A4 (Nat.le_of_eq hg.symm)) hb);replace A8:=Aside0.mk (Kd.R_below (Kd.R_elderB (rV A8) A4 (Nat.le_of_eq hg.symm)) hb);replace B0:=Aside0.mk (Kd.R_below (Kd.R_elderB (rV B0) A4 (Nat.le_of_eq hg.symm)) hb);have A9:=Aside0.mk (hbox);have F3:=hZ HB hg;have F4:=hZ HB hg;replace HB:=hS HB hb;have C4:=nL A0 hg;have C5:=nG A0 hg;replace A0:=bB A0 hb;have C6:=nL A1 hg;have C7:=nG A1 hg;replace A1:=bB A1 hb;have C8:=nL A2 hg;have C9:=nG A2 hg;replace A2:=bB A2 hb;clear hb hbox hg;have l8:=C5.out;have l9:=C4.out;have m0:=C7.out;have m1:=C6.out;have m2:=C9.out;have m3:=C8.out;obtain ⟨Z4,Z5,Z6,Z7,Z8,Z9,b0,b1⟩:=cf4 A9;obtain ⟨E6,E4,eo53⟩:=Kd.R_slice B0.out;subst eo53;obtain ⟨b2,b3,b4,b5,b6,b7,b8,b9⟩:=cf4 A2) | (refine goK 17 (some 31) rfl Try.func17 #[.agg #[.int .i64 t231,.string t232,.int .i64 t233,.slice E5 t234.length E3],.agg #[.int .i64 t238,.string t239,.int .i64 t240,.slice E6 t241.length E4]] ?_;(with_reducible refine (impl_OccursIn.calls k t231 t232 t233 _ _ t234 t238 t239 t240 _ _ t241 t245 _ ?side1 ?side2 ?side3 ?side4 A24.out).mono ?_);(case side1=>refine (Kd.R_reads' (e:=29) (base:=w.heap.size) (ok:=fun k_=>(((((True∧some k_≠(.slice G3 t221.length G4:Value).ownBlock)∧some k_≠(.slice G5 t227.length G6:Value).ownBlock)∧k_≠A7)∧some k_≠(.slice E6 t241.length E4:Value).ownBlock)∧k_≠A4)) (n:=t234.length) (c:=E3) ?_).2.2;exact laws_FnExactOccursIn.a15);(case side2=>exact (Kd.R_reads' A8.out).2.1);(case side3=>refine (Kd.R_reads' (e:=29) (base:=w.heap.size) (ok:=fun k_=>(((((True∧some k_≠(.slice G3 t221.length G4:Value).ownBlock)∧some k_≠(.slice G5 t227.length G6:Value).ownBlock)∧some k_≠(.slice E5 t234.length E3:Value).ownBlock)∧k_≠A7)∧k_≠A4)) (n:=t241.length) (c:=E4) ?_).2.2;exact laws_FnExactOccursIn.a16);(case side4=>exact (Kd.R_reads' B0.out).2.1);rintro e w55 ⟨rfl,hb⟩;refine ⟨_,rfl,?_⟩;replace A5:=Aside0.mk (Kd.R_below (by (with_reducible repeat (first | apply Kd.R_alloc | apply Kd.R_drewN | apply Kd.R_drew));exact (Kd.R_mono (Kd.R_far (p:=⟨A4,3,none⟩) (Kd.R_far (p:=⟨A4,2,none⟩) (Kd.R_far (p:=⟨A4,1,none⟩) (Kd.R_far (p:=⟨A4,0,none⟩) (Kd.R_mono A5.out (fun k_ hk=>(⟨hk,hk.2⟩:_∧k_≠A4))) (fun _ hk=>hk.2) (.int .i64 t238)) (fun _ hk=>hk.2) (.string t239)) (fun _ hk=>hk.2) (.int .i64 t240)) (fun _ hk=>hk.2) (.slice E6 t241.length E4)) (fun _ h_=>h_.1))) hb);replace A6:=Aside0.mk (Kd.R_below (by (with_reducible repeat (first | apply Kd.R_alloc | apply Kd.R_drewN | apply Kd.R_drew));exact (Kd.R_mono (Kd.R_far (p:=⟨A4,3,none⟩) (Kd.R_far (p:=⟨A4,2,none⟩) (Kd.R_far (p:=⟨A4,1,none⟩) (Kd.R_far (p:=⟨A4,0,none⟩) (Kd.R_mono A6.out (fun k_ hk=>(⟨hk,hk.2⟩:_∧k_≠A4))) (fun _ hk=>hk.2) (.int .i64 t238)) (fun _ hk=>hk.2) (.string t239)) (fun _ hk=>hk.2) (.int .i64 t240)) (fun _ hk=>hk.2) (.slice E6 t241.length E4)) (fun _ h_=>h_.1))) hb);replace A8:=Aside0.mk (Kd.R_below laws_FnExactOccursIn.a15 hb);replace B0:=Aside0.mk (Kd.R_below laws_FnExactOccursIn.a16 hb);replace A0:=bB A0 hb;replace A1:=bB A1 hb;replace A2:=bB A2 hb;replace A9:=bP (o:=.cells #[.int .i64 t238,.string t239,.int .i64 t240,.slice E6 t241.length E4] 29 (0,0)) A9 hb;replace HB:=hS HB hb;(try clear hb);(try clear hb2);(try clear hk);(try clear hi)))
  go_ret
  exact ⟨laws_FnExactOccursIn.a22,hV HB⟩
 ·rw [if_neg c25] at H
  have H2:(t245 != t230)=false:=by simpa using c25
  (try (have H3:decide (t245=t230)=true:=by simpa using c25))
  (try (have H4:(t245 == t230)=true:=by simpa using c25))
  clear c25
  replace H:=Option.bind_eq_some_iff.mp H
  obtain ⟨⟨t246,t247,t248,t249⟩,A560,H⟩:=H
  replace H:((laws_eqTerm.f k t231 t232 t233 t234 t246 t247 t248 t249).bind fun t252=>(if t252=true then ((laws_toTerm.f k a1_0 a1_1 a1_2 l1_3).bind fun bt253=>((laws_eqTerm.f k t238 t239 t240 t241 bt253.1 bt253.2.1 bt253.2.2.1 bt253.2.2.2).bind fun t259=>(if t259=true then (some true) else (some false)))) else (some false)))=some r:=H
  have A56:=Aside0.mk A560
  clear A560
  replace H:=Option.bind_eq_some_iff.mp H
  obtain ⟨t252,A570,H⟩:=H
  replace H:(if t252=true then ((laws_toTerm.f k a1_0 a1_1 a1_2 l1_3).bind fun bt253=>((laws_eqTerm.f k t238 t239 t240 t241 bt253.1 bt253.2.1 bt253.2.2.1 bt253.2.2.2).bind fun t259=>(if t259=true then (some true) else (some false)))) else (some false))=some r:=H
  have A57:=Aside0.mk A570
  clear A570
  by_cases c58:t252=true
  ·subst c58
   rw [if_pos rfl] at H
   replace H:=Option.bind_eq_some_iff.mp H
   obtain ⟨⟨t253,t254,t255,t256⟩,A590,H⟩:=H
   replace H:((laws_eqTerm.f k t238 t239 t240 t241 t253 t254 t255 t256).bind fun t259=>(if t259=true then (some true) else (some false)))=some r:=H
   have A59:=Aside0.mk A590
   clear A590
   replace H:=Option.bind_eq_some_iff.mp H
   obtain ⟨t259,A600,H⟩:=H
   replace H:(if t259=true then (some true) else (some false))=some r:=H
   have A60:=Aside0.mk A600
   clear A600
   by_cases c61:t259=true
   ·subst c61
    rw [if_pos rfl] at H
    obtain rfl:=Option.some.inj H
    go_enter Try.func4,Try.ntmps4
    try go_wp2_with (first | (refine bx 2 rfl #[.int .i64 a0_0,.string a0_1,.int .i64 a0_2,.slice A0_3 l0_3.length c0_3] 24 ?_;intro B1 hg w62 hbox hb;have A0:=Aside0.mk (hbox);have E7:=hZ HB hg;have E8:=hZ HB hg;replace HB:=hS HB hb;clear hb hbox hg) | (refine bx 3 rfl #[.int .i64 a1_0,.string a1_1,.int .i64 a1_2,.slice A1_3 l1_3.length c1_3] 24 ?_;intro B3 hg w63 hbox hb;have A1:=Aside0.mk (hbox);have E9:=hZ HB hg;have F0:=hZ HB hg;replace HB:=hS HB hb;have B4:=nL A0 hg;have B5:=nG A0 hg;replace A0:=bB A0 hb;clear hb hbox hg;have m4:=B4.out;have m5:=B5.out;obtain ⟨c0,c1,c2,c3,c5,c6,c7,c8⟩:=cf4 A0) | (refine goK 11 (some 12) rfl Try.func11 #[.agg #[.int .i64 a0_0,.string a0_1,.int .i64 a0_2,.slice A0_3 l0_3.length c0_3],.int .i64 1048576] ?_;(with_reducible refine (laws_szTerm.calls k a0_0 a0_1 a0_2 _ _ l0_3 1048576 t216 _ ?side1 ?side2 A3.out).mono ?_);(case side1=>exact cB B6 HB);(case side2=>exact B7.out);rintro e w66 ⟨rfl,hb⟩;refine ⟨_,rfl,?_⟩;replace A0:=bB A0 hb;replace A1:=bB A1 hb;replace HB:=hS HB hb;(try clear hb);(try clear hb2);(try clear hk);(try clear hi);obtain ⟨c9,d0,d1,d2,d3,d4,d5,d6⟩:=cf4 A1) | (refine goK 11 (some 17) rfl Try.func11 #[.agg #[.int .i64 a1_0,.string a1_1,.int .i64 a1_2,.slice A1_3 l1_3.length c1_3],.int .i64 t216] ?_;(with_reducible refine (laws_szTerm.calls k a1_0 a1_1 a1_2 _ _ l1_3 t216 t217 _ ?side1 ?side2 A10.out).mono ?_);(case side1=>exact cB B8 HB);(case side2=>exact B9.out);rintro e w68 ⟨rfl,hb⟩;refine ⟨_,rfl,?_⟩;replace A0:=bB A0 hb;replace A1:=bB A1 hb;replace HB:=hS HB hb;(try clear hb);(try clear hb2);(try clear hk);(try clear hi)))
    replace A0:=Aside0.mk (blk_drew A0.out)
    replace A1:=Aside0.mk (blk_drew A1.out)
    replace HB:=Aside0.mk (below_drew1 HB.out)
    refine start_ (n:=6) (S:=fun w'=>w'.cell? ⟨B1,0,none⟩=some (.int .i64 a0_0)∧w'.cell? ⟨B1,1,none⟩=some (.string a0_1)∧w'.cell? ⟨B1,2,none⟩=some (.int .i64 a0_2)∧w'.cell? ⟨B1,3,none⟩=some (.slice A0_3 l0_3.length c0_3)∧w'.cell? ⟨B3,0,none⟩=some (.int .i64 a1_0)∧w'.cell? ⟨B3,1,none⟩=some (.string a1_1)∧w'.cell? ⟨B3,2,none⟩=some (.int .i64 a1_2)∧w'.cell? ⟨B3,3,none⟩=some (.slice A1_3 l1_3.length c1_3)) (ds:=[]) #[false,false,false,false,false,false] laws_FnExactOccursIn.a23 rfl rfl ⟨cz0 A0,cz1 A0,cz2 A0,cz3 A0,cz0 A1,cz1 A1,cz2 A1,cz3 A1⟩ (fun hHeld=> ?_)
    generalize w68.drew=w69 at A0 A1 HB hHeld ⊢
    refine takeK 0 20 rfl rfl hHeld ?_ laws_FnExactOccursIn.a1
    refine takeK 2 22 rfl rfl hHeld ?_ laws_FnExactOccursIn.a1
    refine one_ (i:=1) (N:=some 21) #[true,true,true,false,false,false] rfl rfl laws_FnExactOccursIn.a23 (by decide) (fun K hK=> ?_)
    refine goes_ Try.func13 laws_FnExactOccursIn.a23 rfl #[.agg #[.int .i64 a0_0,.string a0_1,.int .i64 a0_2,.slice A0_3 l0_3.length c0_3]] (by rfl) rfl rfl laws_FnExactOccursIn.a0 ?_
    with_reducible refine (laws_toTerm.calls k a0_0 a0_1 a0_2 _ _ l0_3 t218 t219 t220 t221 _ ?side1 ?side2 A19.out).mono ?_
    (case side1=>exact cB B6 HB)
    (case side2=>exact B7.out)
    rintro e w70 ⟨v222,rfl,ho0,hb⟩
    refine ⟨_,rfl,?_⟩
    have A5:=rL ho0 HB
    replace A0:=bB A0 hb
    replace A1:=bB A1 hb
    replace HB:=hS HB hb
    (try clear hb)
    (try clear hb2)
    (try clear hk)
    (try clear hi)
    (try clear ho0)
    refine hK.out _ _ ⟨cz0 A0,cz1 A0,cz2 A0,cz3 A0,cz0 A1,cz1 A1,cz2 A1,cz3 A1⟩ (fun hHeld=> ?_)
    clear hK K
    refine norm_ (a':=?_) ?_ ?_
    rotate_left
    ·show Act.put _ (some 21) _=_
     simp only [Act.put,List.setIfInBounds_toArray,List.set_cons_zero,List.set_cons_succ,i64_w,i32_w]
     rfl
    refine one_ (i:=3) (N:=some 23) #[true,true,true,true,false,false] rfl rfl laws_FnExactOccursIn.a23 (by decide) (fun K hK=> ?_)
    refine goes_ Try.func13 laws_FnExactOccursIn.a23 rfl #[.agg #[.int .i64 a1_0,.string a1_1,.int .i64 a1_2,.slice A1_3 l1_3.length c1_3]] (by rfl) rfl rfl laws_FnExactOccursIn.a0 ?_
    with_reducible refine (laws_toTerm.calls k a1_0 a1_1 a1_2 _ _ l1_3 t224 t225 t226 t227 _ ?side1 ?side2 A20.out).mono ?_
    (case side1=>exact cB B8 HB)
    (case side2=>exact B9.out)
    rintro e w71 ⟨v228,rfl,ho0,hb⟩
    refine ⟨_,rfl,?_⟩
    have A6:=rL (rN ho0 A5) HB
    replace A5:=rE A5 ho0 hb
    replace A0:=bB A0 hb
    replace A1:=bB A1 hb
    replace HB:=hS HB hb
    (try clear hb)
    (try clear hb2)
    (try clear hk)
    (try clear hi)
    (try clear ho0)
    obtain ⟨G7,G8,eo72⟩:=Kd.R_slice A5.out
    (first | subst eo72 | (injection eo72 with f1_ f2_ f3_;have f4_:=f1_.symm;have f5_:=f3_.symm;clear f1_ f2_ f3_;subst f4_;subst f5_))
    obtain ⟨G9,H0,eo73⟩:=Kd.R_slice A6.out
    (first | subst eo73 | (injection eo73 with f1_ f2_ f3_;have f4_:=f1_.symm;have f5_:=f3_.symm;clear f1_ f2_ f3_;subst f4_;subst f5_))
    refine hK.out _ _ ⟨cz0 A0,cz1 A0,cz2 A0,cz3 A0,cz0 A1,cz1 A1,cz2 A1,cz3 A1⟩ (fun hHeld=> ?_)
    clear hK K
    refine norm_ (a':=?_) ?_ ?_
    rotate_left
    ·show Act.put _ (some 23) _=_
     simp only [Act.put,List.setIfInBounds_toArray,List.set_cons_zero,List.set_cons_succ,i64_w,i32_w]
     rfl
    refine one_ (i:=4) (N:=some 24) #[true,true,true,true,true,false] rfl rfl laws_FnExactOccursIn.a23 (by decide) (fun K hK=> ?_)
    refine goes_ Try.func16 laws_FnExactOccursIn.a23 rfl #[.agg #[.int .i64 t218,.string t219,.int .i64 t220,.slice G7 t221.length G8],.agg #[.int .i64 t224,.string t225,.int .i64 t226,.slice G9 t227.length H0]] (by rfl) rfl rfl laws_FnExactOccursIn.a0 ?_
    with_reducible refine (spec_OccursIn.calls k t218 t219 t220 _ _ t221 t224 t225 t226 _ _ t227 t230 _ ?side1 ?side2 ?side3 ?side4 A21.out).mono ?_
    (case side1=>repeat (first | exact (Kd.R_reads' A5.out).2.2 | (with_reducible refine Kd.C_alloc ?_ _) | (with_reducible refine Kd.C_drewN ?_ _) | (with_reducible refine Kd.C_drew ?_)))
    (case side2=>exact (Kd.R_reads' A5.out).2.1)
    (case side3=>repeat (first | exact (Kd.R_reads' A6.out).2.2 | (with_reducible refine Kd.C_alloc ?_ _) | (with_reducible refine Kd.C_drewN ?_ _) | (with_reducible refine Kd.C_drew ?_)))
    (case side4=>exact (Kd.R_reads' A6.out).2.1)
    rintro e w74 ⟨rfl,hb⟩
    refine ⟨_,rfl,?_⟩
    replace A5:=rB A5 hb
    replace A6:=rB A6 hb
    replace A0:=bB A0 hb
    replace A1:=bB A1 hb
    replace HB:=hS HB hb
    (try clear hb)
    (try clear hb2)
    (try clear hk)
    (try clear hi)
    refine hK.out _ _ ⟨cz0 A0,cz1 A0,cz2 A0,cz3 A0,cz0 A1,cz1 A1,cz2 A1,cz3 A1⟩ (fun hHeld=> ?_)
    clear hK K
    refine norm_ (a':=?_) ?_ ?_
    rotate_left
    ·show Act.put _ (some 24) _=_
     simp only [Act.put,List.setIfInBounds_toArray,List.set_cons_zero,List.set_cons_succ,i64_w,i32_w]
     rfl
    refine pureK 5 6 rfl rfl ?_
    refine done_ laws_FnExactOccursIn.a23 ?_
    obtain ⟨d7,d8,d9,e0,e1,e2,e3,e4⟩:=cf4 A0
    try go_wp2_with (first | (refine goK 13 (some 26) rfl Try.func13 #[.agg #[.int .i64 a0_0,.string a0_1,.int .i64 a0_2,.slice A0_3 l0_3.length c0_3]] ?_;(with_reducible refine (laws_toTerm.calls k a0_0 a0_1 a0_2 _ _ l0_3 t231 t232 t233 t234 _ ?side1 ?side2 A22.out).mono ?_);(case side1=>exact cB B6 HB);(case side2=>exact B7.out);rintro e w76 ⟨v235,rfl,ho0,hb⟩;refine ⟨_,rfl,?_⟩;have A8:=rL (rN (rN ho0 A5) A6) HB;replace A5:=rE A5 ho0 hb;replace A6:=rE A6 ho0 hb;replace A0:=bB A0 hb;replace A1:=bB A1 hb;replace HB:=hS HB hb;(try clear hb);(try clear hb2);(try clear hk);(try clear hi);(try clear ho0)) | (refine bx 7 rfl #[.int .i64 0,.string (⟨#[]⟩:ByteArray),.int .i64 0,.slice none 0 0] 29 ?_;intro A7 hg w77 hbox hb;replace A5:=Aside0.mk (Kd.R_below (Kd.R_elderB (rV A5) A7 (Nat.le_of_eq hg.symm)) hb);replace A6:=Aside0.mk (Kd.R_below (Kd.R_elderB (rV A6) A7 (Nat.le_of_eq hg.symm)) hb);replace A8:=Aside0.mk (Kd.R_below (Kd.R_elderB (rV A8) A7 (Nat.le_of_eq hg.symm)) hb);have A2:=Aside0.mk (hbox);have F1:=hZ HB hg;have F2:=hZ HB hg;replace HB:=hS HB hb;have C0:=nL A0 hg;have C1:=nG A0 hg;replace A0:=bB A0 hb;have C2:=nL A1 hg;have C3:=nG A1 hg;replace A1:=bB A1 hb;clear hb hbox hg;have m6:=C1.out;have m7:=C0.out;have m8:=C3.out;have m9:=C2.out;obtain ⟨e5,e6,e7,e8,e9,f0,f1,f2⟩:=cf4 A2;obtain ⟨E0,D7,eo81⟩:=Kd.R_slice A8.out;subst eo81;obtain ⟨f3,f4,f5,f6,f7,f8,f9,g0⟩:=cf4 A1) | (refine goK 13 (some 28) rfl Try.func13 #[.agg #[.int .i64 a1_0,.string a1_1,.int .i64 a1_2,.slice A1_3 l1_3.length c1_3]] ?_;(with_reducible refine (laws_toTerm.calls k a1_0 a1_1 a1_2 _ _ l1_3 t238 t239 t240 t241 _ ?side1 ?side2 A23.out).mono ?_);(case side1=>exact cV B8 HB);(case side2=>exact B9.out);rintro e w83 ⟨v242,rfl,ho0,hb⟩;refine ⟨_,rfl,?_⟩;have B0:=Aside0.mk (Kd.R_lower (Kd.R_newB (Kd.R_new' (Kd.R_new' (Kd.R_new' ho0 (Kd.R_lt laws_FnExactOccursIn.a17)) (Kd.R_lt laws_FnExactOccursIn.a18)) (Kd.R_lt laws_FnExactOccursIn.a19)) (g:=A7) (o:=.cells #[.int .i64 t231,.string t232,.int .i64 t233,.slice E0 t234.length D7] 29 (0,0)) (vP A2)) (below_size (hV HB)));replace A5:=Aside0.mk (Kd.R_elder' laws_FnExactOccursIn.a17 (Kd.R_base ho0) hb);replace A6:=Aside0.mk (Kd.R_elder' laws_FnExactOccursIn.a18 (Kd.R_base ho0) hb);replace A8:=Aside0.mk (Kd.R_elder' laws_FnExactOccursIn.a19 (Kd.R_base ho0) hb);replace A0:=bB A0 hb;replace A1:=bB A1 hb;replace A2:=bP (o:=.cells #[.int .i64 t231,.string t232,.int .i64 t233,.slice E0 t234.length D7] 29 (0,0)) A2 hb;replace HB:=hS HB hb;(try clear hb);(try clear hb2);(try clear hk);(try clear hi);(try clear ho0)) | (refine bx 8 rfl #[.int .i64 0,.string (⟨#[]⟩:ByteArray),.int .i64 0,.slice none 0 0] 29 ?_;intro A4 hg w84 hbox hb;replace A5:=Aside0.mk (Kd.R_below (Kd.R_elderB (rV A5) A4 (Nat.le_of_eq hg.symm)) hb);replace A6:=Aside0.mk (Kd.R_below (Kd.R_elderB (rV A6) A4 (Nat.le_of_eq hg.symm)) hb);replace A8:=Aside0.mk (Kd.R_below (Kd.R_elderB (rV A8) A4 (Nat.le_of_eq hg.symm)) hb);replace B0:=Aside0.mk (Kd.R_below (Kd.R_elderB (rV B0) A4 (Nat.le_of_eq hg.symm)) hb);have A9:=Aside0.mk (hbox);have F3:=hZ HB hg;have F4:=hZ HB hg;replace HB:=hS HB hb;have C4:=nL A0 hg;have C5:=nG A0 hg;replace A0:=bB A0 hb;have C6:=nL A1 hg;have C7:=nG A1 hg;replace A1:=bB A1 hb;have C8:=nL A2 hg;have C9:=nG A2 hg;replace A2:=bB A2 hb;clear hb hbox hg;have n0:=C5.out;have n1:=C4.out;have n2:=C7.out;have n3:=C6.out;have n4:=C9.out;have n5:=C8.out;obtain ⟨g1,g2,g3,g4,g5,g6,g7,g8⟩:=cf4 A9;obtain ⟨E1,D8,eo89⟩:=Kd.R_slice B0.out;subst eo89;obtain ⟨g9,h0,h1,h2,h3,h4,h5,h6⟩:=cf4 A2) | (refine goK 17 (some 31) rfl Try.func17 #[.agg #[.int .i64 t231,.string t232,.int .i64 t233,.slice E0 t234.length D7],.agg #[.int .i64 t238,.string t239,.int .i64 t240,.slice E1 t241.length D8]] ?_;(with_reducible refine (impl_OccursIn.calls k t231 t232 t233 _ _ t234 t238 t239 t240 _ _ t241 t245 _ ?side1 ?side2 ?side3 ?side4 A24.out).mono ?_);(case side1=>refine (Kd.R_reads' (e:=29) (base:=w.heap.size) (ok:=fun k_=>(((((True∧some k_≠(.slice G7 t221.length G8:Value).ownBlock)∧some k_≠(.slice G9 t227.length H0:Value).ownBlock)∧k_≠A7)∧some k_≠(.slice E1 t241.length D8:Value).ownBlock)∧k_≠A4)) (n:=t234.length) (c:=D7) ?_).2.2;exact laws_FnExactOccursIn.a20);(case side2=>exact (Kd.R_reads' A8.out).2.1);(case side3=>refine (Kd.R_reads' (e:=29) (base:=w.heap.size) (ok:=fun k_=>(((((True∧some k_≠(.slice G7 t221.length G8:Value).ownBlock)∧some k_≠(.slice G9 t227.length H0:Value).ownBlock)∧some k_≠(.slice E0 t234.length D7:Value).ownBlock)∧k_≠A7)∧k_≠A4)) (n:=t241.length) (c:=D8) ?_).2.2;exact laws_FnExactOccursIn.a21);(case side4=>exact (Kd.R_reads' B0.out).2.1);rintro e w91 ⟨rfl,hb⟩;refine ⟨_,rfl,?_⟩;replace A5:=Aside0.mk (Kd.R_below (by (with_reducible repeat (first | apply Kd.R_alloc | apply Kd.R_drewN | apply Kd.R_drew));exact (Kd.R_mono (Kd.R_far (p:=⟨A4,3,none⟩) (Kd.R_far (p:=⟨A4,2,none⟩) (Kd.R_far (p:=⟨A4,1,none⟩) (Kd.R_far (p:=⟨A4,0,none⟩) (Kd.R_mono A5.out (fun k_ hk=>(⟨hk,hk.2⟩:_∧k_≠A4))) (fun _ hk=>hk.2) (.int .i64 t238)) (fun _ hk=>hk.2) (.string t239)) (fun _ hk=>hk.2) (.int .i64 t240)) (fun _ hk=>hk.2) (.slice E1 t241.length D8)) (fun _ h_=>h_.1))) hb);replace A6:=Aside0.mk (Kd.R_below (by (with_reducible repeat (first | apply Kd.R_alloc | apply Kd.R_drewN | apply Kd.R_drew));exact (Kd.R_mono (Kd.R_far (p:=⟨A4,3,none⟩) (Kd.R_far (p:=⟨A4,2,none⟩) (Kd.R_far (p:=⟨A4,1,none⟩) (Kd.R_far (p:=⟨A4,0,none⟩) (Kd.R_mono A6.out (fun k_ hk=>(⟨hk,hk.2⟩:_∧k_≠A4))) (fun _ hk=>hk.2) (.int .i64 t238)) (fun _ hk=>hk.2) (.string t239)) (fun _ hk=>hk.2) (.int .i64 t240)) (fun _ hk=>hk.2) (.slice E1 t241.length D8)) (fun _ h_=>h_.1))) hb);replace A8:=Aside0.mk (Kd.R_below laws_FnExactOccursIn.a20 hb);replace B0:=Aside0.mk (Kd.R_below laws_FnExactOccursIn.a21 hb);replace A0:=bB A0 hb;replace A1:=bB A1 hb;replace A2:=bB A2 hb;replace A9:=bP (o:=.cells #[.int .i64 t238,.string t239,.int .i64 t240,.slice E1 t241.length D8] 29 (0,0)) A9 hb;replace HB:=hS HB hb;(try clear hb);(try clear hb2);(try clear hk);(try clear hi)))
    replace A5:=Aside0.mk (Kd.R_drew A5.out)
    replace A6:=Aside0.mk (Kd.R_drew A6.out)
    replace A8:=Aside0.mk (Kd.R_drew A8.out)
    replace B0:=Aside0.mk (Kd.R_drew B0.out)
    replace A0:=Aside0.mk (blk_drew A0.out)
    replace A1:=Aside0.mk (blk_drew A1.out)
    replace A2:=Aside0.mk (blk_drew A2.out)
    replace A9:=Aside0.mk (blk_drew A9.out)
    replace HB:=Aside0.mk (below_drew1 HB.out)
    refine start_ (n:=5) (S:=fun w'=>w'.cell? ⟨A7,0,none⟩=some (.int .i64 t231)∧w'.cell? ⟨A7,1,none⟩=some (.string t232)∧w'.cell? ⟨A7,2,none⟩=some (.int .i64 t233)∧w'.cell? ⟨A7,3,none⟩=some (.slice E0 t234.length D7)∧w'.cell? ⟨B1,0,none⟩=some (.int .i64 a0_0)∧w'.cell? ⟨B1,1,none⟩=some (.string a0_1)∧w'.cell? ⟨B1,2,none⟩=some (.int .i64 a0_2)∧w'.cell? ⟨B1,3,none⟩=some (.slice A0_3 l0_3.length c0_3)) (ds:=[]) #[false,false,false,false,false] laws_FnExactOccursIn.a23 rfl rfl ⟨cz0 A2,cz1 A2,cz2 A2,cz3 A2,cz0 A0,cz1 A0,cz2 A0,cz3 A0⟩ (fun hHeld=> ?_)
    generalize w91.drew=w92 at A5 A6 A8 B0 A0 A1 A2 A9 HB hHeld ⊢
    refine takeK 0 35 rfl rfl hHeld ?_ laws_FnExactOccursIn.a1
    refine takeK 1 36 rfl rfl hHeld ?_ laws_FnExactOccursIn.a1
    refine one_ (i:=2) (N:=some 37) #[true,true,true,false,false] rfl rfl laws_FnExactOccursIn.a23 (by decide) (fun K hK=> ?_)
    refine goes_ Try.func13 laws_FnExactOccursIn.a23 rfl #[.agg #[.int .i64 a0_0,.string a0_1,.int .i64 a0_2,.slice A0_3 l0_3.length c0_3]] (by rfl) rfl rfl laws_FnExactOccursIn.a0 ?_
    with_reducible refine (laws_toTerm.calls k a0_0 a0_1 a0_2 _ _ l0_3 t246 t247 t248 t249 _ ?side1 ?side2 A56.out).mono ?_
    (case side1=>exact cB B6 HB)
    (case side2=>exact B7.out)
    rintro e w93 ⟨v250,rfl,ho0,hb⟩
    refine ⟨_,rfl,?_⟩
    have B2:=Aside0.mk (Kd.R_lower (Kd.R_newB (Kd.R_newB (Kd.R_new' (Kd.R_new' (Kd.R_new' (Kd.R_new' ho0 (Kd.R_lt (rV A5))) (Kd.R_lt (rV A6))) (Kd.R_lt (rV A8))) (Kd.R_lt (rV B0))) (g:=A7) (o:=.cells #[.int .i64 t231,.string t232,.int .i64 t233,.slice E0 t234.length D7] 29 (0,0)) (vB A2)) (g:=A4) (o:=.cells #[.int .i64 t238,.string t239,.int .i64 t240,.slice E1 t241.length D8] 29 (0,0)) (vB A9)) (below_size (hV HB)))
    replace A5:=rE A5 ho0 hb
    replace A6:=rE A6 ho0 hb
    replace A8:=rE A8 ho0 hb
    replace B0:=rE B0 ho0 hb
    replace A0:=bB A0 hb
    replace A1:=bB A1 hb
    replace A2:=bB A2 hb
    replace A9:=bB A9 hb
    replace HB:=hS HB hb
    (try clear hb)
    (try clear hb2)
    (try clear hk)
    (try clear hi)
    (try clear ho0)
    obtain ⟨I2,I3,eo94⟩:=Kd.R_slice B2.out
    (first | subst eo94 | (injection eo94 with f1_ f2_ f3_;have f4_:=f1_.symm;have f5_:=f3_.symm;clear f1_ f2_ f3_;subst f4_;subst f5_))
    refine hK.out _ _ ⟨cz0 A2,cz1 A2,cz2 A2,cz3 A2,cz0 A0,cz1 A0,cz2 A0,cz3 A0⟩ (fun hHeld=> ?_)
    clear hK K
    refine norm_ (a':=?_) ?_ ?_
    rotate_left
    ·show Act.put _ (some 37) _=_
     simp only [Act.put,List.setIfInBounds_toArray,List.set_cons_zero,List.set_cons_succ,i64_w,i32_w]
     rfl
    refine one_ (i:=3) (N:=some 38) #[true,true,true,true,false] rfl rfl laws_FnExactOccursIn.a23 (by decide) (fun K hK=> ?_)
    refine goes_ Try.func15 laws_FnExactOccursIn.a23 rfl #[.agg #[.int .i64 t231,.string t232,.int .i64 t233,.slice E0 t234.length D7],.agg #[.int .i64 t246,.string t247,.int .i64 t248,.slice I2 t249.length I3]] (by rfl) rfl rfl laws_FnExactOccursIn.a0 ?_
    with_reducible refine (laws_eqTerm.calls k t231 t232 t233 _ _ t234 t246 t247 t248 _ _ t249 true _ ?side1 ?side2 ?side3 ?side4 A57.out).mono ?_
    (case side1=>repeat (first | exact (Kd.R_reads' A8.out).2.2 | (with_reducible refine Kd.C_alloc ?_ _) | (with_reducible refine Kd.C_drewN ?_ _) | (with_reducible refine Kd.C_drew ?_)))
    (case side2=>exact (Kd.R_reads' A8.out).2.1)
    (case side3=>repeat (first | exact (Kd.R_reads' B2.out).2.2 | (with_reducible refine Kd.C_alloc ?_ _) | (with_reducible refine Kd.C_drewN ?_ _) | (with_reducible refine Kd.C_drew ?_)))
    (case side4=>exact (Kd.R_reads' B2.out).2.1)
    rintro e w95 ⟨rfl,hb⟩
    refine ⟨_,rfl,?_⟩
    replace A5:=rB A5 hb
    replace A6:=rB A6 hb
    replace A8:=rB A8 hb
    replace B0:=rB B0 hb
    replace B2:=rB B2 hb
    replace A0:=bB A0 hb
    replace A1:=bB A1 hb
    replace A2:=bB A2 hb
    replace A9:=bB A9 hb
    replace HB:=hS HB hb
    (try clear hb)
    (try clear hb2)
    (try clear hk)
    (try clear hi)
    refine hK.out _ _ ⟨cz0 A2,cz1 A2,cz2 A2,cz3 A2,cz0 A0,cz1 A0,cz2 A0,cz3 A0⟩ (fun hHeld=> ?_)
    clear hK K
    refine norm_ (a':=?_) ?_ ?_
    rotate_left
    ·show Act.put _ (some 38) _=_
     simp only [Act.put,List.setIfInBounds_toArray,List.set_cons_zero,List.set_cons_succ,i64_w,i32_w]
     rfl
    refine pureK 4 39 rfl rfl ?_
    refine done_ laws_FnExactOccursIn.a23 ?_
    try go_wp2
    replace A5:=Aside0.mk (Kd.R_drew A5.out)
    replace A6:=Aside0.mk (Kd.R_drew A6.out)
    replace A8:=Aside0.mk (Kd.R_drew A8.out)
    replace B0:=Aside0.mk (Kd.R_drew B0.out)
    replace B2:=Aside0.mk (Kd.R_drew B2.out)
    replace A0:=Aside0.mk (blk_drew A0.out)
    replace A1:=Aside0.mk (blk_drew A1.out)
    replace A2:=Aside0.mk (blk_drew A2.out)
    replace A9:=Aside0.mk (blk_drew A9.out)
    replace HB:=Aside0.mk (below_drew1 HB.out)
    refine start_ (n:=5) (S:=fun w'=>w'.cell? ⟨A4,0,none⟩=some (.int .i64 t238)∧w'.cell? ⟨A4,1,none⟩=some (.string t239)∧w'.cell? ⟨A4,2,none⟩=some (.int .i64 t240)∧w'.cell? ⟨A4,3,none⟩=some (.slice E1 t241.length D8)∧w'.cell? ⟨B3,0,none⟩=some (.int .i64 a1_0)∧w'.cell? ⟨B3,1,none⟩=some (.string a1_1)∧w'.cell? ⟨B3,2,none⟩=some (.int .i64 a1_2)∧w'.cell? ⟨B3,3,none⟩=some (.slice A1_3 l1_3.length c1_3)) (ds:=[]) #[false,false,false,false,false] laws_FnExactOccursIn.a23 rfl rfl ⟨cz0 A9,cz1 A9,cz2 A9,cz3 A9,cz0 A1,cz1 A1,cz2 A1,cz3 A1⟩ (fun hHeld=> ?_)
    generalize w95.drew=w96 at A5 A6 A8 B0 B2 A0 A1 A2 A9 HB hHeld ⊢
    refine takeK 0 40 rfl rfl hHeld ?_ laws_FnExactOccursIn.a1
    refine takeK 1 41 rfl rfl hHeld ?_ laws_FnExactOccursIn.a1
    refine one_ (i:=2) (N:=some 42) #[true,true,true,false,false] rfl rfl laws_FnExactOccursIn.a23 (by decide) (fun K hK=> ?_)
    refine goes_ Try.func13 laws_FnExactOccursIn.a23 rfl #[.agg #[.int .i64 a1_0,.string a1_1,.int .i64 a1_2,.slice A1_3 l1_3.length c1_3]] (by rfl) rfl rfl laws_FnExactOccursIn.a0 ?_
    with_reducible refine (laws_toTerm.calls k a1_0 a1_1 a1_2 _ _ l1_3 t253 t254 t255 t256 _ ?side1 ?side2 A59.out).mono ?_
    (case side1=>exact cB B8 HB)
    (case side2=>exact B9.out)
    rintro e w97 ⟨v257,rfl,ho0,hb⟩
    refine ⟨_,rfl,?_⟩
    have D5:=Aside0.mk (Kd.R_lower (Kd.R_newB (Kd.R_newB (Kd.R_new' (Kd.R_new' (Kd.R_new' (Kd.R_new' (Kd.R_new' ho0 (Kd.R_lt (rV A5))) (Kd.R_lt (rV A6))) (Kd.R_lt (rV A8))) (Kd.R_lt (rV B0))) (Kd.R_lt (rV B2))) (g:=A7) (o:=.cells #[.int .i64 t231,.string t232,.int .i64 t233,.slice E0 t234.length D7] 29 (0,0)) (vB A2)) (g:=A4) (o:=.cells #[.int .i64 t238,.string t239,.int .i64 t240,.slice E1 t241.length D8] 29 (0,0)) (vB A9)) (below_size (hV HB)))
    replace A5:=rE A5 ho0 hb
    replace A6:=rE A6 ho0 hb
    replace A8:=rE A8 ho0 hb
    replace B0:=rE B0 ho0 hb
    replace B2:=rE B2 ho0 hb
    replace A0:=bB A0 hb
    replace A1:=bB A1 hb
    replace A2:=bB A2 hb
    replace A9:=bB A9 hb
    replace HB:=hS HB hb
    (try clear hb)
    (try clear hb2)
    (try clear hk)
    (try clear hi)
    (try clear ho0)
    obtain ⟨I4,I5,eo98⟩:=Kd.R_slice D5.out
    (first | subst eo98 | (injection eo98 with f1_ f2_ f3_;have f4_:=f1_.symm;have f5_:=f3_.symm;clear f1_ f2_ f3_;subst f4_;subst f5_))
    refine hK.out _ _ ⟨cz0 A9,cz1 A9,cz2 A9,cz3 A9,cz0 A1,cz1 A1,cz2 A1,cz3 A1⟩ (fun hHeld=> ?_)
    clear hK K
    refine norm_ (a':=?_) ?_ ?_
    rotate_left
    ·show Act.put _ (some 42) _=_
     simp only [Act.put,List.setIfInBounds_toArray,List.set_cons_zero,List.set_cons_succ,i64_w,i32_w]
     rfl
    refine one_ (i:=3) (N:=some 43) #[true,true,true,true,false] rfl rfl laws_FnExactOccursIn.a23 (by decide) (fun K hK=> ?_)
    refine goes_ Try.func15 laws_FnExactOccursIn.a23 rfl #[.agg #[.int .i64 t238,.string t239,.int .i64 t240,.slice E1 t241.length D8],.agg #[.int .i64 t253,.string t254,.int .i64 t255,.slice I4 t256.length I5]] (by rfl) rfl rfl laws_FnExactOccursIn.a0 ?_
    with_reducible refine (laws_eqTerm.calls k t238 t239 t240 _ _ t241 t253 t254 t255 _ _ t256 true _ ?side1 ?side2 ?side3 ?side4 A60.out).mono ?_
    (case side1=>repeat (first | exact (Kd.R_reads' B0.out).2.2 | (with_reducible refine Kd.C_alloc ?_ _) | (with_reducible refine Kd.C_drewN ?_ _) | (with_reducible refine Kd.C_drew ?_)))
    (case side2=>exact (Kd.R_reads' B0.out).2.1)
    (case side3=>repeat (first | exact (Kd.R_reads' D5.out).2.2 | (with_reducible refine Kd.C_alloc ?_ _) | (with_reducible refine Kd.C_drewN ?_ _) | (with_reducible refine Kd.C_drew ?_)))
    (case side4=>exact (Kd.R_reads' D5.out).2.1)
    rintro e w99 ⟨rfl,hb⟩
    refine ⟨_,rfl,?_⟩
    replace A5:=rB A5 hb
    replace A6:=rB A6 hb
    replace A8:=rB A8 hb
    replace B0:=rB B0 hb
    replace B2:=rB B2 hb
    replace D5:=rB D5 hb
    replace A0:=bB A0 hb
    replace A1:=bB A1 hb
    replace A2:=bB A2 hb
    replace A9:=bB A9 hb
    replace HB:=hS HB hb
    (try clear hb)
    (try clear hb2)
    (try clear hk)
    (try clear hi)
    refine hK.out _ _ ⟨cz0 A9,cz1 A9,cz2 A9,cz3 A9,cz0 A1,cz1 A1,cz2 A1,cz3 A1⟩ (fun hHeld=> ?_)
    clear hK K
    refine norm_ (a':=?_) ?_ ?_
    rotate_left
    ·show Act.put _ (some 43) _=_
     simp only [Act.put,List.setIfInBounds_toArray,List.set_cons_zero,List.set_cons_succ,i64_w,i32_w]
     rfl
    refine pureK 4 44 rfl rfl ?_
    refine done_ laws_FnExactOccursIn.a23 ?_
    try go_wp2
    go_ret
    exact ⟨laws_FnExactOccursIn.a22,hV HB⟩
   ·replace c61:=Bool.eq_false_iff.mpr c61
    subst c61
    rw [if_neg (show ¬ (false=true) by decide)] at H
    obtain rfl:=Option.some.inj H
    go_enter Try.func4,Try.ntmps4
    try go_wp2_with (first | (refine bx 2 rfl #[.int .i64 a0_0,.string a0_1,.int .i64 a0_2,.slice A0_3 l0_3.length c0_3] 24 ?_;intro B1 hg w100 hbox hb;have A0:=Aside0.mk (hbox);have E7:=hZ HB hg;have E8:=hZ HB hg;replace HB:=hS HB hb;clear hb hbox hg) | (refine bx 3 rfl #[.int .i64 a1_0,.string a1_1,.int .i64 a1_2,.slice A1_3 l1_3.length c1_3] 24 ?_;intro B3 hg w101 hbox hb;have A1:=Aside0.mk (hbox);have E9:=hZ HB hg;have F0:=hZ HB hg;replace HB:=hS HB hb;have B4:=nL A0 hg;have B5:=nG A0 hg;replace A0:=bB A0 hb;clear hb hbox hg;have i5:=B4.out;have i6:=B5.out;obtain ⟨I6,I7,I8,I9,J0,J1,J2,J3⟩:=cf4 A0) | (refine goK 11 (some 12) rfl Try.func11 #[.agg #[.int .i64 a0_0,.string a0_1,.int .i64 a0_2,.slice A0_3 l0_3.length c0_3],.int .i64 1048576] ?_;(with_reducible refine (laws_szTerm.calls k a0_0 a0_1 a0_2 _ _ l0_3 1048576 t216 _ ?side1 ?side2 A3.out).mono ?_);(case side1=>exact cB B6 HB);(case side2=>exact B7.out);rintro e w104 ⟨rfl,hb⟩;refine ⟨_,rfl,?_⟩;replace A0:=bB A0 hb;replace A1:=bB A1 hb;replace HB:=hS HB hb;(try clear hb);(try clear hb2);(try clear hk);(try clear hi);obtain ⟨J4,J5,J6,J7,J8,J9,K0,K1⟩:=cf4 A1) | (refine goK 11 (some 17) rfl Try.func11 #[.agg #[.int .i64 a1_0,.string a1_1,.int .i64 a1_2,.slice A1_3 l1_3.length c1_3],.int .i64 t216] ?_;(with_reducible refine (laws_szTerm.calls k a1_0 a1_1 a1_2 _ _ l1_3 t216 t217 _ ?side1 ?side2 A10.out).mono ?_);(case side1=>exact cB B8 HB);(case side2=>exact B9.out);rintro e w106 ⟨rfl,hb⟩;refine ⟨_,rfl,?_⟩;replace A0:=bB A0 hb;replace A1:=bB A1 hb;replace HB:=hS HB hb;(try clear hb);(try clear hb2);(try clear hk);(try clear hi)))
    replace A0:=Aside0.mk (blk_drew A0.out)
    replace A1:=Aside0.mk (blk_drew A1.out)
    replace HB:=Aside0.mk (below_drew1 HB.out)
    refine start_ (n:=6) (S:=fun w'=>w'.cell? ⟨B1,0,none⟩=some (.int .i64 a0_0)∧w'.cell? ⟨B1,1,none⟩=some (.string a0_1)∧w'.cell? ⟨B1,2,none⟩=some (.int .i64 a0_2)∧w'.cell? ⟨B1,3,none⟩=some (.slice A0_3 l0_3.length c0_3)∧w'.cell? ⟨B3,0,none⟩=some (.int .i64 a1_0)∧w'.cell? ⟨B3,1,none⟩=some (.string a1_1)∧w'.cell? ⟨B3,2,none⟩=some (.int .i64 a1_2)∧w'.cell? ⟨B3,3,none⟩=some (.slice A1_3 l1_3.length c1_3)) (ds:=[]) #[false,false,false,false,false,false] laws_FnExactOccursIn.a23 rfl rfl ⟨cz0 A0,cz1 A0,cz2 A0,cz3 A0,cz0 A1,cz1 A1,cz2 A1,cz3 A1⟩ (fun hHeld=> ?_)
    generalize w106.drew=w107 at A0 A1 HB hHeld ⊢
    refine takeK 0 20 rfl rfl hHeld ?_ laws_FnExactOccursIn.a1
    refine takeK 2 22 rfl rfl hHeld ?_ laws_FnExactOccursIn.a1
    refine one_ (i:=1) (N:=some 21) #[true,true,true,false,false,false] rfl rfl laws_FnExactOccursIn.a23 (by decide) (fun K hK=> ?_)
    refine goes_ Try.func13 laws_FnExactOccursIn.a23 rfl #[.agg #[.int .i64 a0_0,.string a0_1,.int .i64 a0_2,.slice A0_3 l0_3.length c0_3]] (by rfl) rfl rfl laws_FnExactOccursIn.a0 ?_
    with_reducible refine (laws_toTerm.calls k a0_0 a0_1 a0_2 _ _ l0_3 t218 t219 t220 t221 _ ?side1 ?side2 A19.out).mono ?_
    (case side1=>exact cB B6 HB)
    (case side2=>exact B7.out)
    rintro e w108 ⟨v222,rfl,ho0,hb⟩
    refine ⟨_,rfl,?_⟩
    have A5:=rL ho0 HB
    replace A0:=bB A0 hb
    replace A1:=bB A1 hb
    replace HB:=hS HB hb
    (try clear hb)
    (try clear hb2)
    (try clear hk)
    (try clear hi)
    (try clear ho0)
    refine hK.out _ _ ⟨cz0 A0,cz1 A0,cz2 A0,cz3 A0,cz0 A1,cz1 A1,cz2 A1,cz3 A1⟩ (fun hHeld=> ?_)
    clear hK K
    refine norm_ (a':=?_) ?_ ?_
    rotate_left
    ·show Act.put _ (some 21) _=_
     simp only [Act.put,List.setIfInBounds_toArray,List.set_cons_zero,List.set_cons_succ,i64_w,i32_w]
     rfl
    refine one_ (i:=3) (N:=some 23) #[true,true,true,true,false,false] rfl rfl laws_FnExactOccursIn.a23 (by decide) (fun K hK=> ?_)
    refine goes_ Try.func13 laws_FnExactOccursIn.a23 rfl #[.agg #[.int .i64 a1_0,.string a1_1,.int .i64 a1_2,.slice A1_3 l1_3.length c1_3]] (by rfl) rfl rfl laws_FnExactOccursIn.a0 ?_
    with_reducible refine (laws_toTerm.calls k a1_0 a1_1 a1_2 _ _ l1_3 t224 t225 t226 t227 _ ?side1 ?side2 A20.out).mono ?_
    (case side1=>exact cB B8 HB)
    (case side2=>exact B9.out)
    rintro e w109 ⟨v228,rfl,ho0,hb⟩
    refine ⟨_,rfl,?_⟩
    have A6:=rL (rN ho0 A5) HB
    replace A5:=rE A5 ho0 hb
    replace A0:=bB A0 hb
    replace A1:=bB A1 hb
    replace HB:=hS HB hb
    (try clear hb)
    (try clear hb2)
    (try clear hk)
    (try clear hi)
    (try clear ho0)
    obtain ⟨F5,F6,eo110⟩:=Kd.R_slice A5.out
    (first | subst eo110 | (injection eo110 with f1_ f2_ f3_;have f4_:=f1_.symm;have f5_:=f3_.symm;clear f1_ f2_ f3_;subst f4_;subst f5_))
    obtain ⟨F7,F8,eo111⟩:=Kd.R_slice A6.out
    (first | subst eo111 | (injection eo111 with f1_ f2_ f3_;have f4_:=f1_.symm;have f5_:=f3_.symm;clear f1_ f2_ f3_;subst f4_;subst f5_))
    refine hK.out _ _ ⟨cz0 A0,cz1 A0,cz2 A0,cz3 A0,cz0 A1,cz1 A1,cz2 A1,cz3 A1⟩ (fun hHeld=> ?_)
    clear hK K
    refine norm_ (a':=?_) ?_ ?_
    rotate_left
    ·show Act.put _ (some 23) _=_
     simp only [Act.put,List.setIfInBounds_toArray,List.set_cons_zero,List.set_cons_succ,i64_w,i32_w]
     rfl
    refine one_ (i:=4) (N:=some 24) #[true,true,true,true,true,false] rfl rfl laws_FnExactOccursIn.a23 (by decide) (fun K hK=> ?_)
    refine goes_ Try.func16 laws_FnExactOccursIn.a23 rfl #[.agg #[.int .i64 t218,.string t219,.int .i64 t220,.slice F5 t221.length F6],.agg #[.int .i64 t224,.string t225,.int .i64 t226,.slice F7 t227.length F8]] (by rfl) rfl rfl laws_FnExactOccursIn.a0 ?_
    with_reducible refine (spec_OccursIn.calls k t218 t219 t220 _ _ t221 t224 t225 t226 _ _ t227 t230 _ ?side1 ?side2 ?side3 ?side4 A21.out).mono ?_
    (case side1=>repeat (first | exact (Kd.R_reads' A5.out).2.2 | (with_reducible refine Kd.C_alloc ?_ _) | (with_reducible refine Kd.C_drewN ?_ _) | (with_reducible refine Kd.C_drew ?_)))
    (case side2=>exact (Kd.R_reads' A5.out).2.1)
    (case side3=>repeat (first | exact (Kd.R_reads' A6.out).2.2 | (with_reducible refine Kd.C_alloc ?_ _) | (with_reducible refine Kd.C_drewN ?_ _) | (with_reducible refine Kd.C_drew ?_)))
    (case side4=>exact (Kd.R_reads' A6.out).2.1)
    rintro e w112 ⟨rfl,hb⟩
    refine ⟨_,rfl,?_⟩
    replace A5:=rB A5 hb
    replace A6:=rB A6 hb
    replace A0:=bB A0 hb
    replace A1:=bB A1 hb
    replace HB:=hS HB hb
    (try clear hb)
    (try clear hb2)
    (try clear hk)
    (try clear hi)
    refine hK.out _ _ ⟨cz0 A0,cz1 A0,cz2 A0,cz3 A0,cz0 A1,cz1 A1,cz2 A1,cz3 A1⟩ (fun hHeld=> ?_)
    clear hK K
    refine norm_ (a':=?_) ?_ ?_
    rotate_left
    ·show Act.put _ (some 24) _=_
     simp only [Act.put,List.setIfInBounds_toArray,List.set_cons_zero,List.set_cons_succ,i64_w,i32_w]
     rfl
    refine pureK 5 6 rfl rfl ?_
    refine done_ laws_FnExactOccursIn.a23 ?_
    obtain ⟨K2,K3,K4,K5,K6,K7,K8,K9⟩:=cf4 A0
    try go_wp2_with (first | (refine goK 13 (some 26) rfl Try.func13 #[.agg #[.int .i64 a0_0,.string a0_1,.int .i64 a0_2,.slice A0_3 l0_3.length c0_3]] ?_;(with_reducible refine (laws_toTerm.calls k a0_0 a0_1 a0_2 _ _ l0_3 t231 t232 t233 t234 _ ?side1 ?side2 A22.out).mono ?_);(case side1=>exact cB B6 HB);(case side2=>exact B7.out);rintro e w114 ⟨v235,rfl,ho0,hb⟩;refine ⟨_,rfl,?_⟩;have A8:=rL (rN (rN ho0 A5) A6) HB;replace A5:=rE A5 ho0 hb;replace A6:=rE A6 ho0 hb;replace A0:=bB A0 hb;replace A1:=bB A1 hb;replace HB:=hS HB hb;(try clear hb);(try clear hb2);(try clear hk);(try clear hi);(try clear ho0)) | (refine bx 7 rfl #[.int .i64 0,.string (⟨#[]⟩:ByteArray),.int .i64 0,.slice none 0 0] 29 ?_;intro A7 hg w115 hbox hb;replace A5:=Aside0.mk (Kd.R_below (Kd.R_elderB (rV A5) A7 (Nat.le_of_eq hg.symm)) hb);replace A6:=Aside0.mk (Kd.R_below (Kd.R_elderB (rV A6) A7 (Nat.le_of_eq hg.symm)) hb);replace A8:=Aside0.mk (Kd.R_below (Kd.R_elderB (rV A8) A7 (Nat.le_of_eq hg.symm)) hb);have A2:=Aside0.mk (hbox);have F1:=hZ HB hg;have F2:=hZ HB hg;replace HB:=hS HB hb;have C0:=nL A0 hg;have C1:=nG A0 hg;replace A0:=bB A0 hb;have C2:=nL A1 hg;have C3:=nG A1 hg;replace A1:=bB A1 hb;clear hb hbox hg;have i7:=C1.out;have i8:=C0.out;have i9:=C3.out;have j0:=C2.out;obtain ⟨L0,L1,L2,L3,L4,L5,L6,L7⟩:=cf4 A2;obtain ⟨D2,D0,eo119⟩:=Kd.R_slice A8.out;subst eo119;obtain ⟨L8,L9,M0,M1,M2,M3,M4,M5⟩:=cf4 A1) | (refine goK 13 (some 28) rfl Try.func13 #[.agg #[.int .i64 a1_0,.string a1_1,.int .i64 a1_2,.slice A1_3 l1_3.length c1_3]] ?_;(with_reducible refine (laws_toTerm.calls k a1_0 a1_1 a1_2 _ _ l1_3 t238 t239 t240 t241 _ ?side1 ?side2 A23.out).mono ?_);(case side1=>exact cV B8 HB);(case side2=>exact B9.out);rintro e w121 ⟨v242,rfl,ho0,hb⟩;refine ⟨_,rfl,?_⟩;have B0:=Aside0.mk (Kd.R_lower (Kd.R_newB (Kd.R_new' (Kd.R_new' (Kd.R_new' ho0 (Kd.R_lt laws_FnExactOccursIn.a2)) (Kd.R_lt laws_FnExactOccursIn.a3)) (Kd.R_lt laws_FnExactOccursIn.a4)) (g:=A7) (o:=.cells #[.int .i64 t231,.string t232,.int .i64 t233,.slice D2 t234.length D0] 29 (0,0)) (vP A2)) (below_size (hV HB)));replace A5:=Aside0.mk (Kd.R_elder' laws_FnExactOccursIn.a2 (Kd.R_base ho0) hb);replace A6:=Aside0.mk (Kd.R_elder' laws_FnExactOccursIn.a3 (Kd.R_base ho0) hb);replace A8:=Aside0.mk (Kd.R_elder' laws_FnExactOccursIn.a4 (Kd.R_base ho0) hb);replace A0:=bB A0 hb;replace A1:=bB A1 hb;replace A2:=bP (o:=.cells #[.int .i64 t231,.string t232,.int .i64 t233,.slice D2 t234.length D0] 29 (0,0)) A2 hb;replace HB:=hS HB hb;(try clear hb);(try clear hb2);(try clear hk);(try clear hi);(try clear ho0)) | (refine bx 8 rfl #[.int .i64 0,.string (⟨#[]⟩:ByteArray),.int .i64 0,.slice none 0 0] 29 ?_;intro A4 hg w122 hbox hb;replace A5:=Aside0.mk (Kd.R_below (Kd.R_elderB (rV A5) A4 (Nat.le_of_eq hg.symm)) hb);replace A6:=Aside0.mk (Kd.R_below (Kd.R_elderB (rV A6) A4 (Nat.le_of_eq hg.symm)) hb);replace A8:=Aside0.mk (Kd.R_below (Kd.R_elderB (rV A8) A4 (Nat.le_of_eq hg.symm)) hb);replace B0:=Aside0.mk (Kd.R_below (Kd.R_elderB (rV B0) A4 (Nat.le_of_eq hg.symm)) hb);have A9:=Aside0.mk (hbox);have F3:=hZ HB hg;have F4:=hZ HB hg;replace HB:=hS HB hb;have C4:=nL A0 hg;have C5:=nG A0 hg;replace A0:=bB A0 hb;have C6:=nL A1 hg;have C7:=nG A1 hg;replace A1:=bB A1 hb;have C8:=nL A2 hg;have C9:=nG A2 hg;replace A2:=bB A2 hb;clear hb hbox hg;have j1:=C5.out;have j2:=C4.out;have j3:=C7.out;have j4:=C6.out;have j5:=C9.out;have j6:=C8.out;obtain ⟨M6,M7,M8,M9,N0,N1,N2,N3⟩:=cf4 A9;obtain ⟨D3,D1,eo127⟩:=Kd.R_slice B0.out;subst eo127;obtain ⟨N4,N5,N6,N7,N8,N9,O0,O1⟩:=cf4 A2) | (refine goK 17 (some 31) rfl Try.func17 #[.agg #[.int .i64 t231,.string t232,.int .i64 t233,.slice D2 t234.length D0],.agg #[.int .i64 t238,.string t239,.int .i64 t240,.slice D3 t241.length D1]] ?_;(with_reducible refine (impl_OccursIn.calls k t231 t232 t233 _ _ t234 t238 t239 t240 _ _ t241 t245 _ ?side1 ?side2 ?side3 ?side4 A24.out).mono ?_);(case side1=>refine (Kd.R_reads' (e:=29) (base:=w.heap.size) (ok:=fun k_=>(((((True∧some k_≠(.slice F5 t221.length F6:Value).ownBlock)∧some k_≠(.slice F7 t227.length F8:Value).ownBlock)∧k_≠A7)∧some k_≠(.slice D3 t241.length D1:Value).ownBlock)∧k_≠A4)) (n:=t234.length) (c:=D0) ?_).2.2;exact laws_FnExactOccursIn.a5);(case side2=>exact (Kd.R_reads' A8.out).2.1);(case side3=>refine (Kd.R_reads' (e:=29) (base:=w.heap.size) (ok:=fun k_=>(((((True∧some k_≠(.slice F5 t221.length F6:Value).ownBlock)∧some k_≠(.slice F7 t227.length F8:Value).ownBlock)∧some k_≠(.slice D2 t234.length D0:Value).ownBlock)∧k_≠A7)∧k_≠A4)) (n:=t241.length) (c:=D1) ?_).2.2;exact laws_FnExactOccursIn.a6);(case side4=>exact (Kd.R_reads' B0.out).2.1);rintro e w129 ⟨rfl,hb⟩;refine ⟨_,rfl,?_⟩;replace A5:=Aside0.mk (Kd.R_below (by (with_reducible repeat (first | apply Kd.R_alloc | apply Kd.R_drewN | apply Kd.R_drew));exact (Kd.R_mono (Kd.R_far (p:=⟨A4,3,none⟩) (Kd.R_far (p:=⟨A4,2,none⟩) (Kd.R_far (p:=⟨A4,1,none⟩) (Kd.R_far (p:=⟨A4,0,none⟩) (Kd.R_mono A5.out (fun k_ hk=>(⟨hk,hk.2⟩:_∧k_≠A4))) (fun _ hk=>hk.2) (.int .i64 t238)) (fun _ hk=>hk.2) (.string t239)) (fun _ hk=>hk.2) (.int .i64 t240)) (fun _ hk=>hk.2) (.slice D3 t241.length D1)) (fun _ h_=>h_.1))) hb);replace A6:=Aside0.mk (Kd.R_below (by (with_reducible repeat (first | apply Kd.R_alloc | apply Kd.R_drewN | apply Kd.R_drew));exact (Kd.R_mono (Kd.R_far (p:=⟨A4,3,none⟩) (Kd.R_far (p:=⟨A4,2,none⟩) (Kd.R_far (p:=⟨A4,1,none⟩) (Kd.R_far (p:=⟨A4,0,none⟩) (Kd.R_mono A6.out (fun k_ hk=>(⟨hk,hk.2⟩:_∧k_≠A4))) (fun _ hk=>hk.2) (.int .i64 t238)) (fun _ hk=>hk.2) (.string t239)) (fun _ hk=>hk.2) (.int .i64 t240)) (fun _ hk=>hk.2) (.slice D3 t241.length D1)) (fun _ h_=>h_.1))) hb);replace A8:=Aside0.mk (Kd.R_below laws_FnExactOccursIn.a5 hb);replace B0:=Aside0.mk (Kd.R_below laws_FnExactOccursIn.a6 hb);replace A0:=bB A0 hb;replace A1:=bB A1 hb;replace A2:=bB A2 hb;replace A9:=bP (o:=.cells #[.int .i64 t238,.string t239,.int .i64 t240,.slice D3 t241.length D1] 29 (0,0)) A9 hb;replace HB:=hS HB hb;(try clear hb);(try clear hb2);(try clear hk);(try clear hi)))
    replace A5:=Aside0.mk (Kd.R_drew A5.out)
    replace A6:=Aside0.mk (Kd.R_drew A6.out)
    replace A8:=Aside0.mk (Kd.R_drew A8.out)
    replace B0:=Aside0.mk (Kd.R_drew B0.out)
    replace A0:=Aside0.mk (blk_drew A0.out)
    replace A1:=Aside0.mk (blk_drew A1.out)
    replace A2:=Aside0.mk (blk_drew A2.out)
    replace A9:=Aside0.mk (blk_drew A9.out)
    replace HB:=Aside0.mk (below_drew1 HB.out)
    refine start_ (n:=5) (S:=fun w'=>w'.cell? ⟨A7,0,none⟩=some (.int .i64 t231)∧w'.cell? ⟨A7,1,none⟩=some (.string t232)∧w'.cell? ⟨A7,2,none⟩=some (.int .i64 t233)∧w'.cell? ⟨A7,3,none⟩=some (.slice D2 t234.length D0)∧w'.cell? ⟨B1,0,none⟩=some (.int .i64 a0_0)∧w'.cell? ⟨B1,1,none⟩=some (.string a0_1)∧w'.cell? ⟨B1,2,none⟩=some (.int .i64 a0_2)∧w'.cell? ⟨B1,3,none⟩=some (.slice A0_3 l0_3.length c0_3)) (ds:=[]) #[false,false,false,false,false] laws_FnExactOccursIn.a23 rfl rfl ⟨cz0 A2,cz1 A2,cz2 A2,cz3 A2,cz0 A0,cz1 A0,cz2 A0,cz3 A0⟩ (fun hHeld=> ?_)
    generalize w129.drew=w130 at A5 A6 A8 B0 A0 A1 A2 A9 HB hHeld ⊢
    refine takeK 0 35 rfl rfl hHeld ?_ laws_FnExactOccursIn.a1
    refine takeK 1 36 rfl rfl hHeld ?_ laws_FnExactOccursIn.a1
    refine one_ (i:=2) (N:=some 37) #[true,true,true,false,false] rfl rfl laws_FnExactOccursIn.a23 (by decide) (fun K hK=> ?_)
    refine goes_ Try.func13 laws_FnExactOccursIn.a23 rfl #[.agg #[.int .i64 a0_0,.string a0_1,.int .i64 a0_2,.slice A0_3 l0_3.length c0_3]] (by rfl) rfl rfl laws_FnExactOccursIn.a0 ?_
    with_reducible refine (laws_toTerm.calls k a0_0 a0_1 a0_2 _ _ l0_3 t246 t247 t248 t249 _ ?side1 ?side2 A56.out).mono ?_
    (case side1=>exact cB B6 HB)
    (case side2=>exact B7.out)
    rintro e w131 ⟨v250,rfl,ho0,hb⟩
    refine ⟨_,rfl,?_⟩
    have B2:=Aside0.mk (Kd.R_lower (Kd.R_newB (Kd.R_newB (Kd.R_new' (Kd.R_new' (Kd.R_new' (Kd.R_new' ho0 (Kd.R_lt (rV A5))) (Kd.R_lt (rV A6))) (Kd.R_lt (rV A8))) (Kd.R_lt (rV B0))) (g:=A7) (o:=.cells #[.int .i64 t231,.string t232,.int .i64 t233,.slice D2 t234.length D0] 29 (0,0)) (vB A2)) (g:=A4) (o:=.cells #[.int .i64 t238,.string t239,.int .i64 t240,.slice D3 t241.length D1] 29 (0,0)) (vB A9)) (below_size (hV HB)))
    replace A5:=rE A5 ho0 hb
    replace A6:=rE A6 ho0 hb
    replace A8:=rE A8 ho0 hb
    replace B0:=rE B0 ho0 hb
    replace A0:=bB A0 hb
    replace A1:=bB A1 hb
    replace A2:=bB A2 hb
    replace A9:=bB A9 hb
    replace HB:=hS HB hb
    (try clear hb)
    (try clear hb2)
    (try clear hk)
    (try clear hi)
    (try clear ho0)
    obtain ⟨H5,H6,eo132⟩:=Kd.R_slice B2.out
    (first | subst eo132 | (injection eo132 with f1_ f2_ f3_;have f4_:=f1_.symm;have f5_:=f3_.symm;clear f1_ f2_ f3_;subst f4_;subst f5_))
    refine hK.out _ _ ⟨cz0 A2,cz1 A2,cz2 A2,cz3 A2,cz0 A0,cz1 A0,cz2 A0,cz3 A0⟩ (fun hHeld=> ?_)
    clear hK K
    refine norm_ (a':=?_) ?_ ?_
    rotate_left
    ·show Act.put _ (some 37) _=_
     simp only [Act.put,List.setIfInBounds_toArray,List.set_cons_zero,List.set_cons_succ,i64_w,i32_w]
     rfl
    refine one_ (i:=3) (N:=some 38) #[true,true,true,true,false] rfl rfl laws_FnExactOccursIn.a23 (by decide) (fun K hK=> ?_)
    refine goes_ Try.func15 laws_FnExactOccursIn.a23 rfl #[.agg #[.int .i64 t231,.string t232,.int .i64 t233,.slice D2 t234.length D0],.agg #[.int .i64 t246,.string t247,.int .i64 t248,.slice H5 t249.length H6]] (by rfl) rfl rfl laws_FnExactOccursIn.a0 ?_
    with_reducible refine (laws_eqTerm.calls k t231 t232 t233 _ _ t234 t246 t247 t248 _ _ t249 true _ ?side1 ?side2 ?side3 ?side4 A57.out).mono ?_
    (case side1=>repeat (first | exact (Kd.R_reads' A8.out).2.2 | (with_reducible refine Kd.C_alloc ?_ _) | (with_reducible refine Kd.C_drewN ?_ _) | (with_reducible refine Kd.C_drew ?_)))
    (case side2=>exact (Kd.R_reads' A8.out).2.1)
    (case side3=>repeat (first | exact (Kd.R_reads' B2.out).2.2 | (with_reducible refine Kd.C_alloc ?_ _) | (with_reducible refine Kd.C_drewN ?_ _) | (with_reducible refine Kd.C_drew ?_)))
    (case side4=>exact (Kd.R_reads' B2.out).2.1)
    rintro e w133 ⟨rfl,hb⟩
    refine ⟨_,rfl,?_⟩
    replace A5:=rB A5 hb
    replace A6:=rB A6 hb
    replace A8:=rB A8 hb
    replace B0:=rB B0 hb
    replace B2:=rB B2 hb
    replace A0:=bB A0 hb
    replace A1:=bB A1 hb
    replace A2:=bB A2 hb
    replace A9:=bB A9 hb
    replace HB:=hS HB hb
    (try clear hb)
    (try clear hb2)
    (try clear hk)
    (try clear hi)
    refine hK.out _ _ ⟨cz0 A2,cz1 A2,cz2 A2,cz3 A2,cz0 A0,cz1 A0,cz2 A0,cz3 A0⟩ (fun hHeld=> ?_)
    clear hK K
    refine norm_ (a':=?_) ?_ ?_
    rotate_left
    ·show Act.put _ (some 38) _=_
     simp only [Act.put,List.setIfInBounds_toArray,List.set_cons_zero,List.set_cons_succ,i64_w,i32_w]
     rfl
    refine pureK 4 39 rfl rfl ?_
    refine done_ laws_FnExactOccursIn.a23 ?_
    try go_wp2
    replace A5:=Aside0.mk (Kd.R_drew A5.out)
    replace A6:=Aside0.mk (Kd.R_drew A6.out)
    replace A8:=Aside0.mk (Kd.R_drew A8.out)
    replace B0:=Aside0.mk (Kd.R_drew B0.out)
    replace B2:=Aside0.mk (Kd.R_drew B2.out)
    replace A0:=Aside0.mk (blk_drew A0.out)
    replace A1:=Aside0.mk (blk_drew A1.out)
    replace A2:=Aside0.mk (blk_drew A2.out)
    replace A9:=Aside0.mk (blk_drew A9.out)
    replace HB:=Aside0.mk (below_drew1 HB.out)
    refine start_ (n:=5) (S:=fun w'=>w'.cell? ⟨A4,0,none⟩=some (.int .i64 t238)∧w'.cell? ⟨A4,1,none⟩=some (.string t239)∧w'.cell? ⟨A4,2,none⟩=some (.int .i64 t240)∧w'.cell? ⟨A4,3,none⟩=some (.slice D3 t241.length D1)∧w'.cell? ⟨B3,0,none⟩=some (.int .i64 a1_0)∧w'.cell? ⟨B3,1,none⟩=some (.string a1_1)∧w'.cell? ⟨B3,2,none⟩=some (.int .i64 a1_2)∧w'.cell? ⟨B3,3,none⟩=some (.slice A1_3 l1_3.length c1_3)) (ds:=[]) #[false,false,false,false,false] laws_FnExactOccursIn.a23 rfl rfl ⟨cz0 A9,cz1 A9,cz2 A9,cz3 A9,cz0 A1,cz1 A1,cz2 A1,cz3 A1⟩ (fun hHeld=> ?_)
    generalize w133.drew=w134 at A5 A6 A8 B0 B2 A0 A1 A2 A9 HB hHeld ⊢
    refine takeK 0 40 rfl rfl hHeld ?_ laws_FnExactOccursIn.a1
    refine takeK 1 41 rfl rfl hHeld ?_ laws_FnExactOccursIn.a1
    refine one_ (i:=2) (N:=some 42) #[true,true,true,false,false] rfl rfl laws_FnExactOccursIn.a23 (by decide) (fun K hK=> ?_)
    refine goes_ Try.func13 laws_FnExactOccursIn.a23 rfl #[.agg #[.int .i64 a1_0,.string a1_1,.int .i64 a1_2,.slice A1_3 l1_3.length c1_3]] (by rfl) rfl rfl laws_FnExactOccursIn.a0 ?_
    with_reducible refine (laws_toTerm.calls k a1_0 a1_1 a1_2 _ _ l1_3 t253 t254 t255 t256 _ ?side1 ?side2 A59.out).mono ?_
    (case side1=>exact cB B8 HB)
    (case side2=>exact B9.out)
    rintro e w135 ⟨v257,rfl,ho0,hb⟩
    refine ⟨_,rfl,?_⟩
    have D5:=Aside0.mk (Kd.R_lower (Kd.R_newB (Kd.R_newB (Kd.R_new' (Kd.R_new' (Kd.R_new' (Kd.R_new' (Kd.R_new' ho0 (Kd.R_lt (rV A5))) (Kd.R_lt (rV A6))) (Kd.R_lt (rV A8))) (Kd.R_lt (rV B0))) (Kd.R_lt (rV B2))) (g:=A7) (o:=.cells #[.int .i64 t231,.string t232,.int .i64 t233,.slice D2 t234.length D0] 29 (0,0)) (vB A2)) (g:=A4) (o:=.cells #[.int .i64 t238,.string t239,.int .i64 t240,.slice D3 t241.length D1] 29 (0,0)) (vB A9)) (below_size (hV HB)))
    replace A5:=rE A5 ho0 hb
    replace A6:=rE A6 ho0 hb
    replace A8:=rE A8 ho0 hb
    replace B0:=rE B0 ho0 hb
    replace B2:=rE B2 ho0 hb
    replace A0:=bB A0 hb
    replace A1:=bB A1 hb
    replace A2:=bB A2 hb
    replace A9:=bB A9 hb
    replace HB:=hS HB hb
    (try clear hb)
    (try clear hb2)
    (try clear hk)
    (try clear hi)
    (try clear ho0)
    obtain ⟨H7,H8,eo136⟩:=Kd.R_slice D5.out
    (first | subst eo136 | (injection eo136 with f1_ f2_ f3_;have f4_:=f1_.symm;have f5_:=f3_.symm;clear f1_ f2_ f3_;subst f4_;subst f5_))
    refine hK.out _ _ ⟨cz0 A9,cz1 A9,cz2 A9,cz3 A9,cz0 A1,cz1 A1,cz2 A1,cz3 A1⟩ (fun hHeld=> ?_)
    clear hK K
    refine norm_ (a':=?_) ?_ ?_
    rotate_left
    ·show Act.put _ (some 42) _=_
     simp only [Act.put,List.setIfInBounds_toArray,List.set_cons_zero,List.set_cons_succ,i64_w,i32_w]
     rfl
    refine one_ (i:=3) (N:=some 43) #[true,true,true,true,false] rfl rfl laws_FnExactOccursIn.a23 (by decide) (fun K hK=> ?_)
    refine goes_ Try.func15 laws_FnExactOccursIn.a23 rfl #[.agg #[.int .i64 t238,.string t239,.int .i64 t240,.slice D3 t241.length D1],.agg #[.int .i64 t253,.string t254,.int .i64 t255,.slice H7 t256.length H8]] (by rfl) rfl rfl laws_FnExactOccursIn.a0 ?_
    with_reducible refine (laws_eqTerm.calls k t238 t239 t240 _ _ t241 t253 t254 t255 _ _ t256 false _ ?side1 ?side2 ?side3 ?side4 A60.out).mono ?_
    (case side1=>repeat (first | exact (Kd.R_reads' B0.out).2.2 | (with_reducible refine Kd.C_alloc ?_ _) | (with_reducible refine Kd.C_drewN ?_ _) | (with_reducible refine Kd.C_drew ?_)))
    (case side2=>exact (Kd.R_reads' B0.out).2.1)
    (case side3=>repeat (first | exact (Kd.R_reads' D5.out).2.2 | (with_reducible refine Kd.C_alloc ?_ _) | (with_reducible refine Kd.C_drewN ?_ _) | (with_reducible refine Kd.C_drew ?_)))
    (case side4=>exact (Kd.R_reads' D5.out).2.1)
    rintro e w137 ⟨rfl,hb⟩
    refine ⟨_,rfl,?_⟩
    replace A5:=rB A5 hb
    replace A6:=rB A6 hb
    replace A8:=rB A8 hb
    replace B0:=rB B0 hb
    replace B2:=rB B2 hb
    replace D5:=rB D5 hb
    replace A0:=bB A0 hb
    replace A1:=bB A1 hb
    replace A2:=bB A2 hb
    replace A9:=bB A9 hb
    replace HB:=hS HB hb
    (try clear hb)
    (try clear hb2)
    (try clear hk)
    (try clear hi)
    refine hK.out _ _ ⟨cz0 A9,cz1 A9,cz2 A9,cz3 A9,cz0 A1,cz1 A1,cz2 A1,cz3 A1⟩ (fun hHeld=> ?_)
    clear hK K
    refine norm_ (a':=?_) ?_ ?_
    rotate_left
    ·show Act.put _ (some 43) _=_
     simp only [Act.put,List.setIfInBounds_toArray,List.set_cons_zero,List.set_cons_succ,i64_w,i32_w]
     rfl
    refine pureK 4 44 rfl rfl ?_
    refine done_ laws_FnExactOccursIn.a23 ?_
    try go_wp2
    go_ret
    exact ⟨laws_FnExactOccursIn.a22,hV HB⟩
  ·replace c58:=Bool.eq_false_iff.mpr c58
   subst c58
   rw [if_neg (show ¬ (false=true) by decide)] at H
   obtain rfl:=Option.some.inj H
   go_enter Try.func4,Try.ntmps4
   try go_wp2_with (first | (refine bx 2 rfl #[.int .i64 a0_0,.string a0_1,.int .i64 a0_2,.slice A0_3 l0_3.length c0_3] 24 ?_;intro B1 hg w138 hbox hb;have A0:=Aside0.mk (hbox);have E7:=hZ HB hg;have E8:=hZ HB hg;replace HB:=hS HB hb;clear hb hbox hg) | (refine bx 3 rfl #[.int .i64 a1_0,.string a1_1,.int .i64 a1_2,.slice A1_3 l1_3.length c1_3] 24 ?_;intro B3 hg w139 hbox hb;have A1:=Aside0.mk (hbox);have E9:=hZ HB hg;have F0:=hZ HB hg;replace HB:=hS HB hb;have B4:=nL A0 hg;have B5:=nG A0 hg;replace A0:=bB A0 hb;clear hb hbox hg;have j7:=B4.out;have j8:=B5.out;obtain ⟨O2,O3,O4,O5,O6,O7,O8,O9⟩:=cf4 A0) | (refine goK 11 (some 12) rfl Try.func11 #[.agg #[.int .i64 a0_0,.string a0_1,.int .i64 a0_2,.slice A0_3 l0_3.length c0_3],.int .i64 1048576] ?_;(with_reducible refine (laws_szTerm.calls k a0_0 a0_1 a0_2 _ _ l0_3 1048576 t216 _ ?side1 ?side2 A3.out).mono ?_);(case side1=>exact cB B6 HB);(case side2=>exact B7.out);rintro e w142 ⟨rfl,hb⟩;refine ⟨_,rfl,?_⟩;replace A0:=bB A0 hb;replace A1:=bB A1 hb;replace HB:=hS HB hb;(try clear hb);(try clear hb2);(try clear hk);(try clear hi);obtain ⟨P0,P1,P2,P3,P4,P5,P6,P7⟩:=cf4 A1) | (refine goK 11 (some 17) rfl Try.func11 #[.agg #[.int .i64 a1_0,.string a1_1,.int .i64 a1_2,.slice A1_3 l1_3.length c1_3],.int .i64 t216] ?_;(with_reducible refine (laws_szTerm.calls k a1_0 a1_1 a1_2 _ _ l1_3 t216 t217 _ ?side1 ?side2 A10.out).mono ?_);(case side1=>exact cB B8 HB);(case side2=>exact B9.out);rintro e w144 ⟨rfl,hb⟩;refine ⟨_,rfl,?_⟩;replace A0:=bB A0 hb;replace A1:=bB A1 hb;replace HB:=hS HB hb;(try clear hb);(try clear hb2);(try clear hk);(try clear hi)))
   replace A0:=Aside0.mk (blk_drew A0.out)
   replace A1:=Aside0.mk (blk_drew A1.out)
   replace HB:=Aside0.mk (below_drew1 HB.out)
   refine start_ (n:=6) (S:=fun w'=>w'.cell? ⟨B1,0,none⟩=some (.int .i64 a0_0)∧w'.cell? ⟨B1,1,none⟩=some (.string a0_1)∧w'.cell? ⟨B1,2,none⟩=some (.int .i64 a0_2)∧w'.cell? ⟨B1,3,none⟩=some (.slice A0_3 l0_3.length c0_3)∧w'.cell? ⟨B3,0,none⟩=some (.int .i64 a1_0)∧w'.cell? ⟨B3,1,none⟩=some (.string a1_1)∧w'.cell? ⟨B3,2,none⟩=some (.int .i64 a1_2)∧w'.cell? ⟨B3,3,none⟩=some (.slice A1_3 l1_3.length c1_3)) (ds:=[]) #[false,false,false,false,false,false] laws_FnExactOccursIn.a23 rfl rfl ⟨cz0 A0,cz1 A0,cz2 A0,cz3 A0,cz0 A1,cz1 A1,cz2 A1,cz3 A1⟩ (fun hHeld=> ?_)
   generalize w144.drew=w145 at A0 A1 HB hHeld ⊢
   refine takeK 0 20 rfl rfl hHeld ?_ laws_FnExactOccursIn.a1
   refine takeK 2 22 rfl rfl hHeld ?_ laws_FnExactOccursIn.a1
   refine one_ (i:=1) (N:=some 21) #[true,true,true,false,false,false] rfl rfl laws_FnExactOccursIn.a23 (by decide) (fun K hK=> ?_)
   refine goes_ Try.func13 laws_FnExactOccursIn.a23 rfl #[.agg #[.int .i64 a0_0,.string a0_1,.int .i64 a0_2,.slice A0_3 l0_3.length c0_3]] (by rfl) rfl rfl laws_FnExactOccursIn.a0 ?_
   with_reducible refine (laws_toTerm.calls k a0_0 a0_1 a0_2 _ _ l0_3 t218 t219 t220 t221 _ ?side1 ?side2 A19.out).mono ?_
   (case side1=>exact cB B6 HB)
   (case side2=>exact B7.out)
   rintro e w146 ⟨v222,rfl,ho0,hb⟩
   refine ⟨_,rfl,?_⟩
   have A5:=rL ho0 HB
   replace A0:=bB A0 hb
   replace A1:=bB A1 hb
   replace HB:=hS HB hb
   (try clear hb)
   (try clear hb2)
   (try clear hk)
   (try clear hi)
   (try clear ho0)
   refine hK.out _ _ ⟨cz0 A0,cz1 A0,cz2 A0,cz3 A0,cz0 A1,cz1 A1,cz2 A1,cz3 A1⟩ (fun hHeld=> ?_)
   clear hK K
   refine norm_ (a':=?_) ?_ ?_
   rotate_left
   ·show Act.put _ (some 21) _=_
    simp only [Act.put,List.setIfInBounds_toArray,List.set_cons_zero,List.set_cons_succ,i64_w,i32_w]
    rfl
   refine one_ (i:=3) (N:=some 23) #[true,true,true,true,false,false] rfl rfl laws_FnExactOccursIn.a23 (by decide) (fun K hK=> ?_)
   refine goes_ Try.func13 laws_FnExactOccursIn.a23 rfl #[.agg #[.int .i64 a1_0,.string a1_1,.int .i64 a1_2,.slice A1_3 l1_3.length c1_3]] (by rfl) rfl rfl laws_FnExactOccursIn.a0 ?_
   with_reducible refine (laws_toTerm.calls k a1_0 a1_1 a1_2 _ _ l1_3 t224 t225 t226 t227 _ ?side1 ?side2 A20.out).mono ?_
   (case side1=>exact cB B8 HB)
   (case side2=>exact B9.out)
   rintro e w147 ⟨v228,rfl,ho0,hb⟩
   refine ⟨_,rfl,?_⟩
   have A6:=rL (rN ho0 A5) HB
   replace A5:=rE A5 ho0 hb
   replace A0:=bB A0 hb
   replace A1:=bB A1 hb
   replace HB:=hS HB hb
   (try clear hb)
   (try clear hb2)
   (try clear hk)
   (try clear hi)
   (try clear ho0)
   obtain ⟨F9,G0,eo148⟩:=Kd.R_slice A5.out
   (first | subst eo148 | (injection eo148 with f1_ f2_ f3_;have f4_:=f1_.symm;have f5_:=f3_.symm;clear f1_ f2_ f3_;subst f4_;subst f5_))
   obtain ⟨G1,G2,eo149⟩:=Kd.R_slice A6.out
   (first | subst eo149 | (injection eo149 with f1_ f2_ f3_;have f4_:=f1_.symm;have f5_:=f3_.symm;clear f1_ f2_ f3_;subst f4_;subst f5_))
   refine hK.out _ _ ⟨cz0 A0,cz1 A0,cz2 A0,cz3 A0,cz0 A1,cz1 A1,cz2 A1,cz3 A1⟩ (fun hHeld=> ?_)
   clear hK K
   refine norm_ (a':=?_) ?_ ?_
   rotate_left
   ·show Act.put _ (some 23) _=_
    simp only [Act.put,List.setIfInBounds_toArray,List.set_cons_zero,List.set_cons_succ,i64_w,i32_w]
    rfl
   refine one_ (i:=4) (N:=some 24) #[true,true,true,true,true,false] rfl rfl laws_FnExactOccursIn.a23 (by decide) (fun K hK=> ?_)
   refine goes_ Try.func16 laws_FnExactOccursIn.a23 rfl #[.agg #[.int .i64 t218,.string t219,.int .i64 t220,.slice F9 t221.length G0],.agg #[.int .i64 t224,.string t225,.int .i64 t226,.slice G1 t227.length G2]] (by rfl) rfl rfl laws_FnExactOccursIn.a0 ?_
   with_reducible refine (spec_OccursIn.calls k t218 t219 t220 _ _ t221 t224 t225 t226 _ _ t227 t230 _ ?side1 ?side2 ?side3 ?side4 A21.out).mono ?_
   (case side1=>repeat (first | exact (Kd.R_reads' A5.out).2.2 | (with_reducible refine Kd.C_alloc ?_ _) | (with_reducible refine Kd.C_drewN ?_ _) | (with_reducible refine Kd.C_drew ?_)))
   (case side2=>exact (Kd.R_reads' A5.out).2.1)
   (case side3=>repeat (first | exact (Kd.R_reads' A6.out).2.2 | (with_reducible refine Kd.C_alloc ?_ _) | (with_reducible refine Kd.C_drewN ?_ _) | (with_reducible refine Kd.C_drew ?_)))
   (case side4=>exact (Kd.R_reads' A6.out).2.1)
   rintro e w150 ⟨rfl,hb⟩
   refine ⟨_,rfl,?_⟩
   replace A5:=rB A5 hb
   replace A6:=rB A6 hb
   replace A0:=bB A0 hb
   replace A1:=bB A1 hb
   replace HB:=hS HB hb
   (try clear hb)
   (try clear hb2)
   (try clear hk)
   (try clear hi)
   refine hK.out _ _ ⟨cz0 A0,cz1 A0,cz2 A0,cz3 A0,cz0 A1,cz1 A1,cz2 A1,cz3 A1⟩ (fun hHeld=> ?_)
   clear hK K
   refine norm_ (a':=?_) ?_ ?_
   rotate_left
   ·show Act.put _ (some 24) _=_
    simp only [Act.put,List.setIfInBounds_toArray,List.set_cons_zero,List.set_cons_succ,i64_w,i32_w]
    rfl
   refine pureK 5 6 rfl rfl ?_
   refine done_ laws_FnExactOccursIn.a23 ?_
   obtain ⟨P8,P9,Q0,Q1,Q2,Q3,Q4,Q5⟩:=cf4 A0
   try go_wp2_with (first | (refine goK 13 (some 26) rfl Try.func13 #[.agg #[.int .i64 a0_0,.string a0_1,.int .i64 a0_2,.slice A0_3 l0_3.length c0_3]] ?_;(with_reducible refine (laws_toTerm.calls k a0_0 a0_1 a0_2 _ _ l0_3 t231 t232 t233 t234 _ ?side1 ?side2 A22.out).mono ?_);(case side1=>exact cB B6 HB);(case side2=>exact B7.out);rintro e w152 ⟨v235,rfl,ho0,hb⟩;refine ⟨_,rfl,?_⟩;have A8:=rL (rN (rN ho0 A5) A6) HB;replace A5:=rE A5 ho0 hb;replace A6:=rE A6 ho0 hb;replace A0:=bB A0 hb;replace A1:=bB A1 hb;replace HB:=hS HB hb;(try clear hb);(try clear hb2);(try clear hk);(try clear hi);(try clear ho0)) | (refine bx 7 rfl #[.int .i64 0,.string (⟨#[]⟩:ByteArray),.int .i64 0,.slice none 0 0] 29 ?_;intro A7 hg w153 hbox hb;replace A5:=Aside0.mk (Kd.R_below (Kd.R_elderB (rV A5) A7 (Nat.le_of_eq hg.symm)) hb);replace A6:=Aside0.mk (Kd.R_below (Kd.R_elderB (rV A6) A7 (Nat.le_of_eq hg.symm)) hb);replace A8:=Aside0.mk (Kd.R_below (Kd.R_elderB (rV A8) A7 (Nat.le_of_eq hg.symm)) hb);have A2:=Aside0.mk (hbox);have F1:=hZ HB hg;have F2:=hZ HB hg;replace HB:=hS HB hb;have C0:=nL A0 hg;have C1:=nG A0 hg;replace A0:=bB A0 hb;have C2:=nL A1 hg;have C3:=nG A1 hg;replace A1:=bB A1 hb;clear hb hbox hg;have j9:=C1.out;have k0:=C0.out;have k1:=C3.out;have k2:=C2.out;obtain ⟨Q6,Q7,Q8,Q9,R0,R1,R2,R3⟩:=cf4 A2;obtain ⟨D6,D4,eo157⟩:=Kd.R_slice A8.out;subst eo157;obtain ⟨R4,R5,R6,R7,R8,R9,S0,S1⟩:=cf4 A1) | (refine goK 13 (some 28) rfl Try.func13 #[.agg #[.int .i64 a1_0,.string a1_1,.int .i64 a1_2,.slice A1_3 l1_3.length c1_3]] ?_;(with_reducible refine (laws_toTerm.calls k a1_0 a1_1 a1_2 _ _ l1_3 t238 t239 t240 t241 _ ?side1 ?side2 A23.out).mono ?_);(case side1=>exact cV B8 HB);(case side2=>exact B9.out);rintro e w159 ⟨v242,rfl,ho0,hb⟩;refine ⟨_,rfl,?_⟩;have B0:=Aside0.mk (Kd.R_lower (Kd.R_newB (Kd.R_new' (Kd.R_new' (Kd.R_new' ho0 (Kd.R_lt laws_FnExactOccursIn.a7)) (Kd.R_lt laws_FnExactOccursIn.a8)) (Kd.R_lt laws_FnExactOccursIn.a9)) (g:=A7) (o:=.cells #[.int .i64 t231,.string t232,.int .i64 t233,.slice D6 t234.length D4] 29 (0,0)) (vP A2)) (below_size (hV HB)));replace A5:=Aside0.mk (Kd.R_elder' laws_FnExactOccursIn.a7 (Kd.R_base ho0) hb);replace A6:=Aside0.mk (Kd.R_elder' laws_FnExactOccursIn.a8 (Kd.R_base ho0) hb);replace A8:=Aside0.mk (Kd.R_elder' laws_FnExactOccursIn.a9 (Kd.R_base ho0) hb);replace A0:=bB A0 hb;replace A1:=bB A1 hb;replace A2:=bP (o:=.cells #[.int .i64 t231,.string t232,.int .i64 t233,.slice D6 t234.length D4] 29 (0,0)) A2 hb;replace HB:=hS HB hb;(try clear hb);(try clear hb2);(try clear hk);(try clear hi);(try clear ho0)) | (refine bx 8 rfl #[.int .i64 0,.string (⟨#[]⟩:ByteArray),.int .i64 0,.slice none 0 0] 29 ?_;intro A4 hg w160 hbox hb;replace A5:=Aside0.mk (Kd.R_below (Kd.R_elderB (rV A5) A4 (Nat.le_of_eq hg.symm)) hb);replace A6:=Aside0.mk (Kd.R_below (Kd.R_elderB (rV A6) A4 (Nat.le_of_eq hg.symm)) hb);replace A8:=Aside0.mk (Kd.R_below (Kd.R_elderB (rV A8) A4 (Nat.le_of_eq hg.symm)) hb);replace B0:=Aside0.mk (Kd.R_below (Kd.R_elderB (rV B0) A4 (Nat.le_of_eq hg.symm)) hb);have A9:=Aside0.mk (hbox);have F3:=hZ HB hg;have F4:=hZ HB hg;replace HB:=hS HB hb;have C4:=nL A0 hg;have C5:=nG A0 hg;replace A0:=bB A0 hb;have C6:=nL A1 hg;have C7:=nG A1 hg;replace A1:=bB A1 hb;have C8:=nL A2 hg;have C9:=nG A2 hg;replace A2:=bB A2 hb;clear hb hbox hg;have k3:=C5.out;have k4:=C4.out;have k5:=C7.out;have k6:=C6.out;have k7:=C9.out;have k8:=C8.out;obtain ⟨S2,S3,S4,S5,S6,S7,S8,S9⟩:=cf4 A9;obtain ⟨E2,D9,eo165⟩:=Kd.R_slice B0.out;subst eo165;obtain ⟨T0,T1,T2,T3,T4,T5,T6,T7⟩:=cf4 A2) | (refine goK 17 (some 31) rfl Try.func17 #[.agg #[.int .i64 t231,.string t232,.int .i64 t233,.slice D6 t234.length D4],.agg #[.int .i64 t238,.string t239,.int .i64 t240,.slice E2 t241.length D9]] ?_;(with_reducible refine (impl_OccursIn.calls k t231 t232 t233 _ _ t234 t238 t239 t240 _ _ t241 t245 _ ?side1 ?side2 ?side3 ?side4 A24.out).mono ?_);(case side1=>refine (Kd.R_reads' (e:=29) (base:=w.heap.size) (ok:=fun k_=>(((((True∧some k_≠(.slice F9 t221.length G0:Value).ownBlock)∧some k_≠(.slice G1 t227.length G2:Value).ownBlock)∧k_≠A7)∧some k_≠(.slice E2 t241.length D9:Value).ownBlock)∧k_≠A4)) (n:=t234.length) (c:=D4) ?_).2.2;exact laws_FnExactOccursIn.a10);(case side2=>exact (Kd.R_reads' A8.out).2.1);(case side3=>refine (Kd.R_reads' (e:=29) (base:=w.heap.size) (ok:=fun k_=>(((((True∧some k_≠(.slice F9 t221.length G0:Value).ownBlock)∧some k_≠(.slice G1 t227.length G2:Value).ownBlock)∧some k_≠(.slice D6 t234.length D4:Value).ownBlock)∧k_≠A7)∧k_≠A4)) (n:=t241.length) (c:=D9) ?_).2.2;exact laws_FnExactOccursIn.a11);(case side4=>exact (Kd.R_reads' B0.out).2.1);rintro e w167 ⟨rfl,hb⟩;refine ⟨_,rfl,?_⟩;replace A5:=Aside0.mk (Kd.R_below (by (with_reducible repeat (first | apply Kd.R_alloc | apply Kd.R_drewN | apply Kd.R_drew));exact (Kd.R_mono (Kd.R_far (p:=⟨A4,3,none⟩) (Kd.R_far (p:=⟨A4,2,none⟩) (Kd.R_far (p:=⟨A4,1,none⟩) (Kd.R_far (p:=⟨A4,0,none⟩) (Kd.R_mono A5.out (fun k_ hk=>(⟨hk,hk.2⟩:_∧k_≠A4))) (fun _ hk=>hk.2) (.int .i64 t238)) (fun _ hk=>hk.2) (.string t239)) (fun _ hk=>hk.2) (.int .i64 t240)) (fun _ hk=>hk.2) (.slice E2 t241.length D9)) (fun _ h_=>h_.1))) hb);replace A6:=Aside0.mk (Kd.R_below (by (with_reducible repeat (first | apply Kd.R_alloc | apply Kd.R_drewN | apply Kd.R_drew));exact (Kd.R_mono (Kd.R_far (p:=⟨A4,3,none⟩) (Kd.R_far (p:=⟨A4,2,none⟩) (Kd.R_far (p:=⟨A4,1,none⟩) (Kd.R_far (p:=⟨A4,0,none⟩) (Kd.R_mono A6.out (fun k_ hk=>(⟨hk,hk.2⟩:_∧k_≠A4))) (fun _ hk=>hk.2) (.int .i64 t238)) (fun _ hk=>hk.2) (.string t239)) (fun _ hk=>hk.2) (.int .i64 t240)) (fun _ hk=>hk.2) (.slice E2 t241.length D9)) (fun _ h_=>h_.1))) hb);replace A8:=Aside0.mk (Kd.R_below laws_FnExactOccursIn.a10 hb);replace B0:=Aside0.mk (Kd.R_below laws_FnExactOccursIn.a11 hb);replace A0:=bB A0 hb;replace A1:=bB A1 hb;replace A2:=bB A2 hb;replace A9:=bP (o:=.cells #[.int .i64 t238,.string t239,.int .i64 t240,.slice E2 t241.length D9] 29 (0,0)) A9 hb;replace HB:=hS HB hb;(try clear hb);(try clear hb2);(try clear hk);(try clear hi)))
   replace A5:=Aside0.mk (Kd.R_drew A5.out)
   replace A6:=Aside0.mk (Kd.R_drew A6.out)
   replace A8:=Aside0.mk (Kd.R_drew A8.out)
   replace B0:=Aside0.mk (Kd.R_drew B0.out)
   replace A0:=Aside0.mk (blk_drew A0.out)
   replace A1:=Aside0.mk (blk_drew A1.out)
   replace A2:=Aside0.mk (blk_drew A2.out)
   replace A9:=Aside0.mk (blk_drew A9.out)
   replace HB:=Aside0.mk (below_drew1 HB.out)
   refine start_ (n:=5) (S:=fun w'=>w'.cell? ⟨A7,0,none⟩=some (.int .i64 t231)∧w'.cell? ⟨A7,1,none⟩=some (.string t232)∧w'.cell? ⟨A7,2,none⟩=some (.int .i64 t233)∧w'.cell? ⟨A7,3,none⟩=some (.slice D6 t234.length D4)∧w'.cell? ⟨B1,0,none⟩=some (.int .i64 a0_0)∧w'.cell? ⟨B1,1,none⟩=some (.string a0_1)∧w'.cell? ⟨B1,2,none⟩=some (.int .i64 a0_2)∧w'.cell? ⟨B1,3,none⟩=some (.slice A0_3 l0_3.length c0_3)) (ds:=[]) #[false,false,false,false,false] laws_FnExactOccursIn.a23 rfl rfl ⟨cz0 A2,cz1 A2,cz2 A2,cz3 A2,cz0 A0,cz1 A0,cz2 A0,cz3 A0⟩ (fun hHeld=> ?_)
   generalize w167.drew=w168 at A5 A6 A8 B0 A0 A1 A2 A9 HB hHeld ⊢
   refine takeK 0 35 rfl rfl hHeld ?_ laws_FnExactOccursIn.a1
   refine takeK 1 36 rfl rfl hHeld ?_ laws_FnExactOccursIn.a1
   refine one_ (i:=2) (N:=some 37) #[true,true,true,false,false] rfl rfl laws_FnExactOccursIn.a23 (by decide) (fun K hK=> ?_)
   refine goes_ Try.func13 laws_FnExactOccursIn.a23 rfl #[.agg #[.int .i64 a0_0,.string a0_1,.int .i64 a0_2,.slice A0_3 l0_3.length c0_3]] (by rfl) rfl rfl laws_FnExactOccursIn.a0 ?_
   with_reducible refine (laws_toTerm.calls k a0_0 a0_1 a0_2 _ _ l0_3 t246 t247 t248 t249 _ ?side1 ?side2 A56.out).mono ?_
   (case side1=>exact cB B6 HB)
   (case side2=>exact B7.out)
   rintro e w169 ⟨v250,rfl,ho0,hb⟩
   refine ⟨_,rfl,?_⟩
   have B2:=Aside0.mk (Kd.R_lower (Kd.R_newB (Kd.R_newB (Kd.R_new' (Kd.R_new' (Kd.R_new' (Kd.R_new' ho0 (Kd.R_lt (rV A5))) (Kd.R_lt (rV A6))) (Kd.R_lt (rV A8))) (Kd.R_lt (rV B0))) (g:=A7) (o:=.cells #[.int .i64 t231,.string t232,.int .i64 t233,.slice D6 t234.length D4] 29 (0,0)) (vB A2)) (g:=A4) (o:=.cells #[.int .i64 t238,.string t239,.int .i64 t240,.slice E2 t241.length D9] 29 (0,0)) (vB A9)) (below_size (hV HB)))
   replace A5:=rE A5 ho0 hb
   replace A6:=rE A6 ho0 hb
   replace A8:=rE A8 ho0 hb
   replace B0:=rE B0 ho0 hb
   replace A0:=bB A0 hb
   replace A1:=bB A1 hb
   replace A2:=bB A2 hb
   replace A9:=bB A9 hb
   replace HB:=hS HB hb
   (try clear hb)
   (try clear hb2)
   (try clear hk)
   (try clear hi)
   (try clear ho0)
   obtain ⟨H9,I0,eo170⟩:=Kd.R_slice B2.out
   (first | subst eo170 | (injection eo170 with f1_ f2_ f3_;have f4_:=f1_.symm;have f5_:=f3_.symm;clear f1_ f2_ f3_;subst f4_;subst f5_))
   refine hK.out _ _ ⟨cz0 A2,cz1 A2,cz2 A2,cz3 A2,cz0 A0,cz1 A0,cz2 A0,cz3 A0⟩ (fun hHeld=> ?_)
   clear hK K
   refine norm_ (a':=?_) ?_ ?_
   rotate_left
   ·show Act.put _ (some 37) _=_
    simp only [Act.put,List.setIfInBounds_toArray,List.set_cons_zero,List.set_cons_succ,i64_w,i32_w]
    rfl
   refine one_ (i:=3) (N:=some 38) #[true,true,true,true,false] rfl rfl laws_FnExactOccursIn.a23 (by decide) (fun K hK=> ?_)
   refine goes_ Try.func15 laws_FnExactOccursIn.a23 rfl #[.agg #[.int .i64 t231,.string t232,.int .i64 t233,.slice D6 t234.length D4],.agg #[.int .i64 t246,.string t247,.int .i64 t248,.slice H9 t249.length I0]] (by rfl) rfl rfl laws_FnExactOccursIn.a0 ?_
   with_reducible refine (laws_eqTerm.calls k t231 t232 t233 _ _ t234 t246 t247 t248 _ _ t249 false _ ?side1 ?side2 ?side3 ?side4 A57.out).mono ?_
   (case side1=>repeat (first | exact (Kd.R_reads' A8.out).2.2 | (with_reducible refine Kd.C_alloc ?_ _) | (with_reducible refine Kd.C_drewN ?_ _) | (with_reducible refine Kd.C_drew ?_)))
   (case side2=>exact (Kd.R_reads' A8.out).2.1)
   (case side3=>repeat (first | exact (Kd.R_reads' B2.out).2.2 | (with_reducible refine Kd.C_alloc ?_ _) | (with_reducible refine Kd.C_drewN ?_ _) | (with_reducible refine Kd.C_drew ?_)))
   (case side4=>exact (Kd.R_reads' B2.out).2.1)
   rintro e w171 ⟨rfl,hb⟩
   refine ⟨_,rfl,?_⟩
   replace A5:=rB A5 hb
   replace A6:=rB A6 hb
   replace A8:=rB A8 hb
   replace B0:=rB B0 hb
   replace B2:=rB B2 hb
   replace A0:=bB A0 hb
   replace A1:=bB A1 hb
   replace A2:=bB A2 hb
   replace A9:=bB A9 hb
   replace HB:=hS HB hb
   (try clear hb)
   (try clear hb2)
   (try clear hk)
   (try clear hi)
   refine hK.out _ _ ⟨cz0 A2,cz1 A2,cz2 A2,cz3 A2,cz0 A0,cz1 A0,cz2 A0,cz3 A0⟩ (fun hHeld=> ?_)
   clear hK K
   refine norm_ (a':=?_) ?_ ?_
   rotate_left
   ·show Act.put _ (some 38) _=_
    simp only [Act.put,List.setIfInBounds_toArray,List.set_cons_zero,List.set_cons_succ,i64_w,i32_w]
    rfl
   refine pureK 4 39 rfl rfl ?_
   refine done_ laws_FnExactOccursIn.a23 ?_
   try go_wp2
   go_ret
   exact ⟨laws_FnExactOccursIn.a22,hV HB⟩

end Go.Proofs.Ytcofpnddfmlafaa.Q

