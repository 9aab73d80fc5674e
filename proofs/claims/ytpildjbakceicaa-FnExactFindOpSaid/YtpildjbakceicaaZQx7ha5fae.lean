/- Functions of the program as plain Lean functions,and that the calls come to what they say. -/
import Derived.Test.YtpildjbakceicaaZQx0hb61c0
import Derived.Test.YtpildjbakceicaaZQx2hbf1bc
import Derived.Test.YtpildjbakceicaaZQx5h2a14b
import Derived.Test.YtpildjbakceicaaZQx6hca9c4
import Derived.Test.YtpildjbakceicaaZShorth7b252
namespace Go.Proofs.Ytpildjbakceicaa.Q
open Go.RowKit Go.Proofs.YtpildjbakceicaaW.PrintWords Go.Proofs.YtpildjbakceicaaW.PrintLast Go.Proofs.YtpildjbakceicaaW.PrintMore
attribute [local go_sem] max2_int min2_int max_two min_two max_three min_three max_four min_four   -- for this text's walks alone
set_option linter.unusedVariables false
set_option linter.unusedSimpArgs false

/-! ### spec_l4Axioms: function 26 -/
theorem spec_l4Axioms.a0 {P_:Prop} (h_:P_:=by first | rfl | (simp;done) | (simp [*];done)):P_:=h_
theorem spec_l4Axioms.a1 {P_:Prop} (h_:P_:=by first | rfl | (simp [errW_none,errW_some] <;> rfl) | (simp [*,errW_none,errW_some] <;> rfl)):P_:=h_
theorem spec_l4Axioms.a2 {P_:Prop} (h_:P_:=by have:=World.block_lt_of_cell? _ _ A5;first | rwa [add_block] at this | exact this):P_:=h_
theorem spec_l4Axioms.a3 {P_:Prop} (h_:P_:=by have:=World.block_lt_of_cell? _ _ A6;first | rwa [add_block] at this | exact this):P_:=h_
theorem spec_l4Axioms.a4 {P_:Prop} (h_:P_:=by have:=HJ4.out;have:=HJ21.out;first | omega | exact Nat.le_refl _):P_:=h_
theorem spec_l4Axioms.a5 {P_:Prop} (h_:P_:=by first | rfl | (simp [errW_none,errW_some] <;> rfl) | (simp only [← hji72];first | rfl | (simp [errW_none,errW_some] <;> rfl)) | (simp [*,errW_none,errW_some] <;> rfl)):P_:=h_
mutual
def spec_l4Axioms.j0:Nat→Bool→List ByteArray→List (S89)→List (S50)→ByteArray→List (S68)→Bool→Bool→Int→Option (Bool)
 | 0,_,_,_,_,_,_,_,_,_=>none
 | k + 1,x29,x186000,x186001,x186002,x188000,x188001,x188002,x188003,x188004=>if x29=true then (some true) else ((spec_l4Arity.f x188000 x188001 x188002 x188003 x188004).bind fun t188=>(if t188=2 then ((spec_l1In.f x188004 0 (x186002.length:Int)).bind fun t189=>(spec_l4Axioms.j1 k (!t189) x186000 x186001 x186002 x188000 x188001 x188002 x188003 x188004)) else (spec_l4Axioms.j1 k true x186000 x186001 x186002 x188000 x188001 x188002 x188003 x188004)))
def spec_l4Axioms.j1:Nat→Bool→List ByteArray→List (S89)→List (S50)→ByteArray→List (S68)→Bool→Bool→Int→Option (Bool)
 | 0,_,_,_,_,_,_,_,_,_=>none
 | k + 1,x41,x186000,x186001,x186002,x188000,x188001,x188002,x188003,x188004=>if x41=true then (some false) else ((spec_l3Kinds.f k x186000 x186001).bind fun t190=>(if 0 < (x188001.length:Int) then (if 0 < (((rd_T68 x188001 0).f0).length:Int) then (if 0≤(rd ((rd_T68 x188001 0).f0) 0) then (if (rd ((rd_T68 x188001 0).f0) 0) < (t190.length:Int) then (if 1 < (((rd_T68 x188001 0).f0).length:Int) then (if 0≤(rd ((rd_T68 x188001 0).f0) 1) then (if (rd ((rd_T68 x188001 0).f0) 1) < (t190.length:Int) then (if 0≤((rd_T68 x188001 0).f1) then (if ((rd_T68 x188001 0).f1) < (t190.length:Int) then (if (rd t190 (rd ((rd_T68 x188001 0).f0) 0))=(rd t190 (rd ((rd_T68 x188001 0).f0) 1)) then (if x188002=true then (spec_l4Axioms.j2 k t190 (rd t190 ((rd_T68 x188001 0).f1)) ((rd t190 (rd ((rd_T68 x188001 0).f0) 0)) != (rd t190 ((rd_T68 x188001 0).f1))) x186000 x186001 x186002 x188000 x188001 x188002 x188003 x188004) else (if x188004 > 0 then (spec_l4Axioms.j2 k t190 (rd t190 ((rd_T68 x188001 0).f1)) ((rd t190 (rd ((rd_T68 x188001 0).f0) 0)) != (rd t190 ((rd_T68 x188001 0).f1))) x186000 x186001 x186002 x188000 x188001 x188002 x188003 x188004) else (spec_l4Axioms.j2 k t190 (rd t190 ((rd_T68 x188001 0).f1)) false x186000 x186001 x186002 x188000 x188001 x188002 x188003 x188004))) else (spec_l4Axioms.j2 k t190 (rd t190 ((rd_T68 x188001 0).f1)) true x186000 x186001 x186002 x188000 x188001 x188002 x188003 x188004)) else (none)) else (none)) else (none)) else (none)) else (none)) else (none)) else (none)) else (none)) else (none)))
def spec_l4Axioms.j2:Nat→List Int→Int→Bool→List ByteArray→List (S89)→List (S50)→ByteArray→List (S68)→Bool→Bool→Int→Option (Bool)
 | 0,_,_,_,_,_,_,_,_,_,_,_=>none
 | k + 1,x6,x10,x84,x186000,x186001,x186002,x188000,x188001,x188002,x188003,x188004=>if x84=true then (some false) else (if x188004=0 then (some true) else (if 0≤(wrap64 (x188004 - 1)) then (if (wrap64 (x188004 - 1)) < (x186002.length:Int) then ((spec_l4Arity.f ((rd_T50 x186002 (wrap64 (x188004 - 1))).f0) ((rd_T50 x186002 (wrap64 (x188004 - 1))).f1) ((rd_T50 x186002 (wrap64 (x188004 - 1))).f2) ((rd_T50 x186002 (wrap64 (x188004 - 1))).f3) ((rd_T50 x186002 (wrap64 (x188004 - 1))).f4)).bind fun t202=>(if t202=0 then (if 0 < (((rd_T50 x186002 (wrap64 (x188004 - 1))).f1).length:Int) then (if 0≤((rd_T68 ((rd_T50 x186002 (wrap64 (x188004 - 1))).f1) 0).f1) then (if ((rd_T68 ((rd_T50 x186002 (wrap64 (x188004 - 1))).f1) 0).f1) < (x6.length:Int) then (some ((rd x6 ((rd_T68 ((rd_T50 x186002 (wrap64 (x188004 - 1))).f1) 0).f1)) == x10)) else (none)) else (none)) else (none)) else (some false))) else (none)) else (none)))
end
def spec_l4Axioms.f (k:Nat) (l0_0:List ByteArray) (l0_1:List (S89)) (l0_2:List (S50)) (a1:Int):Option (Bool):=if 0≤a1 then (if a1 < (l0_2.length:Int) then (if ((rd_T50 l0_2 a1).f2=true) then (spec_l4Axioms.j0 k false l0_0 l0_1 l0_2 ((rd_T50 l0_2 a1).f0) ((rd_T50 l0_2 a1).f1) ((rd_T50 l0_2 a1).f2) ((rd_T50 l0_2 a1).f3) ((rd_T50 l0_2 a1).f4)) else (if ((rd_T50 l0_2 a1).f3=true) then (spec_l4Axioms.j0 k false l0_0 l0_1 l0_2 ((rd_T50 l0_2 a1).f0) ((rd_T50 l0_2 a1).f1) ((rd_T50 l0_2 a1).f2) ((rd_T50 l0_2 a1).f3) ((rd_T50 l0_2 a1).f4)) else (spec_l4Axioms.j0 k (((rd_T50 l0_2 a1).f4) == 0) l0_0 l0_1 l0_2 ((rd_T50 l0_2 a1).f0) ((rd_T50 l0_2 a1).f1) ((rd_T50 l0_2 a1).f2) ((rd_T50 l0_2 a1).f3) ((rd_T50 l0_2 a1).f4)))) else (none)) else (none)
set_option maxHeartbeats 8000000 in
set_option maxRecDepth 100000 in
theorem spec_l4Axioms.calls (k:Nat) (A0_0:Option Addr) (c0_0:Nat) (l0_0:List ByteArray) (A0_1:Option Addr) (c0_1:Nat) (l0_1:List (S89)) (A0_2:Option Addr) (c0_2:Nat) (l0_2:List (S50)) (a1:Int) (r:Bool) (w:World) (hr0_0:Kd.C Kd.string w A0_0 l0_0.length l0_0) (hc0_0:l0_0.length≤c0_0) (hr0_1:Kd.C k89 w A0_1 l0_1.length l0_1) (hc0_1:l0_1.length≤c0_1) (hr0_2:Kd.C k50 w A0_2 l0_2.length l0_2) (hc0_2:l0_2.length≤c0_2) (h:spec_l4Axioms.f k l0_0 l0_1 l0_2 a1=some r) :
  Calls Try.prog 26 #[.agg #[.slice A0_0 l0_0.length c0_0,.slice A0_1 l0_1.length c0_1,.slice A0_2 l0_2.length c0_2],.int .i64 a1] w fun e w'=>e=.returned (.bool r)∧Below w.heap.size w w':=by
 have hu36:=Try.underlying36
 have hu50:=Try.underlying50
 have hu33:=Try.underlying33
 have hu68:=Try.underlying68
 have N4:=Aside0.mk hr0_0
 have N5:=Aside0.mk hc0_0
 clear hr0_0 hc0_0
 have N6:=Aside0.mk hr0_1
 have N7:=Aside0.mk hc0_1
 clear hr0_1 hc0_1
 have J5:=Aside0.mk hr0_2
 have l6:=Aside0.mk hc0_2
 clear hr0_2 hc0_2
 have HB:=Aside0.mk (Below.refl w.heap.size w)
 have H:(if 0≤a1 then (if a1 < (l0_2.length:Int) then (if ((rd_T50 l0_2 a1).f2=true) then (spec_l4Axioms.j0 k false l0_0 l0_1 l0_2 ((rd_T50 l0_2 a1).f0) ((rd_T50 l0_2 a1).f1) ((rd_T50 l0_2 a1).f2) ((rd_T50 l0_2 a1).f3) ((rd_T50 l0_2 a1).f4)) else (if ((rd_T50 l0_2 a1).f3=true) then (spec_l4Axioms.j0 k false l0_0 l0_1 l0_2 ((rd_T50 l0_2 a1).f0) ((rd_T50 l0_2 a1).f1) ((rd_T50 l0_2 a1).f2) ((rd_T50 l0_2 a1).f3) ((rd_T50 l0_2 a1).f4)) else (spec_l4Axioms.j0 k (((rd_T50 l0_2 a1).f4) == 0) l0_0 l0_1 l0_2 ((rd_T50 l0_2 a1).f0) ((rd_T50 l0_2 a1).f1) ((rd_T50 l0_2 a1).f2) ((rd_T50 l0_2 a1).f3) ((rd_T50 l0_2 a1).f4)))) else (none)) else (none))=some r:=h
 clear h
 by_cases c3:0≤a1
 rotate_left
 ·rw [if_neg c3] at H
  exact absurd H (by simp)

 rw [if_pos c3] at H
 have M0:=decide_eq_true c3
 clear c3
 by_cases c4:a1 < (l0_2.length:Int)
 rotate_left
 ·rw [if_neg c4] at H
  exact absurd H (by simp)
 rw [if_pos c4] at H
 have M1:=decide_eq_true c4
 clear c4
 have S6:=Aside0.mk H
 clear H
 go_enter Try.func26,Try.ntmps26
 go_upto_region 2 with (first | ((with_reducible refine gate_dst (N:=2) rfl ?_);(try (refine gate_guard (by rfl) ?_;dsimp only));refine bx 2 rfl #[.slice A0_0 l0_0.length c0_0,.slice A0_1 l0_1.length c0_1,.slice A0_2 l0_2.length c0_2] 36 ?_;intro J6 hg w6 hbox hb;have A1:=Aside0.mk (hbox);have T0:=hZ HB hg;have T1:=hZ HB hg;replace HB:=hS HB hb;clear hb hbox hg;obtain ⟨I7,I8,I9,J0,J1,J2⟩:=cf3 A1;have D9:0≤(a1:Int):=dT;have E0:a1 < (l0_2.length:Int):=dT;obtain ⟨F7,A186_1,c186_1,e186,C8,C9,D0,D1,D2,E1,E2⟩:=at_T50 J5.out a1 D9 E0;cases e186;replace C8:=xc HB C8;replace C9:=xc HB C9;replace D0:=xc HB D0;replace D1:=xc HB D1;replace D2:=xc HB D2;have D3:=Aside0.mk E2;have E3:=Aside0.mk E1;clear E2 E1;replace D9:=eq_true D9;replace E0:=eq_true E0) | ((with_reducible refine gate_dst (N:=5) rfl ?_);(try (refine gate_guard (by rfl) ?_;dsimp only));refine bx 5 rfl #[.string (⟨#[]⟩:ByteArray),.slice none 0 0,.bool false,.bool false,.int .i64 0] 50 ?_;intro J7 hg w8 hbox hb;have A0:=Aside0.mk (hbox);have T2:=hZ HB hg;have T3:=hZ HB hg;replace HB:=hS HB hb;have A8:=nL A1 hg;have A9:=nG A1 hg;replace A1:=bB A1 hb;clear hb hbox hg;have X3:=A9.out;have X4:=A8.out;obtain ⟨H1,H2,H3,H4,H5,H6,H7,H8,H9,I0⟩:=cf5 A0))
 repeat (go_quiet (fail);go_upto_region 2 with (first | ((with_reducible refine gate_dst (N:=2) rfl ?_);(try (refine gate_guard (by rfl) ?_;dsimp only));refine bx 2 rfl #[.slice A0_0 l0_0.length c0_0,.slice A0_1 l0_1.length c0_1,.slice (some F7) l0_2.length c0_2] 36 ?_;intro J6 hg w6 hbox hb;have A1:=Aside0.mk (hbox);have T0:=hZ HB hg;have T1:=hZ HB hg;replace HB:=hS HB hb;clear hb hbox hg;obtain ⟨I7,I8,I9,J0,J1,J2⟩:=cf3 A1;have D9:0≤(a1:Int):=dT;have E0:a1 < (l0_2.length:Int):=dT;obtain ⟨F7,A186_1,c186_1,e186,C8,C9,D0,D1,D2,E1,E2⟩:=at_T50 J5.out a1 D9 E0;cases e186;replace C8:=xc HB C8;replace C9:=xc HB C9;replace D0:=xc HB D0;replace D1:=xc HB D1;replace D2:=xc HB D2;have D3:=Aside0.mk E2;have E3:=Aside0.mk E1;clear E2 E1;replace D9:=eq_true D9;replace E0:=eq_true E0) | ((with_reducible refine gate_dst (N:=5) rfl ?_);(try (refine gate_guard (by rfl) ?_;dsimp only));refine bx 5 rfl #[.string (⟨#[]⟩:ByteArray),.slice none 0 0,.bool false,.bool false,.int .i64 0] 50 ?_;intro J7 hg w8 hbox hb;have A0:=Aside0.mk (hbox);have T2:=hZ HB hg;have T3:=hZ HB hg;replace HB:=hS HB hb;have A8:=nL A1 hg;have A9:=nG A1 hg;replace A1:=bB A1 hb;clear hb hbox hg;have X3:=A9.out;have X4:=A8.out;obtain ⟨H1,H2,H3,H4,H5,H6,H7,H8,H9,I0⟩:=cf5 A0)))
 (try simp only [Act.put,List.setIfInBounds_toArray,List.set_cons_zero,List.set_cons_succ])
 go_cut [29] (fun v29 wc=> ∃ (kq:Nat) (x29_4:Bool),v29=.bool x29_4∧Aside0 (spec_l4Axioms.j0 kq x29_4 l0_0 l0_1 l0_2 ((rd_T50 l0_2 a1).f0) ((rd_T50 l0_2 a1).f1) ((rd_T50 l0_2 a1).f2) ((rd_T50 l0_2 a1).f3) ((rd_T50 l0_2 a1).f4)=some r)∧Aside0 (kq≤k)∧Aside0 (wc.heap[J6]? = some (.cells #[(.slice A0_0 l0_0.length c0_0),(.slice A0_1 l0_1.length c0_1),(.slice (some F7) l0_2.length c0_2)] 36 (0,0)))∧Aside0 (wc.heap[J7]? = some (.cells #[.string ((rd_T50 l0_2 a1).f0),(.slice A186_1 ((rd_T50 l0_2 a1).f1).length c186_1),.bool ((rd_T50 l0_2 a1).f2),.bool ((rd_T50 l0_2 a1).f3),.int .i64 ((rd_T50 l0_2 a1).f4)] 50 (0,0)))∧Aside0 (Below w.heap.size w wc))
 case first=>
  have H:=S6.out
  clear S6
  obtain ⟨X5,hbq11⟩:∃ b_:Bool,b_=((rd_T50 l0_2 a1).f2):=⟨_,rfl⟩
  rw [← hbq11] at H
  have D5:=Aside0.mk hbq11
  clear hbq11
  (try rw [← D5.out])
  by_cases c12:(X5=true)
  ·subst c12
   rw [if_pos rfl] at H
   have H':=Aside0.mk H
   clear H
   have l7:=A9.out
   have l8:=A8.out
   obtain ⟨X8,X9,Y0,Y1,Y2,Y3,Y4,Y5,Y6,Y7⟩:=cf5 A0
   go_wp2
   repeat (go_quiet (fail);try go_wp2)
   go_meet
   case rel=>exact ⟨_,(false),spec_l4Axioms.a0,(by (try rw [← D5.out]);exact H'),⟨by first | omega | exact Nat.le_refl _⟩,⟨by (try rw [← D5.out]);exact vB A1⟩,⟨by (try rw [← D5.out]);exact vP A0⟩,⟨hV HB⟩⟩
  replace c12:=Bool.eq_false_iff.mpr c12
  subst c12
  rw [if_neg (show ¬ (false=true) by decide)] at H
  obtain ⟨X6,hbq15⟩:∃ b_:Bool,b_=((rd_T50 l0_2 a1).f3):=⟨_,rfl⟩
  rw [← hbq15] at H
  have F8:=Aside0.mk hbq15
  clear hbq15
  (try rw [← F8.out])
  by_cases c16:(X6=true)
  ·subst c16
   rw [if_pos rfl] at H
   have H':=Aside0.mk H
   clear H
   have l9:=A9.out
   have m0:=A8.out
   obtain ⟨Y8,Y9,Z0,Z1,Z2,Z3,Z4,Z5,Z6,Z7⟩:=cf5 A0
   go_wp2
   repeat (go_quiet (fail);try go_wp2)
   go_meet
   case rel=>exact ⟨_,(false),spec_l4Axioms.a0,(by (try rw [← D5.out]);(try rw [← F8.out]);exact H'),⟨by first | omega | exact Nat.le_refl _⟩,⟨by (try rw [← D5.out]);(try rw [← F8.out]);exact vB A1⟩,⟨by (try rw [← D5.out]);(try rw [← F8.out]);exact vP A0⟩,⟨hV HB⟩⟩
  replace c16:=Bool.eq_false_iff.mpr c16
  subst c16
  rw [if_neg (show ¬ (false=true) by decide)] at H
  have H':=Aside0.mk H
  clear H
  have m1:=A9.out
  have m2:=A8.out
  obtain ⟨Z8,Z9,a6,a7,a8,a9,b0,b1,b2,b3⟩:=cf5 A0
  go_wp2
  repeat (go_quiet (fail);try go_wp2)
  go_meet
  case rel=>exact ⟨_,((((rd_T50 l0_2 a1).f4) == 0)),spec_l4Axioms.a0,(by (try rw [← D5.out]);(try rw [← F8.out]);exact H'),⟨by first | omega | exact Nat.le_refl _⟩,⟨by (try rw [← D5.out]);(try rw [← F8.out]);exact vB A1⟩,⟨by (try rw [← D5.out]);(try rw [← F8.out]);exact vP A0⟩,⟨hV HB⟩⟩
 clear S6
 try clear c3
 try clear M0
 try clear c4
 try clear M1
 try clear H1
 try clear H3
 try clear H5
 try clear H7
 try clear H9
 try clear I7
 try clear I9
 try clear J1
 try clear H2
 try clear H4
 try clear H6
 try clear H8
 try clear I0
 try clear I8
 try clear J0
 try clear J2
 try clear C8
 try clear C9
 try clear D0
 try clear D1
 try clear D2
 try clear D9
 try clear E0
 obtain ⟨kq,x29_4,rfl,HA,HJ4,A1,A0,HB⟩:=hcut
 cases kq with
 | zero=>exact absurd HA.out (by simp [spec_l4Axioms.j0])
 | succ kj4=>
  have H:=HA.out
  clear HA
  simp only [spec_l4Axioms.j0] at H
  by_cases c21:x29_4=true
  ·subst c21
   rw [if_pos rfl] at H
   obtain rfl:=Option.some.inj H
   go_wp2
   repeat (go_quiet (fail);try go_wp2)
   go_ret
   exact ⟨spec_l4Axioms.a1,hV HB⟩
  replace c21:=Bool.eq_false_iff.mpr c21
  subst c21
  rw [if_neg (show ¬ (false=true) by decide)] at H
  have M2:=Aside0.mk H
  clear H
  go_upto_region 4 with (fail)
  repeat (go_quiet (fail);go_upto_region 4 with (fail))
  go_cut [41] (fun v41 wc=> ∃ (kq:Nat) (x41_21:Bool),v41=.bool x41_21∧Aside0 (spec_l4Axioms.j1 kq x41_21 l0_0 l0_1 l0_2 ((rd_T50 l0_2 a1).f0) ((rd_T50 l0_2 a1).f1) ((rd_T50 l0_2 a1).f2) ((rd_T50 l0_2 a1).f3) ((rd_T50 l0_2 a1).f4)=some r)∧Aside0 (kq≤kj4)∧Aside0 (wc.heap[J6]? = some (.cells #[(.slice A0_0 l0_0.length c0_0),(.slice A0_1 l0_1.length c0_1),(.slice (some F7) l0_2.length c0_2)] 36 (0,0)))∧Aside0 (wc.heap[J7]? = some (.cells #[.string ((rd_T50 l0_2 a1).f0),(.slice A186_1 ((rd_T50 l0_2 a1).f1).length c186_1),.bool ((rd_T50 l0_2 a1).f2),.bool ((rd_T50 l0_2 a1).f3),.int .i64 ((rd_T50 l0_2 a1).f4)] 50 (0,0)))∧Aside0 (Below w.heap.size w wc))
  case first=>
   have H:=M2.out
   clear M2
   replace H:=Option.bind_eq_some_iff.mp H
   obtain ⟨t188,A230,H⟩:=H
   replace H:(if t188=2 then ((spec_l1In.f ((rd_T50 l0_2 a1).f4) 0 (l0_2.length:Int)).bind fun t189=>(spec_l4Axioms.j1 kj4 (!t189) l0_0 l0_1 l0_2 ((rd_T50 l0_2 a1).f0) ((rd_T50 l0_2 a1).f1) ((rd_T50 l0_2 a1).f2) ((rd_T50 l0_2 a1).f3) ((rd_T50 l0_2 a1).f4))) else (spec_l4Axioms.j1 kj4 true l0_0 l0_1 l0_2 ((rd_T50 l0_2 a1).f0) ((rd_T50 l0_2 a1).f1) ((rd_T50 l0_2 a1).f2) ((rd_T50 l0_2 a1).f3) ((rd_T50 l0_2 a1).f4)))=some r:=H
   have A23:=Aside0.mk A230
   clear A230
   by_cases c24:t188=2
   ·rw [if_pos c24] at H
    have J3:(t188 == 2)=true:=beq_iff_eq.mpr c24
    have T4:(t188 != 2)=false:=bne_eq_false_iff_eq.mpr c24
    clear c24
    (first | rw [J3] | (simp only [i64_w,i32_w];rw [J3]) | skip)
    replace H:=Option.bind_eq_some_iff.mp H
    obtain ⟨t189,A250,H⟩:=H
    replace H:(spec_l4Axioms.j1 kj4 (!t189) l0_0 l0_1 l0_2 ((rd_T50 l0_2 a1).f0) ((rd_T50 l0_2 a1).f1) ((rd_T50 l0_2 a1).f2) ((rd_T50 l0_2 a1).f3) ((rd_T50 l0_2 a1).f4))=some r:=H
    have A25:=Aside0.mk A250
    clear A250
    have H':=Aside0.mk H
    clear H
    have m3:=A9.out
    have m4:=A8.out
    obtain ⟨b4,b5,b6,b7,b8,b9,c0,c1,c2,c5⟩:=cf5 A0
    go_wp2_with (first | (go_at_call 36;(with_reducible refine (spec_l4Arity.calls ((rd_T50 l0_2 a1).f0) _ _ ((rd_T50 l0_2 a1).f1) ((rd_T50 l0_2 a1).f2) ((rd_T50 l0_2 a1).f3) ((rd_T50 l0_2 a1).f4) t188 _ ?side1 ?side2 A23.out).mono ?_);(case side1=>exact cB D3 HB);(case side2=>exact E3.out);rintro e w28 ⟨rfl,hb⟩;replace A1:=bB A1 hb;replace A0:=bB A0 hb;replace HB:=hS HB hb;(try clear hb);(try clear hb2);(try clear hk);(try clear hi);obtain ⟨O0,O1,O2,O3,O4,O5,O6,O7,O8,O9⟩:=cf5 A0;obtain ⟨P0,P1,P2,P3,P4,P5⟩:=cf3 A1) | (go_at_call 35;(with_reducible refine (spec_l1In.calls ((rd_T50 l0_2 a1).f4) 0 (l0_2.length:Int) t189 _ A25.out).mono ?_);rintro e w' ⟨rfl,⟨nd,rfl⟩⟩;(try first | exact ⟨rfl,_,World.drewN_drewN _ _ _⟩ | exact ⟨rfl,_,Eq.trans (World.drewN_drewN _ _ _) (congrArg (World.drewN _) (Nat.add_assoc _ _ _))⟩)))
    repeat (go_quiet (first | (go_at_call 35;(with_reducible refine (spec_l1In.calls ((rd_T50 l0_2 a1).f4) 0 (l0_2.length:Int) t189 _ A25.out).mono ?_);rintro e w' ⟨rfl,⟨nd,rfl⟩⟩;(try first | exact ⟨rfl,_,World.drewN_drewN _ _ _⟩ | exact ⟨rfl,_,Eq.trans (World.drewN_drewN _ _ _) (congrArg (World.drewN _) (Nat.add_assoc _ _ _))⟩)));try go_wp2_with (first | (go_at_call 36;(with_reducible refine (spec_l4Arity.calls ((rd_T50 l0_2 a1).f0) _ _ ((rd_T50 l0_2 a1).f1) ((rd_T50 l0_2 a1).f2) ((rd_T50 l0_2 a1).f3) ((rd_T50 l0_2 a1).f4) t188 _ ?side1 ?side2 A23.out).mono ?_);(case side1=>exact cB D3 HB);(case side2=>exact E3.out);rintro e w28 ⟨rfl,hb⟩;replace A1:=bB A1 hb;replace A0:=bB A0 hb;replace HB:=hS HB hb;(try clear hb);(try clear hb2);(try clear hk);(try clear hi);obtain ⟨O0,O1,O2,O3,O4,O5,O6,O7,O8,O9⟩:=cf5 A0;obtain ⟨P0,P1,P2,P3,P4,P5⟩:=cf3 A1) | (go_at_call 35;(with_reducible refine (spec_l1In.calls ((rd_T50 l0_2 a1).f4) 0 (l0_2.length:Int) t189 _ A25.out).mono ?_);rintro e w' ⟨rfl,⟨nd,rfl⟩⟩;(try first | exact ⟨rfl,_,World.drewN_drewN _ _ _⟩ | exact ⟨rfl,_,Eq.trans (World.drewN_drewN _ _ _) (congrArg (World.drewN _) (Nat.add_assoc _ _ _))⟩))))
    go_meet
    case rel=>exact ⟨_,(!t189),spec_l4Axioms.a0,H',⟨by have:=HJ4.out;first | omega | exact Nat.le_refl _⟩,⟨vB A1⟩,⟨vB A0⟩,⟨hV HB⟩⟩
   ·rw [if_neg c24] at H
    have J3:(t188 == 2)=false:=beq_eq_false_iff_ne.mpr c24
    have T4:(t188 != 2)=true:=bne_iff_ne.mpr c24
    (first | rw [J3] | (simp only [i64_w,i32_w];rw [J3]) | skip)
    have H':=Aside0.mk H
    clear H
    have m5:=A9.out
    have m6:=A8.out
    obtain ⟨c6,c7,c8,c9,d0,d1,d2,d3,d4,d5⟩:=cf5 A0
    go_wp2_with (first | (go_at_call 36;(with_reducible refine (spec_l4Arity.calls ((rd_T50 l0_2 a1).f0) _ _ ((rd_T50 l0_2 a1).f1) ((rd_T50 l0_2 a1).f2) ((rd_T50 l0_2 a1).f3) ((rd_T50 l0_2 a1).f4) t188 _ ?side1 ?side2 A23.out).mono ?_);(case side1=>exact cB D3 HB);(case side2=>exact E3.out);rintro e w33 ⟨rfl,hb⟩;replace A1:=bB A1 hb;replace A0:=bB A0 hb;replace HB:=hS HB hb;(try clear hb);(try clear hb2);(try clear hk);(try clear hi)))
    repeat (go_quiet (fail);try go_wp2_with (first | (go_at_call 36;(with_reducible refine (spec_l4Arity.calls ((rd_T50 l0_2 a1).f0) _ _ ((rd_T50 l0_2 a1).f1) ((rd_T50 l0_2 a1).f2) ((rd_T50 l0_2 a1).f3) ((rd_T50 l0_2 a1).f4) t188 _ ?side1 ?side2 A23.out).mono ?_);(case side1=>exact cB D3 HB);(case side2=>exact E3.out);rintro e w33 ⟨rfl,hb⟩;replace A1:=bB A1 hb;replace A0:=bB A0 hb;replace HB:=hS HB hb;(try clear hb);(try clear hb2);(try clear hk);(try clear hi))))
    go_meet
    case rel=>exact ⟨_,(true),spec_l4Axioms.a0,H',⟨by have:=HJ4.out;first | omega | exact Nat.le_refl _⟩,⟨vB A1⟩,⟨vB A0⟩,⟨hV HB⟩⟩
  clear M2
  try clear c3
  try clear M0
  try clear c4
  try clear M1
  try clear c21
  try clear H1
  try clear H3
  try clear H5
  try clear H7
  try clear H9
  try clear I7
  try clear I9
  try clear J1
  try clear H2
  try clear H4
  try clear H6
  try clear H8
  try clear I0
  try clear I8
  try clear J0
  try clear J2
  try clear C8
  try clear C9
  try clear D0
  try clear D1
  try clear D2
  try clear D9
  try clear E0
  obtain ⟨kq,x41_21,rfl,HA,HJ21,A1,A0,HB⟩:=hcut
  cases kq with
  | zero=>exact absurd HA.out (by simp [spec_l4Axioms.j1])
  | succ kj21=>
   have H:=HA.out
   clear HA
   simp only [spec_l4Axioms.j1] at H
   by_cases c34:x41_21=true
   ·subst c34
    rw [if_pos rfl] at H
    obtain rfl:=Option.some.inj H
    go_wp2
    repeat (go_quiet (fail);try go_wp2)
    go_ret
    exact ⟨spec_l4Axioms.a1,hV HB⟩
   replace c34:=Bool.eq_false_iff.mpr c34
   subst c34
   rw [if_neg (show ¬ (false=true) by decide)] at H
   replace H:=Option.bind_eq_some_iff.mp H
   obtain ⟨t190,A350,H⟩:=H
   replace H:(if 0 < (((rd_T50 l0_2 a1).f1).length:Int) then (if 0 < (((rd_T68 ((rd_T50 l0_2 a1).f1) 0).f0).length:Int) then (if 0≤(rd ((rd_T68 ((rd_T50 l0_2 a1).f1) 0).f0) 0) then (if (rd ((rd_T68 ((rd_T50 l0_2 a1).f1) 0).f0) 0) < (t190.length:Int) then (if 1 < (((rd_T68 ((rd_T50 l0_2 a1).f1) 0).f0).length:Int) then (if 0≤(rd ((rd_T68 ((rd_T50 l0_2 a1).f1) 0).f0) 1) then (if (rd ((rd_T68 ((rd_T50 l0_2 a1).f1) 0).f0) 1) < (t190.length:Int) then (if 0≤((rd_T68 ((rd_T50 l0_2 a1).f1) 0).f1) then (if ((rd_T68 ((rd_T50 l0_2 a1).f1) 0).f1) < (t190.length:Int) then (if (rd t190 (rd ((rd_T68 ((rd_T50 l0_2 a1).f1) 0).f0) 0))=(rd t190 (rd ((rd_T68 ((rd_T50 l0_2 a1).f1) 0).f0) 1)) then (if ((rd_T50 l0_2 a1).f2)=true then (spec_l4Axioms.j2 kj21 t190 (rd t190 ((rd_T68 ((rd_T50 l0_2 a1).f1) 0).f1)) ((rd t190 (rd ((rd_T68 ((rd_T50 l0_2 a1).f1) 0).f0) 0)) != (rd t190 ((rd_T68 ((rd_T50 l0_2 a1).f1) 0).f1))) l0_0 l0_1 l0_2 ((rd_T50 l0_2 a1).f0) ((rd_T50 l0_2 a1).f1) ((rd_T50 l0_2 a1).f2) ((rd_T50 l0_2 a1).f3) ((rd_T50 l0_2 a1).f4)) else (if ((rd_T50 l0_2 a1).f4) > 0 then (spec_l4Axioms.j2 kj21 t190 (rd t190 ((rd_T68 ((rd_T50 l0_2 a1).f1) 0).f1)) ((rd t190 (rd ((rd_T68 ((rd_T50 l0_2 a1).f1) 0).f0) 0)) != (rd t190 ((rd_T68 ((rd_T50 l0_2 a1).f1) 0).f1))) l0_0 l0_1 l0_2 ((rd_T50 l0_2 a1).f0) ((rd_T50 l0_2 a1).f1) ((rd_T50 l0_2 a1).f2) ((rd_T50 l0_2 a1).f3) ((rd_T50 l0_2 a1).f4)) else (spec_l4Axioms.j2 kj21 t190 (rd t190 ((rd_T68 ((rd_T50 l0_2 a1).f1) 0).f1)) false l0_0 l0_1 l0_2 ((rd_T50 l0_2 a1).f0) ((rd_T50 l0_2 a1).f1) ((rd_T50 l0_2 a1).f2) ((rd_T50 l0_2 a1).f3) ((rd_T50 l0_2 a1).f4)))) else (spec_l4Axioms.j2 kj21 t190 (rd t190 ((rd_T68 ((rd_T50 l0_2 a1).f1) 0).f1)) true l0_0 l0_1 l0_2 ((rd_T50 l0_2 a1).f0) ((rd_T50 l0_2 a1).f1) ((rd_T50 l0_2 a1).f2) ((rd_T50 l0_2 a1).f3) ((rd_T50 l0_2 a1).f4))) else (none)) else (none)) else (none)) else (none)) else (none)) else (none)) else (none)) else (none)) else (none))=some r:=H
   have A35:=Aside0.mk A350
   clear A350
   by_cases c36:0 < (((rd_T50 l0_2 a1).f1).length:Int)
   rotate_left
   ·rw [if_neg c36] at H
    exact absurd H (by simp)
   rw [if_pos c36] at H
   have T5:=decide_eq_true c36
   have T6:decide (0 < ((rd_T50 l0_2 a1).f1).length)=true:=decide_eq_true (by omega)
   clear c36
   by_cases c37:0 < (((rd_T68 ((rd_T50 l0_2 a1).f1) 0).f0).length:Int)
   rotate_left
   ·rw [if_neg c37] at H
    exact absurd H (by simp)
   rw [if_pos c37] at H
   have T7:=decide_eq_true c37
   have T8:decide (0 < ((rd_T68 ((rd_T50 l0_2 a1).f1) 0).f0).length)=true:=decide_eq_true (by omega)
   clear c37
   by_cases c38:0≤(rd ((rd_T68 ((rd_T50 l0_2 a1).f1) 0).f0) 0)
   rotate_left
   ·rw [if_neg c38] at H
    exact absurd H (by simp)
   rw [if_pos c38] at H
   have T9:=decide_eq_true c38
   clear c38
   by_cases c39:(rd ((rd_T68 ((rd_T50 l0_2 a1).f1) 0).f0) 0) < (t190.length:Int)
   rotate_left
   ·rw [if_neg c39] at H
    exact absurd H (by simp)
   rw [if_pos c39] at H
   have U0:=decide_eq_true c39
   clear c39
   by_cases c40:1 < (((rd_T68 ((rd_T50 l0_2 a1).f1) 0).f0).length:Int)
   rotate_left
   ·rw [if_neg c40] at H
    exact absurd H (by simp)
   rw [if_pos c40] at H
   have U1:=decide_eq_true c40
   have U2:decide (1 < ((rd_T68 ((rd_T50 l0_2 a1).f1) 0).f0).length)=true:=decide_eq_true (by omega)
   clear c40
   by_cases c41:0≤(rd ((rd_T68 ((rd_T50 l0_2 a1).f1) 0).f0) 1)
   rotate_left
   ·rw [if_neg c41] at H
    exact absurd H (by simp)
   rw [if_pos c41] at H
   have U3:=decide_eq_true c41
   clear c41
   by_cases c42:(rd ((rd_T68 ((rd_T50 l0_2 a1).f1) 0).f0) 1) < (t190.length:Int)
   rotate_left
   ·rw [if_neg c42] at H
    exact absurd H (by simp)
   rw [if_pos c42] at H
   have U4:=decide_eq_true c42
   clear c42
   by_cases c43:0≤((rd_T68 ((rd_T50 l0_2 a1).f1) 0).f1)
   rotate_left
   ·rw [if_neg c43] at H
    exact absurd H (by simp)
   rw [if_pos c43] at H
   have U5:=decide_eq_true c43
   clear c43
   by_cases c44:((rd_T68 ((rd_T50 l0_2 a1).f1) 0).f1) < (t190.length:Int)
   rotate_left
   ·rw [if_neg c44] at H
    exact absurd H (by simp)
   rw [if_pos c44] at H
   have U6:=decide_eq_true c44
   clear c44
   have M3:=Aside0.mk H
   clear H
   have m7:=A8.out
   have m8:=A9.out
   obtain ⟨P6,P7,P8,P9,Q0,Q1⟩:=cf3 A1
   go_upto_region 9 with (first | (go_at_call 51;(with_reducible refine (spec_l3Kinds.calls kj21 _ _ l0_0 _ _ l0_1 t190 _ ?side1 ?side2 ?side3 ?side4 A35.out).mono ?_);(case side1=>exact cB N4 HB);(case side2=>exact N5.out);(case side3=>exact cB N6 HB);(case side4=>exact N7.out);rintro e w48 ⟨v191,rfl,ho0,hb⟩;have A7:=rL ho0 HB;replace A1:=bB A1 hb;replace A0:=bB A0 hb;replace HB:=hS HB hb;(try clear hb);(try clear hb2);(try clear hk);(try clear hi);(try clear ho0);obtain ⟨J8,J9,K0,K1,K2,K3,K4,K5,K6,K7⟩:=cf5 A0;have F9:0≤(0:Int):=(by omega);have G0:0 < (((rd_T50 l0_2 a1).f1).length:Int):=dT;obtain ⟨N8,A193_0,c193_0,e193,B2,B3,E4,E5⟩:=at_T68 D3.out 0 F9 G0;cases e193;have U7:(0 < ((rd_T50 l0_2 a1).f1).length)=True:=eq_true (by omega);(try rw [show ((0:Int)).toNat=0 from rfl] at B2);(try rw [show 0 * 2=0 from rfl] at B2);(try rw [Addr.add_zero'] at B2);(try rw [show ((0:Int)).toNat=0 from rfl] at B3);(try rw [show 0 * 2=0 from rfl] at B3);(try rw [Addr.add_zero'] at B3);replace B2:=xc HB B2;replace B3:=xc HB B3;have E6:=Aside0.mk E5;have Q2:=Aside0.mk E4;clear E5 E4;replace F9:=eq_true F9;replace G0:=eq_true G0) | ((with_reducible refine gate_dst (N:=7) rfl ?_);(try (refine gate_guard (by rfl) ?_;dsimp only));refine bx 7 rfl #[.slice none 0 0,.int .i64 0] 68 ?_;intro A2 hg w50 hbox hb;replace A7:=rB A7 hb;have A3:=Aside0.mk (hbox);have D8:=hZ HB hg;have U8:=hZ HB hg;replace HB:=hS HB hb;have D6:=nL A1 hg;have D7:=nG A1 hg;replace A1:=bB A1 hb;have B7:=nL A0 hg;have B8:=nG A0 hg;replace A0:=bB A0 hb;clear hb hbox hg;have U9:=D7.out;have V0:=D6.out;have V1:=B8.out;have V2:=B7.out;obtain ⟨K8,K9,L0,L1⟩:=cf2 A3;have G1:0≤(0:Int):=(by omega);have G2:0 < (((rd_T68 ((rd_T50 l0_2 a1).f1) 0).f0).length:Int):=dT;obtain ⟨A4,e195,A5⟩:=Kd.at_int E6.out 0 G1 G2;cases e195;have V3:(0 < ((rd_T68 ((rd_T50 l0_2 a1).f1) 0).f0).length)=True:=eq_true (by omega);(try rw [show ((0:Int)).toNat=0 from rfl] at A5);(try rw [Addr.add_zero'] at A5);have hn195_0:A4.block≠A2:=Nat.ne_of_lt (Nat.lt_of_lt_of_le spec_l4Axioms.a2 D8.out);have hn195_1:A4.block≠A2:=Nat.ne_of_lt (Nat.lt_of_lt_of_le spec_l4Axioms.a2 D8.out);replace A5:=xc HB A5;replace A5:=(cell_far (p:=⟨A2,0,none⟩) (by first | (rw [add_block];exact hn195_0) | (show (Addr.add _ _).block≠_;rw [add_block];exact hn195_0) | exact hn195_0) (.slice (some A4) ((rd_T68 ((rd_T50 l0_2 a1).f1) 0).f0).length c193_0)).trans A5;replace A5:=(cell_far (p:=⟨A2,1,none⟩) (by first | (rw [add_block];exact hn195_1) | (show (Addr.add _ _).block≠_;rw [add_block];exact hn195_1) | exact hn195_1) (.int .i64 ((rd_T68 ((rd_T50 l0_2 a1).f1) 0).f1))).trans A5;(try have hy195_0:=fun (n_:Nat)=>(show ((((w50.drewN n_).setCell ⟨A2,0,none⟩ (.slice (some A4) ((rd_T68 ((rd_T50 l0_2 a1).f1) 0).f0).length c193_0)).setCell ⟨A2,1,none⟩ (.int .i64 ((rd_T68 ((rd_T50 l0_2 a1).f1) 0).f1)))).cell? _=some _ from A5));clear hn195_0;clear hn195_1;replace G1:=eq_true G1;replace G2:=eq_true G2;obtain ⟨X7,S7,eo54⟩:=Kd.R_slice A7.out;subst eo54;have G3:0≤((rd ((rd_T68 ((rd_T50 l0_2 a1).f1) 0).f0) 0):Int):=dT;have G4:(rd ((rd_T68 ((rd_T50 l0_2 a1).f1) 0).f0) 0) < (t190.length:Int):=dT;obtain ⟨B1,e196,B4⟩:=Kd.at_int (Kd.R_reads' A7.out).2.2 (rd ((rd_T68 ((rd_T50 l0_2 a1).f1) 0).f0) 0) G3 G4;cases e196;have hn196_0:B1.block≠A2:=Kd.own_blk (Kd.R_ne A7.out A3.out (by decide));have hn196_1:B1.block≠A2:=Kd.own_blk (Kd.R_ne A7.out A3.out (by decide));replace B4:=(cell_far (p:=⟨A2,0,none⟩) (by first | (rw [add_block];exact hn196_0) | (show (Addr.add _ _).block≠_;rw [add_block];exact hn196_0) | exact hn196_0) (.slice (some A4) ((rd_T68 ((rd_T50 l0_2 a1).f1) 0).f0).length c193_0)).trans B4;replace B4:=(cell_far (p:=⟨A2,1,none⟩) (by first | (rw [add_block];exact hn196_1) | (show (Addr.add _ _).block≠_;rw [add_block];exact hn196_1) | exact hn196_1) (.int .i64 ((rd_T68 ((rd_T50 l0_2 a1).f1) 0).f1))).trans B4;(try have hy196_0:=fun (n_:Nat)=>(show ((((w50.drewN n_).setCell ⟨A2,0,none⟩ (.slice (some A4) ((rd_T68 ((rd_T50 l0_2 a1).f1) 0).f0).length c193_0)).setCell ⟨A2,1,none⟩ (.int .i64 ((rd_T68 ((rd_T50 l0_2 a1).f1) 0).f1)))).cell? _=some _ from B4));clear hn196_0;clear hn196_1;replace G3:=eq_true G3;replace G4:=eq_true G4;have G5:0≤(1:Int):=(by omega);have G6:1 < (((rd_T68 ((rd_T50 l0_2 a1).f1) 0).f0).length:Int):=dT;obtain ⟨L2,e197,A6⟩:=Kd.at_int E6.out 1 G5 G6;obtain rfl:A4=L2:=(by injection e197);(try simp only [show (1:Int).toNat=1 from rfl,Nat.reduceMul,Nat.reduceEqDiff,Go.Addr.add,↓reduceIte] at A6);have V4:(1 < ((rd_T68 ((rd_T50 l0_2 a1).f1) 0).f0).length)=True:=eq_true (by omega);(try rw [show ((1:Int)).toNat=1 from rfl] at A6);have hn197_0:A4.block≠A2:=Nat.ne_of_lt (Nat.lt_of_lt_of_le spec_l4Axioms.a3 D8.out);have hn197_1:A4.block≠A2:=Nat.ne_of_lt (Nat.lt_of_lt_of_le spec_l4Axioms.a3 D8.out);replace A6:=xc HB A6;replace A6:=(cell_far (p:=⟨A2,0,none⟩) (by first | (rw [add_block];exact hn197_0) | (show (Addr.add _ _).block≠_;rw [add_block];exact hn197_0) | exact hn197_0) (.slice (some A4) ((rd_T68 ((rd_T50 l0_2 a1).f1) 0).f0).length c193_0)).trans A6;replace A6:=(cell_far (p:=⟨A2,1,none⟩) (by first | (rw [add_block];exact hn197_1) | (show (Addr.add _ _).block≠_;rw [add_block];exact hn197_1) | exact hn197_1) (.int .i64 ((rd_T68 ((rd_T50 l0_2 a1).f1) 0).f1))).trans A6;(try have hy197_0:=fun (n_:Nat)=>(show ((((w50.drewN n_).setCell ⟨A2,0,none⟩ (.slice (some A4) ((rd_T68 ((rd_T50 l0_2 a1).f1) 0).f0).length c193_0)).setCell ⟨A2,1,none⟩ (.int .i64 ((rd_T68 ((rd_T50 l0_2 a1).f1) 0).f1)))).cell? _=some _ from A6));clear hn197_0;clear hn197_1;replace G5:=eq_true G5;replace G6:=eq_true G6;have G7:0≤((rd ((rd_T68 ((rd_T50 l0_2 a1).f1) 0).f0) 1):Int):=dT;have G8:(rd ((rd_T68 ((rd_T50 l0_2 a1).f1) 0).f0) 1) < (t190.length:Int):=dT;obtain ⟨L3,e198,B5⟩:=Kd.at_int (Kd.R_reads' A7.out).2.2 (rd ((rd_T68 ((rd_T50 l0_2 a1).f1) 0).f0) 1) G7 G8;obtain rfl:B1=L3:=(by injection e198);have hn198_0:B1.block≠A2:=Kd.own_blk (Kd.R_ne A7.out A3.out (by decide));have hn198_1:B1.block≠A2:=Kd.own_blk (Kd.R_ne A7.out A3.out (by decide));replace B5:=(cell_far (p:=⟨A2,0,none⟩) (by first | (rw [add_block];exact hn198_0) | (show (Addr.add _ _).block≠_;rw [add_block];exact hn198_0) | exact hn198_0) (.slice (some A4) ((rd_T68 ((rd_T50 l0_2 a1).f1) 0).f0).length c193_0)).trans B5;replace B5:=(cell_far (p:=⟨A2,1,none⟩) (by first | (rw [add_block];exact hn198_1) | (show (Addr.add _ _).block≠_;rw [add_block];exact hn198_1) | exact hn198_1) (.int .i64 ((rd_T68 ((rd_T50 l0_2 a1).f1) 0).f1))).trans B5;(try have hy198_0:=fun (n_:Nat)=>(show ((((w50.drewN n_).setCell ⟨A2,0,none⟩ (.slice (some A4) ((rd_T68 ((rd_T50 l0_2 a1).f1) 0).f0).length c193_0)).setCell ⟨A2,1,none⟩ (.int .i64 ((rd_T68 ((rd_T50 l0_2 a1).f1) 0).f1)))).cell? _=some _ from B5));clear hn198_0;clear hn198_1;replace G7:=eq_true G7;replace G8:=eq_true G8;have G9:0≤(((rd_T68 ((rd_T50 l0_2 a1).f1) 0).f1):Int):=dT;have H0:((rd_T68 ((rd_T50 l0_2 a1).f1) 0).f1) < (t190.length:Int):=dT;obtain ⟨L4,e199,B6⟩:=Kd.at_int (Kd.R_reads' A7.out).2.2 ((rd_T68 ((rd_T50 l0_2 a1).f1) 0).f1) G9 H0;obtain rfl:B1=L4:=(by injection e199);have hn199_0:B1.block≠A2:=Kd.own_blk (Kd.R_ne A7.out A3.out (by decide));have hn199_1:B1.block≠A2:=Kd.own_blk (Kd.R_ne A7.out A3.out (by decide));replace B6:=(cell_far (p:=⟨A2,0,none⟩) (by first | (rw [add_block];exact hn199_0) | (show (Addr.add _ _).block≠_;rw [add_block];exact hn199_0) | exact hn199_0) (.slice (some A4) ((rd_T68 ((rd_T50 l0_2 a1).f1) 0).f0).length c193_0)).trans B6;replace B6:=(cell_far (p:=⟨A2,1,none⟩) (by first | (rw [add_block];exact hn199_1) | (show (Addr.add _ _).block≠_;rw [add_block];exact hn199_1) | exact hn199_1) (.int .i64 ((rd_T68 ((rd_T50 l0_2 a1).f1) 0).f1))).trans B6;(try have hy199_0:=fun (n_:Nat)=>(show ((((w50.drewN n_).setCell ⟨A2,0,none⟩ (.slice (some A4) ((rd_T68 ((rd_T50 l0_2 a1).f1) 0).f0).length c193_0)).setCell ⟨A2,1,none⟩ (.int .i64 ((rd_T68 ((rd_T50 l0_2 a1).f1) 0).f1)))).cell? _=some _ from B6));clear hn199_0;clear hn199_1;replace G9:=eq_true G9;replace H0:=eq_true H0))
   repeat (go_quiet (fail);go_upto_region 9 with (first | (go_at_call 51;(with_reducible refine (spec_l3Kinds.calls kj21 _ _ l0_0 _ _ l0_1 t190 _ ?side1 ?side2 ?side3 ?side4 A35.out).mono ?_);(case side1=>exact cB N4 HB);(case side2=>exact N5.out);(case side3=>exact cB N6 HB);(case side4=>exact N7.out);rintro e w48 ⟨v191,rfl,ho0,hb⟩;have A7:=rL ho0 HB;replace A1:=bB A1 hb;replace A0:=bB A0 hb;replace HB:=hS HB hb;(try clear hb);(try clear hb2);(try clear hk);(try clear hi);(try clear ho0);obtain ⟨J8,J9,K0,K1,K2,K3,K4,K5,K6,K7⟩:=cf5 A0;have F9:0≤(0:Int):=(by omega);have G0:0 < (((rd_T50 l0_2 a1).f1).length:Int):=dT;obtain ⟨N8,A193_0,c193_0,e193,B2,B3,E4,E5⟩:=at_T68 D3.out 0 F9 G0;cases e193;have U7:(0 < ((rd_T50 l0_2 a1).f1).length)=True:=eq_true (by omega);(try rw [show ((0:Int)).toNat=0 from rfl] at B2);(try rw [show 0 * 2=0 from rfl] at B2);(try rw [Addr.add_zero'] at B2);(try rw [show ((0:Int)).toNat=0 from rfl] at B3);(try rw [show 0 * 2=0 from rfl] at B3);(try rw [Addr.add_zero'] at B3);replace B2:=xc HB B2;replace B3:=xc HB B3;have E6:=Aside0.mk E5;have Q2:=Aside0.mk E4;clear E5 E4;replace F9:=eq_true F9;replace G0:=eq_true G0) | ((with_reducible refine gate_dst (N:=7) rfl ?_);(try (refine gate_guard (by rfl) ?_;dsimp only));refine bx 7 rfl #[.slice none 0 0,.int .i64 0] 68 ?_;intro A2 hg w50 hbox hb;replace A7:=rB A7 hb;have A3:=Aside0.mk (hbox);have D8:=hZ HB hg;have U8:=hZ HB hg;replace HB:=hS HB hb;have D6:=nL A1 hg;have D7:=nG A1 hg;replace A1:=bB A1 hb;have B7:=nL A0 hg;have B8:=nG A0 hg;replace A0:=bB A0 hb;clear hb hbox hg;have U9:=D7.out;have V0:=D6.out;have V1:=B8.out;have V2:=B7.out;obtain ⟨K8,K9,L0,L1⟩:=cf2 A3;have G1:0≤(0:Int):=(by omega);have G2:0 < (((rd_T68 ((rd_T50 l0_2 a1).f1) 0).f0).length:Int):=dT;obtain ⟨A4,e195,A5⟩:=Kd.at_int E6.out 0 G1 G2;cases e195;have V3:(0 < ((rd_T68 ((rd_T50 l0_2 a1).f1) 0).f0).length)=True:=eq_true (by omega);(try rw [show ((0:Int)).toNat=0 from rfl] at A5);(try rw [Addr.add_zero'] at A5);have hn195_0:A4.block≠A2:=Nat.ne_of_lt (Nat.lt_of_lt_of_le spec_l4Axioms.a2 D8.out);have hn195_1:A4.block≠A2:=Nat.ne_of_lt (Nat.lt_of_lt_of_le spec_l4Axioms.a2 D8.out);replace A5:=xc HB A5;replace A5:=(cell_far (p:=⟨A2,0,none⟩) (by first | (rw [add_block];exact hn195_0) | (show (Addr.add _ _).block≠_;rw [add_block];exact hn195_0) | exact hn195_0) (.slice (some A4) ((rd_T68 ((rd_T50 l0_2 a1).f1) 0).f0).length c193_0)).trans A5;replace A5:=(cell_far (p:=⟨A2,1,none⟩) (by first | (rw [add_block];exact hn195_1) | (show (Addr.add _ _).block≠_;rw [add_block];exact hn195_1) | exact hn195_1) (.int .i64 ((rd_T68 ((rd_T50 l0_2 a1).f1) 0).f1))).trans A5;(try have hy195_0:=fun (n_:Nat)=>(show ((((w50.drewN n_).setCell ⟨A2,0,none⟩ (.slice (some A4) ((rd_T68 ((rd_T50 l0_2 a1).f1) 0).f0).length c193_0)).setCell ⟨A2,1,none⟩ (.int .i64 ((rd_T68 ((rd_T50 l0_2 a1).f1) 0).f1)))).cell? _=some _ from A5));clear hn195_0;clear hn195_1;replace G1:=eq_true G1;replace G2:=eq_true G2;obtain ⟨X7,S7,eo54⟩:=Kd.R_slice A7.out;subst eo54;have G3:0≤((rd ((rd_T68 ((rd_T50 l0_2 a1).f1) 0).f0) 0):Int):=dT;have G4:(rd ((rd_T68 ((rd_T50 l0_2 a1).f1) 0).f0) 0) < (t190.length:Int):=dT;obtain ⟨B1,e196,B4⟩:=Kd.at_int (Kd.R_reads' A7.out).2.2 (rd ((rd_T68 ((rd_T50 l0_2 a1).f1) 0).f0) 0) G3 G4;cases e196;have hn196_0:B1.block≠A2:=Kd.own_blk (Kd.R_ne A7.out A3.out (by decide));have hn196_1:B1.block≠A2:=Kd.own_blk (Kd.R_ne A7.out A3.out (by decide));replace B4:=(cell_far (p:=⟨A2,0,none⟩) (by first | (rw [add_block];exact hn196_0) | (show (Addr.add _ _).block≠_;rw [add_block];exact hn196_0) | exact hn196_0) (.slice (some A4) ((rd_T68 ((rd_T50 l0_2 a1).f1) 0).f0).length c193_0)).trans B4;replace B4:=(cell_far (p:=⟨A2,1,none⟩) (by first | (rw [add_block];exact hn196_1) | (show (Addr.add _ _).block≠_;rw [add_block];exact hn196_1) | exact hn196_1) (.int .i64 ((rd_T68 ((rd_T50 l0_2 a1).f1) 0).f1))).trans B4;(try have hy196_0:=fun (n_:Nat)=>(show ((((w50.drewN n_).setCell ⟨A2,0,none⟩ (.slice (some A4) ((rd_T68 ((rd_T50 l0_2 a1).f1) 0).f0).length c193_0)).setCell ⟨A2,1,none⟩ (.int .i64 ((rd_T68 ((rd_T50 l0_2 a1).f1) 0).f1)))).cell? _=some _ from B4));clear hn196_0;clear hn196_1;replace G3:=eq_true G3;replace G4:=eq_true G4;have G5:0≤(1:Int):=(by omega);have G6:1 < (((rd_T68 ((rd_T50 l0_2 a1).f1) 0).f0).length:Int):=dT;obtain ⟨L2,e197,A6⟩:=Kd.at_int E6.out 1 G5 G6;obtain rfl:A4=L2:=(by injection e197);(try simp only [show (1:Int).toNat=1 from rfl,Nat.reduceMul,Nat.reduceEqDiff,Go.Addr.add,↓reduceIte] at A6);have V4:(1 < ((rd_T68 ((rd_T50 l0_2 a1).f1) 0).f0).length)=True:=eq_true (by omega);(try rw [show ((1:Int)).toNat=1 from rfl] at A6);have hn197_0:A4.block≠A2:=Nat.ne_of_lt (Nat.lt_of_lt_of_le spec_l4Axioms.a3 D8.out);have hn197_1:A4.block≠A2:=Nat.ne_of_lt (Nat.lt_of_lt_of_le spec_l4Axioms.a3 D8.out);replace A6:=xc HB A6;replace A6:=(cell_far (p:=⟨A2,0,none⟩) (by first | (rw [add_block];exact hn197_0) | (show (Addr.add _ _).block≠_;rw [add_block];exact hn197_0) | exact hn197_0) (.slice (some A4) ((rd_T68 ((rd_T50 l0_2 a1).f1) 0).f0).length c193_0)).trans A6;replace A6:=(cell_far (p:=⟨A2,1,none⟩) (by first | (rw [add_block];exact hn197_1) | (show (Addr.add _ _).block≠_;rw [add_block];exact hn197_1) | exact hn197_1) (.int .i64 ((rd_T68 ((rd_T50 l0_2 a1).f1) 0).f1))).trans A6;(try have hy197_0:=fun (n_:Nat)=>(show ((((w50.drewN n_).setCell ⟨A2,0,none⟩ (.slice (some A4) ((rd_T68 ((rd_T50 l0_2 a1).f1) 0).f0).length c193_0)).setCell ⟨A2,1,none⟩ (.int .i64 ((rd_T68 ((rd_T50 l0_2 a1).f1) 0).f1)))).cell? _=some _ from A6));clear hn197_0;clear hn197_1;replace G5:=eq_true G5;replace G6:=eq_true G6;have G7:0≤((rd ((rd_T68 ((rd_T50 l0_2 a1).f1) 0).f0) 1):Int):=dT;have G8:(rd ((rd_T68 ((rd_T50 l0_2 a1).f1) 0).f0) 1) < (t190.length:Int):=dT;obtain ⟨L3,e198,B5⟩:=Kd.at_int (Kd.R_reads' A7.out).2.2 (rd ((rd_T68 ((rd_T50 l0_2 a1).f1) 0).f0) 1) G7 G8;obtain rfl:B1=L3:=(by injection e198);have hn198_0:B1.block≠A2:=Kd.own_blk (Kd.R_ne A7.out A3.out (by decide));have hn198_1:B1.block≠A2:=Kd.own_blk (Kd.R_ne A7.out A3.out (by decide));replace B5:=(cell_far (p:=⟨A2,0,none⟩) (by first | (rw [add_block];exact hn198_0) | (show (Addr.add _ _).block≠_;rw [add_block];exact hn198_0) | exact hn198_0) (.slice (some A4) ((rd_T68 ((rd_T50 l0_2 a1).f1) 0).f0).length c193_0)).trans B5;replace B5:=(cell_far (p:=⟨A2,1,none⟩) (by first | (rw [add_block];exact hn198_1) | (show (Addr.add _ _).block≠_;rw [add_block];exact hn198_1) | exact hn198_1) (.int .i64 ((rd_T68 ((rd_T50 l0_2 a1).f1) 0).f1))).trans B5;(try have hy198_0:=fun (n_:Nat)=>(show ((((w50.drewN n_).setCell ⟨A2,0,none⟩ (.slice (some A4) ((rd_T68 ((rd_T50 l0_2 a1).f1) 0).f0).length c193_0)).setCell ⟨A2,1,none⟩ (.int .i64 ((rd_T68 ((rd_T50 l0_2 a1).f1) 0).f1)))).cell? _=some _ from B5));clear hn198_0;clear hn198_1;replace G7:=eq_true G7;replace G8:=eq_true G8;have G9:0≤(((rd_T68 ((rd_T50 l0_2 a1).f1) 0).f1):Int):=dT;have H0:((rd_T68 ((rd_T50 l0_2 a1).f1) 0).f1) < (t190.length:Int):=dT;obtain ⟨L4,e199,B6⟩:=Kd.at_int (Kd.R_reads' A7.out).2.2 ((rd_T68 ((rd_T50 l0_2 a1).f1) 0).f1) G9 H0;obtain rfl:B1=L4:=(by injection e199);have hn199_0:B1.block≠A2:=Kd.own_blk (Kd.R_ne A7.out A3.out (by decide));have hn199_1:B1.block≠A2:=Kd.own_blk (Kd.R_ne A7.out A3.out (by decide));replace B6:=(cell_far (p:=⟨A2,0,none⟩) (by first | (rw [add_block];exact hn199_0) | (show (Addr.add _ _).block≠_;rw [add_block];exact hn199_0) | exact hn199_0) (.slice (some A4) ((rd_T68 ((rd_T50 l0_2 a1).f1) 0).f0).length c193_0)).trans B6;replace B6:=(cell_far (p:=⟨A2,1,none⟩) (by first | (rw [add_block];exact hn199_1) | (show (Addr.add _ _).block≠_;rw [add_block];exact hn199_1) | exact hn199_1) (.int .i64 ((rd_T68 ((rd_T50 l0_2 a1).f1) 0).f1))).trans B6;(try have hy199_0:=fun (n_:Nat)=>(show ((((w50.drewN n_).setCell ⟨A2,0,none⟩ (.slice (some A4) ((rd_T68 ((rd_T50 l0_2 a1).f1) 0).f0).length c193_0)).setCell ⟨A2,1,none⟩ (.int .i64 ((rd_T68 ((rd_T50 l0_2 a1).f1) 0).f1)))).cell? _=some _ from B6));clear hn199_0;clear hn199_1;replace G9:=eq_true G9;replace H0:=eq_true H0)))
   (try simp only [Act.put,List.setIfInBounds_toArray,List.set_cons_zero,List.set_cons_succ])
   go_cut [84] (fun v84 wc=> ∃ (kq:Nat) (x84_44:Bool),v84=.bool x84_44∧Aside0 (spec_l4Axioms.j2 kq t190 (rd t190 ((rd_T68 ((rd_T50 l0_2 a1).f1) 0).f1)) x84_44 l0_0 l0_1 l0_2 ((rd_T50 l0_2 a1).f0) ((rd_T50 l0_2 a1).f1) ((rd_T50 l0_2 a1).f2) ((rd_T50 l0_2 a1).f3) ((rd_T50 l0_2 a1).f4)=some r)∧Aside0 (kq≤kj21)∧Aside0 (Kd.R (Kd.int .i64) 3 wc w.heap.size (fun _=>True) (.slice (some B1) t190.length S7) t190)∧Aside0 (wc.heap[J6]? = some (.cells #[(.slice A0_0 l0_0.length c0_0),(.slice A0_1 l0_1.length c0_1),(.slice (some F7) l0_2.length c0_2)] 36 (0,0)))∧Aside0 (wc.heap[J7]? = some (.cells #[.string ((rd_T50 l0_2 a1).f0),(.slice (some N8) ((rd_T50 l0_2 a1).f1).length c186_1),.bool ((rd_T50 l0_2 a1).f2),.bool ((rd_T50 l0_2 a1).f3),.int .i64 ((rd_T50 l0_2 a1).f4)] 50 (0,0)))∧Aside0 (wc.heap[A2]? = some (.cells #[(.slice (some A4) ((rd_T68 ((rd_T50 l0_2 a1).f1) 0).f0).length c193_0),.int .i64 ((rd_T68 ((rd_T50 l0_2 a1).f1) 0).f1)] 68 (0,0)))∧Aside0 (Below w.heap.size w wc))
   case first=>
    have H:=M3.out
    clear M3
    by_cases c55:(rd t190 (rd ((rd_T68 ((rd_T50 l0_2 a1).f1) 0).f0) 0))=(rd t190 (rd ((rd_T68 ((rd_T50 l0_2 a1).f1) 0).f0) 1))
    rotate_left
    ·rw [if_neg c55] at H
     have J4:((rd t190 (rd ((rd_T68 ((rd_T50 l0_2 a1).f1) 0).f0) 0)) == (rd t190 (rd ((rd_T68 ((rd_T50 l0_2 a1).f1) 0).f0) 1)))=false:=beq_eq_false_iff_ne.mpr c55
     have V5:((rd t190 (rd ((rd_T68 ((rd_T50 l0_2 a1).f1) 0).f0) 0)) != (rd t190 (rd ((rd_T68 ((rd_T50 l0_2 a1).f1) 0).f0) 1)))=true:=bne_iff_ne.mpr c55
     (first | rw [J4] | (simp only [i64_w,i32_w];rw [J4]) | skip)
     have H':=Aside0.mk H
     clear H
     go_wp2
     repeat (go_quiet (fail);try go_wp2)
     go_meet
     case rel=>exact ⟨_,(true),spec_l4Axioms.a0,H',⟨spec_l4Axioms.a4⟩,⟨rT A7 A3 (fun _ hk=>trivial)⟩,⟨vB A1⟩,⟨vB A0⟩,⟨vP A3⟩,⟨hV HB⟩⟩
    rw [if_pos c55] at H
    have J4:((rd t190 (rd ((rd_T68 ((rd_T50 l0_2 a1).f1) 0).f0) 0)) == (rd t190 (rd ((rd_T68 ((rd_T50 l0_2 a1).f1) 0).f0) 1)))=true:=beq_iff_eq.mpr c55
    have V5:((rd t190 (rd ((rd_T68 ((rd_T50 l0_2 a1).f1) 0).f0) 0)) != (rd t190 (rd ((rd_T68 ((rd_T50 l0_2 a1).f1) 0).f0) 1)))=false:=bne_eq_false_iff_eq.mpr c55
    clear c55
    (first | rw [J4] | (simp only [i64_w,i32_w];rw [J4]) | skip)
    by_cases c56:((rd_T50 l0_2 a1).f2)=true
    ·rw [if_pos c56] at H
     have V6:((rd_T50 l0_2 a1).f2)=true:=c56
     clear c56
     have H':=Aside0.mk H
     clear H
     have m9:=A9.out
     have n0:=A8.out
     have n1:=B7.out
     have n2:=B8.out
     obtain ⟨d6,d7,d8,d9,e0,e1,e2,e3,e4,e5⟩:=cf5 A0
     go_wp2
     repeat (go_quiet (fail);try go_wp2)
     go_meet
     case rel=>exact ⟨_,(((rd t190 (rd ((rd_T68 ((rd_T50 l0_2 a1).f1) 0).f0) 0)) != (rd t190 ((rd_T68 ((rd_T50 l0_2 a1).f1) 0).f1)))),spec_l4Axioms.a0,H',⟨spec_l4Axioms.a4⟩,⟨rT A7 A3 (fun _ hk=>trivial)⟩,⟨vB A1⟩,⟨vB A0⟩,⟨vP A3⟩,⟨hV HB⟩⟩
    ·rw [if_neg c56] at H
     have V6:((rd_T50 l0_2 a1).f2)=false:=by simpa using c56
     clear c56
     by_cases c60:((rd_T50 l0_2 a1).f4) > 0
     ·rw [if_pos c60] at H
      have V7:=decide_eq_true c60
      clear c60
      have H':=Aside0.mk H
      clear H
      have n3:=A9.out
      have n4:=A8.out
      have n5:=B7.out
      have n6:=B8.out
      obtain ⟨e6,e7,e8,e9,f5,f6,f7,f8,f9,g0⟩:=cf5 A0
      go_wp2
      repeat (go_quiet (fail);try go_wp2)
      go_meet
      case rel=>exact ⟨_,(((rd t190 (rd ((rd_T68 ((rd_T50 l0_2 a1).f1) 0).f0) 0)) != (rd t190 ((rd_T68 ((rd_T50 l0_2 a1).f1) 0).f1)))),spec_l4Axioms.a0,H',⟨spec_l4Axioms.a4⟩,⟨rT A7 A3 (fun _ hk=>trivial)⟩,⟨vB A1⟩,⟨vB A0⟩,⟨vP A3⟩,⟨hV HB⟩⟩
     ·rw [if_neg c60] at H
      have V7:=decide_eq_false c60
      clear c60
      have H':=Aside0.mk H
      clear H
      have n7:=A9.out
      have n8:=A8.out
      have n9:=B7.out
      have o0:=B8.out
      obtain ⟨g1,g2,g3,g4,g5,g6,g7,g8,g9,h0⟩:=cf5 A0
      go_wp2
      repeat (go_quiet (fail);try go_wp2)
      go_meet
      case rel=>exact ⟨_,(false),spec_l4Axioms.a0,H',⟨spec_l4Axioms.a4⟩,⟨rT A7 A3 (fun _ hk=>trivial)⟩,⟨vB A1⟩,⟨vB A0⟩,⟨vP A3⟩,⟨hV HB⟩⟩
   clear M3
   try clear c3
   try clear M0
   try clear c4
   try clear M1
   try clear c21
   try clear c34
   try clear c36
   try clear T5
   try clear T6
   try clear c37
   try clear T7
   try clear T8
   try clear c38
   try clear T9
   try clear c39
   try clear U0
   try clear c40
   try clear U1
   try clear U2
   try clear c41
   try clear U3
   try clear c42
   try clear U4
   try clear c43
   try clear U5
   try clear c44
   try clear U6
   try clear H1
   try clear H3
   try clear H5
   try clear H7
   try clear H9
   try clear P6
   try clear P8
   try clear Q0
   try clear J8
   try clear K0
   try clear K2
   try clear K4
   try clear K6
   try clear K8
   try clear L0
   try clear I7
   try clear I9
   try clear J1
   try clear H2
   try clear H4
   try clear H6
   try clear H8
   try clear I0
   try clear P7
   try clear P9
   try clear Q1
   try clear J9
   try clear K1
   try clear K3
   try clear K5
   try clear K7
   try clear K9
   try clear L1
   try clear I8
   try clear J0
   try clear J2
   try clear C8
   try clear C9
   try clear D0
   try clear D1
   try clear D2
   try clear B2
   try clear B3
   try clear A5
   try clear B4
   try clear A6
   try clear B5
   try clear B6
   try clear D9
   try clear F9
   try clear G1
   try clear G3
   try clear G5
   try clear G7
   try clear G9
   try clear E0
   try clear G0
   try clear G2
   try clear G4
   try clear G6
   try clear G8
   try clear H0
   obtain ⟨kq,x84_44,rfl,HA,HJ44,C1,A1,A0,A3,HB⟩:=hcut
   cases kq with
   | zero=>exact absurd HA.out (by simp [spec_l4Axioms.j2])
   | succ kj44=>
    have H:=HA.out
    clear HA
    simp only [spec_l4Axioms.j2] at H
    by_cases c67:x84_44=true
    ·subst c67
     rw [if_pos rfl] at H
     obtain rfl:=Option.some.inj H
     go_wp2
     repeat (go_quiet (fail);try go_wp2)
     go_ret
     exact ⟨spec_l4Axioms.a1,hV HB⟩
    replace c67:=Bool.eq_false_iff.mpr c67
    subst c67
    rw [if_neg (show ¬ (false=true) by decide)] at H
    by_cases c68:((rd_T50 l0_2 a1).f4)=0
    ·rw [if_pos c68] at H
     have V8:(((rd_T50 l0_2 a1).f4) == 0)=true:=beq_iff_eq.mpr c68
     have V9:(((rd_T50 l0_2 a1).f4) != 0)=false:=bne_eq_false_iff_eq.mpr c68
     clear c68
     obtain rfl:=Option.some.inj H
     have o1:=A9.out
     have o2:=A8.out
     have o3:=B7.out
     have o4:=B8.out
     obtain ⟨h1,h2,h3,h4,h5,h6,h7,h8,h9,i0⟩:=cf5 A0
     go_wp2
     repeat (go_quiet (fail);try go_wp2)
     go_ret
     exact ⟨spec_l4Axioms.a1,hV HB⟩
    ·rw [if_neg c68] at H
     have V8:(((rd_T50 l0_2 a1).f4) == 0)=false:=beq_eq_false_iff_ne.mpr c68
     have V9:(((rd_T50 l0_2 a1).f4) != 0)=true:=bne_iff_ne.mpr c68
     obtain ⟨ji72,hji72⟩:∃ j_:Int,(wrap64 (((rd_T50 l0_2 a1).f4) - 1))=j_:=⟨_,rfl⟩
     replace H:(if 0≤(ji72) then (if (ji72) < (l0_2.length:Int) then ((spec_l4Arity.f ((rd_T50 l0_2 (ji72)).f0) ((rd_T50 l0_2 (ji72)).f1) ((rd_T50 l0_2 (ji72)).f2) ((rd_T50 l0_2 (ji72)).f3) ((rd_T50 l0_2 (ji72)).f4)).bind fun t202=>(if t202=0 then (if 0 < (((rd_T50 l0_2 (ji72)).f1).length:Int) then (if 0≤((rd_T68 ((rd_T50 l0_2 (ji72)).f1) 0).f1) then (if ((rd_T68 ((rd_T50 l0_2 (ji72)).f1) 0).f1) < (t190.length:Int) then (some ((rd t190 ((rd_T68 ((rd_T50 l0_2 (ji72)).f1) 0).f1)) == (rd t190 ((rd_T68 ((rd_T50 l0_2 a1).f1) 0).f1)))) else (none)) else (none)) else (none)) else (some false))) else (none)) else (none))=some r:=by first | (rw [hji72] at H;exact H) | (simp only [hji72] at H ⊢;exact H)
     have hji72w:(IntKind.i64.wrap (((rd_T50 l0_2 a1).f4) - 1))=ji72:=(i64_w _).trans hji72
     by_cases c73:0≤(ji72)
     rotate_left
     ·rw [if_neg c73] at H
      exact absurd H (by simp)
     rw [if_pos c73] at H
     have o5:=decide_eq_true c73
     clear c73
     by_cases c74:(ji72) < (l0_2.length:Int)
     rotate_left
     ·rw [if_neg c74] at H
      exact absurd H (by simp)
     rw [if_pos c74] at H
     have o6:=decide_eq_true c74
     clear c74
     replace H:=Option.bind_eq_some_iff.mp H
     obtain ⟨t202,A750,H⟩:=H
     replace H:(if t202=0 then (if 0 < (((rd_T50 l0_2 (ji72)).f1).length:Int) then (if 0≤((rd_T68 ((rd_T50 l0_2 (ji72)).f1) 0).f1) then (if ((rd_T68 ((rd_T50 l0_2 (ji72)).f1) 0).f1) < (t190.length:Int) then (some ((rd t190 ((rd_T68 ((rd_T50 l0_2 (ji72)).f1) 0).f1)) == (rd t190 ((rd_T68 ((rd_T50 l0_2 a1).f1) 0).f1)))) else (none)) else (none)) else (none)) else (some false))=some r:=H
     have A75:=Aside0.mk A750
     clear A750
     by_cases c76:t202=0
     ·rw [if_pos c76] at H
      have W0:(t202 == 0)=true:=beq_iff_eq.mpr c76
      have W1:(t202 != 0)=false:=bne_eq_false_iff_eq.mpr c76
      clear c76
      by_cases c77:0 < (((rd_T50 l0_2 (ji72)).f1).length:Int)
      rotate_left
      ·rw [if_neg c77] at H
       exact absurd H (by simp)
      rw [if_pos c77] at H
      have o7:=decide_eq_true c77
      have o8:decide (0 < ((rd_T50 l0_2 (ji72)).f1).length)=true:=decide_eq_true (by omega)
      clear c77
      by_cases c78:0≤((rd_T68 ((rd_T50 l0_2 (ji72)).f1) 0).f1)
      rotate_left
      ·rw [if_neg c78] at H
       exact absurd H (by simp)
      rw [if_pos c78] at H
      have o9:=decide_eq_true c78
      clear c78
      by_cases c79:((rd_T68 ((rd_T50 l0_2 (ji72)).f1) 0).f1) < (t190.length:Int)
      rotate_left
      ·rw [if_neg c79] at H
       exact absurd H (by simp)
      rw [if_pos c79] at H
      have p0:=decide_eq_true c79
      clear c79
      obtain rfl:=Option.some.inj H
      have p1:=A9.out
      have p2:=A8.out
      have p3:=B7.out
      have p4:=B8.out
      obtain ⟨i1,i2,i3,i4,i5,i6,i7,i8,i9,j3⟩:=cf5 A0
      have p5:=D6.out
      have p6:=D7.out
      obtain ⟨j4,j5,j6,j7,j8,j9⟩:=cf3 A1
      have I1:0≤((ji72):Int):=dT
      have I2:(ji72) < (l0_2.length:Int):=dT
      obtain ⟨L5,A200_1,c200_1,e200,E7,E8,E9,F0,F1,F2,F3⟩:=at_T50 J5.out (ji72) I1 I2
      obtain rfl:F7=L5:=(by injection e200)
      replace E7:=xc HB E7
      replace E8:=xc HB E8
      replace E9:=xc HB E9
      replace F0:=xc HB F0
      replace F1:=xc HB F1
      have D4:=Aside0.mk F3
      have F4:=Aside0.mk F2
      clear F3 F2
      replace I1:=eq_true I1
      replace I2:=eq_true I2
      go_wp2_with (first | ((with_reducible refine gate_dst (N:=11) rfl ?_);(try (refine gate_guard (by rfl) ?_;dsimp only));refine bx 11 rfl #[.string (⟨#[]⟩:ByteArray),.slice none 0 0,.bool false,.bool false,.int .i64 0] 50 ?_;intro L6 hg w85 hbox hb;replace C1:=rB C1 hb;have B0:=Aside0.mk (hbox);have L7:=hZ HB hg;have L8:=hZ HB hg;replace HB:=hS HB hb;have C2:=nL A1 hg;have C3:=nG A1 hg;replace A1:=bB A1 hb;have C4:=nL A0 hg;have C5:=nG A0 hg;replace A0:=bB A0 hb;have C6:=nL A3 hg;have C7:=nG A3 hg;replace A3:=bB A3 hb;clear hb hbox hg;have W2:=C3.out;have W3:=C2.out;have W4:=C5.out;have W5:=C4.out;have W6:=C7.out;have W7:=C6.out;obtain ⟨Q3,Q4,Q5,Q6,Q7,Q8,Q9,R0,R1,R2⟩:=cf5 B0) | (go_at_call 36;(with_reducible refine (spec_l4Arity.calls ((rd_T50 l0_2 (ji72)).f0) _ _ ((rd_T50 l0_2 (ji72)).f1) ((rd_T50 l0_2 (ji72)).f2) ((rd_T50 l0_2 (ji72)).f3) ((rd_T50 l0_2 (ji72)).f4) t202 _ ?side1 ?side2 A75.out).mono ?_);(case side1=>exact cV D4 HB);(case side2=>exact F4.out);rintro e w90 ⟨rfl,hb⟩;replace C1:=rF C1 B0 hb;replace A1:=bB A1 hb;replace A0:=bB A0 hb;replace A3:=bB A3 hb;replace B0:=bP (o:=.cells #[.string ((rd_T50 l0_2 (ji72)).f0),.slice A200_1 ((rd_T50 l0_2 (ji72)).f1).length c200_1,.bool ((rd_T50 l0_2 (ji72)).f2),.bool ((rd_T50 l0_2 (ji72)).f3),.int .i64 ((rd_T50 l0_2 (ji72)).f4)] 50 (0,0)) B0 hb;replace HB:=hS HB hb;(try clear hb);(try clear hb2);(try clear hk);(try clear hi);obtain ⟨R3,R4,R5,R6,R7,R8,R9,S0,S1,S2⟩:=cf5 B0;have I3:0≤(0:Int):=(by omega);have I4:0 < (((rd_T50 l0_2 (ji72)).f1).length:Int):=dT;obtain ⟨N9,A203_0,c203_0,e203,B9,C0,F5,F6⟩:=at_T68 D4.out 0 I3 I4;cases e203;have W8:(0 < ((rd_T50 l0_2 (ji72)).f1).length)=True:=eq_true (by omega);(try rw [show ((0:Int)).toNat=0 from rfl] at B9);(try rw [show 0 * 2=0 from rfl] at B9);(try rw [Addr.add_zero'] at B9);(try rw [show ((0:Int)).toNat=0 from rfl] at C0);(try rw [show 0 * 2=0 from rfl] at C0);(try rw [Addr.add_zero'] at C0);replace B9:=xc HB B9;replace C0:=xc HB C0;have S3:=Aside0.mk F6;have S4:=Aside0.mk F5;clear F6 F5;replace I3:=eq_true I3;replace I4:=eq_true I4;have I5:0≤(((rd_T68 ((rd_T50 l0_2 (ji72)).f1) 0).f1):Int):=dT;have I6:((rd_T68 ((rd_T50 l0_2 (ji72)).f1) 0).f1) < (t190.length:Int):=dT;obtain ⟨L9,e204,S5⟩:=Kd.at_int (Kd.R_reads' C1.out).2.2 ((rd_T68 ((rd_T50 l0_2 (ji72)).f1) 0).f1) I5 I6;obtain rfl:B1=L9:=(by injection e204);replace I5:=eq_true I5;replace I6:=eq_true I6))
      repeat (go_quiet (fail);try go_wp2_with (first | ((with_reducible refine gate_dst (N:=11) rfl ?_);(try (refine gate_guard (by rfl) ?_;dsimp only));refine bx 11 rfl #[.string (⟨#[]⟩:ByteArray),.slice none 0 0,.bool false,.bool false,.int .i64 0] 50 ?_;intro L6 hg w85 hbox hb;replace C1:=rB C1 hb;have B0:=Aside0.mk (hbox);have L7:=hZ HB hg;have L8:=hZ HB hg;replace HB:=hS HB hb;have C2:=nL A1 hg;have C3:=nG A1 hg;replace A1:=bB A1 hb;have C4:=nL A0 hg;have C5:=nG A0 hg;replace A0:=bB A0 hb;have C6:=nL A3 hg;have C7:=nG A3 hg;replace A3:=bB A3 hb;clear hb hbox hg;have W2:=C3.out;have W3:=C2.out;have W4:=C5.out;have W5:=C4.out;have W6:=C7.out;have W7:=C6.out;obtain ⟨Q3,Q4,Q5,Q6,Q7,Q8,Q9,R0,R1,R2⟩:=cf5 B0) | (go_at_call 36;(with_reducible refine (spec_l4Arity.calls ((rd_T50 l0_2 (ji72)).f0) _ _ ((rd_T50 l0_2 (ji72)).f1) ((rd_T50 l0_2 (ji72)).f2) ((rd_T50 l0_2 (ji72)).f3) ((rd_T50 l0_2 (ji72)).f4) t202 _ ?side1 ?side2 A75.out).mono ?_);(case side1=>exact cV D4 HB);(case side2=>exact F4.out);rintro e w90 ⟨rfl,hb⟩;replace C1:=rF C1 B0 hb;replace A1:=bB A1 hb;replace A0:=bB A0 hb;replace A3:=bB A3 hb;replace B0:=bP (o:=.cells #[.string ((rd_T50 l0_2 (ji72)).f0),.slice (some N9) ((rd_T50 l0_2 (ji72)).f1).length c200_1,.bool ((rd_T50 l0_2 (ji72)).f2),.bool ((rd_T50 l0_2 (ji72)).f3),.int .i64 ((rd_T50 l0_2 (ji72)).f4)] 50 (0,0)) B0 hb;replace HB:=hS HB hb;(try clear hb);(try clear hb2);(try clear hk);(try clear hi);obtain ⟨R3,R4,R5,R6,R7,R8,R9,S0,S1,S2⟩:=cf5 B0;have I3:0≤(0:Int):=(by omega);have I4:0 < (((rd_T50 l0_2 (ji72)).f1).length:Int):=dT;obtain ⟨N9,A203_0,c203_0,e203,B9,C0,F5,F6⟩:=at_T68 D4.out 0 I3 I4;cases e203;have W8:(0 < ((rd_T50 l0_2 (ji72)).f1).length)=True:=eq_true (by omega);(try rw [show ((0:Int)).toNat=0 from rfl] at B9);(try rw [show 0 * 2=0 from rfl] at B9);(try rw [Addr.add_zero'] at B9);(try rw [show ((0:Int)).toNat=0 from rfl] at C0);(try rw [show 0 * 2=0 from rfl] at C0);(try rw [Addr.add_zero'] at C0);replace B9:=xc HB B9;replace C0:=xc HB C0;have S3:=Aside0.mk F6;have S4:=Aside0.mk F5;clear F6 F5;replace I3:=eq_true I3;replace I4:=eq_true I4;have I5:0≤(((rd_T68 ((rd_T50 l0_2 (ji72)).f1) 0).f1):Int):=dT;have I6:((rd_T68 ((rd_T50 l0_2 (ji72)).f1) 0).f1) < (t190.length:Int):=dT;obtain ⟨L9,e204,S5⟩:=Kd.at_int (Kd.R_reads' C1.out).2.2 ((rd_T68 ((rd_T50 l0_2 (ji72)).f1) 0).f1) I5 I6;obtain rfl:B1=L9:=(by injection e204);replace I5:=eq_true I5;replace I6:=eq_true I6)))
      go_ret
      exact ⟨spec_l4Axioms.a5,hV HB⟩
     ·rw [if_neg c76] at H
      have W0:(t202 == 0)=false:=beq_eq_false_iff_ne.mpr c76
      have W1:(t202 != 0)=true:=bne_iff_ne.mpr c76
      obtain rfl:=Option.some.inj H
      have p7:=A9.out
      have p8:=A8.out
      have p9:=B7.out
      have q0:=B8.out
      obtain ⟨k0,k1,k2,k3,k4,k5,k6,k7,k8,k9⟩:=cf5 A0
      have q1:=D6.out
      have q2:=D7.out
      obtain ⟨l0,l1,l2,l3,l4,l5⟩:=cf3 A1
      have I1:0≤((ji72):Int):=dT
      have I2:(ji72) < (l0_2.length:Int):=dT
      obtain ⟨L5,A200_1,c200_1,e200,E7,E8,E9,F0,F1,F2,F3⟩:=at_T50 J5.out (ji72) I1 I2
      obtain rfl:F7=L5:=(by injection e200)
      replace E7:=xc HB E7
      replace E8:=xc HB E8
      replace E9:=xc HB E9
      replace F0:=xc HB F0
      replace F1:=xc HB F1
      have D4:=Aside0.mk F3
      have F4:=Aside0.mk F2
      clear F3 F2
      replace I1:=eq_true I1
      replace I2:=eq_true I2
      go_wp2_with (first | ((with_reducible refine gate_dst (N:=11) rfl ?_);(try (refine gate_guard (by rfl) ?_;dsimp only));refine bx 11 rfl #[.string (⟨#[]⟩:ByteArray),.slice none 0 0,.bool false,.bool false,.int .i64 0] 50 ?_;intro L6 hg w97 hbox hb;replace C1:=rB C1 hb;have B0:=Aside0.mk (hbox);have L7:=hZ HB hg;have L8:=hZ HB hg;replace HB:=hS HB hb;have C2:=nL A1 hg;have C3:=nG A1 hg;replace A1:=bB A1 hb;have C4:=nL A0 hg;have C5:=nG A0 hg;replace A0:=bB A0 hb;have C6:=nL A3 hg;have C7:=nG A3 hg;replace A3:=bB A3 hb;clear hb hbox hg;have W9:=C3.out;have X0:=C2.out;have X1:=C5.out;have X2:=C4.out;have S8:=C7.out;have S9:=C6.out;obtain ⟨M4,M5,M6,M7,M8,M9,N0,N1,N2,N3⟩:=cf5 B0) | (go_at_call 36;(with_reducible refine (spec_l4Arity.calls ((rd_T50 l0_2 (ji72)).f0) _ _ ((rd_T50 l0_2 (ji72)).f1) ((rd_T50 l0_2 (ji72)).f2) ((rd_T50 l0_2 (ji72)).f3) ((rd_T50 l0_2 (ji72)).f4) t202 _ ?side1 ?side2 A75.out).mono ?_);(case side1=>exact cV D4 HB);(case side2=>exact F4.out);rintro e w102 ⟨rfl,hb⟩;replace C1:=rF C1 B0 hb;replace A1:=bB A1 hb;replace A0:=bB A0 hb;replace A3:=bB A3 hb;replace B0:=bP (o:=.cells #[.string ((rd_T50 l0_2 (ji72)).f0),.slice A200_1 ((rd_T50 l0_2 (ji72)).f1).length c200_1,.bool ((rd_T50 l0_2 (ji72)).f2),.bool ((rd_T50 l0_2 (ji72)).f3),.int .i64 ((rd_T50 l0_2 (ji72)).f4)] 50 (0,0)) B0 hb;replace HB:=hS HB hb;(try clear hb);(try clear hb2);(try clear hk);(try clear hi)))
      repeat (go_quiet (fail);try go_wp2_with (first | ((with_reducible refine gate_dst (N:=11) rfl ?_);(try (refine gate_guard (by rfl) ?_;dsimp only));refine bx 11 rfl #[.string (⟨#[]⟩:ByteArray),.slice none 0 0,.bool false,.bool false,.int .i64 0] 50 ?_;intro L6 hg w97 hbox hb;replace C1:=rB C1 hb;have B0:=Aside0.mk (hbox);have L7:=hZ HB hg;have L8:=hZ HB hg;replace HB:=hS HB hb;have C2:=nL A1 hg;have C3:=nG A1 hg;replace A1:=bB A1 hb;have C4:=nL A0 hg;have C5:=nG A0 hg;replace A0:=bB A0 hb;have C6:=nL A3 hg;have C7:=nG A3 hg;replace A3:=bB A3 hb;clear hb hbox hg;have W9:=C3.out;have X0:=C2.out;have X1:=C5.out;have X2:=C4.out;have S8:=C7.out;have S9:=C6.out;obtain ⟨M4,M5,M6,M7,M8,M9,N0,N1,N2,N3⟩:=cf5 B0) | (go_at_call 36;(with_reducible refine (spec_l4Arity.calls ((rd_T50 l0_2 (ji72)).f0) _ _ ((rd_T50 l0_2 (ji72)).f1) ((rd_T50 l0_2 (ji72)).f2) ((rd_T50 l0_2 (ji72)).f3) ((rd_T50 l0_2 (ji72)).f4) t202 _ ?side1 ?side2 A75.out).mono ?_);(case side1=>exact cV D4 HB);(case side2=>exact F4.out);rintro e w102 ⟨rfl,hb⟩;replace C1:=rF C1 B0 hb;replace A1:=bB A1 hb;replace A0:=bB A0 hb;replace A3:=bB A3 hb;replace B0:=bP (o:=.cells #[.string ((rd_T50 l0_2 (ji72)).f0),.slice A200_1 ((rd_T50 l0_2 (ji72)).f1).length c200_1,.bool ((rd_T50 l0_2 (ji72)).f2),.bool ((rd_T50 l0_2 (ji72)).f3),.int .i64 ((rd_T50 l0_2 (ji72)).f4)] 50 (0,0)) B0 hb;replace HB:=hS HB hb;(try clear hb);(try clear hb2);(try clear hk);(try clear hi))))
      go_ret
      exact ⟨spec_l4Axioms.a5,hV HB⟩
end Go.Proofs.Ytpildjbakceicaa.Q

