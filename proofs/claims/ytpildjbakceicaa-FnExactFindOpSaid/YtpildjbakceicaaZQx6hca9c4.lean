/- Functions of the program as plain Lean functions,and that the calls come to what they say. -/
import Derived.Test.YtpildjbakceicaaZQx0hb61c0
import Derived.Test.YtpildjbakceicaaZQx2hbf1bc
import Derived.Test.YtpildjbakceicaaZQx5h2a14b
import Derived.Test.YtpildjbakceicaaZShorth7b252
namespace Go.Proofs.Ytpildjbakceicaa.Q
open Go.RowKit Go.Proofs.YtpildjbakceicaaW.PrintWords Go.Proofs.YtpildjbakceicaaW.PrintLast Go.Proofs.YtpildjbakceicaaW.PrintMore
attribute [local go_sem] max2_int min2_int max_two min_two max_three min_three max_four min_four   -- for this text's walks alone
set_option linter.unusedVariables false
set_option linter.unusedSimpArgs false

/-! ### spec_l4Decls: function 25 -/
theorem spec_l4Decls.a0 {P_:Prop} (h_:P_:=by first | rfl | (simp [errW_none,errW_some] <;> rfl) | (simp [*,errW_none,errW_some] <;> rfl)):P_:=h_
theorem spec_l4Decls.a1 {P_:Prop} (h_:P_:=by first | rfl | (simp;done) | (simp [*];done)):P_:=h_
mutual
def spec_l4Decls.j0:Nat→Bool→List ByteArray→List (S89)→List (S50)→ByteArray→List (S68)→Bool→Bool→Int→Option (Bool)
 | 0,_,_,_,_,_,_,_,_,_=>none
 | k + 1,x28,x165000,x165001,x165002,x166000,x166001,x166002,x166003,x166004=>if x28=true then (some false) else ((spec_l3Kinds.f k x165000 x165001).bind fun t167=>(if 0 < (x166001.length:Int) then (spec_l4Decls.l0 k t167 0 x166000 x166001 x166002 x166003 x166004 ((rd_T68 x166001 0).f0) ((rd_T68 x166001 0).f1)) else (none)))
def spec_l4Decls.l0:Nat→List Int→Int→ByteArray→List (S68)→Bool→Bool→Int→List Int→Int→Option (Bool)
 | 0,_,_,_,_,_,_,_,_,_=>none
 | k + 1,x5,x7,x166000,x166001,x166002,x166003,x166004,x172000,x172001=>if x7 < (x166001.length:Int) then (if 0≤x7 then (if (((rd_T68 x166001 x7).f0).length:Int)=(x172000.length:Int) then ((spec_l1In.f ((rd_T68 x166001 x7).f1) 0 (wrap64 ((x5.length:Int) - 1))).bind fun t174=>(spec_l4Decls.j2 k x5 x7 (!t174) x166000 x166001 x166002 x166003 x166004 x172000 x172001 ((rd_T68 x166001 x7).f0) ((rd_T68 x166001 x7).f1))) else (spec_l4Decls.j2 k x5 x7 true x166000 x166001 x166002 x166003 x166004 x172000 x172001 ((rd_T68 x166001 x7).f0) ((rd_T68 x166001 x7).f1))) else (none)) else (some true)
def spec_l4Decls.j2:Nat→List Int→Int→Bool→ByteArray→List (S68)→Bool→Bool→Int→List Int→Int→List Int→Int→Option (Bool)
 | 0,_,_,_,_,_,_,_,_,_,_,_,_=>none
 | k + 1,x5,x7,x63,x166000,x166001,x166002,x166003,x166004,x172000,x172001,x174000,x174001=>if x63=true then (some false) else (spec_l4Decls.l1 k x5 x7 0 x166000 x166001 x166002 x166003 x166004 x172000 x172001 x174000 x174001)
def spec_l4Decls.l1:Nat→List Int→Int→Int→ByteArray→List (S68)→Bool→Bool→Int→List Int→Int→List Int→Int→Option (Bool)
 | 0,_,_,_,_,_,_,_,_,_,_,_,_=>none
 | k + 1,x5,x7,x9,x166000,x166001,x166002,x166003,x166004,x172000,x172001,x174000,x174001=>if x9 < (x174000.length:Int) then (if 0≤x9 then ((spec_l1In.f (rd x174000 x9) 0 (wrap64 ((x5.length:Int) - 1))).bind fun t176=>(if t176=true then (if 0≤(rd x174000 x9) then (if (rd x174000 x9) < (x5.length:Int) then (if x9 < (x172000.length:Int) then (if 0≤(rd x172000 x9) then (if (rd x172000 x9) < (x5.length:Int) then (if (rd x5 (rd x174000 x9))=(rd x5 (rd x172000 x9)) then (spec_l4Decls.l1 k x5 x7 (wrap64 (x9 + 1)) x166000 x166001 x166002 x166003 x166004 x172000 x172001 x174000 x174001) else (some false)) else (none)) else (none)) else (none)) else (none)) else (none)) else (some false))) else (none)) else (if 0≤x174001 then (if x174001 < (x5.length:Int) then (if 0≤x172001 then (if x172001 < (x5.length:Int) then (if (rd x5 x174001)=(rd x5 x172001) then (spec_l4Decls.l0 k x5 (wrap64 (x7 + 1)) x166000 x166001 x166002 x166003 x166004 x172000 x172001) else (some false)) else (none)) else (none)) else (none)) else (none))
end
def spec_l4Decls.f (k:Nat) (l0_0:List ByteArray) (l0_1:List (S89)) (l0_2:List (S50)) (a1_0:ByteArray) (l1_1:List (S68)) (a1_2:Bool) (a1_3:Bool) (a1_4:Int):Option (Bool):=if (l1_1.length:Int) < 1 then (spec_l4Decls.j0 k true l0_0 l0_1 l0_2 a1_0 l1_1 a1_2 a1_3 a1_4) else (if (l1_1.length:Int) > 4 then (spec_l4Decls.j0 k true l0_0 l0_1 l0_2 a1_0 l1_1 a1_2 a1_3 a1_4) else (if 0 < (l1_1.length:Int) then (spec_l4Decls.j0 k (decide ((((rd_T68 l1_1 0).f0).length:Int) > 3)) l0_0 l0_1 l0_2 a1_0 l1_1 a1_2 a1_3 a1_4) else (none)))
set_option maxHeartbeats 8000000 in
set_option maxRecDepth 100000 in
theorem spec_l4Decls.calls (k:Nat) (A0_0:Option Addr) (c0_0:Nat) (l0_0:List ByteArray) (A0_1:Option Addr) (c0_1:Nat) (l0_1:List (S89)) (A0_2:Option Addr) (c0_2:Nat) (l0_2:List (S50)) (a1_0:ByteArray) (A1_1:Option Addr) (c1_1:Nat) (l1_1:List (S68)) (a1_2:Bool) (a1_3:Bool) (a1_4:Int) (r:Bool) (w:World) (hr0_0:Kd.C Kd.string w A0_0 l0_0.length l0_0) (hc0_0:l0_0.length≤c0_0) (hr0_1:Kd.C k89 w A0_1 l0_1.length l0_1) (hc0_1:l0_1.length≤c0_1) (hr0_2:Kd.C k50 w A0_2 l0_2.length l0_2) (hc0_2:l0_2.length≤c0_2) (hr1_1:Kd.C k68 w A1_1 l1_1.length l1_1) (hc1_1:l1_1.length≤c1_1) (h:spec_l4Decls.f k l0_0 l0_1 l0_2 a1_0 l1_1 a1_2 a1_3 a1_4=some r) :
  Calls Try.prog 25 #[.agg #[.slice A0_0 l0_0.length c0_0,.slice A0_1 l0_1.length c0_1,.slice A0_2 l0_2.length c0_2],.agg #[.string a1_0,.slice A1_1 l1_1.length c1_1,.bool a1_2,.bool a1_3,.int .i64 a1_4]] w fun e w'=>e=.returned (.bool r)∧Below w.heap.size w w':=by
 have hu36:=Try.underlying36
 have hu50:=Try.underlying50
 have hu33:=Try.underlying33
 have hu68:=Try.underlying68
 have K7:=Aside0.mk hr0_0
 have K8:=Aside0.mk hc0_0
 clear hr0_0 hc0_0
 have K9:=Aside0.mk hr0_1
 have L0:=Aside0.mk hc0_1
 clear hr0_1 hc0_1
 have Z6:=Aside0.mk hr0_2
 have Z7:=Aside0.mk hc0_2
 clear hr0_2 hc0_2
 have H5:=Aside0.mk hr1_1
 have Z8:=Aside0.mk hc1_1
 clear hr1_1 hc1_1
 have HB:=Aside0.mk (Below.refl w.heap.size w)
 have H:(if (l1_1.length:Int) < 1 then (spec_l4Decls.j0 k true l0_0 l0_1 l0_2 a1_0 l1_1 a1_2 a1_3 a1_4) else (if (l1_1.length:Int) > 4 then (spec_l4Decls.j0 k true l0_0 l0_1 l0_2 a1_0 l1_1 a1_2 a1_3 a1_4) else (if 0 < (l1_1.length:Int) then (spec_l4Decls.j0 k (decide ((((rd_T68 l1_1 0).f0).length:Int) > 3)) l0_0 l0_1 l0_2 a1_0 l1_1 a1_2 a1_3 a1_4) else (none))))=some r:=h
 clear h
 have L7:=Aside0.mk H
 clear H
 go_enter Try.func25,Try.ntmps25
 go_upto_region 1 with (first | ((with_reducible refine gate_dst (N:=2) rfl ?_);(try (refine gate_guard (by rfl) ?_;dsimp only));refine bx 2 rfl #[.slice A0_0 l0_0.length c0_0,.slice A0_1 l0_1.length c0_1,.slice A0_2 l0_2.length c0_2] 36 ?_;intro G0 hg w4 hbox hb;have A0:=Aside0.mk (hbox);have L8:=hZ HB hg;have L9:=hZ HB hg;replace HB:=hS HB hb;clear hb hbox hg) | ((with_reducible refine gate_dst (N:=3) rfl ?_);(try (refine gate_guard (by rfl) ?_;dsimp only));refine bx 3 rfl #[.string a1_0,.slice A1_1 l1_1.length c1_1,.bool a1_2,.bool a1_3,.int .i64 a1_4] 50 ?_;intro G1 hg w5 hbox hb;have A1:=Aside0.mk (hbox);have M0:=hZ HB hg;have M1:=hZ HB hg;replace HB:=hS HB hb;have B7:=nL A0 hg;have B8:=nG A0 hg;replace A0:=bB A0 hb;clear hb hbox hg))
 repeat (go_quiet (fail);go_upto_region 1 with (first | ((with_reducible refine gate_dst (N:=2) rfl ?_);(try (refine gate_guard (by rfl) ?_;dsimp only));refine bx 2 rfl #[.slice A0_0 l0_0.length c0_0,.slice A0_1 l0_1.length c0_1,.slice A0_2 l0_2.length c0_2] 36 ?_;intro G0 hg w4 hbox hb;have A0:=Aside0.mk (hbox);have L8:=hZ HB hg;have L9:=hZ HB hg;replace HB:=hS HB hb;clear hb hbox hg) | ((with_reducible refine gate_dst (N:=3) rfl ?_);(try (refine gate_guard (by rfl) ?_;dsimp only));refine bx 3 rfl #[.string a1_0,.slice A1_1 l1_1.length c1_1,.bool a1_2,.bool a1_3,.int .i64 a1_4] 50 ?_;intro G1 hg w5 hbox hb;have A1:=Aside0.mk (hbox);have M0:=hZ HB hg;have M1:=hZ HB hg;replace HB:=hS HB hb;have B7:=nL A0 hg;have B8:=nG A0 hg;replace A0:=bB A0 hb;clear hb hbox hg)))
 (try simp only [Act.put,List.setIfInBounds_toArray,List.set_cons_zero,List.set_cons_succ])
 go_cut [28] (fun v28 wc=> ∃ (kq:Nat) (x28_2:Bool),v28=.bool x28_2∧Aside0 (spec_l4Decls.j0 kq x28_2 l0_0 l0_1 l0_2 a1_0 l1_1 a1_2 a1_3 a1_4=some r)∧Aside0 (kq≤k)∧Aside0 (wc.heap[G0]? = some (.cells #[(.slice A0_0 l0_0.length c0_0),(.slice A0_1 l0_1.length c0_1),(.slice A0_2 l0_2.length c0_2)] 36 (0,0)))∧Aside0 (wc.heap[G1]? = some (.cells #[.string a1_0,(.slice A1_1 l1_1.length c1_1),.bool a1_2,.bool a1_3,.int .i64 a1_4] 50 (0,0)))∧Aside0 (Below w.heap.size w wc))
 case first=>
  have H:=L7.out
  clear L7
  by_cases c6:(l1_1.length:Int) < 1
  ·rw [if_pos c6] at H
   have H8:=decide_eq_true c6
   have O6:decide (l1_1.length < 1)=true:=decide_eq_true (by omega)
   clear c6
   (first | rw [H8] | (simp only [i64_w,i32_w];rw [H8]) | skip)
   have H':=Aside0.mk H
   clear H
   have j7:=B8.out
   have j8:=B7.out
   obtain ⟨X4,X5,X6,X7,X8,X9,Y0,Y1,Y2,Y3⟩:=cf5 A1
   go_wp2
   repeat (go_quiet (fail);try go_wp2)
   go_meet
   case rel=>exact ⟨_,(true),spec_l4Decls.a1,H',⟨by first | omega | exact Nat.le_refl _⟩,⟨vB A0⟩,⟨vB A1⟩,⟨hV HB⟩⟩
  ·rw [if_neg c6] at H
   have H8:=decide_eq_false c6
   have O6:decide (l1_1.length < 1)=false:=decide_eq_false (by omega)
   clear c6
   (first | rw [H8] | (simp only [i64_w,i32_w];rw [H8]) | skip)
   by_cases c9:(l1_1.length:Int) > 4
   ·rw [if_pos c9] at H
    have O7:=decide_eq_true c9
    have O8:decide (4 < l1_1.length)=true:=decide_eq_true (by omega)
    clear c9
    have H':=Aside0.mk H
    clear H
    have Z9:=B8.out
    have a8:=B7.out
    obtain ⟨Q7,Q8,Q9,R0,R1,R2,R3,R4,R5,R6⟩:=cf5 A1
    go_wp2
    repeat (go_quiet (fail);try go_wp2)
    go_meet
    case rel=>exact ⟨_,(true),spec_l4Decls.a1,H',⟨by first | omega | exact Nat.le_refl _⟩,⟨vB A0⟩,⟨vB A1⟩,⟨hV HB⟩⟩
   ·rw [if_neg c9] at H
    have O7:=decide_eq_false c9
    have O8:decide (4 < l1_1.length)=false:=decide_eq_false (by omega)
    clear c9
    by_cases c12:0 < (l1_1.length:Int)
    rotate_left
    ·rw [if_neg c12] at H
     exact absurd H (by simp)
    rw [if_pos c12] at H
    have a9:=decide_eq_true c12
    have b0:decide (0 < l1_1.length)=true:=decide_eq_true (by omega)
    clear c12
    have H':=Aside0.mk H
    clear H
    have b1:=B8.out
    have b2:=B7.out
    obtain ⟨R7,R8,R9,S0,S1,S2,S3,S4,S5,S6⟩:=cf5 A1
    have K4:0≤(0:Int):=(by omega)
    have K5:0 < (l1_1.length:Int):=dT
    obtain ⟨b3,A166_0,c166_0,e166,C4,C5,I1,I2⟩:=at_T68 H5.out 0 K4 K5
    cases e166
    have b4:(0 < l1_1.length)=True:=eq_true (by omega)
    (try rw [show ((0:Int)).toNat=0 from rfl] at C4)
    (try rw [show 0 * 2=0 from rfl] at C4)
    (try rw [Addr.add_zero'] at C4)
    (try rw [show ((0:Int)).toNat=0 from rfl] at C5)
    (try rw [show 0 * 2=0 from rfl] at C5)
    (try rw [Addr.add_zero'] at C5)
    replace C4:=xc HB C4
    replace C5:=xc HB C5
    have S7:=Aside0.mk I2
    have S8:=Aside0.mk I1
    clear I2 I1
    replace K4:=eq_true K4
    replace K5:=eq_true K5
    go_wp2
    repeat (go_quiet (fail);try go_wp2)
    go_meet
    case rel=>exact ⟨_,(decide ((((rd_T68 l1_1 0).f0).length:Int) > 3)),spec_l4Decls.a1,H',⟨by first | omega | exact Nat.le_refl _⟩,⟨vB A0⟩,⟨vB A1⟩,⟨hV HB⟩⟩
 clear L7
 obtain ⟨kq,x28_2,rfl,HA,HJ2,A0,A1,HB⟩:=hcut
 cases kq with
 | zero=>exact absurd HA.out (by simp [spec_l4Decls.j0])
 | succ kj2=>
  have H:=HA.out
  clear HA
  simp only [spec_l4Decls.j0] at H
  by_cases c15:x28_2=true
  ·subst c15
   rw [if_pos rfl] at H
   obtain rfl:=Option.some.inj H
   go_wp2
   repeat (go_quiet (fail);try go_wp2)
   go_ret
   exact ⟨spec_l4Decls.a0,hV HB⟩
  replace c15:=Bool.eq_false_iff.mpr c15
  subst c15
  rw [if_neg (show ¬ (false=true) by decide)] at H
  replace H:=Option.bind_eq_some_iff.mp H
  obtain ⟨t167,A160,H⟩:=H
  replace H:(if 0 < (l1_1.length:Int) then (spec_l4Decls.l0 kj2 t167 0 a1_0 l1_1 a1_2 a1_3 a1_4 ((rd_T68 l1_1 0).f0) ((rd_T68 l1_1 0).f1)) else (none))=some r:=H
  have A16:=Aside0.mk A160
  clear A160
  by_cases c17:0 < (l1_1.length:Int)
  rotate_left
  ·rw [if_neg c17] at H
   exact absurd H (by simp)

  rw [if_pos c17] at H
  have J5:=decide_eq_true c17
  have J6:decide (0 < l1_1.length)=true:=decide_eq_true (by omega)
  clear c17
  have H':=Aside0.mk H
  clear H
  have b5:=B7.out
  have b6:=B8.out
  obtain ⟨G4,G5,G6,G7,G8,G9⟩:=cf3 A0
  go_wp2_with (first | (go_at_call 51;(with_reducible refine (spec_l3Kinds.calls kj2 _ _ l0_0 _ _ l0_1 t167 _ ?side1 ?side2 ?side3 ?side4 A16.out).mono ?_);(case side1=>exact cB K7 HB);(case side2=>exact K8.out);(case side3=>exact cB K9 HB);(case side4=>exact L0.out);rintro e w20 ⟨v168,rfl,ho0,hb⟩;have D1:=rL ho0 HB;replace A0:=bB A0 hb;replace A1:=bB A1 hb;replace HB:=hS HB hb;(try clear hb);(try clear hb2);(try clear hk);(try clear hi);(try clear ho0);obtain ⟨D2,D3,D4,D5,D6,D7,D8,D9,E0,E1⟩:=cf5 A1;have C2:0≤(0:Int):=(by omega);have C3:0 < (l1_1.length:Int):=dT;obtain ⟨G2,A170_0,c170_0,e170,A5,A6,C6,C7⟩:=at_T68 H5.out 0 C2 C3;cases e170;have M2:(0 < l1_1.length)=True:=eq_true (by omega);(try rw [show ((0:Int)).toNat=0 from rfl] at A5);(try rw [show 0 * 2=0 from rfl] at A5);(try rw [Addr.add_zero'] at A5);(try rw [show ((0:Int)).toNat=0 from rfl] at A6);(try rw [show 0 * 2=0 from rfl] at A6);(try rw [Addr.add_zero'] at A6);replace A5:=xc HB A5;replace A6:=xc HB A6;have H0:=Aside0.mk C7;have L2:=Aside0.mk C6;clear C7 C6;replace C2:=eq_true C2;replace C3:=eq_true C3) | ((with_reducible refine gate_dst (N:=6) rfl ?_);(try (refine gate_guard (by rfl) ?_;dsimp only));refine bx 6 rfl #[.slice none 0 0,.int .i64 0] 68 ?_;intro H6 hg w22 hbox hb;replace D1:=rB D1 hb;have A2:=Aside0.mk (hbox);have M3:=hZ HB hg;have M4:=hZ HB hg;replace HB:=hS HB hb;have B5:=nL A0 hg;have B6:=nG A0 hg;replace A0:=bB A0 hb;have A3:=nL A1 hg;have A4:=nG A1 hg;replace A1:=bB A1 hb;clear hb hbox hg;have M5:=B6.out;have M6:=B5.out;have M7:=A4.out;have M8:=A3.out;obtain ⟨E2,E3,E4,E5⟩:=cf2 A2))
  repeat (go_quiet (fail);try go_wp2_with (first | (go_at_call 51;(with_reducible refine (spec_l3Kinds.calls kj2 _ _ l0_0 _ _ l0_1 t167 _ ?side1 ?side2 ?side3 ?side4 A16.out).mono ?_);(case side1=>exact cB K7 HB);(case side2=>exact K8.out);(case side3=>exact cB K9 HB);(case side4=>exact L0.out);rintro e w20 ⟨v168,rfl,ho0,hb⟩;have D1:=rL ho0 HB;replace A0:=bB A0 hb;replace A1:=bB A1 hb;replace HB:=hS HB hb;(try clear hb);(try clear hb2);(try clear hk);(try clear hi);(try clear ho0);obtain ⟨D2,D3,D4,D5,D6,D7,D8,D9,E0,E1⟩:=cf5 A1;have C2:0≤(0:Int):=(by omega);have C3:0 < (l1_1.length:Int):=dT;obtain ⟨G2,A170_0,c170_0,e170,A5,A6,C6,C7⟩:=at_T68 H5.out 0 C2 C3;cases e170;have M2:(0 < l1_1.length)=True:=eq_true (by omega);(try rw [show ((0:Int)).toNat=0 from rfl] at A5);(try rw [show 0 * 2=0 from rfl] at A5);(try rw [Addr.add_zero'] at A5);(try rw [show ((0:Int)).toNat=0 from rfl] at A6);(try rw [show 0 * 2=0 from rfl] at A6);(try rw [Addr.add_zero'] at A6);replace A5:=xc HB A5;replace A6:=xc HB A6;have H0:=Aside0.mk C7;have L2:=Aside0.mk C6;clear C7 C6;replace C2:=eq_true C2;replace C3:=eq_true C3) | ((with_reducible refine gate_dst (N:=6) rfl ?_);(try (refine gate_guard (by rfl) ?_;dsimp only));refine bx 6 rfl #[.slice none 0 0,.int .i64 0] 68 ?_;intro H6 hg w22 hbox hb;replace D1:=rB D1 hb;have A2:=Aside0.mk (hbox);have M3:=hZ HB hg;have M4:=hZ HB hg;replace HB:=hS HB hb;have B5:=nL A0 hg;have B6:=nG A0 hg;replace A0:=bB A0 hb;have A3:=nL A1 hg;have A4:=nG A1 hg;replace A1:=bB A1 hb;clear hb hbox hg;have M5:=B6.out;have M6:=B5.out;have M7:=A4.out;have M8:=A3.out;obtain ⟨E2,E3,E4,E5⟩:=cf2 A2)))
  go_loopg [7] kj2 (fun kq v7 w'=> ∃ (x7_2:Int),v7=.int .i64 x7_2∧Aside0 (spec_l4Decls.l0 kq t167 x7_2 a1_0 l1_1 a1_2 a1_3 a1_4 ((rd_T68 l1_1 0).f0) ((rd_T68 l1_1 0).f1)=some r)∧Aside0 (kq≤kj2)∧Aside0 (Kd.R (Kd.int .i64) 3 w' w.heap.size (fun _=>True) v168 t167)∧Aside0 (w'.heap[G0]? = some (.cells #[(.slice A0_0 l0_0.length c0_0),(.slice A0_1 l0_1.length c0_1),(.slice A0_2 l0_2.length c0_2)] 36 (0,0)))∧Aside0 (w'.heap[G1]? = some (.cells #[.string a1_0,(.slice (some G2) l1_1.length c1_1),.bool a1_2,.bool a1_3,.int .i64 a1_4] 50 (0,0)))∧Aside0 (w'.heap[H6]? = some (.cells #[(.slice A170_0 ((rd_T68 l1_1 0).f0).length c170_0),.int .i64 ((rd_T68 l1_1 0).f1)] 68 (0,0)))∧Aside0 (Below w.heap.size w w'))
  case atStart=>exact ⟨(0),spec_l4Decls.a1,H',⟨Nat.le_refl _⟩,⟨rT D1 A2 (fun _ hk=>trivial)⟩,⟨vB A0⟩,⟨vB A1⟩,⟨vP A2⟩,⟨hV HB⟩⟩
  clear H'
  try clear c15
  try clear c17
  try clear J5
  try clear J6
  try clear G4
  try clear G6
  try clear G8
  try clear D2
  try clear D4
  try clear D6
  try clear D8
  try clear E0
  try clear E2
  try clear E4
  try clear G5
  try clear G7
  try clear G9
  try clear D3
  try clear D5
  try clear D7
  try clear D9
  try clear E1
  try clear E3
  try clear E5
  try clear A5
  try clear A6
  try clear C2
  try clear C3
  obtain ⟨x7_2,rfl,HA,HK2,A7,A0,A1,A2,HB⟩:=hrel
  cases gk with
  | zero=>exact absurd HA.out (by simp [spec_l4Decls.l0])
  | succ k2=>
   have H:=HA.out
   clear HA
   simp only [spec_l4Decls.l0] at H
   by_cases c26:x7_2 < (l1_1.length:Int)
   ·rw [if_pos c26] at H
    have J7:=decide_eq_true c26
    clear c26
    by_cases c27:0≤x7_2
    rotate_left
    ·rw [if_neg c27] at H
     exact absurd H (by simp)
    rw [if_pos c27] at H
    have L1:=decide_eq_true c27
    clear c27
    have K6:=Aside0.mk H
    clear H
    have b7:=B8.out
    have b8:=B7.out
    have b9:=A3.out
    have c0:=A4.out
    obtain ⟨I3,I4,I5,I6,I7,I8,I9,J0,J1,J2⟩:=cf5 A1
    have H9:0≤(x7_2:Int):=dT
    have I0:x7_2 < (l1_1.length:Int):=dT
    obtain ⟨M9,A172_0,c172_0,e172,E6,E7,J3,J4⟩:=at_T68 H5.out x7_2 H9 I0
    obtain rfl:G2=M9:=(by injection e172)
    replace E6:=xc HB E6
    replace E7:=xc HB E7
    have C8:=Aside0.mk J4
    have S9:=Aside0.mk J3
    clear J4 J3
    replace H9:=eq_true H9
    replace I0:=eq_true I0
    go_upto_region 9 with (first | ((with_reducible refine gate_dst (N:=8) rfl ?_);(try (refine gate_guard (by rfl) ?_;dsimp only));refine bx 8 rfl #[.slice none 0 0,.int .i64 0] 68 ?_;intro J8 hg w32 hbox hb;replace A7:=rB A7 hb;have B4:=Aside0.mk (hbox);have N0:=hZ HB hg;have N1:=hZ HB hg;replace HB:=hS HB hb;have A8:=nL A0 hg;have A9:=nG A0 hg;replace A0:=bB A0 hb;have B0:=nL A1 hg;have B1:=nG A1 hg;replace A1:=bB A1 hb;have B2:=nL A2 hg;have B3:=nG A2 hg;replace A2:=bB A2 hb;clear hb hbox hg;have N2:=A9.out;have N3:=A8.out;have N4:=B1.out;have N5:=B0.out;have N6:=B3.out;have N7:=B2.out;obtain ⟨H1,H2,H3,H4⟩:=cf2 B4))
    repeat (go_quiet (fail);go_upto_region 9 with (first | ((with_reducible refine gate_dst (N:=8) rfl ?_);(try (refine gate_guard (by rfl) ?_;dsimp only));refine bx 8 rfl #[.slice none 0 0,.int .i64 0] 68 ?_;intro J8 hg w32 hbox hb;replace A7:=rB A7 hb;have B4:=Aside0.mk (hbox);have N0:=hZ HB hg;have N1:=hZ HB hg;replace HB:=hS HB hb;have A8:=nL A0 hg;have A9:=nG A0 hg;replace A0:=bB A0 hb;have B0:=nL A1 hg;have B1:=nG A1 hg;replace A1:=bB A1 hb;have B2:=nL A2 hg;have B3:=nG A2 hg;replace A2:=bB A2 hb;clear hb hbox hg;have N2:=A9.out;have N3:=A8.out;have N4:=B1.out;have N5:=B0.out;have N6:=B3.out;have N7:=B2.out;obtain ⟨H1,H2,H3,H4⟩:=cf2 B4)))
    (try simp only [Act.put,List.setIfInBounds_toArray,List.set_cons_zero,List.set_cons_succ])
    go_cut [63] (fun v63 wc=> ∃ (kq:Nat) (x63_27:Bool),v63=.bool x63_27∧Aside0 (spec_l4Decls.j2 kq t167 x7_2 x63_27 a1_0 l1_1 a1_2 a1_3 a1_4 ((rd_T68 l1_1 0).f0) ((rd_T68 l1_1 0).f1) ((rd_T68 l1_1 x7_2).f0) ((rd_T68 l1_1 x7_2).f1)=some r)∧Aside0 (kq≤k2)∧Aside0 (Kd.R (Kd.int .i64) 3 wc w.heap.size (fun _=>True) v168 t167)∧Aside0 (wc.heap[G0]? = some (.cells #[(.slice A0_0 l0_0.length c0_0),(.slice A0_1 l0_1.length c0_1),(.slice A0_2 l0_2.length c0_2)] 36 (0,0)))∧Aside0 (wc.heap[G1]? = some (.cells #[.string a1_0,(.slice (some G2) l1_1.length c1_1),.bool a1_2,.bool a1_3,.int .i64 a1_4] 50 (0,0)))∧Aside0 (wc.heap[H6]? = some (.cells #[(.slice A170_0 ((rd_T68 l1_1 0).f0).length c170_0),.int .i64 ((rd_T68 l1_1 0).f1)] 68 (0,0)))∧Aside0 (wc.heap[J8]? = some (.cells #[(.slice A172_0 ((rd_T68 l1_1 x7_2).f0).length c172_0),.int .i64 ((rd_T68 l1_1 x7_2).f1)] 68 (0,0)))∧Aside0 (Below w.heap.size w wc))
    case first=>
     have H:=K6.out
     clear K6
     by_cases c37:(((rd_T68 l1_1 x7_2).f0).length:Int)=(((rd_T68 l1_1 0).f0).length:Int)
     ·rw [if_pos c37] at H
      have G3:((((rd_T68 l1_1 x7_2).f0).length:Int) == (((rd_T68 l1_1 0).f0).length:Int))=true:=beq_iff_eq.mpr c37
      have N8:((((rd_T68 l1_1 x7_2).f0).length:Int) != (((rd_T68 l1_1 0).f0).length:Int))=false:=bne_eq_false_iff_eq.mpr c37
      have N9:(((rd_T68 l1_1 x7_2).f0).length == ((rd_T68 l1_1 0).f0).length)=true:=by first | simpa using c37 | (simp at c37 ⊢;omega)
      clear c37
      (first | rw [G3] | (simp only [i64_w,i32_w];rw [G3]) | skip)
      replace H:=Option.bind_eq_some_iff.mp H
      obtain ⟨t174,A380,H⟩:=H
      replace H:(spec_l4Decls.j2 k2 t167 x7_2 (!t174) a1_0 l1_1 a1_2 a1_3 a1_4 ((rd_T68 l1_1 0).f0) ((rd_T68 l1_1 0).f1) ((rd_T68 l1_1 x7_2).f0) ((rd_T68 l1_1 x7_2).f1))=some r:=H
      have A38:=Aside0.mk A380
      clear A380
      have H':=Aside0.mk H
      clear H
      have c1:=A9.out
      have c2:=A8.out
      have c3:=B1.out
      have c4:=B0.out
      have c5:=B3.out
      have c7:=B2.out
      obtain ⟨T0,T1,T2,T3⟩:=cf2 B4
      have c8:=B6.out
      have d0:=B5.out
      have d1:=A4.out
      have d2:=A3.out
      obtain ⟨T4,T5,T6,T7⟩:=cf2 A2
      obtain ⟨j9,k0,eo46⟩:=Kd.R_slice A7.out
      subst eo46
      go_wp2_with (first | (go_at_call 35;(with_reducible refine (spec_l1In.calls ((rd_T68 l1_1 x7_2).f1) 0 (wrap64 ((t167.length:Int) - 1)) t174 _ A38.out).mono ?_);rintro e w' ⟨rfl,⟨nd,rfl⟩⟩;(try first | exact ⟨rfl,_,World.drewN_drewN _ _ _⟩ | exact ⟨rfl,_,Eq.trans (World.drewN_drewN _ _ _) (congrArg (World.drewN _) (Nat.add_assoc _ _ _))⟩)))
      repeat (go_quiet (first | (go_at_call 35;(with_reducible refine (spec_l1In.calls ((rd_T68 l1_1 x7_2).f1) 0 (wrap64 ((t167.length:Int) - 1)) t174 _ A38.out).mono ?_);rintro e w' ⟨rfl,⟨nd,rfl⟩⟩;(try first | exact ⟨rfl,_,World.drewN_drewN _ _ _⟩ | exact ⟨rfl,_,Eq.trans (World.drewN_drewN _ _ _) (congrArg (World.drewN _) (Nat.add_assoc _ _ _))⟩)));try go_wp2_with (first | (go_at_call 35;(with_reducible refine (spec_l1In.calls ((rd_T68 l1_1 x7_2).f1) 0 (wrap64 ((t167.length:Int) - 1)) t174 _ A38.out).mono ?_);rintro e w' ⟨rfl,⟨nd,rfl⟩⟩;(try first | exact ⟨rfl,_,World.drewN_drewN _ _ _⟩ | exact ⟨rfl,_,Eq.trans (World.drewN_drewN _ _ _) (congrArg (World.drewN _) (Nat.add_assoc _ _ _))⟩))))
      go_meet
      case rel=>exact ⟨_,(!t174),spec_l4Decls.a1,H',⟨by have:=HJ2.out;have:=HK2.out;first | omega | exact Nat.le_refl _⟩,⟨rT A7 B4 (fun _ hk=>trivial)⟩,⟨vB A0⟩,⟨vB A1⟩,⟨vB A2⟩,⟨vP B4⟩,⟨hV HB⟩⟩
     ·rw [if_neg c37] at H
      have G3:((((rd_T68 l1_1 x7_2).f0).length:Int) == (((rd_T68 l1_1 0).f0).length:Int))=false:=beq_eq_false_iff_ne.mpr c37
      have N8:((((rd_T68 l1_1 x7_2).f0).length:Int) != (((rd_T68 l1_1 0).f0).length:Int))=true:=bne_iff_ne.mpr c37
      have N9:(((rd_T68 l1_1 x7_2).f0).length == ((rd_T68 l1_1 0).f0).length)=false:=by first | simpa using c37 | (simp at c37 ⊢;omega)
      (first | rw [G3] | (simp only [i64_w,i32_w];rw [G3]) | skip)
      have H':=Aside0.mk H
      clear H
      have d3:=A9.out
      have d4:=A8.out
      have d5:=B1.out
      have d6:=B0.out
      have d7:=B3.out
      have d8:=B2.out
      obtain ⟨T8,T9,U0,U1⟩:=cf2 B4
      have d9:=B6.out
      have e0:=B5.out
      have e1:=A4.out
      have e2:=A3.out
      obtain ⟨U2,U3,U4,U5⟩:=cf2 A2
      go_wp2
      repeat (go_quiet (fail);try go_wp2)
      go_meet
      case rel=>exact ⟨_,(true),spec_l4Decls.a1,H',⟨by have:=HJ2.out;have:=HK2.out;first | omega | exact Nat.le_refl _⟩,⟨rT A7 B4 (fun _ hk=>trivial)⟩,⟨vB A0⟩,⟨vB A1⟩,⟨vB A2⟩,⟨vP B4⟩,⟨hV HB⟩⟩
    clear K6
    try clear c15
    try clear c17
    try clear J5
    try clear J6
    try clear c26
    try clear J7
    try clear c27
    try clear L1
    try clear G4
    try clear G6
    try clear G8
    try clear D2
    try clear D4
    try clear D6
    try clear D8
    try clear E0
    try clear E2
    try clear E4
    try clear I3
    try clear I5
    try clear I7
    try clear I9
    try clear J1
    try clear H1
    try clear H3
    try clear G5
    try clear G7
    try clear G9
    try clear D3
    try clear D5
    try clear D7
    try clear D9
    try clear E1
    try clear E3
    try clear E5
    try clear I4
    try clear I6
    try clear I8
    try clear J0
    try clear J2
    try clear H2
    try clear H4
    try clear A5
    try clear A6
    try clear E6
    try clear E7
    try clear C2
    try clear H9
    try clear C3
    try clear I0
    obtain ⟨kq,x63_27,rfl,HA,HJ27,A7,A0,A1,A2,B4,HB⟩:=hcut
    cases kq with
    | zero=>exact absurd HA.out (by simp [spec_l4Decls.j2])
    | succ kj27=>
     have H:=HA.out
     clear HA
     simp only [spec_l4Decls.j2] at H
     by_cases c54:x63_27=true
     ·subst c54
      rw [if_pos rfl] at H
      obtain rfl:=Option.some.inj H
      go_wp2
      repeat (go_quiet (fail);try go_wp2)
      go_ret
      exact ⟨spec_l4Decls.a0,hV HB⟩
     replace c54:=Bool.eq_false_iff.mpr c54
     subst c54
     rw [if_neg (show ¬ (false=true) by decide)] at H
     have H':=Aside0.mk H
     clear H
     go_wp2
     repeat (go_quiet (fail);try go_wp2)
     go_loopg [9] kj27 (fun kq v9 w'=> ∃ (x9_4:Int),v9=.int .i64 x9_4∧Aside0 (spec_l4Decls.l1 kq t167 x7_2 x9_4 a1_0 l1_1 a1_2 a1_3 a1_4 ((rd_T68 l1_1 0).f0) ((rd_T68 l1_1 0).f1) ((rd_T68 l1_1 x7_2).f0) ((rd_T68 l1_1 x7_2).f1)=some r)∧Aside0 (kq≤kj27)∧Aside0 (Kd.R (Kd.int .i64) 3 w' w.heap.size (fun _=>True) v168 t167)∧Aside0 (w'.heap[G0]? = some (.cells #[(.slice A0_0 l0_0.length c0_0),(.slice A0_1 l0_1.length c0_1),(.slice A0_2 l0_2.length c0_2)] 36 (0,0)))∧Aside0 (w'.heap[G1]? = some (.cells #[.string a1_0,(.slice (some G2) l1_1.length c1_1),.bool a1_2,.bool a1_3,.int .i64 a1_4] 50 (0,0)))∧Aside0 (w'.heap[H6]? = some (.cells #[(.slice A170_0 ((rd_T68 l1_1 0).f0).length c170_0),.int .i64 ((rd_T68 l1_1 0).f1)] 68 (0,0)))∧Aside0 (w'.heap[J8]? = some (.cells #[(.slice A172_0 ((rd_T68 l1_1 x7_2).f0).length c172_0),.int .i64 ((rd_T68 l1_1 x7_2).f1)] 68 (0,0)))∧Aside0 (Below w.heap.size w w'))
     case atStart=>exact ⟨(0),spec_l4Decls.a1,H',⟨Nat.le_refl _⟩,⟨rV A7⟩,⟨vB A0⟩,⟨vB A1⟩,⟨vB A2⟩,⟨vB B4⟩,⟨hV HB⟩⟩
     clear H'
     try clear c15
     try clear c17
     try clear J5
     try clear J6
     try clear c26
     try clear J7
     try clear c27
     try clear L1
     try clear c54
     try clear G4
     try clear G6
     try clear G8
     try clear D2
     try clear D4
     try clear D6
     try clear D8
     try clear E0
     try clear E2
     try clear E4
     try clear I3
     try clear I5
     try clear I7
     try clear I9
     try clear J1
     try clear H1
     try clear H3
     try clear G5
     try clear G7
     try clear G9
     try clear D3
     try clear D5
     try clear D7
     try clear D9
     try clear E1
     try clear E3
     try clear E5
     try clear I4
     try clear I6
     try clear I8
     try clear J0
     try clear J2
     try clear H2
     try clear H4
     try clear A5
     try clear A6
     try clear E6
     try clear E7
     try clear C2
     try clear H9
     try clear C3
     try clear I0
     obtain ⟨x9_4,rfl,HA,HK4,A7,A0,A1,A2,B4,HB⟩:=hrel
     cases gk with
     | zero=>exact absurd HA.out (by simp [spec_l4Decls.l1])
     | succ k4=>
      have H:=HA.out
      clear HA
      simp only [spec_l4Decls.l1] at H
      by_cases c55:x9_4 < (((rd_T68 l1_1 x7_2).f0).length:Int)
      ·rw [if_pos c55] at H
       have O0:=decide_eq_true c55
       clear c55
       by_cases c56:0≤x9_4
       rotate_left
       ·rw [if_neg c56] at H
        exact absurd H (by simp)
       rw [if_pos c56] at H
       have e3:=decide_eq_true c56
       clear c56
       replace H:=Option.bind_eq_some_iff.mp H
       obtain ⟨t176,A570,H⟩:=H
       replace H:(if t176=true then (if 0≤(rd ((rd_T68 l1_1 x7_2).f0) x9_4) then (if (rd ((rd_T68 l1_1 x7_2).f0) x9_4) < (t167.length:Int) then (if x9_4 < (((rd_T68 l1_1 0).f0).length:Int) then (if 0≤(rd ((rd_T68 l1_1 0).f0) x9_4) then (if (rd ((rd_T68 l1_1 0).f0) x9_4) < (t167.length:Int) then (if (rd t167 (rd ((rd_T68 l1_1 x7_2).f0) x9_4))=(rd t167 (rd ((rd_T68 l1_1 0).f0) x9_4)) then (spec_l4Decls.l1 k4 t167 x7_2 (wrap64 (x9_4 + 1)) a1_0 l1_1 a1_2 a1_3 a1_4 ((rd_T68 l1_1 0).f0) ((rd_T68 l1_1 0).f1) ((rd_T68 l1_1 x7_2).f0) ((rd_T68 l1_1 x7_2).f1)) else (some false)) else (none)) else (none)) else (none)) else (none)) else (none)) else (some false))=some r:=H
       have A57:=Aside0.mk A570
       clear A570
       by_cases c58:t176=true
       ·subst c58
        rw [if_pos rfl] at H
        by_cases c59:0≤(rd ((rd_T68 l1_1 x7_2).f0) x9_4)
        rotate_left
        ·rw [if_neg c59] at H
         exact absurd H (by simp)
        rw [if_pos c59] at H
        have e4:=decide_eq_true c59
        clear c59
        by_cases c60:(rd ((rd_T68 l1_1 x7_2).f0) x9_4) < (t167.length:Int)
        rotate_left
        ·rw [if_neg c60] at H
         exact absurd H (by simp)
        rw [if_pos c60] at H
        have e5:=decide_eq_true c60
        clear c60
        by_cases c61:x9_4 < (((rd_T68 l1_1 0).f0).length:Int)
        rotate_left
        ·rw [if_neg c61] at H
         exact absurd H (by simp)
        rw [if_pos c61] at H
        have e6:=decide_eq_true c61
        clear c61
        by_cases c62:0≤(rd ((rd_T68 l1_1 0).f0) x9_4)
        rotate_left
        ·rw [if_neg c62] at H
         exact absurd H (by simp)
        rw [if_pos c62] at H
        have e7:=decide_eq_true c62
        clear c62
        by_cases c63:(rd ((rd_T68 l1_1 0).f0) x9_4) < (t167.length:Int)
        rotate_left
        ·rw [if_neg c63] at H
         exact absurd H (by simp)
        rw [if_pos c63] at H
        have e8:=decide_eq_true c63
        clear c63
        by_cases c64:(rd t167 (rd ((rd_T68 l1_1 x7_2).f0) x9_4))=(rd t167 (rd ((rd_T68 l1_1 0).f0) x9_4))
        ·rw [if_pos c64] at H
         have O1:((rd t167 (rd ((rd_T68 l1_1 x7_2).f0) x9_4)) == (rd t167 (rd ((rd_T68 l1_1 0).f0) x9_4)))=true:=beq_iff_eq.mpr c64
         have O2:((rd t167 (rd ((rd_T68 l1_1 x7_2).f0) x9_4)) != (rd t167 (rd ((rd_T68 l1_1 0).f0) x9_4)))=false:=bne_eq_false_iff_eq.mpr c64
         clear c64
         have H':=Aside0.mk H
         clear H
         have e9:=A9.out
         have f2:=A8.out
         have f3:=B1.out
         have f4:=B0.out
         have f5:=B3.out
         have f6:=B2.out
         obtain ⟨U6,U7,U8,U9⟩:=cf2 B4
         have C0:0≤(x9_4:Int):=dT
         have C1:x9_4 < (((rd_T68 l1_1 x7_2).f0).length:Int):=dT
         obtain ⟨H7,e175,B9⟩:=Kd.at_int C8.out x9_4 C0 C1
         cases e175
         replace B9:=xc HB B9
         replace C0:=eq_true C0
         replace C1:=eq_true C1
         obtain ⟨k1,k3,eo69⟩:=Kd.R_slice A7.out
         subst eo69
         have E8:0≤(x9_4:Int):=dT
         have E9:x9_4 < (((rd_T68 l1_1 x7_2).f0).length:Int):=dT
         obtain ⟨J9,e177,C9⟩:=Kd.at_int C8.out x9_4 E8 E9
         obtain rfl:H7=J9:=(by injection e177)
         replace C9:=xc HB C9
         replace E8:=eq_true E8
         replace E9:=eq_true E9
         have F0:0≤((rd ((rd_T68 l1_1 x7_2).f0) x9_4):Int):=dT
         have F1:(rd ((rd_T68 l1_1 x7_2).f0) x9_4) < (t167.length:Int):=dT
         obtain ⟨K0,e178,L3⟩:=Kd.at_int (Kd.R_reads' A7.out).2.2 (rd ((rd_T68 l1_1 x7_2).f0) x9_4) F0 F1
         cases e178
         replace F0:=eq_true F0
         replace F1:=eq_true F1
         have f7:=B6.out
         have f8:=B5.out
         have f9:=A4.out
         have g0:=A3.out
         obtain ⟨V0,V1,V2,V3⟩:=cf2 A2
         have F2:0≤(x9_4:Int):=dT
         have F3:x9_4 < (((rd_T68 l1_1 0).f0).length:Int):=dT
         obtain ⟨O3,e179,D0⟩:=Kd.at_int H0.out x9_4 F2 F3
         cases e179
         replace D0:=xc HB D0
         replace F2:=eq_true F2
         replace F3:=eq_true F3
         have F4:0≤((rd ((rd_T68 l1_1 0).f0) x9_4):Int):=dT
         have F5:(rd ((rd_T68 l1_1 0).f0) x9_4) < (t167.length:Int):=dT
         obtain ⟨K1,e180,L4⟩:=Kd.at_int (Kd.R_reads' A7.out).2.2 (rd ((rd_T68 l1_1 0).f0) x9_4) F4 F5
         obtain rfl:K0=K1:=(by injection e180)
         replace F4:=eq_true F4
         replace F5:=eq_true F5
         go_wp2_with (first | (go_at_call 35;(with_reducible refine (spec_l1In.calls (rd ((rd_T68 l1_1 x7_2).f0) x9_4) 0 (wrap64 ((t167.length:Int) - 1)) true _ A57.out).mono ?_);rintro e w' ⟨rfl,⟨nd,rfl⟩⟩;(try first | exact ⟨rfl,_,World.drewN_drewN _ _ _⟩ | exact ⟨rfl,_,Eq.trans (World.drewN_drewN _ _ _) (congrArg (World.drewN _) (Nat.add_assoc _ _ _))⟩)))
         repeat (go_quiet (first | (go_at_call 35;(with_reducible refine (spec_l1In.calls (rd ((rd_T68 l1_1 x7_2).f0) x9_4) 0 (wrap64 ((t167.length:Int) - 1)) true _ A57.out).mono ?_);rintro e w' ⟨rfl,⟨nd,rfl⟩⟩;(try first | exact ⟨rfl,_,World.drewN_drewN _ _ _⟩ | exact ⟨rfl,_,Eq.trans (World.drewN_drewN _ _ _) (congrArg (World.drewN _) (Nat.add_assoc _ _ _))⟩)));try go_wp2_with (first | (go_at_call 35;(with_reducible refine (spec_l1In.calls (rd ((rd_T68 l1_1 x7_2).f0) x9_4) 0 (wrap64 ((t167.length:Int) - 1)) true _ A57.out).mono ?_);rintro e w' ⟨rfl,⟨nd,rfl⟩⟩;(try first | exact ⟨rfl,_,World.drewN_drewN _ _ _⟩ | exact ⟨rfl,_,Eq.trans (World.drewN_drewN _ _ _) (congrArg (World.drewN _) (Nat.add_assoc _ _ _))⟩))))
         go_roundg k4
         case measure=>have:=HJ2.out;have:=HK2.out;have:=HJ27.out;have:=HK4.out;omega
         case rel=>exact ⟨(wrap64 (x9_4 + 1)),spec_l4Decls.a1,H',⟨by have:=HJ2.out;have:=HK2.out;have:=HJ27.out;have:=HK4.out;omega⟩,⟨rV A7⟩,⟨vB A0⟩,⟨vB A1⟩,⟨vB A2⟩,⟨vB B4⟩,⟨hV HB⟩⟩
        ·rw [if_neg c64] at H
         have O1:((rd t167 (rd ((rd_T68 l1_1 x7_2).f0) x9_4)) == (rd t167 (rd ((rd_T68 l1_1 0).f0) x9_4)))=false:=beq_eq_false_iff_ne.mpr c64
         have O2:((rd t167 (rd ((rd_T68 l1_1 x7_2).f0) x9_4)) != (rd t167 (rd ((rd_T68 l1_1 0).f0) x9_4)))=true:=bne_iff_ne.mpr c64
         obtain rfl:=Option.some.inj H
         have g1:=A9.out
         have g2:=A8.out
         have g3:=B1.out
         have g4:=B0.out
         have g5:=B3.out
         have g6:=B2.out
         obtain ⟨V4,V5,V6,V7⟩:=cf2 B4
         have C0:0≤(x9_4:Int):=dT
         have C1:x9_4 < (((rd_T68 l1_1 x7_2).f0).length:Int):=dT
         obtain ⟨H7,e175,B9⟩:=Kd.at_int C8.out x9_4 C0 C1
         cases e175
         replace B9:=xc HB B9
         replace C0:=eq_true C0
         replace C1:=eq_true C1
         obtain ⟨k5,k6,eo77⟩:=Kd.R_slice A7.out
         subst eo77
         have E8:0≤(x9_4:Int):=dT
         have E9:x9_4 < (((rd_T68 l1_1 x7_2).f0).length:Int):=dT
         obtain ⟨J9,e177,C9⟩:=Kd.at_int C8.out x9_4 E8 E9
         obtain rfl:H7=J9:=(by injection e177)
         replace C9:=xc HB C9
         replace E8:=eq_true E8
         replace E9:=eq_true E9
         have F0:0≤((rd ((rd_T68 l1_1 x7_2).f0) x9_4):Int):=dT
         have F1:(rd ((rd_T68 l1_1 x7_2).f0) x9_4) < (t167.length:Int):=dT
         obtain ⟨K0,e178,L3⟩:=Kd.at_int (Kd.R_reads' A7.out).2.2 (rd ((rd_T68 l1_1 x7_2).f0) x9_4) F0 F1
         cases e178
         replace F0:=eq_true F0
         replace F1:=eq_true F1
         have g7:=B6.out
         have g8:=B5.out
         have g9:=A4.out
         have h0:=A3.out
         obtain ⟨V8,V9,W0,W1⟩:=cf2 A2
         have F2:0≤(x9_4:Int):=dT
         have F3:x9_4 < (((rd_T68 l1_1 0).f0).length:Int):=dT
         obtain ⟨O3,e179,D0⟩:=Kd.at_int H0.out x9_4 F2 F3
         cases e179
         replace D0:=xc HB D0
         replace F2:=eq_true F2
         replace F3:=eq_true F3
         have F4:0≤((rd ((rd_T68 l1_1 0).f0) x9_4):Int):=dT
         have F5:(rd ((rd_T68 l1_1 0).f0) x9_4) < (t167.length:Int):=dT
         obtain ⟨K1,e180,L4⟩:=Kd.at_int (Kd.R_reads' A7.out).2.2 (rd ((rd_T68 l1_1 0).f0) x9_4) F4 F5
         obtain rfl:K0=K1:=(by injection e180)
         replace F4:=eq_true F4
         replace F5:=eq_true F5
         go_wp2_with (first | (go_at_call 35;(with_reducible refine (spec_l1In.calls (rd ((rd_T68 l1_1 x7_2).f0) x9_4) 0 (wrap64 ((t167.length:Int) - 1)) true _ A57.out).mono ?_);rintro e w' ⟨rfl,⟨nd,rfl⟩⟩;(try first | exact ⟨rfl,_,World.drewN_drewN _ _ _⟩ | exact ⟨rfl,_,Eq.trans (World.drewN_drewN _ _ _) (congrArg (World.drewN _) (Nat.add_assoc _ _ _))⟩)))
         repeat (go_quiet (first | (go_at_call 35;(with_reducible refine (spec_l1In.calls (rd ((rd_T68 l1_1 x7_2).f0) x9_4) 0 (wrap64 ((t167.length:Int) - 1)) true _ A57.out).mono ?_);rintro e w' ⟨rfl,⟨nd,rfl⟩⟩;(try first | exact ⟨rfl,_,World.drewN_drewN _ _ _⟩ | exact ⟨rfl,_,Eq.trans (World.drewN_drewN _ _ _) (congrArg (World.drewN _) (Nat.add_assoc _ _ _))⟩)));try go_wp2_with (first | (go_at_call 35;(with_reducible refine (spec_l1In.calls (rd ((rd_T68 l1_1 x7_2).f0) x9_4) 0 (wrap64 ((t167.length:Int) - 1)) true _ A57.out).mono ?_);rintro e w' ⟨rfl,⟨nd,rfl⟩⟩;(try first | exact ⟨rfl,_,World.drewN_drewN _ _ _⟩ | exact ⟨rfl,_,Eq.trans (World.drewN_drewN _ _ _) (congrArg (World.drewN _) (Nat.add_assoc _ _ _))⟩))))
         go_ret
         exact ⟨spec_l4Decls.a0,hV HB⟩
       ·replace c58:=Bool.eq_false_iff.mpr c58
        subst c58
        rw [if_neg (show ¬ (false=true) by decide)] at H
        obtain rfl:=Option.some.inj H
        have h1:=A9.out
        have h2:=A8.out
        have h3:=B1.out
        have h4:=B0.out
        have h5:=B3.out
        have h6:=B2.out
        obtain ⟨W2,W3,W4,W5⟩:=cf2 B4
        have C0:0≤(x9_4:Int):=dT
        have C1:x9_4 < (((rd_T68 l1_1 x7_2).f0).length:Int):=dT
        obtain ⟨H7,e175,B9⟩:=Kd.at_int C8.out x9_4 C0 C1
        cases e175
        replace B9:=xc HB B9
        replace C0:=eq_true C0
        replace C1:=eq_true C1
        obtain ⟨k7,k8,eo85⟩:=Kd.R_slice A7.out
        subst eo85
        go_wp2_with (first | (go_at_call 35;(with_reducible refine (spec_l1In.calls (rd ((rd_T68 l1_1 x7_2).f0) x9_4) 0 (wrap64 ((t167.length:Int) - 1)) false _ A57.out).mono ?_);rintro e w' ⟨rfl,⟨nd,rfl⟩⟩;(try first | exact ⟨rfl,_,World.drewN_drewN _ _ _⟩ | exact ⟨rfl,_,Eq.trans (World.drewN_drewN _ _ _) (congrArg (World.drewN _) (Nat.add_assoc _ _ _))⟩)))
        repeat (go_quiet (first | (go_at_call 35;(with_reducible refine (spec_l1In.calls (rd ((rd_T68 l1_1 x7_2).f0) x9_4) 0 (wrap64 ((t167.length:Int) - 1)) false _ A57.out).mono ?_);rintro e w' ⟨rfl,⟨nd,rfl⟩⟩;(try first | exact ⟨rfl,_,World.drewN_drewN _ _ _⟩ | exact ⟨rfl,_,Eq.trans (World.drewN_drewN _ _ _) (congrArg (World.drewN _) (Nat.add_assoc _ _ _))⟩)));try go_wp2_with (first | (go_at_call 35;(with_reducible refine (spec_l1In.calls (rd ((rd_T68 l1_1 x7_2).f0) x9_4) 0 (wrap64 ((t167.length:Int) - 1)) false _ A57.out).mono ?_);rintro e w' ⟨rfl,⟨nd,rfl⟩⟩;(try first | exact ⟨rfl,_,World.drewN_drewN _ _ _⟩ | exact ⟨rfl,_,Eq.trans (World.drewN_drewN _ _ _) (congrArg (World.drewN _) (Nat.add_assoc _ _ _))⟩))))
        go_ret
        exact ⟨spec_l4Decls.a0,hV HB⟩
      ·rw [if_neg c55] at H
       have O0:=decide_eq_false c55
       clear c55
       by_cases c86:0≤((rd_T68 l1_1 x7_2).f1)
       rotate_left
       ·rw [if_neg c86] at H
        exact absurd H (by simp)
       rw [if_pos c86] at H
       have h7:=decide_eq_true c86
       clear c86
       by_cases c87:((rd_T68 l1_1 x7_2).f1) < (t167.length:Int)
       rotate_left
       ·rw [if_neg c87] at H
        exact absurd H (by simp)
       rw [if_pos c87] at H
       have h8:=decide_eq_true c87
       clear c87
       by_cases c88:0≤((rd_T68 l1_1 0).f1)
       rotate_left
       ·rw [if_neg c88] at H
        exact absurd H (by simp)
       rw [if_pos c88] at H
       have h9:=decide_eq_true c88
       clear c88
       by_cases c89:((rd_T68 l1_1 0).f1) < (t167.length:Int)
       rotate_left
       ·rw [if_neg c89] at H
        exact absurd H (by simp)
       rw [if_pos c89] at H
       have i0:=decide_eq_true c89
       clear c89
       by_cases c90:(rd t167 ((rd_T68 l1_1 x7_2).f1))=(rd t167 ((rd_T68 l1_1 0).f1))
       ·rw [if_pos c90] at H
        have O4:((rd t167 ((rd_T68 l1_1 x7_2).f1)) == (rd t167 ((rd_T68 l1_1 0).f1)))=true:=beq_iff_eq.mpr c90
        have O5:((rd t167 ((rd_T68 l1_1 x7_2).f1)) != (rd t167 ((rd_T68 l1_1 0).f1)))=false:=bne_eq_false_iff_eq.mpr c90
        clear c90
        have H':=Aside0.mk H
        clear H
        have i1:=A9.out
        have i2:=A8.out
        have i3:=B1.out
        have i4:=B0.out
        have i5:=B3.out
        have i6:=B2.out
        obtain ⟨W6,W7,W8,W9⟩:=cf2 B4
        obtain ⟨k9,l2,eo95⟩:=Kd.R_slice A7.out
        subst eo95
        have F6:0≤(((rd_T68 l1_1 x7_2).f1):Int):=dT
        have F7:((rd_T68 l1_1 x7_2).f1) < (t167.length:Int):=dT
        obtain ⟨K2,e181,L5⟩:=Kd.at_int (Kd.R_reads' A7.out).2.2 ((rd_T68 l1_1 x7_2).f1) F6 F7
        cases e181
        replace F6:=eq_true F6
        replace F7:=eq_true F7
        have i7:=B6.out
        have i8:=B5.out
        have i9:=A4.out
        have j1:=A3.out
        obtain ⟨X0,X1,X2,X3⟩:=cf2 A2
        have F8:0≤(((rd_T68 l1_1 0).f1):Int):=dT
        have F9:((rd_T68 l1_1 0).f1) < (t167.length:Int):=dT
        obtain ⟨K3,e182,L6⟩:=Kd.at_int (Kd.R_reads' A7.out).2.2 ((rd_T68 l1_1 0).f1) F8 F9
        obtain rfl:K2=K3:=(by injection e182)
        replace F8:=eq_true F8
        replace F9:=eq_true F9
        go_wp2
        repeat (go_quiet (fail);try go_wp2)
        go_roundg k4
        case measure=>have:=HJ2.out;have:=HK2.out;have:=HJ27.out;have:=HK4.out;omega
        case rel=>exact ⟨(wrap64 (x7_2 + 1)),spec_l4Decls.a1,H',⟨by have:=HJ2.out;have:=HK2.out;have:=HJ27.out;have:=HK4.out;omega⟩,⟨rV A7⟩,⟨vB A0⟩,⟨vB A1⟩,⟨vB A2⟩,⟨hV HB⟩⟩
       ·rw [if_neg c90] at H
        have O4:((rd t167 ((rd_T68 l1_1 x7_2).f1)) == (rd t167 ((rd_T68 l1_1 0).f1)))=false:=beq_eq_false_iff_ne.mpr c90
        have O5:((rd t167 ((rd_T68 l1_1 x7_2).f1)) != (rd t167 ((rd_T68 l1_1 0).f1)))=true:=bne_iff_ne.mpr c90
        obtain rfl:=Option.some.inj H
        have j3:=A9.out
        have j4:=A8.out
        have Y4:=B1.out
        have Y5:=B0.out
        have Y6:=B3.out
        have Y7:=B2.out
        obtain ⟨O9,P0,P1,P2⟩:=cf2 B4
        obtain ⟨j5,j6,eo103⟩:=Kd.R_slice A7.out
        subst eo103
        have F6:0≤(((rd_T68 l1_1 x7_2).f1):Int):=dT
        have F7:((rd_T68 l1_1 x7_2).f1) < (t167.length:Int):=dT
        obtain ⟨K2,e181,L5⟩:=Kd.at_int (Kd.R_reads' A7.out).2.2 ((rd_T68 l1_1 x7_2).f1) F6 F7
        cases e181
        replace F6:=eq_true F6
        replace F7:=eq_true F7
        have Y8:=B6.out
        have Y9:=B5.out
        have Z0:=A4.out
        have Z1:=A3.out
        obtain ⟨P3,P4,P5,P6⟩:=cf2 A2
        have F8:0≤(((rd_T68 l1_1 0).f1):Int):=dT
        have F9:((rd_T68 l1_1 0).f1) < (t167.length:Int):=dT
        obtain ⟨K3,e182,L6⟩:=Kd.at_int (Kd.R_reads' A7.out).2.2 ((rd_T68 l1_1 0).f1) F8 F9
        obtain rfl:K2=K3:=(by injection e182)
        replace F8:=eq_true F8
        replace F9:=eq_true F9
        go_wp2
        repeat (go_quiet (fail);try go_wp2)
        go_ret
        exact ⟨spec_l4Decls.a0,hV HB⟩
   ·rw [if_neg c26] at H
    have J7:=decide_eq_false c26
    clear c26
    obtain rfl:=Option.some.inj H
    have Z2:=B8.out
    have Z3:=B7.out
    have Z4:=A3.out
    have Z5:=A4.out
    obtain ⟨P7,P8,P9,Q0,Q1,Q2,Q3,Q4,Q5,Q6⟩:=cf5 A1
    go_wp2
    repeat (go_quiet (fail);try go_wp2)
    go_ret
    exact ⟨spec_l4Decls.a0,hV HB⟩
/-! ### spec_l4Arity: function 36 -/
def spec_l4Arity.f (a0_0:ByteArray) (l0_1:List (S68)) (a0_2:Bool) (a0_3:Bool) (a0_4:Int):Option (Int):=if 0 < (l0_1.length:Int) then (some (((rd_T68 l0_1 0).f0).length:Int)) else (none)
set_option maxHeartbeats 8000000 in
set_option maxRecDepth 100000 in
theorem spec_l4Arity.calls (a0_0:ByteArray) (A0_1:Option Addr) (c0_1:Nat) (l0_1:List (S68)) (a0_2:Bool) (a0_3:Bool) (a0_4:Int) (r:Int) (w:World) (hr0_1:Kd.C k68 w A0_1 l0_1.length l0_1) (hc0_1:l0_1.length≤c0_1) (h:spec_l4Arity.f a0_0 l0_1 a0_2 a0_3 a0_4=some r) :
    Calls Try.prog 36 #[.agg #[.string a0_0,.slice A0_1 l0_1.length c0_1,.bool a0_2,.bool a0_3,.int .i64 a0_4]] w fun e w'=>e=.returned (.int .i64 r)∧Below w.heap.size w w':=by
  have hu50:=Try.underlying50
  have A6:=Aside0.mk hr0_1
  have C0:=Aside0.mk hc0_1
  clear hr0_1 hc0_1
  have HB:=Aside0.mk (Below.refl w.heap.size w)
  have H:(if 0 < (l0_1.length:Int) then (some (((rd_T68 l0_1 0).f0).length:Int)) else (none))=some r:=h
  clear h
  by_cases c2:0 < (l0_1.length:Int)
  rotate_left
  · rw [if_neg c2] at H
    exact absurd H (by simp)

  rw [if_pos c2] at H
  have C6:=decide_eq_true c2
  have C7:decide (0 < l0_1.length)=true:=decide_eq_true (by omega)
  clear c2
  obtain rfl:=Option.some.inj H
  go_enter Try.func36,Try.ntmps36
  go_wp2_with (first | (refine bx 1 rfl #[.string a0_0,.slice A0_1 l0_1.length c0_1,.bool a0_2,.bool a0_3,.int .i64 a0_4] 50 ?_;intro C1 hg w3 hbox hb;have A7:=Aside0.mk (hbox);have C2:=hZ HB hg;have C3:=hZ HB hg;replace HB:=hS HB hb;clear hb hbox hg;obtain ⟨B0,B1,B2,B3,B4,B5,B6,B7,B8,B9⟩:=cf5 A7;have A4:0≤(0:Int):=(by omega);have A5:0 < (l0_1.length:Int):=dT;obtain ⟨C4,A184_0,c184_0,e184,A0,A1,A2,A3⟩:=at_T68 A6.out 0 A4 A5;cases e184;have C5:(0 < l0_1.length)=True:=eq_true (by omega);(try rw [show ((0:Int)).toNat=0 from rfl] at A0);(try rw [show 0 * 2=0 from rfl] at A0);(try rw [Addr.add_zero'] at A0);(try rw [show ((0:Int)).toNat=0 from rfl] at A1);(try rw [show 0 * 2=0 from rfl] at A1);(try rw [Addr.add_zero'] at A1);replace A0:=xc HB A0;replace A1:=xc HB A1;have A8:=Aside0.mk A3;have A9:=Aside0.mk A2;clear A3 A2;replace A4:=eq_true A4;replace A5:=eq_true A5))
  go_ret
  exact ⟨by first | rfl | (simp [errW_none,errW_some] <;> rfl) | (simp [*,errW_none,errW_some] <;> rfl),hV HB⟩
end Go.Proofs.Ytpildjbakceicaa.Q

