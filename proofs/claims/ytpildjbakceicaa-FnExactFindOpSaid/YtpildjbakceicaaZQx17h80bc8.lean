/- Functions of the program as plain Lean functions,and that the calls come to what they say. -/
import Derived.Test.YtpildjbakceicaaZQx0hb61c0
import Derived.Test.YtpildjbakceicaaZQx16h0fe0e
import Derived.Test.YtpildjbakceicaaZShorth7b252
namespace Go.Proofs.Ytpildjbakceicaa.Q
open Go.RowKit Go.Proofs.YtpildjbakceicaaW.PrintWords Go.Proofs.YtpildjbakceicaaW.PrintLast Go.Proofs.YtpildjbakceicaaW.PrintMore
attribute [local go_sem] max2_int min2_int max_two min_two max_three min_three max_four min_four   -- for this text's walks alone
set_option linter.unusedVariables false
set_option linter.unusedSimpArgs false

/-! ### laws_eqSorts: function 33 -/
theorem laws_eqSorts.a0 {P_:Prop} (h_:P_:=by first | rfl | (simp [errW_none,errW_some] <;> rfl) | (simp [*,errW_none,errW_some] <;> rfl)):P_:=h_
def laws_eqSorts.f (k:Nat) (l0_0:List ByteArray) (l0_1:List (S89)) (l1_0:List ByteArray) (l1_1:List (S89)):Option (Bool):=(laws_eqStringS.f k l0_0 l1_0).bind fun t412=>(if t412=true then ((laws_eqSubS.f k l0_1 l1_1).bind fun t413=>(if t413=true then (some true) else (some false))) else (some false))
set_option maxHeartbeats 8000000 in
set_option maxRecDepth 100000 in
theorem laws_eqSorts.calls (k:Nat) (A0_0:Option Addr) (c0_0:Nat) (l0_0:List ByteArray) (A0_1:Option Addr) (c0_1:Nat) (l0_1:List (S89)) (A1_0:Option Addr) (c1_0:Nat) (l1_0:List ByteArray) (A1_1:Option Addr) (c1_1:Nat) (l1_1:List (S89)) (r:Bool) (w:World) (hr0_0:Kd.C Kd.string w A0_0 l0_0.length l0_0) (hc0_0:l0_0.length≤c0_0) (hr0_1:Kd.C k89 w A0_1 l0_1.length l0_1) (hc0_1:l0_1.length≤c0_1) (hr1_0:Kd.C Kd.string w A1_0 l1_0.length l1_0) (hc1_0:l1_0.length≤c1_0) (hr1_1:Kd.C k89 w A1_1 l1_1.length l1_1) (hc1_1:l1_1.length≤c1_1) (h:laws_eqSorts.f k l0_0 l0_1 l1_0 l1_1=some r) :
  Calls Try.prog 33 #[.agg #[.slice A0_0 l0_0.length c0_0,.slice A0_1 l0_1.length c0_1],.agg #[.slice A1_0 l1_0.length c1_0,.slice A1_1 l1_1.length c1_1]] w fun e w'=>e=.returned (.bool r)∧Below w.heap.size w w':=by
 have hu33:=Try.underlying33
 have A6:=Aside0.mk hr0_0
 have A7:=Aside0.mk hc0_0
 clear hr0_0 hc0_0
 have B0:=Aside0.mk hr0_1
 have B1:=Aside0.mk hc0_1
 clear hr0_1 hc0_1
 have A8:=Aside0.mk hr1_0
 have A9:=Aside0.mk hc1_0
 clear hr1_0 hc1_0
 have B2:=Aside0.mk hr1_1
 have B3:=Aside0.mk hc1_1
 clear hr1_1 hc1_1
 have HB:=Aside0.mk (Below.refl w.heap.size w)
 have H:((laws_eqStringS.f k l0_0 l1_0).bind fun t412=>(if t412=true then ((laws_eqSubS.f k l0_1 l1_1).bind fun t413=>(if t413=true then (some true) else (some false))) else (some false)))=some r:=h
 clear h
 replace H:=Option.bind_eq_some_iff.mp H
 obtain ⟨t412,A30,H⟩:=H
 replace H:(if t412=true then ((laws_eqSubS.f k l0_1 l1_1).bind fun t413=>(if t413=true then (some true) else (some false))) else (some false))=some r:=H
 have A3:=Aside0.mk A30
 clear A30
 by_cases c4:t412=true
 rotate_left
 ·replace c4:=Bool.eq_false_iff.mpr c4
  subst c4
  rw [if_neg (show ¬ (false=true) by decide)] at H
  obtain rfl:=Option.some.inj H
  go_enter Try.func33,Try.ntmps33
  go_wp2_with (first | (refine bx 2 rfl #[.slice A0_0 l0_0.length c0_0,.slice A0_1 l0_1.length c0_1] 33 ?_;intro B4 hg w19 hbox hb;have A0:=Aside0.mk (hbox);have B5:=hZ HB hg;have B6:=hZ HB hg;replace HB:=hS HB hb;clear hb hbox hg) | (refine bx 3 rfl #[.slice A1_0 l1_0.length c1_0,.slice A1_1 l1_1.length c1_1] 33 ?_;intro B7 hg w20 hbox hb;have A4:=Aside0.mk (hbox);have B8:=hZ HB hg;have B9:=hZ HB hg;replace HB:=hS HB hb;have A1:=nL A0 hg;have A2:=nG A0 hg;replace A0:=bB A0 hb;clear hb hbox hg;have E4:=A1.out;have E5:=A2.out;obtain ⟨C0,C1,C2,C3⟩:=cf2 A0;obtain ⟨C4,C5,C6,C7⟩:=cf2 A4) | (refine goK 60 (some 9) rfl Try.func60 #[.slice A0_0 l0_0.length c0_0,.slice A1_0 l1_0.length c1_0] ?_;(with_reducible refine (laws_eqStringS.calls k _ _ l0_0 _ _ l1_0 false _ ?side1 ?side2 ?side3 ?side4 A3.out).mono ?_);(case side1=>exact cB A6 HB);(case side2=>exact A7.out);(case side3=>exact cB A8 HB);(case side4=>exact A9.out);rintro e w' ⟨rfl,⟨nd,rfl⟩⟩;refine ⟨_,rfl,?_⟩))
  go_ret
  exact ⟨laws_eqSorts.a0,hV HB⟩

 subst c4
 rw [if_pos rfl] at H
 replace H:=Option.bind_eq_some_iff.mp H
 obtain ⟨t413,A50,H⟩:=H
 replace H:(if t413=true then (some true) else (some false))=some r:=H
 have A5:=Aside0.mk A50
 clear A50
 by_cases c6:t413=true
 ·subst c6
  rw [if_pos rfl] at H
  obtain rfl:=Option.some.inj H
  go_enter Try.func33,Try.ntmps33
  go_wp2_with (first | (refine bx 2 rfl #[.slice A0_0 l0_0.length c0_0,.slice A0_1 l0_1.length c0_1] 33 ?_;intro B4 hg w7 hbox hb;have A0:=Aside0.mk (hbox);have B5:=hZ HB hg;have B6:=hZ HB hg;replace HB:=hS HB hb;clear hb hbox hg) | (refine bx 3 rfl #[.slice A1_0 l1_0.length c1_0,.slice A1_1 l1_1.length c1_1] 33 ?_;intro B7 hg w8 hbox hb;have A4:=Aside0.mk (hbox);have B8:=hZ HB hg;have B9:=hZ HB hg;replace HB:=hS HB hb;have A1:=nL A0 hg;have A2:=nG A0 hg;replace A0:=bB A0 hb;clear hb hbox hg;have E8:=A1.out;have E9:=A2.out;obtain ⟨C8,C9,D0,D1⟩:=cf2 A0;obtain ⟨D2,D3,D4,D5⟩:=cf2 A4) | (refine goK 60 (some 9) rfl Try.func60 #[.slice A0_0 l0_0.length c0_0,.slice A1_0 l1_0.length c1_0] ?_;(with_reducible refine (laws_eqStringS.calls k _ _ l0_0 _ _ l1_0 true _ ?side1 ?side2 ?side3 ?side4 A3.out).mono ?_);(case side1=>exact cB A6 HB);(case side2=>exact A7.out);(case side3=>exact cB A8 HB);(case side4=>exact A9.out);rintro e w' ⟨rfl,⟨nd,rfl⟩⟩;refine ⟨_,rfl,?_⟩) | (refine goK 61 (some 15) rfl Try.func61 #[.slice A0_1 l0_1.length c0_1,.slice A1_1 l1_1.length c1_1] ?_;(with_reducible refine (laws_eqSubS.calls k _ _ l0_1 _ _ l1_1 true _ ?side1 ?side2 ?side3 ?side4 A5.out).mono ?_);(case side1=>repeat (first | exact (Kd.C_below B0.out (hV HB)) | (with_reducible refine Kd.C_alloc ?_ _) | (with_reducible refine Kd.C_drewN ?_ _) | (with_reducible refine Kd.C_drew ?_)));(case side2=>exact B1.out);(case side3=>repeat (first | exact (Kd.C_below B2.out (hV HB)) | (with_reducible refine Kd.C_alloc ?_ _) | (with_reducible refine Kd.C_drewN ?_ _) | (with_reducible refine Kd.C_drew ?_)));(case side4=>exact B3.out);rintro e w12 ⟨rfl,hb⟩;refine ⟨_,rfl,?_⟩;replace A0:=bB A0 hb;replace A4:=bB A4 hb;replace HB:=hS HB hb;(try clear hb);(try clear hb2);(try clear hk);(try clear hi)))
  go_ret
  exact ⟨laws_eqSorts.a0,hV HB⟩
 replace c6:=Bool.eq_false_iff.mpr c6
 subst c6
 rw [if_neg (show ¬ (false=true) by decide)] at H
 obtain rfl:=Option.some.inj H
 go_enter Try.func33,Try.ntmps33
 go_wp2_with (first | (refine bx 2 rfl #[.slice A0_0 l0_0.length c0_0,.slice A0_1 l0_1.length c0_1] 33 ?_;intro B4 hg w13 hbox hb;have A0:=Aside0.mk (hbox);have B5:=hZ HB hg;have B6:=hZ HB hg;replace HB:=hS HB hb;clear hb hbox hg) | (refine bx 3 rfl #[.slice A1_0 l1_0.length c1_0,.slice A1_1 l1_1.length c1_1] 33 ?_;intro B7 hg w14 hbox hb;have A4:=Aside0.mk (hbox);have B8:=hZ HB hg;have B9:=hZ HB hg;replace HB:=hS HB hb;have A1:=nL A0 hg;have A2:=nG A0 hg;replace A0:=bB A0 hb;clear hb hbox hg;have E6:=A1.out;have E7:=A2.out;obtain ⟨D6,D7,D8,D9⟩:=cf2 A0;obtain ⟨E0,E1,E2,E3⟩:=cf2 A4) | (refine goK 60 (some 9) rfl Try.func60 #[.slice A0_0 l0_0.length c0_0,.slice A1_0 l1_0.length c1_0] ?_;(with_reducible refine (laws_eqStringS.calls k _ _ l0_0 _ _ l1_0 true _ ?side1 ?side2 ?side3 ?side4 A3.out).mono ?_);(case side1=>exact cB A6 HB);(case side2=>exact A7.out);(case side3=>exact cB A8 HB);(case side4=>exact A9.out);rintro e w' ⟨rfl,⟨nd,rfl⟩⟩;refine ⟨_,rfl,?_⟩) | (refine goK 61 (some 15) rfl Try.func61 #[.slice A0_1 l0_1.length c0_1,.slice A1_1 l1_1.length c1_1] ?_;(with_reducible refine (laws_eqSubS.calls k _ _ l0_1 _ _ l1_1 false _ ?side1 ?side2 ?side3 ?side4 A5.out).mono ?_);(case side1=>repeat (first | exact (Kd.C_below B0.out (hV HB)) | (with_reducible refine Kd.C_alloc ?_ _) | (with_reducible refine Kd.C_drewN ?_ _) | (with_reducible refine Kd.C_drew ?_)));(case side2=>exact B1.out);(case side3=>repeat (first | exact (Kd.C_below B2.out (hV HB)) | (with_reducible refine Kd.C_alloc ?_ _) | (with_reducible refine Kd.C_drewN ?_ _) | (with_reducible refine Kd.C_drew ?_)));(case side4=>exact B3.out);rintro e w18 ⟨rfl,hb⟩;refine ⟨_,rfl,?_⟩;replace A0:=bB A0 hb;replace A4:=bB A4 hb;replace HB:=hS HB hb;(try clear hb);(try clear hb2);(try clear hk);(try clear hi)))
 go_ret
 exact ⟨laws_eqSorts.a0,hV HB⟩
/-! ### laws_eqIntS: function 84 -/
theorem laws_eqIntS.a0 {P_:Prop} (h_:P_:=by repeat (first | exact Drawn0.refl _ | apply Drawn0.step)):P_:=h_
theorem laws_eqIntS.a1 {P_:Prop} (h_:P_:=by first | rfl | (simp;done) | (simp [*];done)):P_:=h_
def laws_eqIntS.l0:Nat→List Int→List Int→Int→Option (Bool)
 | 0,_,_,_=>none
 | k + 1,x0,x1,x5=>if x5 < (x0.length:Int) then (if 0≤x5 then (if x5 < (x1.length:Int) then (if (rd x0 x5)=(rd x1 x5) then (laws_eqIntS.l0 k x0 x1 (wrap64 (x5 + 1))) else (some false)) else (none)) else (none)) else (some true)
def laws_eqIntS.f (k:Nat) (l0:List Int) (l1:List Int):Option (Bool):=if (l0.length:Int)=(l1.length:Int) then (laws_eqIntS.l0 k l0 l1 0) else (some false)
set_option maxHeartbeats 8000000 in
set_option maxRecDepth 100000 in
theorem laws_eqIntS.calls (k:Nat) (A0:Option Addr) (c0:Nat) (l0:List Int) (A1:Option Addr) (c1:Nat) (l1:List Int) (r:Bool) (w:World) (hr0:Kd.C (Kd.int .i64) w A0 l0.length l0) (hc0:l0.length≤c0) (hr1:Kd.C (Kd.int .i64) w A1 l1.length l1) (hc1:l1.length≤c1) (h:laws_eqIntS.f k l0 l1=some r) :
  Calls Try.prog 84 #[.slice A0 l0.length c0,.slice A1 l1.length c1] w fun e w'=>e=.returned (.bool r)∧Drawn0 w w':=by
 have B3:=Aside0.mk hr0
 have C0:=Aside0.mk hc0
 clear hr0 hc0
 have B4:=Aside0.mk hr1
 have C1:=Aside0.mk hc1
 clear hr1 hc1
 have H:(if (l0.length:Int)=(l1.length:Int) then (laws_eqIntS.l0 k l0 l1 0) else (some false))=some r:=h
 clear h
 by_cases c3:(l0.length:Int)=(l1.length:Int)
 rotate_left
 ·rw [if_neg c3] at H
  have A8:((l0.length:Int) == (l1.length:Int))=false:=beq_eq_false_iff_ne.mpr c3
  have A9:((l0.length:Int) != (l1.length:Int))=true:=bne_iff_ne.mpr c3
  have B0:(l0.length == l1.length)=false:=by first | simpa using c3 | (simp at c3 ⊢;omega)
  obtain rfl:=Option.some.inj H
  go_enter Try.func84,Try.ntmps84
  go_wp2
  repeat (go_quiet (fail);try go_wp2)
  go_ret
  exact ⟨laws_eqIntS.a1,laws_eqIntS.a0⟩

 rw [if_pos c3] at H
 have A8:((l0.length:Int) == (l1.length:Int))=true:=beq_iff_eq.mpr c3
 have A9:((l0.length:Int) != (l1.length:Int))=false:=bne_eq_false_iff_eq.mpr c3
 have B0:(l0.length == l1.length)=true:=by first | simpa using c3 | (simp at c3 ⊢;omega)
 clear c3
 have H':=Aside0.mk H
 clear H
 go_enter Try.func84,Try.ntmps84
 go_wp2
 repeat (go_quiet (fail);try go_wp2)
 go_loopg [5] k (fun kq v5 w'=> ∃ (x5_1:Int),v5=.int .i64 x5_1∧Aside0 (laws_eqIntS.l0 kq l0 l1 x5_1=some r)∧Aside0 (kq≤k)∧Drawn0 w w')
 case atStart=>exact ⟨(0),laws_eqIntS.a1,H',⟨Nat.le_refl _⟩,laws_eqIntS.a0⟩
 clear H'
 try clear c1
 try clear c3
 try clear A8
 try clear A9
 try clear B0
 obtain ⟨x5_1,rfl,HA,HK1,⟨m1,rfl⟩⟩:=hrel
 cases gk with
 | zero=>exact absurd HA.out (by simp [laws_eqIntS.l0])
 | succ k1=>
  have H:=HA.out
  clear HA
  simp only [laws_eqIntS.l0] at H
  by_cases c4:x5_1 < (l0.length:Int)
  rotate_left
  ·rw [if_neg c4] at H
   have B5:=decide_eq_false c4
   clear c4
   obtain rfl:=Option.some.inj H
   go_wp2
   repeat (go_quiet (fail);try go_wp2)
   go_ret
   exact ⟨laws_eqIntS.a1,laws_eqIntS.a0⟩
  rw [if_pos c4] at H
  have B5:=decide_eq_true c4
  clear c4
  by_cases c5:0≤x5_1
  rotate_left
  ·rw [if_neg c5] at H
   exact absurd H (by simp)
  rw [if_pos c5] at H
  have B8:=decide_eq_true c5
  clear c5
  by_cases c6:x5_1 < (l1.length:Int)
  rotate_left
  ·rw [if_neg c6] at H
   exact absurd H (by simp)
  rw [if_pos c6] at H
  have B9:=decide_eq_true c6
  clear c6
  by_cases c7:(rd l0 x5_1)=(rd l1 x5_1)
  ·rw [if_pos c7] at H
   have B6:((rd l0 x5_1) == (rd l1 x5_1))=true:=beq_iff_eq.mpr c7
   have B7:((rd l0 x5_1) != (rd l1 x5_1))=false:=bne_eq_false_iff_eq.mpr c7
   clear c7
   have H':=Aside0.mk H
   clear H
   have A2:0≤(x5_1:Int):=dT
   have A3:x5_1 < (l0.length:Int):=dT
   obtain ⟨B1,e414,A6⟩:=Kd.at_int B3.out x5_1 A2 A3
   cases e414
   replace A2:=eq_true A2
   replace A3:=eq_true A3
   have A4:0≤(x5_1:Int):=dT
   have A5:x5_1 < (l1.length:Int):=dT
   obtain ⟨B2,e415,A7⟩:=Kd.at_int B4.out x5_1 A4 A5
   cases e415
   replace A4:=eq_true A4
   replace A5:=eq_true A5
   go_wp2
   repeat (go_quiet (fail);try go_wp2)
   go_roundg k1
   case measure=>have:=HK1.out;omega
   case rel=>exact ⟨(wrap64 (x5_1 + 1)),laws_eqIntS.a1,H',⟨by have:=HK1.out;omega⟩,laws_eqIntS.a0⟩
  ·rw [if_neg c7] at H
   have B6:((rd l0 x5_1) == (rd l1 x5_1))=false:=beq_eq_false_iff_ne.mpr c7
   have B7:((rd l0 x5_1) != (rd l1 x5_1))=true:=bne_iff_ne.mpr c7
   obtain rfl:=Option.some.inj H
   have A2:0≤(x5_1:Int):=dT
   have A3:x5_1 < (l0.length:Int):=dT
   obtain ⟨B1,e414,A6⟩:=Kd.at_int B3.out x5_1 A2 A3
   cases e414
   replace A2:=eq_true A2
   replace A3:=eq_true A3
   have A4:0≤(x5_1:Int):=dT
   have A5:x5_1 < (l1.length:Int):=dT
   obtain ⟨B2,e415,A7⟩:=Kd.at_int B4.out x5_1 A4 A5
   cases e415
   replace A4:=eq_true A4
   replace A5:=eq_true A5
   go_wp2
   repeat (go_quiet (fail);try go_wp2)
   go_ret
   exact ⟨laws_eqIntS.a1,laws_eqIntS.a0⟩
/-! ### laws_eqDecl: function 79 -/
theorem laws_eqDecl.a0 {P_:Prop} (h_:P_:=by first | rfl | (simp [errW_none,errW_some] <;> rfl) | (simp [*,errW_none,errW_some] <;> rfl)):P_:=h_
def laws_eqDecl.f (k:Nat) (l0_0:List Int) (a0_1:Int) (l1_0:List Int) (a1_1:Int):Option (Bool):=(laws_eqIntS.f k l0_0 l1_0).bind fun t418=>(if t418=true then (if a0_1=a1_1 then (some true) else (some false)) else (some false))
set_option maxHeartbeats 8000000 in
set_option maxRecDepth 100000 in
theorem laws_eqDecl.calls (k:Nat) (A0_0:Option Addr) (c0_0:Nat) (l0_0:List Int) (a0_1:Int) (A1_0:Option Addr) (c1_0:Nat) (l1_0:List Int) (a1_1:Int) (r:Bool) (w:World) (hr0_0:Kd.C (Kd.int .i64) w A0_0 l0_0.length l0_0) (hc0_0:l0_0.length≤c0_0) (hr1_0:Kd.C (Kd.int .i64) w A1_0 l1_0.length l1_0) (hc1_0:l1_0.length≤c1_0) (h:laws_eqDecl.f k l0_0 a0_1 l1_0 a1_1=some r) :
  Calls Try.prog 79 #[.agg #[.slice A0_0 l0_0.length c0_0,.int .i64 a0_1],.agg #[.slice A1_0 l1_0.length c1_0,.int .i64 a1_1]] w fun e w'=>e=.returned (.bool r)∧Below w.heap.size w w':=by
 have hu68:=Try.underlying68
 have A5:=Aside0.mk hr0_0
 have A6:=Aside0.mk hc0_0
 clear hr0_0 hc0_0
 have A7:=Aside0.mk hr1_0
 have A8:=Aside0.mk hc1_0
 clear hr1_0 hc1_0
 have HB:=Aside0.mk (Below.refl w.heap.size w)
 have H:((laws_eqIntS.f k l0_0 l1_0).bind fun t418=>(if t418=true then (if a0_1=a1_1 then (some true) else (some false)) else (some false)))=some r:=h
 clear h
 replace H:=Option.bind_eq_some_iff.mp H
 obtain ⟨t418,A30,H⟩:=H
 replace H:(if t418=true then (if a0_1=a1_1 then (some true) else (some false)) else (some false))=some r:=H
 have A3:=Aside0.mk A30
 clear A30
 by_cases c4:t418=true
 rotate_left
 ·replace c4:=Bool.eq_false_iff.mpr c4
  subst c4
  rw [if_neg (show ¬ (false=true) by decide)] at H
  obtain rfl:=Option.some.inj H
  go_enter Try.func79,Try.ntmps79
  go_wp2_with (first | (refine bx 2 rfl #[.slice A0_0 l0_0.length c0_0,.int .i64 a0_1] 68 ?_;intro A9 hg w16 hbox hb;have A0:=Aside0.mk (hbox);have B0:=hZ HB hg;have B1:=hZ HB hg;replace HB:=hS HB hb;clear hb hbox hg) | (refine bx 3 rfl #[.slice A1_0 l1_0.length c1_0,.int .i64 a1_1] 68 ?_;intro B2 hg w17 hbox hb;have A4:=Aside0.mk (hbox);have B3:=hZ HB hg;have B4:=hZ HB hg;replace HB:=hS HB hb;have A1:=nL A0 hg;have A2:=nG A0 hg;replace A0:=bB A0 hb;clear hb hbox hg;have E1:=A1.out;have E2:=A2.out;obtain ⟨B7,B8,B9,C0⟩:=cf2 A0;obtain ⟨C1,C2,C3,C4⟩:=cf2 A4) | (refine goK 84 (some 9) rfl Try.func84 #[.slice A0_0 l0_0.length c0_0,.slice A1_0 l1_0.length c1_0] ?_;(with_reducible refine (laws_eqIntS.calls k _ _ l0_0 _ _ l1_0 false _ ?side1 ?side2 ?side3 ?side4 A3.out).mono ?_);(case side1=>exact cB A5 HB);(case side2=>exact A6.out);(case side3=>exact cB A7 HB);(case side4=>exact A8.out);rintro e w' ⟨rfl,⟨nd,rfl⟩⟩;refine ⟨_,rfl,?_⟩))
  go_ret
  exact ⟨laws_eqDecl.a0,hV HB⟩

 subst c4
 rw [if_pos rfl] at H
 by_cases c5:a0_1=a1_1
 rotate_left
 ·rw [if_neg c5] at H
  have B5:(a0_1 == a1_1)=false:=beq_eq_false_iff_ne.mpr c5
  have B6:(a0_1 != a1_1)=true:=bne_iff_ne.mpr c5
  obtain rfl:=Option.some.inj H
  go_enter Try.func79,Try.ntmps79
  go_wp2_with (first | (refine bx 2 rfl #[.slice A0_0 l0_0.length c0_0,.int .i64 a0_1] 68 ?_;intro A9 hg w11 hbox hb;have A0:=Aside0.mk (hbox);have B0:=hZ HB hg;have B1:=hZ HB hg;replace HB:=hS HB hb;clear hb hbox hg) | (refine bx 3 rfl #[.slice A1_0 l1_0.length c1_0,.int .i64 a1_1] 68 ?_;intro B2 hg w12 hbox hb;have A4:=Aside0.mk (hbox);have B3:=hZ HB hg;have B4:=hZ HB hg;replace HB:=hS HB hb;have A1:=nL A0 hg;have A2:=nG A0 hg;replace A0:=bB A0 hb;clear hb hbox hg;have E3:=A1.out;have E4:=A2.out;obtain ⟨C5,C6,C7,C8⟩:=cf2 A0;obtain ⟨C9,D0,D1,D2⟩:=cf2 A4) | (refine goK 84 (some 9) rfl Try.func84 #[.slice A0_0 l0_0.length c0_0,.slice A1_0 l1_0.length c1_0] ?_;(with_reducible refine (laws_eqIntS.calls k _ _ l0_0 _ _ l1_0 true _ ?side1 ?side2 ?side3 ?side4 A3.out).mono ?_);(case side1=>exact cB A5 HB);(case side2=>exact A6.out);(case side3=>exact cB A7 HB);(case side4=>exact A8.out);rintro e w' ⟨rfl,⟨nd,rfl⟩⟩;refine ⟨_,rfl,?_⟩))
  go_ret
  exact ⟨laws_eqDecl.a0,hV HB⟩
 rw [if_pos c5] at H
 have B5:(a0_1 == a1_1)=true:=beq_iff_eq.mpr c5
 have B6:(a0_1 != a1_1)=false:=bne_eq_false_iff_eq.mpr c5
 clear c5
 obtain rfl:=Option.some.inj H
 go_enter Try.func79,Try.ntmps79
 go_wp2_with (first | (refine bx 2 rfl #[.slice A0_0 l0_0.length c0_0,.int .i64 a0_1] 68 ?_;intro A9 hg w6 hbox hb;have A0:=Aside0.mk (hbox);have B0:=hZ HB hg;have B1:=hZ HB hg;replace HB:=hS HB hb;clear hb hbox hg) | (refine bx 3 rfl #[.slice A1_0 l1_0.length c1_0,.int .i64 a1_1] 68 ?_;intro B2 hg w7 hbox hb;have A4:=Aside0.mk (hbox);have B3:=hZ HB hg;have B4:=hZ HB hg;replace HB:=hS HB hb;have A1:=nL A0 hg;have A2:=nG A0 hg;replace A0:=bB A0 hb;clear hb hbox hg;have E5:=A1.out;have E6:=A2.out;obtain ⟨D7,D8,D9,E0⟩:=cf2 A0;obtain ⟨D3,D4,D5,D6⟩:=cf2 A4) | (refine goK 84 (some 9) rfl Try.func84 #[.slice A0_0 l0_0.length c0_0,.slice A1_0 l1_0.length c1_0] ?_;(with_reducible refine (laws_eqIntS.calls k _ _ l0_0 _ _ l1_0 true _ ?side1 ?side2 ?side3 ?side4 A3.out).mono ?_);(case side1=>exact cB A5 HB);(case side2=>exact A6.out);(case side3=>exact cB A7 HB);(case side4=>exact A8.out);rintro e w' ⟨rfl,⟨nd,rfl⟩⟩;refine ⟨_,rfl,?_⟩))
 go_ret
 exact ⟨laws_eqDecl.a0,hV HB⟩
/-! ### laws_eqDeclS: function 73 -/
theorem laws_eqDeclS.a0 {P_:Prop} (h_:P_:=by first | rfl | (simp [errW_none,errW_some] <;> rfl) | (simp [*,errW_none,errW_some] <;> rfl)):P_:=h_
theorem laws_eqDeclS.a1 {P_:Prop} (h_:P_:=by rintro w' ⟨s0,s1,s2,s3⟩;go_simp;with_reducible rfl):P_:=h_
def laws_eqDeclS.l0:Nat→List (S68)→List (S68)→Int→Option (Bool)
 | 0,_,_,_=>none
 | k + 1,x0,x1,x5=>if x5 < (x0.length:Int) then (if 0≤x5 then (if x5 < (x1.length:Int) then ((laws_eqDecl.f k ((rd_T68 x0 x5).f0) ((rd_T68 x0 x5).f1) ((rd_T68 x1 x5).f0) ((rd_T68 x1 x5).f1)).bind fun t421=>(if t421=true then (laws_eqDeclS.l0 k x0 x1 (wrap64 (x5 + 1))) else (some false))) else (none)) else (none)) else (some true)
def laws_eqDeclS.f (k:Nat) (l0:List (S68)) (l1:List (S68)):Option (Bool):=if (l0.length:Int)=(l1.length:Int) then (laws_eqDeclS.l0 k l0 l1 0) else (some false)
def laws_eqDeclS.T6:Bool × List (List Nat × List Nat):=(true,[([],[]),([],[]),([0,1],[0,1]),([2],[2]),([],[]),([],[]),([4,5],[4,5]),([6],[6]),([3,7],[3,7]),([8],[8])])
def laws_eqDeclS.B6:List Nat:=[0,0,3,7,0,0,48,112,255,511]
theorem laws_eqDeclS.tab6:rtab .any (opsOf Try.f73 6)=laws_eqDeclS.T6:=by kernel_rfl
theorem laws_eqDeclS.bits6:waitsOk laws_eqDeclS.T6.2 laws_eqDeclS.B6=true:=by kernel_rfl
set_option maxHeartbeats 8000000 in
set_option maxRecDepth 100000 in
theorem laws_eqDeclS.calls (k:Nat) (A0:Option Addr) (c0:Nat) (l0:List (S68)) (A1:Option Addr) (c1:Nat) (l1:List (S68)) (r:Bool) (w:World) (hr0:Kd.C k68 w A0 l0.length l0) (hc0:l0.length≤c0) (hr1:Kd.C k68 w A1 l1.length l1) (hc1:l1.length≤c1) (h:laws_eqDeclS.f k l0 l1=some r) :
  Calls Try.prog 73 #[.slice A0 l0.length c0,.slice A1 l1.length c1] w fun e w'=>e=.returned (.bool r)∧Below w.heap.size w w':=by
 have hu68:=Try.underlying68
 have C9:=Aside0.mk hr0
 have D4:=Aside0.mk hc0
 clear hr0 hc0
 have D0:=Aside0.mk hr1
 have D5:=Aside0.mk hc1
 clear hr1 hc1
 have HB:=Aside0.mk (Below.refl w.heap.size w)
 have H:(if (l0.length:Int)=(l1.length:Int) then (laws_eqDeclS.l0 k l0 l1 0) else (some false))=some r:=h
 clear h
 by_cases c3:(l0.length:Int)=(l1.length:Int)
 rotate_left
 ·rw [if_neg c3] at H
  have C6:((l0.length:Int) == (l1.length:Int))=false:=beq_eq_false_iff_ne.mpr c3
  have C7:((l0.length:Int) != (l1.length:Int))=true:=bne_iff_ne.mpr c3
  have C8:(l0.length == l1.length)=false:=by first | simpa using c3 | (simp at c3 ⊢;omega)
  obtain rfl:=Option.some.inj H
  go_enter Try.func73,Try.ntmps73
  go_wp2
  go_ret
  exact ⟨laws_eqDeclS.a0,hV HB⟩

 rw [if_pos c3] at H
 have C6:((l0.length:Int) == (l1.length:Int))=true:=beq_iff_eq.mpr c3
 have C7:((l0.length:Int) != (l1.length:Int))=false:=bne_eq_false_iff_eq.mpr c3
 have C8:(l0.length == l1.length)=true:=by first | simpa using c3 | (simp at c3 ⊢;omega)
 clear c3
 have H':=Aside0.mk H
 clear H
 go_enter Try.func73,Try.ntmps73
 go_wp2
 go_loopg [5] k (fun kq v5 w'=> ∃ (x5_1:Int),v5=.int .i64 x5_1∧Aside0 (laws_eqDeclS.l0 kq l0 l1 x5_1=some r)∧Aside0 (kq≤k)∧Aside0 (Below w.heap.size w w'))
 case atStart=>exact ⟨(0),(by first | rfl | (simp;done) | (simp [*];done)),H',⟨Nat.le_refl _⟩,⟨hV HB⟩⟩
 clear H'
 try clear c1
 try clear c3
 try clear C6
 try clear C7
 try clear C8
 obtain ⟨x5_1,rfl,HA,HK1,HB⟩:=hrel
 cases gk with
 | zero=>exact absurd HA.out (by simp [laws_eqDeclS.l0])
 | succ k1=>
  have H:=HA.out
  clear HA
  simp only [laws_eqDeclS.l0] at H
  by_cases c4:x5_1 < (l0.length:Int)
  rotate_left
  ·rw [if_neg c4] at H
   have D1:=decide_eq_false c4
   clear c4
   obtain rfl:=Option.some.inj H
   go_wp2
   go_ret
   exact ⟨laws_eqDeclS.a0,hV HB⟩
  rw [if_pos c4] at H
  have D1:=decide_eq_true c4
  clear c4
  by_cases c5:0≤x5_1
  rotate_left
  ·rw [if_neg c5] at H
   exact absurd H (by simp)
  rw [if_pos c5] at H
  have D2:=decide_eq_true c5
  clear c5
  by_cases c6:x5_1 < (l1.length:Int)
  rotate_left
  ·rw [if_neg c6] at H
   exact absurd H (by simp)
  rw [if_pos c6] at H
  have D3:=decide_eq_true c6
  clear c6
  replace H:=Option.bind_eq_some_iff.mp H
  obtain ⟨t421,A70,H⟩:=H
  replace H:(if t421=true then (laws_eqDeclS.l0 k1 l0 l1 (wrap64 (x5_1 + 1))) else (some false))=some r:=H
  have A7:=Aside0.mk A70
  clear A70
  by_cases c8:t421=true
  ·subst c8
   rw [if_pos rfl] at H
   have H':=Aside0.mk H
   clear H
   try go_wp2
   replace HB:=Aside0.mk (below_drew1 HB.out)
   have C0:0≤(x5_1:Int):=dT
   have C1:x5_1 < (l0.length:Int):=dT
   obtain ⟨B8,A419_0,c419_0,e419,A2,A3,B1,B2⟩:=at_T68 C9.out x5_1 C0 C1
   have A4:=A3
   have A5:=A2
   cases e419
   replace A2:=xc HB A2
   replace A3:=xc HB A3
   have B3:=Aside0.mk B2
   have C4:=Aside0.mk B1
   clear B2 B1
   replace C0:=eq_true C0
   replace C1:=eq_true C1
   have C2:0≤(x5_1:Int):=dT
   have C3:x5_1 < (l1.length:Int):=dT
   obtain ⟨B9,A420_0,c420_0,e420,A6,A8,B4,B5⟩:=at_T68 D0.out x5_1 C2 C3
   have A9:=A8
   have B0:=A6
   cases e420
   replace A6:=xc HB A6
   replace A8:=xc HB A8
   have B7:=Aside0.mk B5
   have C5:=Aside0.mk B4
   clear B5 B4
   replace C2:=eq_true C2
   replace C3:=eq_true C3
   refine start_ (n:=10) (S:=fun w'=>w'.cell? (B8.add ((x5_1).toNat * 2))=some (.slice A419_0 ((rd_T68 l0 x5_1).f0).length c419_0)∧w'.cell? ⟨(B8.add ((x5_1).toNat * 2)).block,(B8.add ((x5_1).toNat * 2)).off + 1,none⟩=some (.int .i64 ((rd_T68 l0 x5_1).f1))∧w'.cell? (B9.add ((x5_1).toNat * 2))=some (.slice A420_0 ((rd_T68 l1 x5_1).f0).length c420_0)∧w'.cell? ⟨(B9.add ((x5_1).toNat * 2)).block,(B9.add ((x5_1).toNat * 2)).off + 1,none⟩=some (.int .i64 ((rd_T68 l1 x5_1).f1))) (ds:=[]) #[false,false,false,false,false,false,false,false,false,false] (by kernel_rfl) rfl rfl ⟨((HB.out.cell (World.block_lt_of_cell? w _ A5)).trans A5),((HB.out.cell (World.block_lt_of_cell? w _ A4)).trans A4),((HB.out.cell (World.block_lt_of_cell? w _ B0)).trans B0),((HB.out.cell (World.block_lt_of_cell? w _ A9)).trans A9)⟩ (fun hHeld=> ?_);refine with_tabW laws_eqDeclS.tab6 laws_eqDeclS.bits6 (fun HT_ HW_=> ?_)
   generalize wr.drew=w9 at HB B3 B7 A2 A3 A6 A8 hHeld ⊢
   refine pureS 0 17 HT_ rfl rfl ?_
   refine pureS 1 18 HT_ rfl rfl ?_
   refine pureS 2 19 HT_ rfl rfl ?_
   refine pureS 4 21 HT_ rfl rfl ?_
   refine pureS 5 22 HT_ rfl rfl ?_
   refine pureS 6 23 HT_ rfl rfl ?_
   refine takeS 3 20 HT_ HW_ rfl rfl hHeld ?_ laws_eqDeclS.a1
   refine takeS 7 24 HT_ HW_ rfl rfl hHeld ?_ laws_eqDeclS.a1
   refine one_ (i:=8) (N:=some 25) #[true,true,true,true,true,true,true,true,true,false] rfl rfl (one_of HT_.out (by kernel_rfl)) (by decide) (fun K hK=> ?_)
   refine goes_ Try.func79 (by kernel_rfl) rfl #[.agg #[.slice A419_0 ((rd_T68 l0 x5_1).f0).length c419_0,.int .i64 ((rd_T68 l0 x5_1).f1)],.agg #[.slice A420_0 ((rd_T68 l1 x5_1).f0).length c420_0,.int .i64 ((rd_T68 l1 x5_1).f1)]] (by rfl) rfl rfl (by (try simp only [List.map_toArray,List.map_cons,List.map_nil]);first | done | rfl | (simp only [List.length_drop,List.length_take];rfl)) ?_
   with_reducible refine (laws_eqDecl.calls k1 _ _ ((rd_T68 l0 x5_1).f0) ((rd_T68 l0 x5_1).f1) _ _ ((rd_T68 l1 x5_1).f0) ((rd_T68 l1 x5_1).f1) true _ ?side1 ?side2 ?side3 ?side4 A7.out).mono ?_
   (case side1=>exact cB B3 HB)
   (case side2=>exact C4.out)
   (case side3=>exact cB B7 HB)
   (case side4=>exact C5.out)
   rintro e w10 ⟨rfl,hb⟩
   refine ⟨_,rfl,?_⟩
   replace HB:=hS HB hb
   (try clear hb)
   (try clear hb2)
   (try clear hk)
   (try clear hi)
   refine hK.out _ _ ⟨((HB.out.cell (World.block_lt_of_cell? w _ A5)).trans A5),((HB.out.cell (World.block_lt_of_cell? w _ A4)).trans A4),((HB.out.cell (World.block_lt_of_cell? w _ B0)).trans B0),((HB.out.cell (World.block_lt_of_cell? w _ A9)).trans A9)⟩ (fun hHeld=> ?_)
   clear hK K
   refine norm_ (a':=?_) ?_ ?_
   rotate_left
   ·show Act.put _ (some 25) _=_
    simp only [Act.put,List.setIfInBounds_toArray,List.set_cons_zero,List.set_cons_succ,i64_w,i32_w]
    rfl
   refine pureS 9 26 HT_ rfl rfl ?_
   refine done_ (done_of HT_.out (by kernel_rfl)) ?_
   try go_wp2
   go_roundg k1
   case measure=>have:=HK1.out;omega
   case rel=>exact ⟨(wrap64 (x5_1 + 1)),(by first | rfl | (simp;done) | (simp [*];done)),H',⟨by have:=HK1.out;omega⟩,⟨hV HB⟩⟩
  ·replace c8:=Bool.eq_false_iff.mpr c8
   subst c8
   rw [if_neg (show ¬ (false=true) by decide)] at H
   obtain rfl:=Option.some.inj H
   try go_wp2
   replace HB:=Aside0.mk (below_drew1 HB.out)
   have C0:0≤(x5_1:Int):=dT
   have C1:x5_1 < (l0.length:Int):=dT
   obtain ⟨B8,A419_0,c419_0,e419,A2,A3,B1,B2⟩:=at_T68 C9.out x5_1 C0 C1
   have A4:=A3
   have A5:=A2
   cases e419
   replace A2:=xc HB A2
   replace A3:=xc HB A3
   have B3:=Aside0.mk B2
   have C4:=Aside0.mk B1
   clear B2 B1
   replace C0:=eq_true C0
   replace C1:=eq_true C1
   have C2:0≤(x5_1:Int):=dT
   have C3:x5_1 < (l1.length:Int):=dT
   obtain ⟨B9,A420_0,c420_0,e420,A6,A8,B4,B5⟩:=at_T68 D0.out x5_1 C2 C3
   have A9:=A8
   have B0:=A6
   cases e420
   replace A6:=xc HB A6
   replace A8:=xc HB A8
   have B7:=Aside0.mk B5
   have C5:=Aside0.mk B4
   clear B5 B4
   replace C2:=eq_true C2
   replace C3:=eq_true C3
   refine start_ (n:=10) (S:=fun w'=>w'.cell? (B8.add ((x5_1).toNat * 2))=some (.slice A419_0 ((rd_T68 l0 x5_1).f0).length c419_0)∧w'.cell? ⟨(B8.add ((x5_1).toNat * 2)).block,(B8.add ((x5_1).toNat * 2)).off + 1,none⟩=some (.int .i64 ((rd_T68 l0 x5_1).f1))∧w'.cell? (B9.add ((x5_1).toNat * 2))=some (.slice A420_0 ((rd_T68 l1 x5_1).f0).length c420_0)∧w'.cell? ⟨(B9.add ((x5_1).toNat * 2)).block,(B9.add ((x5_1).toNat * 2)).off + 1,none⟩=some (.int .i64 ((rd_T68 l1 x5_1).f1))) (ds:=[]) #[false,false,false,false,false,false,false,false,false,false] (by kernel_rfl) rfl rfl ⟨((HB.out.cell (World.block_lt_of_cell? w _ A5)).trans A5),((HB.out.cell (World.block_lt_of_cell? w _ A4)).trans A4),((HB.out.cell (World.block_lt_of_cell? w _ B0)).trans B0),((HB.out.cell (World.block_lt_of_cell? w _ A9)).trans A9)⟩ (fun hHeld=> ?_);refine with_tabW laws_eqDeclS.tab6 laws_eqDeclS.bits6 (fun HT_ HW_=> ?_)
   generalize wr.drew=w11 at HB B3 B7 A2 A3 A6 A8 hHeld ⊢
   refine pureS 0 17 HT_ rfl rfl ?_
   refine pureS 1 18 HT_ rfl rfl ?_
   refine pureS 2 19 HT_ rfl rfl ?_
   refine pureS 4 21 HT_ rfl rfl ?_
   refine pureS 5 22 HT_ rfl rfl ?_
   refine pureS 6 23 HT_ rfl rfl ?_
   refine takeS 3 20 HT_ HW_ rfl rfl hHeld ?_ laws_eqDeclS.a1
   refine takeS 7 24 HT_ HW_ rfl rfl hHeld ?_ laws_eqDeclS.a1
   refine one_ (i:=8) (N:=some 25) #[true,true,true,true,true,true,true,true,true,false] rfl rfl (one_of HT_.out (by kernel_rfl)) (by decide) (fun K hK=> ?_)
   refine goes_ Try.func79 (by kernel_rfl) rfl #[.agg #[.slice A419_0 ((rd_T68 l0 x5_1).f0).length c419_0,.int .i64 ((rd_T68 l0 x5_1).f1)],.agg #[.slice A420_0 ((rd_T68 l1 x5_1).f0).length c420_0,.int .i64 ((rd_T68 l1 x5_1).f1)]] (by rfl) rfl rfl (by (try simp only [List.map_toArray,List.map_cons,List.map_nil]);first | done | rfl | (simp only [List.length_drop,List.length_take];rfl)) ?_
   with_reducible refine (laws_eqDecl.calls k1 _ _ ((rd_T68 l0 x5_1).f0) ((rd_T68 l0 x5_1).f1) _ _ ((rd_T68 l1 x5_1).f0) ((rd_T68 l1 x5_1).f1) false _ ?side1 ?side2 ?side3 ?side4 A7.out).mono ?_
   (case side1=>exact cB B3 HB)
   (case side2=>exact C4.out)
   (case side3=>exact cB B7 HB)
   (case side4=>exact C5.out)
   rintro e w12 ⟨rfl,hb⟩
   refine ⟨_,rfl,?_⟩
   replace HB:=hS HB hb
   (try clear hb)
   (try clear hb2)
   (try clear hk)
   (try clear hi)
   refine hK.out _ _ ⟨((HB.out.cell (World.block_lt_of_cell? w _ A5)).trans A5),((HB.out.cell (World.block_lt_of_cell? w _ A4)).trans A4),((HB.out.cell (World.block_lt_of_cell? w _ B0)).trans B0),((HB.out.cell (World.block_lt_of_cell? w _ A9)).trans A9)⟩ (fun hHeld=> ?_)
   clear hK K
   refine norm_ (a':=?_) ?_ ?_
   rotate_left
   ·show Act.put _ (some 25) _=_
    simp only [Act.put,List.setIfInBounds_toArray,List.set_cons_zero,List.set_cons_succ,i64_w,i32_w]
    rfl
   refine pureS 9 26 HT_ rfl rfl ?_
   refine done_ (done_of HT_.out (by kernel_rfl)) ?_
   try go_wp2
   go_ret
   exact ⟨laws_eqDeclS.a0,hV HB⟩
/-! ### laws_eqOp: function 62 -/
theorem laws_eqOp.a0 {P_:Prop} (h_:P_:=by first | rfl | (simp [errW_none,errW_some] <;> rfl) | (simp [*,errW_none,errW_some] <;> rfl)):P_:=h_
def laws_eqOp.f (k:Nat) (a0_0:ByteArray) (l0_1:List (S68)) (a0_2:Bool) (a0_3:Bool) (a0_4:Int) (a1_0:ByteArray) (l1_1:List (S68)) (a1_2:Bool) (a1_3:Bool) (a1_4:Int):Option (Bool):=if a0_0.toList=a1_0.toList then ((laws_eqDeclS.f k l0_1 l1_1).bind fun t424=>(if t424=true then (if (a0_2 != a1_2)=true then (some false) else (if (a0_3 != a1_3)=true then (some false) else (if a0_4=a1_4 then (some true) else (some false)))) else (some false))) else (some false)
set_option maxHeartbeats 8000000 in
set_option maxRecDepth 100000 in
theorem laws_eqOp.calls (k:Nat) (a0_0:ByteArray) (A0_1:Option Addr) (c0_1:Nat) (l0_1:List (S68)) (a0_2:Bool) (a0_3:Bool) (a0_4:Int) (a1_0:ByteArray) (A1_1:Option Addr) (c1_1:Nat) (l1_1:List (S68)) (a1_2:Bool) (a1_3:Bool) (a1_4:Int) (r:Bool) (w:World) (hr0_1:Kd.C k68 w A0_1 l0_1.length l0_1) (hc0_1:l0_1.length≤c0_1) (hr1_1:Kd.C k68 w A1_1 l1_1.length l1_1) (hc1_1:l1_1.length≤c1_1) (h:laws_eqOp.f k a0_0 l0_1 a0_2 a0_3 a0_4 a1_0 l1_1 a1_2 a1_3 a1_4=some r) :
  Calls Try.prog 62 #[.agg #[.string a0_0,.slice A0_1 l0_1.length c0_1,.bool a0_2,.bool a0_3,.int .i64 a0_4],.agg #[.string a1_0,.slice A1_1 l1_1.length c1_1,.bool a1_2,.bool a1_3,.int .i64 a1_4]] w fun e w'=>e=.returned (.bool r)∧Below w.heap.size w w':=by
 have hu50:=Try.underlying50
 have A5:=Aside0.mk hr0_1
 have A6:=Aside0.mk hc0_1
 clear hr0_1 hc0_1
 have A7:=Aside0.mk hr1_1
 have A8:=Aside0.mk hc1_1
 clear hr1_1 hc1_1
 have HB:=Aside0.mk (Below.refl w.heap.size w)
 have H:(if a0_0.toList=a1_0.toList then ((laws_eqDeclS.f k l0_1 l1_1).bind fun t424=>(if t424=true then (if (a0_2 != a1_2)=true then (some false) else (if (a0_3 != a1_3)=true then (some false) else (if a0_4=a1_4 then (some true) else (some false)))) else (some false))) else (some false))=some r:=h
 clear h
 by_cases c3:a0_0.toList=a1_0.toList
 rotate_left
 ·rw [if_neg c3] at H
  have C0:(a0_0.toList == a1_0.toList)=false:=beq_eq_false_iff_ne.mpr c3
  have C1:(a0_0.toList != a1_0.toList)=true:=bne_iff_ne.mpr c3
  obtain rfl:=Option.some.inj H
  go_enter Try.func62,Try.ntmps62
  go_wp2_with (first | (refine bx 2 rfl #[.string a0_0,.slice A0_1 l0_1.length c0_1,.bool a0_2,.bool a0_3,.int .i64 a0_4] 50 ?_;intro A9 hg w47 hbox hb;have A0:=Aside0.mk (hbox);have B0:=hZ HB hg;have B1:=hZ HB hg;replace HB:=hS HB hb;clear hb hbox hg) | (refine bx 3 rfl #[.string a1_0,.slice A1_1 l1_1.length c1_1,.bool a1_2,.bool a1_3,.int .i64 a1_4] 50 ?_;intro B2 hg w48 hbox hb;have A1:=Aside0.mk (hbox);have B3:=hZ HB hg;have B4:=hZ HB hg;replace HB:=hS HB hb;have A2:=nL A0 hg;have A3:=nG A0 hg;replace A0:=bB A0 hb;clear hb hbox hg;have W5:=A2.out;have W6:=A3.out;obtain ⟨C5,C6,C7,C8,C9,D0,D1,D2,D3,D4⟩:=cf5 A0;obtain ⟨D5,D6,D7,D8,D9,E0,E1,E2,E3,E4⟩:=cf5 A1))
  go_ret
  exact ⟨laws_eqOp.a0,hV HB⟩

 rw [if_pos c3] at H
 have C0:(a0_0.toList == a1_0.toList)=true:=beq_iff_eq.mpr c3
 have C1:(a0_0.toList != a1_0.toList)=false:=bne_eq_false_iff_eq.mpr c3
 clear c3
 replace H:=Option.bind_eq_some_iff.mp H
 obtain ⟨t424,A40,H⟩:=H
 replace H:(if t424=true then (if (a0_2 != a1_2)=true then (some false) else (if (a0_3 != a1_3)=true then (some false) else (if a0_4=a1_4 then (some true) else (some false)))) else (some false))=some r:=H
 have A4:=Aside0.mk A40
 clear A40
 by_cases c5:t424=true
 rotate_left
 ·replace c5:=Bool.eq_false_iff.mpr c5
  subst c5
  rw [if_neg (show ¬ (false=true) by decide)] at H
  obtain rfl:=Option.some.inj H
  go_enter Try.func62,Try.ntmps62
  go_wp2_with (first | (refine bx 2 rfl #[.string a0_0,.slice A0_1 l0_1.length c0_1,.bool a0_2,.bool a0_3,.int .i64 a0_4] 50 ?_;intro A9 hg w41 hbox hb;have A0:=Aside0.mk (hbox);have B0:=hZ HB hg;have B1:=hZ HB hg;replace HB:=hS HB hb;clear hb hbox hg) | (refine bx 3 rfl #[.string a1_0,.slice A1_1 l1_1.length c1_1,.bool a1_2,.bool a1_3,.int .i64 a1_4] 50 ?_;intro B2 hg w42 hbox hb;have A1:=Aside0.mk (hbox);have B3:=hZ HB hg;have B4:=hZ HB hg;replace HB:=hS HB hb;have A2:=nL A0 hg;have A3:=nG A0 hg;replace A0:=bB A0 hb;clear hb hbox hg;have W7:=A2.out;have W8:=A3.out;obtain ⟨E5,E6,E7,E8,E9,F0,F1,F2,F3,F4⟩:=cf5 A0;obtain ⟨F5,F6,F7,F8,F9,G0,G1,G2,G3,G4⟩:=cf5 A1) | (refine goK 73 (some 14) rfl Try.func73 #[.slice A0_1 l0_1.length c0_1,.slice A1_1 l1_1.length c1_1] ?_;(with_reducible refine (laws_eqDeclS.calls k _ _ l0_1 _ _ l1_1 false _ ?side1 ?side2 ?side3 ?side4 A4.out).mono ?_);(case side1=>exact cB A5 HB);(case side2=>exact A6.out);(case side3=>exact cB A7 HB);(case side4=>exact A8.out);rintro e w46 ⟨rfl,hb⟩;refine ⟨_,rfl,?_⟩;replace A0:=bB A0 hb;replace A1:=bB A1 hb;replace HB:=hS HB hb;(try clear hb);(try clear hb2);(try clear hk);(try clear hi)))
  go_ret
  exact ⟨laws_eqOp.a0,hV HB⟩
 subst c5
 rw [if_pos rfl] at H
 by_cases c6:(a0_2 != a1_2)=true
 ·rw [if_pos c6] at H
  have C2:(a0_2 != a1_2)=true:=c6
  (try (have C3:decide (a0_2=a1_2)=false:=by simpa using c6))
  (try (have C4:(a0_2 == a1_2)=false:=by simpa using c6))
  (try (have X6 : ¬ (a0_2=a1_2):=by simpa using c6))
  clear c6
  obtain rfl:=Option.some.inj H
  go_enter Try.func62,Try.ntmps62
  go_wp2_with (first | (refine bx 2 rfl #[.string a0_0,.slice A0_1 l0_1.length c0_1,.bool a0_2,.bool a0_3,.int .i64 a0_4] 50 ?_;intro A9 hg w7 hbox hb;have A0:=Aside0.mk (hbox);have B0:=hZ HB hg;have B1:=hZ HB hg;replace HB:=hS HB hb;clear hb hbox hg) | (refine bx 3 rfl #[.string a1_0,.slice A1_1 l1_1.length c1_1,.bool a1_2,.bool a1_3,.int .i64 a1_4] 50 ?_;intro B2 hg w8 hbox hb;have A1:=Aside0.mk (hbox);have B3:=hZ HB hg;have B4:=hZ HB hg;replace HB:=hS HB hb;have A2:=nL A0 hg;have A3:=nG A0 hg;replace A0:=bB A0 hb;clear hb hbox hg;have X7:=A2.out;have X8:=A3.out;obtain ⟨G5,G6,G7,G8,G9,H0,H1,H2,H3,H4⟩:=cf5 A0;obtain ⟨H5,H6,H7,H8,H9,I0,I1,I2,I3,I4⟩:=cf5 A1) | (refine goK 73 (some 14) rfl Try.func73 #[.slice A0_1 l0_1.length c0_1,.slice A1_1 l1_1.length c1_1] ?_;(with_reducible refine (laws_eqDeclS.calls k _ _ l0_1 _ _ l1_1 true _ ?side1 ?side2 ?side3 ?side4 A4.out).mono ?_);(case side1=>exact cB A5 HB);(case side2=>exact A6.out);(case side3=>exact cB A7 HB);(case side4=>exact A8.out);rintro e w12 ⟨rfl,hb⟩;refine ⟨_,rfl,?_⟩;replace A0:=bB A0 hb;replace A1:=bB A1 hb;replace HB:=hS HB hb;(try clear hb);(try clear hb2);(try clear hk);(try clear hi);obtain ⟨I5,I6,I7,I8,I9,J0,J1,J2,J3,J4⟩:=cf5 A0;obtain ⟨J5,J6,J7,J8,J9,K0,K1,K2,K3,K4⟩:=cf5 A1))
  go_ret
  exact ⟨laws_eqOp.a0,hV HB⟩
 rw [if_neg c6] at H
 have C2:(a0_2 != a1_2)=false:=by simpa using c6
 (try (have C3:decide (a0_2=a1_2)=true:=by simpa using c6))
 (try (have C4:(a0_2 == a1_2)=true:=by simpa using c6))
 clear c6
 by_cases c15:(a0_3 != a1_3)=true
 ·rw [if_pos c15] at H
  have B5:(a0_3 != a1_3)=true:=c15
  (try (have B6:decide (a0_3=a1_3)=false:=by simpa using c15))
  (try (have B7:(a0_3 == a1_3)=false:=by simpa using c15))
  (try (have W9 : ¬ (a0_3=a1_3):=by simpa using c15))
  clear c15
  obtain rfl:=Option.some.inj H
  go_enter Try.func62,Try.ntmps62
  go_wp2_with (first | (refine bx 2 rfl #[.string a0_0,.slice A0_1 l0_1.length c0_1,.bool a0_2,.bool a0_3,.int .i64 a0_4] 50 ?_;intro A9 hg w16 hbox hb;have A0:=Aside0.mk (hbox);have B0:=hZ HB hg;have B1:=hZ HB hg;replace HB:=hS HB hb;clear hb hbox hg) | (refine bx 3 rfl #[.string a1_0,.slice A1_1 l1_1.length c1_1,.bool a1_2,.bool a1_3,.int .i64 a1_4] 50 ?_;intro B2 hg w17 hbox hb;have A1:=Aside0.mk (hbox);have B3:=hZ HB hg;have B4:=hZ HB hg;replace HB:=hS HB hb;have A2:=nL A0 hg;have A3:=nG A0 hg;replace A0:=bB A0 hb;clear hb hbox hg;have X0:=A2.out;have X1:=A3.out;obtain ⟨K5,K6,K7,K8,K9,L0,L1,L2,L3,L4⟩:=cf5 A0;obtain ⟨L5,L6,L7,L8,L9,M0,M1,M2,M3,M4⟩:=cf5 A1) | (refine goK 73 (some 14) rfl Try.func73 #[.slice A0_1 l0_1.length c0_1,.slice A1_1 l1_1.length c1_1] ?_;(with_reducible refine (laws_eqDeclS.calls k _ _ l0_1 _ _ l1_1 true _ ?side1 ?side2 ?side3 ?side4 A4.out).mono ?_);(case side1=>exact cB A5 HB);(case side2=>exact A6.out);(case side3=>exact cB A7 HB);(case side4=>exact A8.out);rintro e w21 ⟨rfl,hb⟩;refine ⟨_,rfl,?_⟩;replace A0:=bB A0 hb;replace A1:=bB A1 hb;replace HB:=hS HB hb;(try clear hb);(try clear hb2);(try clear hk);(try clear hi);obtain ⟨M5,M6,M7,M8,M9,N0,N1,N2,N3,N4⟩:=cf5 A0;obtain ⟨N5,N6,N7,N8,N9,O0,O1,O2,O3,O4⟩:=cf5 A1))
  go_ret
  exact ⟨laws_eqOp.a0,hV HB⟩
 rw [if_neg c15] at H
 have B5:(a0_3 != a1_3)=false:=by simpa using c15
 (try (have B6:decide (a0_3=a1_3)=true:=by simpa using c15))
 (try (have B7:(a0_3 == a1_3)=true:=by simpa using c15))
 clear c15
 by_cases c24:a0_4=a1_4
 rotate_left
 ·rw [if_neg c24] at H
  have B8:(a0_4 == a1_4)=false:=beq_eq_false_iff_ne.mpr c24
  have B9:(a0_4 != a1_4)=true:=bne_iff_ne.mpr c24
  obtain rfl:=Option.some.inj H
  go_enter Try.func62,Try.ntmps62
  go_wp2_with (first | (refine bx 2 rfl #[.string a0_0,.slice A0_1 l0_1.length c0_1,.bool a0_2,.bool a0_3,.int .i64 a0_4] 50 ?_;intro A9 hg w33 hbox hb;have A0:=Aside0.mk (hbox);have B0:=hZ HB hg;have B1:=hZ HB hg;replace HB:=hS HB hb;clear hb hbox hg) | (refine bx 3 rfl #[.string a1_0,.slice A1_1 l1_1.length c1_1,.bool a1_2,.bool a1_3,.int .i64 a1_4] 50 ?_;intro B2 hg w34 hbox hb;have A1:=Aside0.mk (hbox);have B3:=hZ HB hg;have B4:=hZ HB hg;replace HB:=hS HB hb;have A2:=nL A0 hg;have A3:=nG A0 hg;replace A0:=bB A0 hb;clear hb hbox hg;have X2:=A2.out;have X3:=A3.out;obtain ⟨O5,O6,O7,O8,O9,P0,P1,P2,P3,P4⟩:=cf5 A0;obtain ⟨P5,P6,P7,P8,P9,Q0,Q1,Q2,Q3,Q4⟩:=cf5 A1) | (refine goK 73 (some 14) rfl Try.func73 #[.slice A0_1 l0_1.length c0_1,.slice A1_1 l1_1.length c1_1] ?_;(with_reducible refine (laws_eqDeclS.calls k _ _ l0_1 _ _ l1_1 true _ ?side1 ?side2 ?side3 ?side4 A4.out).mono ?_);(case side1=>exact cB A5 HB);(case side2=>exact A6.out);(case side3=>exact cB A7 HB);(case side4=>exact A8.out);rintro e w38 ⟨rfl,hb⟩;refine ⟨_,rfl,?_⟩;replace A0:=bB A0 hb;replace A1:=bB A1 hb;replace HB:=hS HB hb;(try clear hb);(try clear hb2);(try clear hk);(try clear hi);obtain ⟨Q5,Q6,Q7,Q8,Q9,R0,R1,R2,R3,R4⟩:=cf5 A0;obtain ⟨R5,R6,R7,R8,R9,S0,S1,S2,S3,S4⟩:=cf5 A1))
  go_ret
  exact ⟨laws_eqOp.a0,hV HB⟩
 rw [if_pos c24] at H
 have B8:(a0_4 == a1_4)=true:=beq_iff_eq.mpr c24
 have B9:(a0_4 != a1_4)=false:=bne_eq_false_iff_eq.mpr c24
 clear c24
 obtain rfl:=Option.some.inj H
 go_enter Try.func62,Try.ntmps62
 go_wp2_with (first | (refine bx 2 rfl #[.string a0_0,.slice A0_1 l0_1.length c0_1,.bool a0_2,.bool a0_3,.int .i64 a0_4] 50 ?_;intro A9 hg w25 hbox hb;have A0:=Aside0.mk (hbox);have B0:=hZ HB hg;have B1:=hZ HB hg;replace HB:=hS HB hb;clear hb hbox hg) | (refine bx 3 rfl #[.string a1_0,.slice A1_1 l1_1.length c1_1,.bool a1_2,.bool a1_3,.int .i64 a1_4] 50 ?_;intro B2 hg w26 hbox hb;have A1:=Aside0.mk (hbox);have B3:=hZ HB hg;have B4:=hZ HB hg;replace HB:=hS HB hb;have A2:=nL A0 hg;have A3:=nG A0 hg;replace A0:=bB A0 hb;clear hb hbox hg;have X4:=A2.out;have X5:=A3.out;obtain ⟨S5,S6,S7,S8,S9,T0,T1,T2,T3,T4⟩:=cf5 A0;obtain ⟨T5,T6,T7,T8,T9,U0,U1,U2,U3,U4⟩:=cf5 A1) | (refine goK 73 (some 14) rfl Try.func73 #[.slice A0_1 l0_1.length c0_1,.slice A1_1 l1_1.length c1_1] ?_;(with_reducible refine (laws_eqDeclS.calls k _ _ l0_1 _ _ l1_1 true _ ?side1 ?side2 ?side3 ?side4 A4.out).mono ?_);(case side1=>exact cB A5 HB);(case side2=>exact A6.out);(case side3=>exact cB A7 HB);(case side4=>exact A8.out);rintro e w30 ⟨rfl,hb⟩;refine ⟨_,rfl,?_⟩;replace A0:=bB A0 hb;replace A1:=bB A1 hb;replace HB:=hS HB hb;(try clear hb);(try clear hb2);(try clear hk);(try clear hi);obtain ⟨U5,U6,U7,U8,U9,V0,V1,V2,V3,V4⟩:=cf5 A0;obtain ⟨V5,V6,V7,V8,V9,W0,W1,W2,W3,W4⟩:=cf5 A1))
 go_ret
 exact ⟨laws_eqOp.a0,hV HB⟩
end Go.Proofs.Ytpildjbakceicaa.Q

