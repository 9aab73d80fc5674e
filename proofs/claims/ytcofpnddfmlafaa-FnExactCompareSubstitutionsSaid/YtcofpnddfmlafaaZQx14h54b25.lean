/- Functions of the program as plain Lean functions,and that the calls come to what they say. -/
import Derived.Test.YtcofpnddfmlafaaZQx0hd86e5
import Derived.Test.YtcofpnddfmlafaaZQx1h4b58c
import Derived.Test.YtcofpnddfmlafaaZQx9hbd131
import Derived.Test.YtcofpnddfmlafaaZQx10h4b39f
import Derived.Test.YtcofpnddfmlafaaZFl1Newh89f13
import Derived.Test.YtcofpnddfmlafaaZShorth79069
namespace Go.Proofs.Ytcofpnddfmlafaa.Q
open Go.RowKit Go.Proofs.YtcofpnddfmlafaaW.PrintWords Go.Proofs.YtcofpnddfmlafaaW.PrintLast Go.Proofs.YtcofpnddfmlafaaW.PrintMore
attribute [local go_sem] max2_int min2_int max_two min_two max_three min_three max_four min_four   -- for this text's walks alone
set_option linter.unusedVariables false
set_option linter.unusedSimpArgs false

/-! ### spec_DrawOccursIn: function 34 -/
/-! ### laws_szBinding: function 58 -/
theorem laws_szBinding.a0 {P_:Prop} (h_:P_:=by first | rfl | (simp [errW_none,errW_some] <;> rfl) | (simp [*,errW_none,errW_some] <;> rfl)):P_:=h_
def laws_szBinding.f (k:Nat) (a0_0:Int) (a0_1:ByteArray) (a0_2:Int) (l0_3:List (S24)) (a0_4:Int) (a0_5:ByteArray) (a0_6:Int) (l0_7:List (S24)) (a1:Int):Option (Int):=(laws_szTerm.f k a0_0 a0_1 a0_2 l0_3 a1).bind fun t676=>(if t676 < 0 then (some (-1)) else ((laws_szTerm.f k a0_4 a0_5 a0_6 l0_7 t676).bind fun t677=>(if t677 < 0 then (some (-1)) else (some t677))))
set_option maxHeartbeats 8000000 in
set_option maxRecDepth 100000 in
theorem laws_szBinding.calls (k:Nat) (a0_0:Int) (a0_1:ByteArray) (a0_2:Int) (A0_3:Option Addr) (c0_3:Nat) (l0_3:List (S24)) (a0_4:Int) (a0_5:ByteArray) (a0_6:Int) (A0_7:Option Addr) (c0_7:Nat) (l0_7:List (S24)) (a1:Int) (r:Int) (w:World) (hr0_3:Kd.C k24 w A0_3 l0_3.length l0_3) (hc0_3:l0_3.length≤c0_3) (hr0_7:Kd.C k24 w A0_7 l0_7.length l0_7) (hc0_7:l0_7.length≤c0_7) (h:laws_szBinding.f k a0_0 a0_1 a0_2 l0_3 a0_4 a0_5 a0_6 l0_7 a1=some r) :
  Calls Try.prog 58 #[.agg #[.int .i64 a0_0,.string a0_1,.int .i64 a0_2,.slice A0_3 l0_3.length c0_3,.int .i64 a0_4,.string a0_5,.int .i64 a0_6,.slice A0_7 l0_7.length c0_7],.int .i64 a1] w fun e w'=>e=.returned (.int .i64 r)∧Below w.heap.size w w':=by
 have hu71:=Try.underlying71
 have hu24:=Try.underlying24
 have A1:=Aside0.mk hr0_3
 have A2:=Aside0.mk hc0_3
 clear hr0_3 hc0_3
 have A4:=Aside0.mk hr0_7
 have A5:=Aside0.mk hc0_7
 clear hr0_7 hc0_7
 have HB:=Aside0.mk (Below.refl w.heap.size w)
 have H:((laws_szTerm.f k a0_0 a0_1 a0_2 l0_3 a1).bind fun t676=>(if t676 < 0 then (some (-1)) else ((laws_szTerm.f k a0_4 a0_5 a0_6 l0_7 t676).bind fun t677=>(if t677 < 0 then (some (-1)) else (some t677)))))=some r:=h
 clear h
 replace H:=Option.bind_eq_some_iff.mp H
 obtain ⟨t676,A30,H⟩:=H
 replace H:(if t676 < 0 then (some (-1)) else ((laws_szTerm.f k a0_4 a0_5 a0_6 l0_7 t676).bind fun t677=>(if t677 < 0 then (some (-1)) else (some t677))))=some r:=H
 have A3:=Aside0.mk A30
 clear A30
 by_cases c4:t676 < 0
 ·rw [if_pos c4] at H
  have B0:=decide_eq_true c4
  clear c4
  obtain rfl:=Option.some.inj H
  go_enter Try.func58,Try.ntmps58
  go_wp2_with (first | (refine bx 2 rfl #[.int .i64 a0_0,.string a0_1,.int .i64 a0_2,.slice A0_3 l0_3.length c0_3,.int .i64 a0_4,.string a0_5,.int .i64 a0_6,.slice A0_7 l0_7.length c0_7] 71 ?_;intro A6 hg w5 hbox hb;have A0:=Aside0.mk (hbox);have A7:=hZ HB hg;have A9:=hZ HB hg;replace HB:=hS HB hb;clear hb hbox hg;obtain ⟨H6,H7,H8,H9,I0,I1,I2,I3,I4,I5,I6,I7,I8,I9,J0,J1⟩:=cf8 A0) | (refine goK 11 (some 8) rfl Try.func11 #[.agg #[.int .i64 a0_0,.string a0_1,.int .i64 a0_2,.slice A0_3 l0_3.length c0_3],.int .i64 a1] ?_;(with_reducible refine (laws_szTerm.calls k a0_0 a0_1 a0_2 _ _ l0_3 a1 t676 _ ?side1 ?side2 A3.out).mono ?_);(case side1=>exact cB A1 HB);(case side2=>exact A2.out);rintro e w7 ⟨rfl,hb⟩;refine ⟨_,rfl,?_⟩;replace A0:=bB A0 hb;replace HB:=hS HB hb;(try clear hb);(try clear hb2);(try clear hk);(try clear hi)))
  go_ret
  exact ⟨laws_szBinding.a0,hV HB⟩
 rw [if_neg c4] at H
 have B0:=decide_eq_false c4
 clear c4
 replace H:=Option.bind_eq_some_iff.mp H
 obtain ⟨t677,A80,H⟩:=H
 replace H:(if t677 < 0 then (some (-1)) else (some t677))=some r:=H
 have A8:=Aside0.mk A80
 clear A80
 by_cases c9:t677 < 0
 ·rw [if_pos c9] at H
  have B1:=decide_eq_true c9
  clear c9
  obtain rfl:=Option.some.inj H
  go_enter Try.func58,Try.ntmps58
  go_wp2_with (first | (refine bx 2 rfl #[.int .i64 a0_0,.string a0_1,.int .i64 a0_2,.slice A0_3 l0_3.length c0_3,.int .i64 a0_4,.string a0_5,.int .i64 a0_6,.slice A0_7 l0_7.length c0_7] 71 ?_;intro A6 hg w10 hbox hb;have A0:=Aside0.mk (hbox);have A7:=hZ HB hg;have A9:=hZ HB hg;replace HB:=hS HB hb;clear hb hbox hg;obtain ⟨B2,B3,B4,B5,B6,B7,B8,B9,C0,C1,C2,C3,C4,C5,C6,C7⟩:=cf8 A0) | (refine goK 11 (some 8) rfl Try.func11 #[.agg #[.int .i64 a0_0,.string a0_1,.int .i64 a0_2,.slice A0_3 l0_3.length c0_3],.int .i64 a1] ?_;(with_reducible refine (laws_szTerm.calls k a0_0 a0_1 a0_2 _ _ l0_3 a1 t676 _ ?side1 ?side2 A3.out).mono ?_);(case side1=>exact cB A1 HB);(case side2=>exact A2.out);rintro e w12 ⟨rfl,hb⟩;refine ⟨_,rfl,?_⟩;replace A0:=bB A0 hb;replace HB:=hS HB hb;(try clear hb);(try clear hb2);(try clear hk);(try clear hi);obtain ⟨C8,C9,D0,D1,D2,D3,D4,D5,D6,D7,D8,D9,E0,E1,E2,E3⟩:=cf8 A0) | (refine goK 11 (some 14) rfl Try.func11 #[.agg #[.int .i64 a0_4,.string a0_5,.int .i64 a0_6,.slice A0_7 l0_7.length c0_7],.int .i64 t676] ?_;(with_reducible refine (laws_szTerm.calls k a0_4 a0_5 a0_6 _ _ l0_7 t676 t677 _ ?side1 ?side2 A8.out).mono ?_);(case side1=>exact cB A4 HB);(case side2=>exact A5.out);rintro e w14 ⟨rfl,hb⟩;refine ⟨_,rfl,?_⟩;replace A0:=bB A0 hb;replace HB:=hS HB hb;(try clear hb);(try clear hb2);(try clear hk);(try clear hi)))
  go_ret
  exact ⟨laws_szBinding.a0,hV HB⟩
 rw [if_neg c9] at H
 have B1:=decide_eq_false c9
 clear c9
 obtain rfl:=Option.some.inj H
 go_enter Try.func58,Try.ntmps58
 go_wp2_with (first | (refine bx 2 rfl #[.int .i64 a0_0,.string a0_1,.int .i64 a0_2,.slice A0_3 l0_3.length c0_3,.int .i64 a0_4,.string a0_5,.int .i64 a0_6,.slice A0_7 l0_7.length c0_7] 71 ?_;intro A6 hg w15 hbox hb;have A0:=Aside0.mk (hbox);have A7:=hZ HB hg;have A9:=hZ HB hg;replace HB:=hS HB hb;clear hb hbox hg;obtain ⟨E4,E5,E6,E7,E8,E9,F0,F1,F2,F3,F4,F5,F6,F7,F8,F9⟩:=cf8 A0) | (refine goK 11 (some 8) rfl Try.func11 #[.agg #[.int .i64 a0_0,.string a0_1,.int .i64 a0_2,.slice A0_3 l0_3.length c0_3],.int .i64 a1] ?_;(with_reducible refine (laws_szTerm.calls k a0_0 a0_1 a0_2 _ _ l0_3 a1 t676 _ ?side1 ?side2 A3.out).mono ?_);(case side1=>exact cB A1 HB);(case side2=>exact A2.out);rintro e w17 ⟨rfl,hb⟩;refine ⟨_,rfl,?_⟩;replace A0:=bB A0 hb;replace HB:=hS HB hb;(try clear hb);(try clear hb2);(try clear hk);(try clear hi);obtain ⟨G0,G1,G2,G3,G4,G5,G6,G7,G8,G9,H0,H1,H2,H3,H4,H5⟩:=cf8 A0) | (refine goK 11 (some 14) rfl Try.func11 #[.agg #[.int .i64 a0_4,.string a0_5,.int .i64 a0_6,.slice A0_7 l0_7.length c0_7],.int .i64 t676] ?_;(with_reducible refine (laws_szTerm.calls k a0_4 a0_5 a0_6 _ _ l0_7 t676 t677 _ ?side1 ?side2 A8.out).mono ?_);(case side1=>exact cB A4 HB);(case side2=>exact A5.out);rintro e w19 ⟨rfl,hb⟩;refine ⟨_,rfl,?_⟩;replace A0:=bB A0 hb;replace HB:=hS HB hb;(try clear hb);(try clear hb2);(try clear hk);(try clear hi)))
 go_ret
 exact ⟨laws_szBinding.a0,hV HB⟩

/-! ### laws_szBindingS: function 35 -/
theorem laws_szBindingS.a0 {P_:Prop} (h_:P_:=by first | rfl | (simp [errW_none,errW_some] <;> rfl) | (simp [*,errW_none,errW_some] <;> rfl)):P_:=h_
def laws_szBindingS.l0:Nat→List (S71)→Int→Int→Option (Int)
 | 0,_,_,_=>none
 | k + 1,x0,x1,x5=>if x5 < (x0.length:Int) then (if 0≤x5 then ((laws_szBinding.f k ((rd_T71 x0 x5).f0.f0) ((rd_T71 x0 x5).f0.f1) ((rd_T71 x0 x5).f0.f2) ((rd_T71 x0 x5).f0.f3) ((rd_T71 x0 x5).f1.f0) ((rd_T71 x0 x5).f1.f1) ((rd_T71 x0 x5).f1.f2) ((rd_T71 x0 x5).f1.f3) x1).bind fun t679=>(if t679 < 0 then (some (-1)) else (laws_szBindingS.l0 k x0 t679 (wrap64 (x5 + 1))))) else (none)) else (some x1)
def laws_szBindingS.f (k:Nat) (l0:List (S71)) (a1:Int):Option (Int):=if (wrap64 (a1 - (l0.length:Int))) < 0 then (some (-1)) else (laws_szBindingS.l0 k l0 (wrap64 (a1 - (l0.length:Int))) 0)
set_option maxHeartbeats 8000000 in
set_option maxRecDepth 100000 in
theorem laws_szBindingS.calls (k:Nat) (A0:Option Addr) (c0:Nat) (l0:List (S71)) (a1:Int) (r:Int) (w:World) (hr0:Kd.C k71 w A0 l0.length l0) (hc0:l0.length≤c0) (h:laws_szBindingS.f k l0 a1=some r) :
  Calls Try.prog 35 #[.slice A0 l0.length c0,.int .i64 a1] w fun e w'=>e=.returned (.int .i64 r)∧Below w.heap.size w w':=by
 have hu71:=Try.underlying71
 have C2:=Aside0.mk hr0
 have C6:=Aside0.mk hc0
 clear hr0 hc0
 have HB:=Aside0.mk (Below.refl w.heap.size w)
 have H:(if (wrap64 (a1 - (l0.length:Int))) < 0 then (some (-1)) else (laws_szBindingS.l0 k l0 (wrap64 (a1 - (l0.length:Int))) 0))=some r:=h
 clear h
 by_cases c3:(wrap64 (a1 - (l0.length:Int))) < 0
 ·rw [if_pos c3] at H
  have C0:=decide_eq_true c3
  clear c3
  obtain rfl:=Option.some.inj H
  go_enter Try.func35,Try.ntmps35
  go_wp2
  go_ret
  exact ⟨laws_szBindingS.a0,hV HB⟩
 rw [if_neg c3] at H
 have C0:=decide_eq_false c3
 clear c3
 have H':=Aside0.mk H
 clear H
 go_enter Try.func35,Try.ntmps35
 go_wp2
 go_loopg [1,5] k (fun kq v1 v5 w'=> ∃ (x1_1:Int) (x5_1:Int),v1=.int .i64 x1_1∧v5=.int .i64 x5_1∧Aside0 (laws_szBindingS.l0 kq l0 x1_1 x5_1=some r)∧Aside0 (kq≤k)∧Aside0 (Below w.heap.size w w'))
 case atStart=>exact ⟨(wrap64 (a1 - (l0.length:Int))),(0),(by first | rfl | (simp;done) | (simp [*];done)),(by first | rfl | (simp;done) | (simp [*];done)),H',⟨Nat.le_refl _⟩,⟨hV HB⟩⟩
 clear H'
 try clear c3
 try clear C0
 obtain ⟨x1_1,x5_1,rfl,rfl,HA,HK1,HB⟩:=hrel
 cases gk with
 | zero=>exact absurd HA.out (by simp [laws_szBindingS.l0])
 | succ k1=>
  have H:=HA.out
  clear HA
  simp only [laws_szBindingS.l0] at H
  by_cases c4:x5_1 < (l0.length:Int)
  rotate_left
  ·rw [if_neg c4] at H
   have C3:=decide_eq_false c4
   clear c4
   obtain rfl:=Option.some.inj H
   go_wp2
   go_ret
   exact ⟨laws_szBindingS.a0,hV HB⟩

  rw [if_pos c4] at H
  have C3:=decide_eq_true c4
  clear c4
  by_cases c5:0≤x5_1
  rotate_left
  ·rw [if_neg c5] at H
   exact absurd H (by simp)
  rw [if_pos c5] at H
  have C5:=decide_eq_true c5
  clear c5
  replace H:=Option.bind_eq_some_iff.mp H
  obtain ⟨t679,A60,H⟩:=H
  replace H:(if t679 < 0 then (some (-1)) else (laws_szBindingS.l0 k1 l0 t679 (wrap64 (x5_1 + 1))))=some r:=H
  have A6:=Aside0.mk A60
  clear A60
  by_cases c7:t679 < 0
  ·rw [if_pos c7] at H
   have C4:=decide_eq_true c7
   clear c7
   obtain rfl:=Option.some.inj H
   have B4:0≤(x5_1:Int):=dT
   have B5:x5_1 < (l0.length:Int):=dT
   obtain ⟨C1,A678_3,c678_3,A678_7,c678_7,e678,A1,A2,A3,A4,A5,A7,A8,A9,B0,B1,B2,B3⟩:=at_T71 C2.out x5_1 B4 B5
   cases e678
   replace A1:=xc HB A1
   replace A2:=xc HB A2
   replace A3:=xc HB A3
   replace A4:=xc HB A4
   replace A5:=xc HB A5
   replace A7:=xc HB A7
   replace A8:=xc HB A8
   replace A9:=xc HB A9
   have B6:=Aside0.mk B1
   have B7:=Aside0.mk B0
   clear B1 B0
   have B8:=Aside0.mk B3
   have B9:=Aside0.mk B2
   clear B3 B2
   replace B4:=eq_true B4
   replace B5:=eq_true B5
   go_wp2_with (first | (refine goK 58 (some 23) rfl Try.func58 #[.agg #[.int .i64 ((rd_T71 l0 x5_1).f0.f0),.string ((rd_T71 l0 x5_1).f0.f1),.int .i64 ((rd_T71 l0 x5_1).f0.f2),.slice A678_3 ((rd_T71 l0 x5_1).f0.f3).length c678_3,.int .i64 ((rd_T71 l0 x5_1).f1.f0),.string ((rd_T71 l0 x5_1).f1.f1),.int .i64 ((rd_T71 l0 x5_1).f1.f2),.slice A678_7 ((rd_T71 l0 x5_1).f1.f3).length c678_7],.int .i64 x1_1] ?_;(with_reducible refine (laws_szBinding.calls k1 ((rd_T71 l0 x5_1).f0.f0) ((rd_T71 l0 x5_1).f0.f1) ((rd_T71 l0 x5_1).f0.f2) _ _ ((rd_T71 l0 x5_1).f0.f3) ((rd_T71 l0 x5_1).f1.f0) ((rd_T71 l0 x5_1).f1.f1) ((rd_T71 l0 x5_1).f1.f2) _ _ ((rd_T71 l0 x5_1).f1.f3) x1_1 t679 _ ?side1 ?side2 ?side3 ?side4 A6.out).mono ?_);(case side1=>exact cB B6 HB);(case side2=>exact B7.out);(case side3=>exact cB B8 HB);(case side4=>exact B9.out);rintro e w8 ⟨rfl,hb⟩;refine ⟨_,rfl,?_⟩;replace HB:=hS HB hb;(try clear hb);(try clear hb2);(try clear hk);(try clear hi)))
   go_ret
   exact ⟨laws_szBindingS.a0,hV HB⟩
  ·rw [if_neg c7] at H
   have C4:=decide_eq_false c7
   clear c7
   have H':=Aside0.mk H
   clear H
   have B4:0≤(x5_1:Int):=dT
   have B5:x5_1 < (l0.length:Int):=dT
   obtain ⟨C1,A678_3,c678_3,A678_7,c678_7,e678,A1,A2,A3,A4,A5,A7,A8,A9,B0,B1,B2,B3⟩:=at_T71 C2.out x5_1 B4 B5
   cases e678
   replace A1:=xc HB A1
   replace A2:=xc HB A2
   replace A3:=xc HB A3
   replace A4:=xc HB A4
   replace A5:=xc HB A5
   replace A7:=xc HB A7
   replace A8:=xc HB A8
   replace A9:=xc HB A9
   have B6:=Aside0.mk B1
   have B7:=Aside0.mk B0
   clear B1 B0
   have B8:=Aside0.mk B3
   have B9:=Aside0.mk B2
   clear B3 B2
   replace B4:=eq_true B4
   replace B5:=eq_true B5
   go_wp2_with (first | (refine goK 58 (some 23) rfl Try.func58 #[.agg #[.int .i64 ((rd_T71 l0 x5_1).f0.f0),.string ((rd_T71 l0 x5_1).f0.f1),.int .i64 ((rd_T71 l0 x5_1).f0.f2),.slice A678_3 ((rd_T71 l0 x5_1).f0.f3).length c678_3,.int .i64 ((rd_T71 l0 x5_1).f1.f0),.string ((rd_T71 l0 x5_1).f1.f1),.int .i64 ((rd_T71 l0 x5_1).f1.f2),.slice A678_7 ((rd_T71 l0 x5_1).f1.f3).length c678_7],.int .i64 x1_1] ?_;(with_reducible refine (laws_szBinding.calls k1 ((rd_T71 l0 x5_1).f0.f0) ((rd_T71 l0 x5_1).f0.f1) ((rd_T71 l0 x5_1).f0.f2) _ _ ((rd_T71 l0 x5_1).f0.f3) ((rd_T71 l0 x5_1).f1.f0) ((rd_T71 l0 x5_1).f1.f1) ((rd_T71 l0 x5_1).f1.f2) _ _ ((rd_T71 l0 x5_1).f1.f3) x1_1 t679 _ ?side1 ?side2 ?side3 ?side4 A6.out).mono ?_);(case side1=>exact cB B6 HB);(case side2=>exact B7.out);(case side3=>exact cB B8 HB);(case side4=>exact B9.out);rintro e w9 ⟨rfl,hb⟩;refine ⟨_,rfl,?_⟩;replace HB:=hS HB hb;(try clear hb);(try clear hb2);(try clear hk);(try clear hi)))
   go_roundg k1
   case measure=>have:=HK1.out;omega
   case rel=>exact ⟨(t679),(wrap64 (x5_1 + 1)),(by first | rfl | (simp;done) | (simp [*];done)),(by first | rfl | (simp;done) | (simp [*];done)),H',⟨by have:=HK1.out;omega⟩,⟨hV HB⟩⟩
end Go.Proofs.Ytcofpnddfmlafaa.Q

