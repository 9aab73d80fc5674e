/- Functions of the program as plain Lean functions,and that the calls come to what they say. -/
import Derived.Test.YtpildjbakceicaaZQx0hb61c0
import Derived.Test.YtpildjbakceicaaZQx1h3e7cd
import Derived.Test.YtpildjbakceicaaZQx8h91bd6
import Derived.Test.YtpildjbakceicaaZQx9h74e80
import Derived.Test.YtpildjbakceicaaZQx17h31d5f
import Derived.Test.YtpildjbakceicaaZQx19he4aed
import Derived.Test.YtpildjbakceicaaZShorthc96c8
namespace Go.Proofs.Ytpildjbakceicaa.Q
open Go.RowKit Go.Proofs.YtpildjbakceicaaW.PrintWords Go.Proofs.YtpildjbakceicaaW.PrintLast Go.Proofs.YtpildjbakceicaaW.PrintMore
attribute [local go_sem] max2_int min2_int max_two min_two max_three min_three max_four min_four   -- for this text's walks alone
set_option linter.unusedVariables false
set_option linter.unusedSimpArgs false

/-! ### laws_FnExactArityOf: function 4 -/
/-! ### spec_IsFreeSignature: function 15 -/
theorem spec_IsFreeSignature.a0 {P_:Prop} (h_:P_:=by first | rfl | (simp [errW_none,errW_some] <;> rfl) | (simp [*,errW_none,errW_some] <;> rfl)):P_:=h_
def spec_IsFreeSignature.l0:Nat→Int→List ByteArray→List (S89)→List (S50)→Option (Bool)
 | 0,_,_,_,_=>none
 | k + 1,x3,x508000,x508001,x508002=>if x3 < (x508002.length:Int) then (if 0≤x3 then (if (rd_T50 x508002 x3).f2=true then (some false) else (if ((rd_T50 x508002 x3).f4) > 0 then (some false) else (spec_IsFreeSignature.l0 k (wrap64 (x3 + 1)) x508000 x508001 x508002))) else (none)) else ((spec_IsSignature.f k x508000 x508001 x508002).bind fun t510=>(some t510))
def spec_IsFreeSignature.f (k:Nat) (l0_0:List ByteArray) (l0_1:List (S89)) (l0_2:List (S50)):Option (Bool):=spec_IsFreeSignature.l0 k 0 l0_0 l0_1 l0_2
set_option maxHeartbeats 8000000 in
set_option maxRecDepth 100000 in
theorem spec_IsFreeSignature.calls (k:Nat) (A0_0:Option Addr) (c0_0:Nat) (l0_0:List ByteArray) (A0_1:Option Addr) (c0_1:Nat) (l0_1:List (S89)) (A0_2:Option Addr) (c0_2:Nat) (l0_2:List (S50)) (r:Bool) (w:World) (hr0_0:Kd.C Kd.string w A0_0 l0_0.length l0_0) (hc0_0:l0_0.length≤c0_0) (hr0_1:Kd.C k89 w A0_1 l0_1.length l0_1) (hc0_1:l0_1.length≤c0_1) (hr0_2:Kd.C k50 w A0_2 l0_2.length l0_2) (hc0_2:l0_2.length≤c0_2) (h:spec_IsFreeSignature.f k l0_0 l0_1 l0_2=some r) :
  Calls Try.prog 15 #[.agg #[.slice A0_0 l0_0.length c0_0,.slice A0_1 l0_1.length c0_1,.slice A0_2 l0_2.length c0_2]] w fun e w'=>e=.returned (.bool r)∧Below w.heap.size w w':=by
 have hu36:=Try.underlying36
 have C7:=Aside0.mk hr0_0
 have C8:=Aside0.mk hc0_0
 clear hr0_0 hc0_0
 have C9:=Aside0.mk hr0_1
 have D0:=Aside0.mk hc0_1
 clear hr0_1 hc0_1
 have B8:=Aside0.mk hr0_2
 have D1:=Aside0.mk hc0_2
 clear hr0_2 hc0_2
 have HB:=Aside0.mk (Below.refl w.heap.size w)
 have H:(spec_IsFreeSignature.l0 k 0 l0_0 l0_1 l0_2)=some r:=h
 clear h
 have H':=Aside0.mk H
 clear H
 go_enter Try.func15,Try.ntmps15
 go_wp2_with (first | (refine bx 1 rfl #[.slice A0_0 l0_0.length c0_0,.slice A0_1 l0_1.length c0_1,.slice A0_2 l0_2.length c0_2] 36 ?_;intro D2 hg w2 hbox hb;have B1:=Aside0.mk (hbox);have G0:=hZ HB hg;have G1:=hZ HB hg;replace HB:=hS HB hb;clear hb hbox hg))
 go_loopg [3] k (fun kq v3 w'=> ∃ (x3_1:Int),v3=.int .i64 x3_1∧Aside0 (spec_IsFreeSignature.l0 kq x3_1 l0_0 l0_1 l0_2=some r)∧Aside0 (kq≤k)∧Aside0 (w'.heap[D2]? = some (.cells #[(.slice A0_0 l0_0.length c0_0),(.slice A0_1 l0_1.length c0_1),(.slice A0_2 l0_2.length c0_2)] 36 (0,0)))∧Aside0 (Below w.heap.size w w'))
 case atStart=>exact ⟨(0),(by first | rfl | (simp;done) | (simp [*];done)),H',⟨Nat.le_refl _⟩,⟨vB B1⟩,⟨hV HB⟩⟩
 case round=>
  clear H'
  obtain ⟨x3_1,rfl,HA,HK1,B1,HB⟩:=hrel
  cases gk with
  | zero=>exact absurd HA.out (by simp [spec_IsFreeSignature.l0])
  | succ k1=>
   have H:=HA.out
   clear HA
   simp only [spec_IsFreeSignature.l0] at H
   by_cases c3:x3_1 < (l0_2.length:Int)
   ·rw [if_pos c3] at H
    have D3:=decide_eq_true c3
    clear c3
    by_cases c4:0≤x3_1
    ·rw [if_pos c4] at H
     have G2:=decide_eq_true c4
     clear c4
     obtain ⟨E7,hbq5⟩:∃ b_:Bool,b_=((rd_T50 l0_2 x3_1).f2):=⟨_,rfl⟩
     rw [← hbq5] at H
     have A7:=Aside0.mk hbq5
     clear hbq5
     (try rw [← A7.out])
     by_cases c6:E7=true
     ·subst c6
      rw [if_pos rfl] at H
      obtain rfl:=Option.some.inj H
      obtain ⟨E8,E9,F0,F1,F2,F3⟩:=cf3 B1
      have B2:0≤(x3_1:Int):=dT
      have B3:x3_1 < (l0_2.length:Int):=dT
      obtain ⟨C1,A508_1,c508_1,e508,A3,A2,A0,A1,A4,A5,A6⟩:=at_T50 B8.out x3_1 B2 B3
      (try rw [← A7.out] at A0)
      (try rw [← A7.out] at A1)
      cases e508
      replace A3:=xc HB A3
      replace A2:=xc HB A2
      replace A0:=xc HB A0
      replace A1:=xc HB A1
      replace A4:=xc HB A4
      have C2:=Aside0.mk A6
      have C3:=Aside0.mk A5
      clear A6 A5
      replace B2:=eq_true B2
      replace B3:=eq_true B3
      go_wp2
      go_ret
      exact ⟨spec_IsFreeSignature.a0,hV HB⟩
     ·replace c6:=Bool.eq_false_iff.mpr c6
      subst c6
      rw [if_neg (show ¬ (false=true) by decide)] at H
      by_cases c8:((rd_T50 l0_2 x3_1).f4) > 0
      ·rw [if_pos c8] at H
       have D4:=decide_eq_true c8
       clear c8
       obtain rfl:=Option.some.inj H
       obtain ⟨F4,F5,F6,F7,F8,F9⟩:=cf3 B1
       have B2:0≤(x3_1:Int):=dT
       have B3:x3_1 < (l0_2.length:Int):=dT
       obtain ⟨C1,A508_1,c508_1,e508,A3,A2,A0,A1,A4,A5,A6⟩:=at_T50 B8.out x3_1 B2 B3
       (try rw [← A7.out] at A0)
       (try rw [← A7.out] at A1)
       cases e508
       replace A3:=xc HB A3
       replace A2:=xc HB A2
       replace A0:=xc HB A0
       replace A1:=xc HB A1
       replace A4:=xc HB A4
       have C2:=Aside0.mk A6
       have C3:=Aside0.mk A5
       clear A6 A5
       replace B2:=eq_true B2
       replace B3:=eq_true B3
       have B9:0≤(x3_1:Int):=dT
       have C0:x3_1 < (l0_2.length:Int):=dT
       obtain ⟨C4,A509_1,c509_1,e509,B4,A8,A9,B0,B5,B6,B7⟩:=at_T50 B8.out x3_1 B9 C0
       (try rw [← A7.out] at A9)
       (try rw [← A7.out] at B0)
       obtain rfl:C1=C4:=(by injection e509)
       replace B4:=xc HB B4
       replace A8:=xc HB A8
       replace A9:=xc HB A9
       replace B0:=xc HB B0
       replace B5:=xc HB B5
       have C5:=Aside0.mk B7
       have C6:=Aside0.mk B6
       clear B7 B6
       replace B9:=eq_true B9
       replace C0:=eq_true C0
       have ea_:=Option.some.inj (A2.symm.trans A8)
       injection ea_ with ea_ en_ ec_
       subst ea_
       subst ec_
       clear en_
       go_wp2
       go_ret
       exact ⟨spec_IsFreeSignature.a0,hV HB⟩
      ·rw [if_neg c8] at H
       have D4:=decide_eq_false c8
       clear c8
       have H':=Aside0.mk H
       clear H
       obtain ⟨D5,D6,D7,D8,D9,E0⟩:=cf3 B1
       have B2:0≤(x3_1:Int):=dT
       have B3:x3_1 < (l0_2.length:Int):=dT
       obtain ⟨C1,A508_1,c508_1,e508,A3,A2,A0,A1,A4,A5,A6⟩:=at_T50 B8.out x3_1 B2 B3
       (try rw [← A7.out] at A0)
       (try rw [← A7.out] at A1)
       cases e508
       replace A3:=xc HB A3
       replace A2:=xc HB A2
       replace A0:=xc HB A0
       replace A1:=xc HB A1
       replace A4:=xc HB A4
       have C2:=Aside0.mk A6
       have C3:=Aside0.mk A5
       clear A6 A5
       replace B2:=eq_true B2
       replace B3:=eq_true B3
       have B9:0≤(x3_1:Int):=dT
       have C0:x3_1 < (l0_2.length:Int):=dT
       obtain ⟨C4,A509_1,c509_1,e509,B4,A8,A9,B0,B5,B6,B7⟩:=at_T50 B8.out x3_1 B9 C0
       (try rw [← A7.out] at A9)
       (try rw [← A7.out] at B0)
       obtain rfl:C1=C4:=(by injection e509)
       replace B4:=xc HB B4
       replace A8:=xc HB A8
       replace A9:=xc HB A9
       replace B0:=xc HB B0
       replace B5:=xc HB B5
       have C5:=Aside0.mk B7
       have C6:=Aside0.mk B6
       clear B7 B6
       replace B9:=eq_true B9
       replace C0:=eq_true C0
       have ea_:=Option.some.inj (A2.symm.trans A8)
       injection ea_ with ea_ en_ ec_
       subst ea_
       subst ec_
       clear en_
       go_wp2
       go_roundg k1
       case measure=>have:=HK1.out;omega
       case rel=>exact ⟨(wrap64 (x3_1 + 1)),(by first | rfl | (simp;done) | (simp [*];done)),(by (try rw [← A7.out]);exact H'),⟨by have:=HK1.out;omega⟩,⟨by (try rw [← A7.out]);exact vB B1⟩,⟨hV HB⟩⟩
    ·rw [if_neg c4] at H
     exact absurd H (by simp)
   ·rw [if_neg c3] at H
    have D3:=decide_eq_false c3
    clear c3
    replace H:=Option.bind_eq_some_iff.mp H
    obtain ⟨t510,A110,H⟩:=H
    replace H:(some t510)=some r:=H
    have A11:=Aside0.mk A110
    clear A110
    obtain rfl:=Option.some.inj H
    obtain ⟨E1,E2,E3,E4,E5,E6⟩:=cf3 B1
    go_wp2_with (first | (refine goK 9 (some 27) rfl Try.func9 #[.agg #[.slice A0_0 l0_0.length c0_0,.slice A0_1 l0_1.length c0_1,.slice A0_2 l0_2.length c0_2]] ?_;(with_reducible refine (spec_IsSignature.calls k1 _ _ l0_0 _ _ l0_1 _ _ l0_2 t510 _ ?side1 ?side2 ?side3 ?side4 ?side5 ?side6 A11.out).mono ?_);(case side1=>exact cB C7 HB);(case side2=>exact C8.out);(case side3=>exact cB C9 HB);(case side4=>exact D0.out);(case side5=>exact cB B8 HB);(case side6=>exact D1.out);rintro e w13 ⟨rfl,hb⟩;refine ⟨_,rfl,?_⟩;replace B1:=bB B1 hb;replace HB:=hS HB hb;(try clear hb);(try clear hb2);(try clear hk);(try clear hi)))
    go_ret
    exact ⟨spec_IsFreeSignature.a0,hV HB⟩

/-! ### impl_IsFreeSignature: function 16 -/
theorem impl_IsFreeSignature.a0 {P_:Prop} (h_:P_:=by first | rfl | (simp [errW_none,errW_some] <;> rfl) | (simp [*,errW_none,errW_some] <;> rfl)):P_:=h_
def impl_IsFreeSignature.l0:Nat→List (S50)→Int→Int→List ByteArray→List (S89)→List (S50)→Option (Bool)
 | 0,_,_,_,_,_,_=>none
 | k + 1,x6,x7,x8,x512000,x512001,x512002=>if x8 < x7 then (if 0≤x8 then (if x8 < (x6.length:Int) then (if (rd_T50 x6 x8).f2=true then (some false) else (if ((rd_T50 x6 x8).f4)=0 then (impl_IsFreeSignature.l0 k x6 x7 (wrap64 (x8 + 1)) x512000 x512001 x512002) else (some false))) else (none)) else (none)) else ((impl_IsSignature.f k x512000 x512001 x512002).bind fun t514=>(some t514))
def impl_IsFreeSignature.f (k:Nat) (l0_0:List ByteArray) (l0_1:List (S89)) (l0_2:List (S50)):Option (Bool):=impl_IsFreeSignature.l0 k l0_2 (l0_2.length:Int) 0 l0_0 l0_1 l0_2
set_option maxHeartbeats 8000000 in
set_option maxRecDepth 100000 in
theorem impl_IsFreeSignature.calls (k:Nat) (A0_0:Option Addr) (c0_0:Nat) (l0_0:List ByteArray) (A0_1:Option Addr) (c0_1:Nat) (l0_1:List (S89)) (A0_2:Option Addr) (c0_2:Nat) (l0_2:List (S50)) (r:Bool) (w:World) (hr0_0:Kd.C Kd.string w A0_0 l0_0.length l0_0) (hc0_0:l0_0.length≤c0_0) (hr0_1:Kd.C k89 w A0_1 l0_1.length l0_1) (hc0_1:l0_1.length≤c0_1) (hr0_2:Kd.C k50 w A0_2 l0_2.length l0_2) (hc0_2:l0_2.length≤c0_2) (h:impl_IsFreeSignature.f k l0_0 l0_1 l0_2=some r) :
  Calls Try.prog 16 #[.agg #[.slice A0_0 l0_0.length c0_0,.slice A0_1 l0_1.length c0_1,.slice A0_2 l0_2.length c0_2]] w fun e w'=>e=.returned (.bool r)∧Below w.heap.size w w':=by
 have hu36:=Try.underlying36
 have hu50:=Try.underlying50
 have C7:=Aside0.mk hr0_0
 have C8:=Aside0.mk hc0_0
 clear hr0_0 hc0_0
 have C9:=Aside0.mk hr0_1
 have D0:=Aside0.mk hc0_1
 clear hr0_1 hc0_1
 have B4:=Aside0.mk hr0_2
 have D1:=Aside0.mk hc0_2
 clear hr0_2 hc0_2
 have HB:=Aside0.mk (Below.refl w.heap.size w)
 have H:(impl_IsFreeSignature.l0 k l0_2 (l0_2.length:Int) 0 l0_0 l0_1 l0_2)=some r:=h
 clear h
 have H':=Aside0.mk H
 clear H
 go_enter Try.func16,Try.ntmps16
 go_wp2_with (first | (refine bx 1 rfl #[.slice A0_0 l0_0.length c0_0,.slice A0_1 l0_1.length c0_1,.slice A0_2 l0_2.length c0_2] 36 ?_;intro D2 hg w2 hbox hb;have A0:=Aside0.mk (hbox);have H3:=hZ HB hg;have H4:=hZ HB hg;replace HB:=hS HB hb;clear hb hbox hg;obtain ⟨C1,C2,C3,C4,C5,C6⟩:=cf3 A0))
 go_loopg [8] k (fun kq v8 w'=> ∃ (x8_1:Int),v8=.int .i64 x8_1∧Aside0 (impl_IsFreeSignature.l0 kq l0_2 (l0_2.length:Int) x8_1 l0_0 l0_1 l0_2=some r)∧Aside0 (kq≤k)∧Aside0 (w'.heap[D2]? = some (.cells #[(.slice A0_0 l0_0.length c0_0),(.slice A0_1 l0_1.length c0_1),(.slice A0_2 l0_2.length c0_2)] 36 (0,0)))∧Aside0 (Below w.heap.size w w'))
 case atStart=>exact ⟨(0),(by first | rfl | (simp;done) | (simp [*];done)),H',⟨Nat.le_refl _⟩,⟨vB A0⟩,⟨hV HB⟩⟩
 case round=>
  clear H'
  try clear C1
  try clear C3
  try clear C5
  try clear C2
  try clear C4
  try clear C6
  obtain ⟨x8_1,rfl,HA,HK1,A0,HB⟩:=hrel
  cases gk with
  | zero=>exact absurd HA.out (by simp [impl_IsFreeSignature.l0])
  | succ k1=>
   have H:=HA.out
   clear HA
   simp only [impl_IsFreeSignature.l0] at H
   by_cases c4:x8_1 < (l0_2.length:Int)
   ·rw [if_pos c4] at H
    have D5:=decide_eq_true c4
    clear c4
    by_cases c5:0≤x8_1
    ·rw [if_pos c5] at H
     have I1:=decide_eq_true c5
     clear c5
     by_cases c6:x8_1 < (l0_2.length:Int)
     ·rw [if_pos c6] at H
      have I2:=decide_eq_true c6
      clear c6
      obtain ⟨H2,hbq7⟩:∃ b_:Bool,b_=((rd_T50 l0_2 x8_1).f2):=⟨_,rfl⟩
      rw [← hbq7] at H
      have B2:=Aside0.mk hbq7
      clear hbq7
      (try rw [← B2.out])
      by_cases c8:H2=true
      ·subst c8
       rw [if_pos rfl] at H
       obtain rfl:=Option.some.inj H
       have B0:0≤(x8_1:Int):=dT
       have B1:x8_1 < (l0_2.length:Int):=dT
       obtain ⟨B7,A512_1,c512_1,e512,A3,A4,A1,A2,A5,A6,A7⟩:=at_T50 B4.out x8_1 B0 B1
       (try rw [← B2.out] at A1)
       (try rw [← B2.out] at A2)
       cases e512
       replace A3:=xc HB A3
       replace A4:=xc HB A4
       replace A1:=xc HB A1
       replace A2:=xc HB A2
       replace A5:=xc HB A5
       have B5:=Aside0.mk A7
       have B6:=Aside0.mk A6
       clear A7 A6
       replace B0:=eq_true B0
       replace B1:=eq_true B1
       go_wp2_with (first | (refine bx 4 rfl #[.string (⟨#[]⟩:ByteArray),.slice none 0 0,.bool false,.bool false,.int .i64 0] 50 ?_;intro B8 hg w9 hbox hb;have B3:=Aside0.mk (hbox);have B9:=hZ HB hg;have C0:=hZ HB hg;replace HB:=hS HB hb;have A8:=nL A0 hg;have A9:=nG A0 hg;replace A0:=bB A0 hb;clear hb hbox hg;have H5:=A9.out;have H6:=A8.out;obtain ⟨D6,D7,D8,D9,E0,E1,E2,E3,E4,E5⟩:=cf5 B3))
       go_ret
       exact ⟨impl_IsFreeSignature.a0,hV HB⟩
      ·replace c8:=Bool.eq_false_iff.mpr c8
       subst c8
       rw [if_neg (show ¬ (false=true) by decide)] at H
       by_cases c12:((rd_T50 l0_2 x8_1).f4)=0
       ·rw [if_pos c12] at H
        have D3:(((rd_T50 l0_2 x8_1).f4) == 0)=true:=beq_iff_eq.mpr c12
        have D4:(((rd_T50 l0_2 x8_1).f4) != 0)=false:=bne_eq_false_iff_eq.mpr c12
        clear c12
        have H':=Aside0.mk H
        clear H
        have B0:0≤(x8_1:Int):=dT
        have B1:x8_1 < (l0_2.length:Int):=dT
        obtain ⟨B7,A512_1,c512_1,e512,A3,A4,A1,A2,A5,A6,A7⟩:=at_T50 B4.out x8_1 B0 B1
        (try rw [← B2.out] at A1)
        (try rw [← B2.out] at A2)
        cases e512
        replace A3:=xc HB A3
        replace A4:=xc HB A4
        replace A1:=xc HB A1
        replace A2:=xc HB A2
        replace A5:=xc HB A5
        have B5:=Aside0.mk A7
        have B6:=Aside0.mk A6
        clear A7 A6
        replace B0:=eq_true B0
        replace B1:=eq_true B1
        go_wp2_with (first | (refine bx 4 rfl #[.string (⟨#[]⟩:ByteArray),.slice none 0 0,.bool false,.bool false,.int .i64 0] 50 ?_;intro B8 hg w13 hbox hb;have B3:=Aside0.mk (hbox);have B9:=hZ HB hg;have C0:=hZ HB hg;replace HB:=hS HB hb;have A8:=nL A0 hg;have A9:=nG A0 hg;replace A0:=bB A0 hb;clear hb hbox hg;have H7:=A9.out;have H8:=A8.out;obtain ⟨E6,E7,E8,E9,F0,F1,F2,F3,F4,F5⟩:=cf5 B3))
        go_roundg k1
        case measure=>have:=HK1.out;omega
        case rel=>exact ⟨(wrap64 (x8_1 + 1)),(by first | rfl | (simp;done) | (simp [*];done)),(by (try rw [← B2.out]);exact H'),⟨by have:=HK1.out;omega⟩,⟨by (try rw [← B2.out]);exact vB A0⟩,⟨hV HB⟩⟩
       ·rw [if_neg c12] at H
        have D3:(((rd_T50 l0_2 x8_1).f4) == 0)=false:=beq_eq_false_iff_ne.mpr c12
        have D4:(((rd_T50 l0_2 x8_1).f4) != 0)=true:=bne_iff_ne.mpr c12
        obtain rfl:=Option.some.inj H
        have B0:0≤(x8_1:Int):=dT
        have B1:x8_1 < (l0_2.length:Int):=dT
        obtain ⟨B7,A512_1,c512_1,e512,A3,A4,A1,A2,A5,A6,A7⟩:=at_T50 B4.out x8_1 B0 B1
        (try rw [← B2.out] at A1)
        (try rw [← B2.out] at A2)
        cases e512
        replace A3:=xc HB A3
        replace A4:=xc HB A4
        replace A1:=xc HB A1
        replace A2:=xc HB A2
        replace A5:=xc HB A5
        have B5:=Aside0.mk A7
        have B6:=Aside0.mk A6
        clear A7 A6
        replace B0:=eq_true B0
        replace B1:=eq_true B1
        go_wp2_with (first | (refine bx 4 rfl #[.string (⟨#[]⟩:ByteArray),.slice none 0 0,.bool false,.bool false,.int .i64 0] 50 ?_;intro B8 hg w16 hbox hb;have B3:=Aside0.mk (hbox);have B9:=hZ HB hg;have C0:=hZ HB hg;replace HB:=hS HB hb;have A8:=nL A0 hg;have A9:=nG A0 hg;replace A0:=bB A0 hb;clear hb hbox hg;have H9:=A9.out;have I0:=A8.out;obtain ⟨F6,F7,F8,F9,G0,G1,G2,G3,G4,G5⟩:=cf5 B3))
        go_ret
        exact ⟨impl_IsFreeSignature.a0,hV HB⟩
     ·rw [if_neg c6] at H
      exact absurd H (by simp)
    ·rw [if_neg c5] at H
     exact absurd H (by simp)
   ·rw [if_neg c4] at H
    have D5:=decide_eq_false c4
    clear c4
    replace H:=Option.bind_eq_some_iff.mp H
    obtain ⟨t514,A190,H⟩:=H
    replace H:(some t514)=some r:=H
    have A19:=Aside0.mk A190
    clear A190
    obtain rfl:=Option.some.inj H
    obtain ⟨G6,G7,G8,G9,H0,H1⟩:=cf3 A0
    go_wp2_with (first | (refine goK 11 (some 21) rfl Try.func11 #[.agg #[.slice A0_0 l0_0.length c0_0,.slice A0_1 l0_1.length c0_1,.slice A0_2 l0_2.length c0_2]] ?_;(with_reducible refine (impl_IsSignature.calls k1 _ _ l0_0 _ _ l0_1 _ _ l0_2 t514 _ ?side1 ?side2 ?side3 ?side4 ?side5 ?side6 A19.out).mono ?_);(case side1=>exact cB C7 HB);(case side2=>exact C8.out);(case side3=>exact cB C9 HB);(case side4=>exact D0.out);(case side5=>exact cB B4 HB);(case side6=>exact D1.out);rintro e w21 ⟨rfl,hb⟩;refine ⟨_,rfl,?_⟩;replace A0:=bB A0 hb;replace HB:=hS HB hb;(try clear hb);(try clear hb2);(try clear hk);(try clear hi)))
    go_ret
    exact ⟨impl_IsFreeSignature.a0,hV HB⟩

end Go.Proofs.Ytpildjbakceicaa.Q

