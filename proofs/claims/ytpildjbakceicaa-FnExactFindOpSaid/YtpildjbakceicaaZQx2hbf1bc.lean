/- Functions of the program as plain Lean functions,and that the calls come to what they say. -/
import Derived.Test.YtpildjbakceicaaZQx0hb61c0
import Derived.Test.YtpildjbakceicaaZShorth7b252
namespace Go.Proofs.Ytpildjbakceicaa.Q
open Go.RowKit Go.Proofs.YtpildjbakceicaaW.PrintWords Go.Proofs.YtpildjbakceicaaW.PrintLast Go.Proofs.YtpildjbakceicaaW.PrintMore
attribute [local go_sem] max2_int min2_int max_two min_two max_three min_three max_four min_four   -- for this text's walks alone
set_option linter.unusedVariables false
set_option linter.unusedSimpArgs false

/-! ### spec_IsName: function 24 -/
theorem spec_IsName.a0 {P_:Prop} (h_:P_:=by repeat (first | exact Drawn0.refl _ | apply Drawn0.step)):P_:=h_
theorem spec_IsName.a1 {P_:Prop} (h_:P_:=by first | rfl | (simp;done) | (simp [*];done)):P_:=h_
theorem spec_IsName.a2 {P_:Prop} (h_:P_:=by first | omega | exact Nat.le_refl _):P_:=h_
theorem spec_IsName.a3 {P_:Prop} (h_:P_:=by have:=HJ1.out;have:=HK2.out;omega):P_:=h_
mutual
def spec_IsName.j0:Nat→ByteArray→Bool→Option (Bool)
 | 0,_,_=>none
 | k + 1,x0,x40=>if x40=true then (some false) else (spec_IsName.l0 k x0 0)
def spec_IsName.l0:Nat→ByteArray→Int→Option (Bool)
 | 0,_,_=>none
 | k + 1,x0,x3=>if x3 < (x0.size:Int) then (if 0≤x3 then (if (bt x0 x3)≥97 then (if (bt x0 x3)≤122 then (spec_IsName.l0 k x0 (wrap64 (x3 + 1))) else (if (bt x0 x3)≥65 then (if (bt x0 x3)≤90 then (spec_IsName.l0 k x0 (wrap64 (x3 + 1))) else (if (bt x0 x3)≥48 then (if ((bt x0 x3)≤57) then (spec_IsName.l0 k x0 (wrap64 (x3 + 1))) else (some false)) else (some false))) else (if (bt x0 x3)≥48 then (if ((bt x0 x3)≤57) then (spec_IsName.l0 k x0 (wrap64 (x3 + 1))) else (some false)) else (some false)))) else (if (bt x0 x3)≥65 then (if (bt x0 x3)≤90 then (spec_IsName.l0 k x0 (wrap64 (x3 + 1))) else (if (bt x0 x3)≥48 then (if ((bt x0 x3)≤57) then (spec_IsName.l0 k x0 (wrap64 (x3 + 1))) else (some false)) else (some false))) else (if (bt x0 x3)≥48 then (if ((bt x0 x3)≤57) then (spec_IsName.l0 k x0 (wrap64 (x3 + 1))) else (some false)) else (some false)))) else (none)) else (some true)
end
def spec_IsName.f (k:Nat) (a0:ByteArray):Option (Bool):=if a0.toList=([105,102]:List UInt8) then (spec_IsName.j0 k a0 true) else (if a0.toList=([97,110,100]:List UInt8) then (spec_IsName.j0 k a0 true) else (if (a0.size:Int) < 1 then (spec_IsName.j0 k a0 true) else (if (a0.size:Int) > 12 then (spec_IsName.j0 k a0 true) else (if 0 < (a0.size:Int) then (if (bt a0 0)≥97 then (if (bt a0 0)≤122 then (spec_IsName.j0 k a0 (!true)) else (if (bt a0 0)≥65 then (spec_IsName.j0 k a0 (!(decide ((bt a0 0)≤90)))) else (spec_IsName.j0 k a0 (!false)))) else (if (bt a0 0)≥65 then (spec_IsName.j0 k a0 (!(decide ((bt a0 0)≤90)))) else (spec_IsName.j0 k a0 (!false)))) else (none)))))
set_option maxHeartbeats 8000000 in
set_option maxRecDepth 100000 in
theorem spec_IsName.calls (k:Nat) (a0:ByteArray) (r:Bool) (w:World) (h:spec_IsName.f k a0=some r) :
  Calls Try.prog 24 #[.string a0] w fun e w'=>e=.returned (.bool r)∧Drawn0 w w':=by
 have H:(if a0.toList=([105,102]:List UInt8) then (spec_IsName.j0 k a0 true) else (if a0.toList=([97,110,100]:List UInt8) then (spec_IsName.j0 k a0 true) else (if (a0.size:Int) < 1 then (spec_IsName.j0 k a0 true) else (if (a0.size:Int) > 12 then (spec_IsName.j0 k a0 true) else (if 0 < (a0.size:Int) then (if (bt a0 0)≥97 then (if (bt a0 0)≤122 then (spec_IsName.j0 k a0 (!true)) else (if (bt a0 0)≥65 then (spec_IsName.j0 k a0 (!(decide ((bt a0 0)≤90)))) else (spec_IsName.j0 k a0 (!false)))) else (if (bt a0 0)≥65 then (spec_IsName.j0 k a0 (!(decide ((bt a0 0)≤90)))) else (spec_IsName.j0 k a0 (!false)))) else (none))))))=some r:=h
 clear h
 have E3:=Aside0.mk H
 clear H
 go_enter Try.func24,Try.ntmps24
 go_upto_region 1 with (fail)
 go_cut [40] (fun v40 wc=> ∃ (kq:Nat) (x40_1:Bool),v40=.bool x40_1∧Aside0 (spec_IsName.j0 kq a0 x40_1=some r)∧Aside0 (kq≤k)∧Drawn0 w wc)
 case first=>
  have H:=E3.out
  clear E3
  by_cases c3:a0.toList=([105,102]:List UInt8)
  ·rw [if_pos c3] at H
   have C6:(a0.toList == ([105,102]:List UInt8))=true:=beq_iff_eq.mpr c3
   have H2:(a0.toList != ([105,102]:List UInt8))=false:=bne_eq_false_iff_eq.mpr c3
   clear c3
   (first | rw [C6] | (simp only [i64_w,i32_w];rw [C6]) | skip)
   have H':=Aside0.mk H
   clear H
   go_wp2
   go_meet
   case rel=>exact ⟨_,(true),spec_IsName.a1,H',⟨spec_IsName.a2⟩,spec_IsName.a0⟩
  rw [if_neg c3] at H
  have C6:(a0.toList == ([105,102]:List UInt8))=false:=beq_eq_false_iff_ne.mpr c3
  have H2:(a0.toList != ([105,102]:List UInt8))=true:=bne_iff_ne.mpr c3
  (first | rw [C6] | (simp only [i64_w,i32_w];rw [C6]) | skip)
  by_cases c4:a0.toList=([97,110,100]:List UInt8)
  ·rw [if_pos c4] at H
   have H3:(a0.toList == ([97,110,100]:List UInt8))=true:=beq_iff_eq.mpr c4
   have H4:(a0.toList != ([97,110,100]:List UInt8))=false:=bne_eq_false_iff_eq.mpr c4
   clear c4
   have H':=Aside0.mk H
   clear H
   go_wp2
   go_meet
   case rel=>exact ⟨_,(true),spec_IsName.a1,H',⟨spec_IsName.a2⟩,spec_IsName.a0⟩
  rw [if_neg c4] at H
  have H3:(a0.toList == ([97,110,100]:List UInt8))=false:=beq_eq_false_iff_ne.mpr c4
  have H4:(a0.toList != ([97,110,100]:List UInt8))=true:=bne_iff_ne.mpr c4
  by_cases c5:(a0.size:Int) < 1
  ·rw [if_pos c5] at H
   have H5:=decide_eq_true c5
   have H6:decide (a0.size < 1)=true:=decide_eq_true (by omega)
   clear c5
   have H':=Aside0.mk H
   clear H
   go_wp2
   go_meet
   case rel=>exact ⟨_,(true),spec_IsName.a1,H',⟨spec_IsName.a2⟩,spec_IsName.a0⟩
  rw [if_neg c5] at H
  have H5:=decide_eq_false c5
  have H6:decide (a0.size < 1)=false:=decide_eq_false (by omega)
  clear c5
  by_cases c6:(a0.size:Int) > 12
  ·rw [if_pos c6] at H
   have H7:=decide_eq_true c6
   have H8:decide (12 < a0.size)=true:=decide_eq_true (by omega)
   clear c6
   have H':=Aside0.mk H
   clear H
   go_wp2
   go_meet
   case rel=>exact ⟨_,(true),spec_IsName.a1,H',⟨spec_IsName.a2⟩,spec_IsName.a0⟩
  rw [if_neg c6] at H
  have H7:=decide_eq_false c6
  have H8:decide (12 < a0.size)=false:=decide_eq_false (by omega)
  clear c6
  by_cases c7:0 < (a0.size:Int)
  rotate_left
  ·rw [if_neg c7] at H
   exact absurd H (by simp)
  rw [if_pos c7] at H
  have J1:=decide_eq_true c7
  have J2:decide (0 < a0.size)=true:=decide_eq_true (by omega)
  clear c7
  by_cases c9:(bt a0 0)≥97
  ·rw [if_pos c9] at H
   have H9:=decide_eq_true c9
   clear c9
   by_cases c11:(bt a0 0)≤122
   ·rw [if_pos c11] at H
    have F2:=decide_eq_true c11
    clear c11
    have H':=Aside0.mk H
    clear H
    have p8:0≤(0:Int):=(by omega)
    have q8:0 < a0.size:=(by have:(0:Int) < (a0.size:Int):=dT;omega)
    have E1:∀ h:0 < a0.size,((a0[0]'h).toNat:Int)=bt a0 0:=bt_at a0 0
    clear p8
    have E2:(0 < (a0.size:Int))=True:=eq_true (dT)
    replace q8:=eq_true q8
    have C8:0≤(0:Int):=(by omega)
    have B7:0 < a0.size:=(by have:(0:Int) < (a0.size:Int):=dT;omega)
    have E4:∀ h:0 < a0.size,((a0[0]'h).toNat:Int)=bt a0 0:=bt_at a0 0
    clear C8
    have E5:(0 < (a0.size:Int))=True:=eq_true (dT)
    replace B7:=eq_true B7
    go_wp2
    go_meet
    case rel=>exact ⟨_,(!true),spec_IsName.a1,H',⟨spec_IsName.a2⟩,spec_IsName.a0⟩
   ·rw [if_neg c11] at H
    have F2:=decide_eq_false c11
    clear c11
    by_cases c13:(bt a0 0)≥65
    ·rw [if_pos c13] at H
     have F3:=decide_eq_true c13
     clear c13
     have H':=Aside0.mk H
     clear H
     have p8:0≤(0:Int):=(by omega)
     have q8:0 < a0.size:=(by have:(0:Int) < (a0.size:Int):=dT;omega)
     have E1:∀ h:0 < a0.size,((a0[0]'h).toNat:Int)=bt a0 0:=bt_at a0 0
     clear p8
     have E2:(0 < (a0.size:Int))=True:=eq_true (dT)
     replace q8:=eq_true q8
     have C8:0≤(0:Int):=(by omega)
     have B7:0 < a0.size:=(by have:(0:Int) < (a0.size:Int):=dT;omega)
     have E4:∀ h:0 < a0.size,((a0[0]'h).toNat:Int)=bt a0 0:=bt_at a0 0
     clear C8
     have E5:(0 < (a0.size:Int))=True:=eq_true (dT)
     replace B7:=eq_true B7
     have E6:0≤(0:Int):=(by omega)
     have C9:0 < a0.size:=(by have:(0:Int) < (a0.size:Int):=dT;omega)
     have I0:∀ h:0 < a0.size,((a0[0]'h).toNat:Int)=bt a0 0:=bt_at a0 0
     clear E6
     have I1:(0 < (a0.size:Int))=True:=eq_true (dT)
     replace C9:=eq_true C9
     have I8:0≤(0:Int):=(by omega)
     have H0:0 < a0.size:=(by have:(0:Int) < (a0.size:Int):=dT;omega)
     have J3:∀ h:0 < a0.size,((a0[0]'h).toNat:Int)=bt a0 0:=bt_at a0 0
     clear I8
     have J4:(0 < (a0.size:Int))=True:=eq_true (dT)
     replace H0:=eq_true H0
     go_wp2
     go_meet
     case rel=>exact ⟨_,(!(decide ((bt a0 0)≤90))),spec_IsName.a1,H',⟨spec_IsName.a2⟩,spec_IsName.a0⟩
    ·rw [if_neg c13] at H
     have F3:=decide_eq_false c13
     clear c13
     have H':=Aside0.mk H
     clear H
     have p8:0≤(0:Int):=(by omega)
     have q8:0 < a0.size:=(by have:(0:Int) < (a0.size:Int):=dT;omega)
     have E1:∀ h:0 < a0.size,((a0[0]'h).toNat:Int)=bt a0 0:=bt_at a0 0
     clear p8
     have E2:(0 < (a0.size:Int))=True:=eq_true (dT)
     replace q8:=eq_true q8
     have C8:0≤(0:Int):=(by omega)
     have B7:0 < a0.size:=(by have:(0:Int) < (a0.size:Int):=dT;omega)
     have E4:∀ h:0 < a0.size,((a0[0]'h).toNat:Int)=bt a0 0:=bt_at a0 0
     clear C8
     have E5:(0 < (a0.size:Int))=True:=eq_true (dT)
     replace B7:=eq_true B7
     have E6:0≤(0:Int):=(by omega)
     have C9:0 < a0.size:=(by have:(0:Int) < (a0.size:Int):=dT;omega)
     have I0:∀ h:0 < a0.size,((a0[0]'h).toNat:Int)=bt a0 0:=bt_at a0 0
     clear E6
     have I1:(0 < (a0.size:Int))=True:=eq_true (dT)
     replace C9:=eq_true C9
     go_wp2
     go_meet
     case rel=>exact ⟨_,(!false),spec_IsName.a1,H',⟨spec_IsName.a2⟩,spec_IsName.a0⟩
  ·rw [if_neg c9] at H
   have H9:=decide_eq_false c9
   clear c9
   by_cases c16:(bt a0 0)≥65
   ·rw [if_pos c16] at H
    have F4:=decide_eq_true c16
    clear c16
    have H':=Aside0.mk H
    clear H
    have p8:0≤(0:Int):=(by omega)
    have q8:0 < a0.size:=(by have:(0:Int) < (a0.size:Int):=dT;omega)
    have E1:∀ h:0 < a0.size,((a0[0]'h).toNat:Int)=bt a0 0:=bt_at a0 0
    clear p8
    have E2:(0 < (a0.size:Int))=True:=eq_true (dT)
    replace q8:=eq_true q8
    have E7:0≤(0:Int):=(by omega)
    have D0:0 < a0.size:=(by have:(0:Int) < (a0.size:Int):=dT;omega)
    have I2:∀ h:0 < a0.size,((a0[0]'h).toNat:Int)=bt a0 0:=bt_at a0 0
    clear E7
    have I3:(0 < (a0.size:Int))=True:=eq_true (dT)
    replace D0:=eq_true D0
    have I9:0≤(0:Int):=(by omega)
    have H1:0 < a0.size:=(by have:(0:Int) < (a0.size:Int):=dT;omega)
    have J5:∀ h:0 < a0.size,((a0[0]'h).toNat:Int)=bt a0 0:=bt_at a0 0
    clear I9
    have J6:(0 < (a0.size:Int))=True:=eq_true (dT)
    replace H1:=eq_true H1
    go_wp2
    go_meet
    case rel=>exact ⟨_,(!(decide ((bt a0 0)≤90))),spec_IsName.a1,H',⟨spec_IsName.a2⟩,spec_IsName.a0⟩
   ·rw [if_neg c16] at H
    have F4:=decide_eq_false c16
    clear c16
    have H':=Aside0.mk H
    clear H
    have p8:0≤(0:Int):=(by omega)
    have q8:0 < a0.size:=(by have:(0:Int) < (a0.size:Int):=dT;omega)
    have E1:∀ h:0 < a0.size,((a0[0]'h).toNat:Int)=bt a0 0:=bt_at a0 0
    clear p8
    have E2:(0 < (a0.size:Int))=True:=eq_true (dT)
    replace q8:=eq_true q8
    have E7:0≤(0:Int):=(by omega)
    have D0:0 < a0.size:=(by have:(0:Int) < (a0.size:Int):=dT;omega)
    have I2:∀ h:0 < a0.size,((a0[0]'h).toNat:Int)=bt a0 0:=bt_at a0 0
    clear E7
    have I3:(0 < (a0.size:Int))=True:=eq_true (dT)
    replace D0:=eq_true D0
    go_wp2
    go_meet
    case rel=>exact ⟨_,(!false),spec_IsName.a1,H',⟨spec_IsName.a2⟩,spec_IsName.a0⟩
 clear E3
 obtain ⟨kq,x40_1,rfl,HA,HJ1,⟨mc1,rfl⟩⟩:=hcut
 cases kq with
 | zero=>exact absurd HA.out (by simp [spec_IsName.j0])
 | succ kj1=>
  have H:=HA.out
  clear HA
  simp only [spec_IsName.j0] at H
  by_cases c18:x40_1=true
  ·subst c18
   rw [if_pos rfl] at H
   obtain rfl:=Option.some.inj H
   go_wp2
   go_ret
   exact ⟨spec_IsName.a1,spec_IsName.a0⟩
  replace c18:=Bool.eq_false_iff.mpr c18
  subst c18
  rw [if_neg (show ¬ (false=true) by decide)] at H
  have H':=Aside0.mk H
  clear H
  go_wp2
  go_loopg [3] kj1 (fun kq v3 w'=> ∃ (x3_2:Int),v3=.int .i64 x3_2∧Aside0 (spec_IsName.l0 kq a0 x3_2=some r)∧Aside0 (kq≤kj1)∧Drawn0 w w')
  case atStart=>exact ⟨(0),spec_IsName.a1,H',⟨Nat.le_refl _⟩,spec_IsName.a0⟩
  clear H'
  try clear c18
  obtain ⟨x3_2,rfl,HA,HK2,⟨m2,rfl⟩⟩:=hrel
  cases gk with
  | zero=>exact absurd HA.out (by simp [spec_IsName.l0])
  | succ k2=>
   have H:=HA.out
   clear HA
   simp only [spec_IsName.l0] at H
   by_cases c19:x3_2 < (a0.size:Int)
   rotate_left
   ·rw [if_neg c19] at H
    have F5:=decide_eq_false c19
    clear c19
    obtain rfl:=Option.some.inj H
    go_wp2
    go_ret
    exact ⟨spec_IsName.a1,spec_IsName.a0⟩

   rw [if_pos c19] at H
   have F5:=decide_eq_true c19
   clear c19
   by_cases c20:0≤x3_2
   rotate_left
   ·rw [if_neg c20] at H
    exact absurd H (by simp)
   rw [if_pos c20] at H
   have J0:=decide_eq_true c20
   clear c20
   by_cases c22:(bt a0 x3_2)≥97
   ·rw [if_pos c22] at H
    have F6:=decide_eq_true c22
    clear c22
    by_cases c24:(bt a0 x3_2)≤122
    ·rw [if_pos c24] at H
     have F7:=decide_eq_true c24
     clear c24
     have H':=Aside0.mk H
     clear H
     have A0:0≤(x3_2:Int):=dT
     have A1:x3_2 < (a0.size:Int):=dT
     have A8:=bt_at a0 x3_2
     replace A0:=eq_true A0
     replace A1:=eq_true A1
     have A2:0≤(x3_2:Int):=dT
     have A3:x3_2 < (a0.size:Int):=dT
     have B3:=bt_at a0 x3_2
     replace A2:=eq_true A2
     replace A3:=eq_true A3
     go_wp2
     go_roundg k2
     case measure=>have:=HJ1.out;have:=HK2.out;omega
     case rel=>exact ⟨(wrap64 (x3_2 + 1)),spec_IsName.a1,H',⟨spec_IsName.a3⟩,spec_IsName.a0⟩
    ·rw [if_neg c24] at H
     have F7:=decide_eq_false c24
     clear c24
     by_cases c26:(bt a0 x3_2)≥65
     ·rw [if_pos c26] at H
      have F8:=decide_eq_true c26
      clear c26
      by_cases c28:(bt a0 x3_2)≤90
      ·rw [if_pos c28] at H
       have F9:=decide_eq_true c28
       clear c28
       have H':=Aside0.mk H
       clear H
       have A0:0≤(x3_2:Int):=dT
       have A1:x3_2 < (a0.size:Int):=dT
       have A8:=bt_at a0 x3_2
       replace A0:=eq_true A0
       replace A1:=eq_true A1
       have A2:0≤(x3_2:Int):=dT
       have A3:x3_2 < (a0.size:Int):=dT
       have B3:=bt_at a0 x3_2
       replace A2:=eq_true A2
       replace A3:=eq_true A3
       have A4:0≤(x3_2:Int):=dT
       have A5:x3_2 < (a0.size:Int):=dT
       have B5:=bt_at a0 x3_2
       replace A4:=eq_true A4
       replace A5:=eq_true A5
       have A9:0≤(x3_2:Int):=dT
       have B0:x3_2 < (a0.size:Int):=dT
       have D9:=bt_at a0 x3_2
       replace A9:=eq_true A9
       replace B0:=eq_true B0
       go_wp2
       go_roundg k2
       case measure=>have:=HJ1.out;have:=HK2.out;omega
       case rel=>exact ⟨(wrap64 (x3_2 + 1)),spec_IsName.a1,H',⟨spec_IsName.a3⟩,spec_IsName.a0⟩
      ·rw [if_neg c28] at H
       have F9:=decide_eq_false c28
       clear c28
       by_cases c30:(bt a0 x3_2)≥48
       ·rw [if_pos c30] at H
        have G0:=decide_eq_true c30
        clear c30
        by_cases c32:((bt a0 x3_2)≤57)
        ·rw [if_pos c32] at H
         have G1:=decide_eq_true c32
         clear c32
         have H':=Aside0.mk H
         clear H
         have A0:0≤(x3_2:Int):=dT
         have A1:x3_2 < (a0.size:Int):=dT
         have A8:=bt_at a0 x3_2
         replace A0:=eq_true A0
         replace A1:=eq_true A1
         have A2:0≤(x3_2:Int):=dT
         have A3:x3_2 < (a0.size:Int):=dT
         have B3:=bt_at a0 x3_2
         replace A2:=eq_true A2
         replace A3:=eq_true A3
         have A4:0≤(x3_2:Int):=dT
         have A5:x3_2 < (a0.size:Int):=dT
         have B5:=bt_at a0 x3_2
         replace A4:=eq_true A4
         replace A5:=eq_true A5
         have A9:0≤(x3_2:Int):=dT
         have B0:x3_2 < (a0.size:Int):=dT
         have D9:=bt_at a0 x3_2
         replace A9:=eq_true A9
         replace B0:=eq_true B0
         have B8:0≤(x3_2:Int):=dT
         have B9:x3_2 < (a0.size:Int):=dT
         have E8:=bt_at a0 x3_2
         replace B8:=eq_true B8
         replace B9:=eq_true B9
         have D1:0≤(x3_2:Int):=dT
         have D2:x3_2 < (a0.size:Int):=dT
         have I4:=bt_at a0 x3_2
         replace D1:=eq_true D1
         replace D2:=eq_true D2
         go_wp2
         go_roundg k2
         case measure=>have:=HJ1.out;have:=HK2.out;omega
         case rel=>exact ⟨(wrap64 (x3_2 + 1)),spec_IsName.a1,H',⟨spec_IsName.a3⟩,spec_IsName.a0⟩
        ·rw [if_neg c32] at H
         have G1:=decide_eq_false c32
         clear c32
         obtain rfl:=Option.some.inj H
         have A0:0≤(x3_2:Int):=dT
         have A1:x3_2 < (a0.size:Int):=dT
         have A8:=bt_at a0 x3_2
         replace A0:=eq_true A0
         replace A1:=eq_true A1
         have A2:0≤(x3_2:Int):=dT
         have A3:x3_2 < (a0.size:Int):=dT
         have B3:=bt_at a0 x3_2
         replace A2:=eq_true A2
         replace A3:=eq_true A3
         have A4:0≤(x3_2:Int):=dT
         have A5:x3_2 < (a0.size:Int):=dT
         have B5:=bt_at a0 x3_2
         replace A4:=eq_true A4
         replace A5:=eq_true A5
         have A9:0≤(x3_2:Int):=dT
         have B0:x3_2 < (a0.size:Int):=dT
         have D9:=bt_at a0 x3_2
         replace A9:=eq_true A9
         replace B0:=eq_true B0
         have B8:0≤(x3_2:Int):=dT
         have B9:x3_2 < (a0.size:Int):=dT
         have E8:=bt_at a0 x3_2
         replace B8:=eq_true B8
         replace B9:=eq_true B9
         have D1:0≤(x3_2:Int):=dT
         have D2:x3_2 < (a0.size:Int):=dT
         have I4:=bt_at a0 x3_2
         replace D1:=eq_true D1
         replace D2:=eq_true D2
         go_wp2
         go_ret
         exact ⟨spec_IsName.a1,spec_IsName.a0⟩
       ·rw [if_neg c30] at H
        have G0:=decide_eq_false c30
        clear c30
        obtain rfl:=Option.some.inj H
        have A0:0≤(x3_2:Int):=dT
        have A1:x3_2 < (a0.size:Int):=dT
        have A8:=bt_at a0 x3_2
        replace A0:=eq_true A0
        replace A1:=eq_true A1
        have A2:0≤(x3_2:Int):=dT
        have A3:x3_2 < (a0.size:Int):=dT
        have B3:=bt_at a0 x3_2
        replace A2:=eq_true A2
        replace A3:=eq_true A3
        have A4:0≤(x3_2:Int):=dT
        have A5:x3_2 < (a0.size:Int):=dT
        have B5:=bt_at a0 x3_2
        replace A4:=eq_true A4
        replace A5:=eq_true A5
        have A9:0≤(x3_2:Int):=dT
        have B0:x3_2 < (a0.size:Int):=dT
        have D9:=bt_at a0 x3_2
        replace A9:=eq_true A9
        replace B0:=eq_true B0
        have B8:0≤(x3_2:Int):=dT
        have B9:x3_2 < (a0.size:Int):=dT
        have E8:=bt_at a0 x3_2
        replace B8:=eq_true B8
        replace B9:=eq_true B9
        go_wp2
        go_ret
        exact ⟨spec_IsName.a1,spec_IsName.a0⟩
     ·rw [if_neg c26] at H
      have F8:=decide_eq_false c26
      clear c26
      by_cases c34:(bt a0 x3_2)≥48
      ·rw [if_pos c34] at H
       have G2:=decide_eq_true c34
       clear c34
       by_cases c36:((bt a0 x3_2)≤57)
       ·rw [if_pos c36] at H
        have G3:=decide_eq_true c36
        clear c36
        have H':=Aside0.mk H
        clear H
        have A0:0≤(x3_2:Int):=dT
        have A1:x3_2 < (a0.size:Int):=dT
        have A8:=bt_at a0 x3_2
        replace A0:=eq_true A0
        replace A1:=eq_true A1
        have A2:0≤(x3_2:Int):=dT
        have A3:x3_2 < (a0.size:Int):=dT
        have B3:=bt_at a0 x3_2
        replace A2:=eq_true A2
        replace A3:=eq_true A3
        have A4:0≤(x3_2:Int):=dT
        have A5:x3_2 < (a0.size:Int):=dT
        have B5:=bt_at a0 x3_2
        replace A4:=eq_true A4
        replace A5:=eq_true A5
        have C0:0≤(x3_2:Int):=dT
        have C1:x3_2 < (a0.size:Int):=dT
        have E9:=bt_at a0 x3_2
        replace C0:=eq_true C0
        replace C1:=eq_true C1
        have D3:0≤(x3_2:Int):=dT
        have D4:x3_2 < (a0.size:Int):=dT
        have I5:=bt_at a0 x3_2
        replace D3:=eq_true D3
        replace D4:=eq_true D4
        go_wp2
        go_roundg k2
        case measure=>have:=HJ1.out;have:=HK2.out;omega
        case rel=>exact ⟨(wrap64 (x3_2 + 1)),spec_IsName.a1,H',⟨spec_IsName.a3⟩,spec_IsName.a0⟩
       ·rw [if_neg c36] at H
        have G3:=decide_eq_false c36
        clear c36
        obtain rfl:=Option.some.inj H
        have A0:0≤(x3_2:Int):=dT
        have A1:x3_2 < (a0.size:Int):=dT
        have A8:=bt_at a0 x3_2
        replace A0:=eq_true A0
        replace A1:=eq_true A1
        have A2:0≤(x3_2:Int):=dT
        have A3:x3_2 < (a0.size:Int):=dT
        have B3:=bt_at a0 x3_2
        replace A2:=eq_true A2
        replace A3:=eq_true A3
        have A4:0≤(x3_2:Int):=dT
        have A5:x3_2 < (a0.size:Int):=dT
        have B5:=bt_at a0 x3_2
        replace A4:=eq_true A4
        replace A5:=eq_true A5
        have C0:0≤(x3_2:Int):=dT
        have C1:x3_2 < (a0.size:Int):=dT
        have E9:=bt_at a0 x3_2
        replace C0:=eq_true C0
        replace C1:=eq_true C1
        have D3:0≤(x3_2:Int):=dT
        have D4:x3_2 < (a0.size:Int):=dT
        have I5:=bt_at a0 x3_2
        replace D3:=eq_true D3
        replace D4:=eq_true D4
        go_wp2
        go_ret
        exact ⟨spec_IsName.a1,spec_IsName.a0⟩
      ·rw [if_neg c34] at H
       have G2:=decide_eq_false c34
       clear c34
       obtain rfl:=Option.some.inj H
       have A0:0≤(x3_2:Int):=dT
       have A1:x3_2 < (a0.size:Int):=dT
       have A8:=bt_at a0 x3_2
       replace A0:=eq_true A0
       replace A1:=eq_true A1
       have A2:0≤(x3_2:Int):=dT
       have A3:x3_2 < (a0.size:Int):=dT
       have B3:=bt_at a0 x3_2
       replace A2:=eq_true A2
       replace A3:=eq_true A3
       have A4:0≤(x3_2:Int):=dT
       have A5:x3_2 < (a0.size:Int):=dT
       have B5:=bt_at a0 x3_2
       replace A4:=eq_true A4
       replace A5:=eq_true A5
       have C0:0≤(x3_2:Int):=dT
       have C1:x3_2 < (a0.size:Int):=dT
       have E9:=bt_at a0 x3_2
       replace C0:=eq_true C0
       replace C1:=eq_true C1
       go_wp2
       go_ret
       exact ⟨spec_IsName.a1,spec_IsName.a0⟩
   ·rw [if_neg c22] at H
    have F6:=decide_eq_false c22
    clear c22
    by_cases c38:(bt a0 x3_2)≥65
    ·rw [if_pos c38] at H
     have G4:=decide_eq_true c38
     clear c38
     by_cases c40:(bt a0 x3_2)≤90
     ·rw [if_pos c40] at H
      have G5:=decide_eq_true c40
      clear c40
      have H':=Aside0.mk H
      clear H
      have A0:0≤(x3_2:Int):=dT
      have A1:x3_2 < (a0.size:Int):=dT
      have A8:=bt_at a0 x3_2
      replace A0:=eq_true A0
      replace A1:=eq_true A1
      have A6:0≤(x3_2:Int):=dT
      have A7:x3_2 < (a0.size:Int):=dT
      have B6:=bt_at a0 x3_2
      replace A6:=eq_true A6
      replace A7:=eq_true A7
      have B1:0≤(x3_2:Int):=dT
      have B2:x3_2 < (a0.size:Int):=dT
      have E0:=bt_at a0 x3_2
      replace B1:=eq_true B1
      replace B2:=eq_true B2
      go_wp2
      go_roundg k2
      case measure=>have:=HJ1.out;have:=HK2.out;omega
      case rel=>exact ⟨(wrap64 (x3_2 + 1)),spec_IsName.a1,H',⟨spec_IsName.a3⟩,spec_IsName.a0⟩
     ·rw [if_neg c40] at H
      have G5:=decide_eq_false c40
      clear c40
      by_cases c42:(bt a0 x3_2)≥48
      ·rw [if_pos c42] at H
       have G6:=decide_eq_true c42
       clear c42
       by_cases c44:((bt a0 x3_2)≤57)
       ·rw [if_pos c44] at H
        have G7:=decide_eq_true c44
        clear c44
        have H':=Aside0.mk H
        clear H
        have A0:0≤(x3_2:Int):=dT
        have A1:x3_2 < (a0.size:Int):=dT
        have A8:=bt_at a0 x3_2
        replace A0:=eq_true A0
        replace A1:=eq_true A1
        have A6:0≤(x3_2:Int):=dT
        have A7:x3_2 < (a0.size:Int):=dT
        have B6:=bt_at a0 x3_2
        replace A6:=eq_true A6
        replace A7:=eq_true A7
        have B1:0≤(x3_2:Int):=dT
        have B2:x3_2 < (a0.size:Int):=dT
        have E0:=bt_at a0 x3_2
        replace B1:=eq_true B1
        replace B2:=eq_true B2
        have C2:0≤(x3_2:Int):=dT
        have C3:x3_2 < (a0.size:Int):=dT
        have F0:=bt_at a0 x3_2
        replace C2:=eq_true C2
        replace C3:=eq_true C3
        have D5:0≤(x3_2:Int):=dT
        have D6:x3_2 < (a0.size:Int):=dT
        have I6:=bt_at a0 x3_2
        replace D5:=eq_true D5
        replace D6:=eq_true D6
        go_wp2
        go_roundg k2
        case measure=>have:=HJ1.out;have:=HK2.out;omega
        case rel=>exact ⟨(wrap64 (x3_2 + 1)),spec_IsName.a1,H',⟨spec_IsName.a3⟩,spec_IsName.a0⟩
       ·rw [if_neg c44] at H
        have G7:=decide_eq_false c44
        clear c44
        obtain rfl:=Option.some.inj H
        have A0:0≤(x3_2:Int):=dT
        have A1:x3_2 < (a0.size:Int):=dT
        have A8:=bt_at a0 x3_2
        replace A0:=eq_true A0
        replace A1:=eq_true A1
        have A6:0≤(x3_2:Int):=dT
        have A7:x3_2 < (a0.size:Int):=dT
        have B6:=bt_at a0 x3_2
        replace A6:=eq_true A6
        replace A7:=eq_true A7
        have B1:0≤(x3_2:Int):=dT
        have B2:x3_2 < (a0.size:Int):=dT
        have E0:=bt_at a0 x3_2
        replace B1:=eq_true B1
        replace B2:=eq_true B2
        have C2:0≤(x3_2:Int):=dT
        have C3:x3_2 < (a0.size:Int):=dT
        have F0:=bt_at a0 x3_2
        replace C2:=eq_true C2
        replace C3:=eq_true C3
        have D5:0≤(x3_2:Int):=dT
        have D6:x3_2 < (a0.size:Int):=dT
        have I6:=bt_at a0 x3_2
        replace D5:=eq_true D5
        replace D6:=eq_true D6
        go_wp2
        go_ret
        exact ⟨spec_IsName.a1,spec_IsName.a0⟩
      ·rw [if_neg c42] at H
       have G6:=decide_eq_false c42
       clear c42
       obtain rfl:=Option.some.inj H
       have A0:0≤(x3_2:Int):=dT
       have A1:x3_2 < (a0.size:Int):=dT
       have A8:=bt_at a0 x3_2
       replace A0:=eq_true A0
       replace A1:=eq_true A1
       have A6:0≤(x3_2:Int):=dT
       have A7:x3_2 < (a0.size:Int):=dT
       have B6:=bt_at a0 x3_2
       replace A6:=eq_true A6
       replace A7:=eq_true A7
       have B1:0≤(x3_2:Int):=dT
       have B2:x3_2 < (a0.size:Int):=dT
       have E0:=bt_at a0 x3_2
       replace B1:=eq_true B1
       replace B2:=eq_true B2
       have C2:0≤(x3_2:Int):=dT
       have C3:x3_2 < (a0.size:Int):=dT
       have F0:=bt_at a0 x3_2
       replace C2:=eq_true C2
       replace C3:=eq_true C3
       go_wp2
       go_ret
       exact ⟨spec_IsName.a1,spec_IsName.a0⟩
    ·rw [if_neg c38] at H
     have G4:=decide_eq_false c38
     clear c38
     by_cases c46:(bt a0 x3_2)≥48
     ·rw [if_pos c46] at H
      have G8:=decide_eq_true c46
      clear c46
      by_cases c48:((bt a0 x3_2)≤57)
      ·rw [if_pos c48] at H
       have G9:=decide_eq_true c48
       clear c48
       have H':=Aside0.mk H
       clear H
       have A0:0≤(x3_2:Int):=dT
       have A1:x3_2 < (a0.size:Int):=dT
       have A8:=bt_at a0 x3_2
       replace A0:=eq_true A0
       replace A1:=eq_true A1
       have A6:0≤(x3_2:Int):=dT
       have A7:x3_2 < (a0.size:Int):=dT
       have B6:=bt_at a0 x3_2
       replace A6:=eq_true A6
       replace A7:=eq_true A7
       have C4:0≤(x3_2:Int):=dT
       have C5:x3_2 < (a0.size:Int):=dT
       have F1:=bt_at a0 x3_2
       replace C4:=eq_true C4
       replace C5:=eq_true C5
       have D7:0≤(x3_2:Int):=dT
       have D8:x3_2 < (a0.size:Int):=dT
       have I7:=bt_at a0 x3_2
       replace D7:=eq_true D7
       replace D8:=eq_true D8
       go_wp2
       go_roundg k2
       case measure=>have:=HJ1.out;have:=HK2.out;omega
       case rel=>exact ⟨(wrap64 (x3_2 + 1)),spec_IsName.a1,H',⟨spec_IsName.a3⟩,spec_IsName.a0⟩
      ·rw [if_neg c48] at H
       have G9:=decide_eq_false c48
       clear c48
       obtain rfl:=Option.some.inj H
       have A0:0≤(x3_2:Int):=dT
       have A1:x3_2 < (a0.size:Int):=dT
       have A8:=bt_at a0 x3_2
       replace A0:=eq_true A0
       replace A1:=eq_true A1
       have A6:0≤(x3_2:Int):=dT
       have A7:x3_2 < (a0.size:Int):=dT
       have B6:=bt_at a0 x3_2
       replace A6:=eq_true A6
       replace A7:=eq_true A7
       have C4:0≤(x3_2:Int):=dT
       have C5:x3_2 < (a0.size:Int):=dT
       have F1:=bt_at a0 x3_2
       replace C4:=eq_true C4
       replace C5:=eq_true C5
       have D7:0≤(x3_2:Int):=dT
       have D8:x3_2 < (a0.size:Int):=dT
       have I7:=bt_at a0 x3_2
       replace D7:=eq_true D7
       replace D8:=eq_true D8
       go_wp2
       go_ret
       exact ⟨spec_IsName.a1,spec_IsName.a0⟩
     ·rw [if_neg c46] at H
      have G8:=decide_eq_false c46
      clear c46
      obtain rfl:=Option.some.inj H
      have A0:0≤(x3_2:Int):=dT
      have A1:x3_2 < (a0.size:Int):=dT
      have A8:=bt_at a0 x3_2
      replace A0:=eq_true A0
      replace A1:=eq_true A1
      have A6:0≤(x3_2:Int):=dT
      have A7:x3_2 < (a0.size:Int):=dT
      have B6:=bt_at a0 x3_2
      replace A6:=eq_true A6
      replace A7:=eq_true A7
      have C4:0≤(x3_2:Int):=dT
      have C5:x3_2 < (a0.size:Int):=dT
      have F1:=bt_at a0 x3_2
      replace C4:=eq_true C4
      replace C5:=eq_true C5
      go_wp2
      go_ret
      exact ⟨spec_IsName.a1,spec_IsName.a0⟩
/-! ### spec_l1In: function 35 -/
def spec_l1In.f (a0:Int) (a1:Int) (a2:Int):Option (Bool):=if a0≥a1 then (some (decide (a0≤a2))) else (some false)
set_option maxHeartbeats 8000000 in
set_option maxRecDepth 100000 in
theorem spec_l1In.calls (a0:Int) (a1:Int) (a2:Int) (r:Bool) (w:World) (h:spec_l1In.f a0 a1 a2=some r) :
    Calls Try.prog 35 #[.int .i64 a0,.int .i64 a1,.int .i64 a2] w fun e w'=>e=.returned (.bool r)∧Drawn0 w w':=by
  have H:(if a0≥a1 then (some (decide (a0≤a2))) else (some false))=some r:=h
  clear h
  by_cases c4:a0≥a1
  · rw [if_pos c4] at H
    have A0:=decide_eq_true c4
    clear c4
    obtain rfl:=Option.some.inj H
    go_enter Try.func35,Try.ntmps35
    go_wp2
    go_ret
    exact ⟨by first | rfl | (simp;done) | (simp [*];done),by repeat (first | exact Drawn0.refl _ | apply Drawn0.step)⟩
  rw [if_neg c4] at H
  have A0:=decide_eq_false c4
  clear c4
  obtain rfl:=Option.some.inj H
  go_enter Try.func35,Try.ntmps35
  go_wp2
  go_ret
  exact ⟨by first | rfl | (simp;done) | (simp [*];done),by repeat (first | exact Drawn0.refl _ | apply Drawn0.step)⟩

end Go.Proofs.Ytpildjbakceicaa.Q

