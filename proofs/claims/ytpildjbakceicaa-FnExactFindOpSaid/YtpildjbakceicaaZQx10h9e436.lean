/- Functions of the program as plain Lean functions,and that the calls come to what they say. -/
import Derived.Test.YtpildjbakceicaaZQx0hb61c0
import Derived.Test.YtpildjbakceicaaZQx9h5fb00
import Derived.Test.YtpildjbakceicaaZShorth7b252
namespace Go.Proofs.Ytpildjbakceicaa.Q
open Go.RowKit Go.Proofs.YtpildjbakceicaaW.PrintWords Go.Proofs.YtpildjbakceicaaW.PrintLast Go.Proofs.YtpildjbakceicaaW.PrintMore
attribute [local go_sem] max2_int min2_int max_two min_two max_three min_three max_four min_four   -- for this text's walks alone
set_option linter.unusedVariables false
set_option linter.unusedSimpArgs false

/-! ### impl_IsName: function 30 -/
theorem impl_IsName.a0 {P_:Prop} (h_:P_:=by repeat (first | exact Drawn0.refl _ | apply Drawn0.step)):P_:=h_
theorem impl_IsName.a1 {P_:Prop} (h_:P_:=by first | rfl | (simp;done) | (simp [*];done)):P_:=h_
mutual
def impl_IsName.j0:Nat→ByteArray→Bool→Option (Bool)
 | 0,_,_=>none
 | k + 1,x0,x19=>if x19=true then (some false) else (impl_IsName.l0 k x0 0)
def impl_IsName.l0:Nat→ByteArray→Int→Option (Bool)
 | 0,_,_=>none
 | k + 1,x0,x3=>if x3 < (x0.size:Int) then (if 0≤x3 then ((impl_nameByte.f (bt x0 x3)).bind fun t288=>(if t288=true then (if x3=0 then (if (bt x0 x3)≤57 then (some false) else (impl_IsName.l0 k x0 (wrap64 (x3 + 1)))) else (impl_IsName.l0 k x0 (wrap64 (x3 + 1)))) else (some false))) else (none)) else (some true)
end
def impl_IsName.f (k:Nat) (a0:ByteArray):Option (Bool):=if (a0.size:Int) < 1 then (impl_IsName.j0 k a0 true) else (if (a0.size:Int) > 12 then (impl_IsName.j0 k a0 true) else (if a0.toList=([105,102]:List UInt8) then (impl_IsName.j0 k a0 true) else (impl_IsName.j0 k a0 (a0.toList == ([97,110,100]:List UInt8)))))
set_option maxHeartbeats 8000000 in
set_option maxRecDepth 100000 in
theorem impl_IsName.calls (k:Nat) (a0:ByteArray) (r:Bool) (w:World) (h:impl_IsName.f k a0=some r) :
  Calls Try.prog 30 #[.string a0] w fun e w'=>e=.returned (.bool r)∧Drawn0 w w':=by
 have H:(if (a0.size:Int) < 1 then (impl_IsName.j0 k a0 true) else (if (a0.size:Int) > 12 then (impl_IsName.j0 k a0 true) else (if a0.toList=([105,102]:List UInt8) then (impl_IsName.j0 k a0 true) else (impl_IsName.j0 k a0 (a0.toList == ([97,110,100]:List UInt8))))))=some r:=h
 clear h
 have A5:=Aside0.mk H
 clear H
 go_enter Try.func30,Try.ntmps30
 go_upto_region 1 with (fail)
 go_cut [19] (fun v19 wc=> ∃ (kq:Nat) (x19_1:Bool),v19=.bool x19_1∧Aside0 (impl_IsName.j0 kq a0 x19_1=some r)∧Aside0 (kq≤k)∧Drawn0 w wc)
 case first=>
  have H:=A5.out
  clear A5
  by_cases c3:(a0.size:Int) < 1
  ·rw [if_pos c3] at H
   have A0:=decide_eq_true c3
   have B0:decide (a0.size < 1)=true:=decide_eq_true (by omega)
   clear c3
   (first | rw [A0] | (simp only [i64_w,i32_w];rw [A0]) | skip)
   have H':=Aside0.mk H
   clear H
   go_wp2
   go_meet
   case rel=>exact ⟨_,(true),impl_IsName.a1,H',⟨by first | omega | exact Nat.le_refl _⟩,impl_IsName.a0⟩
  rw [if_neg c3] at H
  have A0:=decide_eq_false c3
  have B0:decide (a0.size < 1)=false:=decide_eq_false (by omega)
  clear c3
  (first | rw [A0] | (simp only [i64_w,i32_w];rw [A0]) | skip)
  by_cases c4:(a0.size:Int) > 12
  ·rw [if_pos c4] at H
   have B1:=decide_eq_true c4
   have B2:decide (12 < a0.size)=true:=decide_eq_true (by omega)
   clear c4
   have H':=Aside0.mk H
   clear H
   go_wp2
   go_meet
   case rel=>exact ⟨_,(true),impl_IsName.a1,H',⟨by first | omega | exact Nat.le_refl _⟩,impl_IsName.a0⟩
  rw [if_neg c4] at H
  have B1:=decide_eq_false c4
  have B2:decide (12 < a0.size)=false:=decide_eq_false (by omega)
  clear c4
  by_cases c5:a0.toList=([105,102]:List UInt8)
  rotate_left
  ·rw [if_neg c5] at H
   have B3:(a0.toList == ([105,102]:List UInt8))=false:=beq_eq_false_iff_ne.mpr c5
   have B4:(a0.toList != ([105,102]:List UInt8))=true:=bne_iff_ne.mpr c5
   have H':=Aside0.mk H
   clear H
   go_wp2
   go_meet
   case rel=>exact ⟨_,((a0.toList == ([97,110,100]:List UInt8))),impl_IsName.a1,H',⟨by first | omega | exact Nat.le_refl _⟩,impl_IsName.a0⟩
  rw [if_pos c5] at H
  have B3:(a0.toList == ([105,102]:List UInt8))=true:=beq_iff_eq.mpr c5
  have B4:(a0.toList != ([105,102]:List UInt8))=false:=bne_eq_false_iff_eq.mpr c5
  clear c5
  have H':=Aside0.mk H
  clear H
  go_wp2
  go_meet
  case rel=>exact ⟨_,(true),impl_IsName.a1,H',⟨by first | omega | exact Nat.le_refl _⟩,impl_IsName.a0⟩
 clear A5
 obtain ⟨kq,x19_1,rfl,HA,HJ1,⟨mc1,rfl⟩⟩:=hcut
 cases kq with
 | zero=>exact absurd HA.out (by simp [impl_IsName.j0])
 | succ kj1=>
  have H:=HA.out
  clear HA
  simp only [impl_IsName.j0] at H
  by_cases c6:x19_1=true
  ·subst c6
   rw [if_pos rfl] at H
   obtain rfl:=Option.some.inj H
   go_wp2
   go_ret
   exact ⟨impl_IsName.a1,impl_IsName.a0⟩
  replace c6:=Bool.eq_false_iff.mpr c6
  subst c6
  rw [if_neg (show ¬ (false=true) by decide)] at H
  have H':=Aside0.mk H
  clear H
  go_wp2
  go_loopg [3] kj1 (fun kq v3 w'=> ∃ (x3_2:Int),v3=.int .i64 x3_2∧Aside0 (impl_IsName.l0 kq a0 x3_2=some r)∧Aside0 (kq≤kj1)∧Drawn0 w w')
  case atStart=>exact ⟨(0),impl_IsName.a1,H',⟨Nat.le_refl _⟩,impl_IsName.a0⟩
  clear H'
  try clear c6
  obtain ⟨x3_2,rfl,HA,HK2,⟨m2,rfl⟩⟩:=hrel
  cases gk with
  | zero=>exact absurd HA.out (by simp [impl_IsName.l0])
  | succ k2=>
   have H:=HA.out
   clear HA
   simp only [impl_IsName.l0] at H
   by_cases c7:x3_2 < (a0.size:Int)
   rotate_left
   ·rw [if_neg c7] at H
    have B5:=decide_eq_false c7
    clear c7
    obtain rfl:=Option.some.inj H
    go_wp2
    go_ret
    exact ⟨impl_IsName.a1,impl_IsName.a0⟩

   rw [if_pos c7] at H
   have B5:=decide_eq_true c7
   clear c7
   by_cases c8:0≤x3_2
   rotate_left
   ·rw [if_neg c8] at H
    exact absurd H (by simp)
   rw [if_pos c8] at H
   have B7:=decide_eq_true c8
   clear c8
   replace H:=Option.bind_eq_some_iff.mp H
   obtain ⟨t288,A100,H⟩:=H
   replace H:(if t288=true then (if x3_2=0 then (if (bt a0 x3_2)≤57 then (some false) else (impl_IsName.l0 k2 a0 (wrap64 (x3_2 + 1)))) else (impl_IsName.l0 k2 a0 (wrap64 (x3_2 + 1)))) else (some false))=some r:=H
   have A10:=Aside0.mk A100
   clear A100
   by_cases c11:t288=true
   ·subst c11
    rw [if_pos rfl] at H
    by_cases c12:x3_2=0
    ·rw [if_pos c12] at H
     have A7:(x3_2 == 0)=true:=beq_iff_eq.mpr c12
     have A8:(x3_2 != 0)=false:=bne_eq_false_iff_eq.mpr c12
     clear c12
     by_cases c14:(bt a0 x3_2)≤57
     ·rw [if_pos c14] at H
      have A9:=decide_eq_true c14
      clear c14
      obtain rfl:=Option.some.inj H
      have p9:0≤(x3_2:Int):=dT
      have q9:x3_2 < (a0.size:Int):=dT
      have A6:=bt_at a0 x3_2
      replace p9:=eq_true p9
      replace q9:=eq_true q9
      go_wp2_with (first | (refine goK 58 (some 29) rfl Try.func58 #[.int .u8 (bt a0 x3_2)] ?_;(with_reducible refine (impl_nameByte.calls (bt a0 x3_2) true _ A10.out).mono ?_);rintro e w' ⟨rfl,⟨nd,rfl⟩⟩;refine ⟨_,rfl,?_⟩;have A3:0≤(x3_2:Int):=dT;have A4:x3_2 < (a0.size:Int):=dT;have B6:=bt_at a0 x3_2;replace A3:=eq_true A3;replace A4:=eq_true A4))
      go_ret
      exact ⟨impl_IsName.a1,impl_IsName.a0⟩
     ·rw [if_neg c14] at H
      have A9:=decide_eq_false c14
      clear c14
      have H':=Aside0.mk H
      clear H
      have p9:0≤(x3_2:Int):=dT
      have q9:x3_2 < (a0.size:Int):=dT
      have A6:=bt_at a0 x3_2
      replace p9:=eq_true p9
      replace q9:=eq_true q9
      go_wp2_with (first | (refine goK 58 (some 29) rfl Try.func58 #[.int .u8 (bt a0 x3_2)] ?_;(with_reducible refine (impl_nameByte.calls (bt a0 x3_2) true _ A10.out).mono ?_);rintro e w' ⟨rfl,⟨nd,rfl⟩⟩;refine ⟨_,rfl,?_⟩;have A3:0≤(x3_2:Int):=dT;have A4:x3_2 < (a0.size:Int):=dT;have B6:=bt_at a0 x3_2;replace A3:=eq_true A3;replace A4:=eq_true A4))
      go_roundg k2
      case measure=>have:=HJ1.out;have:=HK2.out;omega
      case rel=>exact ⟨(wrap64 (x3_2 + 1)),impl_IsName.a1,H',⟨by have:=HJ1.out;have:=HK2.out;omega⟩,impl_IsName.a0⟩
    ·rw [if_neg c12] at H
     have A7:(x3_2 == 0)=false:=beq_eq_false_iff_ne.mpr c12
     have A8:(x3_2 != 0)=true:=bne_iff_ne.mpr c12
     have H':=Aside0.mk H
     clear H
     have p9:0≤(x3_2:Int):=dT
     have q9:x3_2 < (a0.size:Int):=dT
     have A6:=bt_at a0 x3_2
     replace p9:=eq_true p9
     replace q9:=eq_true q9
     go_wp2_with (first | (refine goK 58 (some 29) rfl Try.func58 #[.int .u8 (bt a0 x3_2)] ?_;(with_reducible refine (impl_nameByte.calls (bt a0 x3_2) true _ A10.out).mono ?_);rintro e w' ⟨rfl,⟨nd,rfl⟩⟩;refine ⟨_,rfl,?_⟩))
     go_roundg k2
     case measure=>have:=HJ1.out;have:=HK2.out;omega
     case rel=>exact ⟨(wrap64 (x3_2 + 1)),impl_IsName.a1,H',⟨by have:=HJ1.out;have:=HK2.out;omega⟩,impl_IsName.a0⟩
   ·replace c11:=Bool.eq_false_iff.mpr c11
    subst c11
    rw [if_neg (show ¬ (false=true) by decide)] at H
    obtain rfl:=Option.some.inj H
    have p9:0≤(x3_2:Int):=dT
    have q9:x3_2 < (a0.size:Int):=dT
    have A6:=bt_at a0 x3_2
    replace p9:=eq_true p9
    replace q9:=eq_true q9
    go_wp2_with (first | (refine goK 58 (some 29) rfl Try.func58 #[.int .u8 (bt a0 x3_2)] ?_;(with_reducible refine (impl_nameByte.calls (bt a0 x3_2) false _ A10.out).mono ?_);rintro e w' ⟨rfl,⟨nd,rfl⟩⟩;refine ⟨_,rfl,?_⟩))
    go_ret
    exact ⟨impl_IsName.a1,impl_IsName.a0⟩
/-! ### impl_sortsAbove: function 56 -/
theorem impl_sortsAbove.a0 {P_:Prop} (h_:P_:=by rintro w' ⟨s0,s1,s2,s3⟩;go_simp;with_reducible rfl):P_:=h_
theorem impl_sortsAbove.a1 {P_:Prop} (h_:P_:=by first | rfl | (simp;done) | (simp [*];done)):P_:=h_
mutual
def impl_sortsAbove.l0:Nat→List Int→Int→Int→List ByteArray→List (S89)→Option (List Int)
 | 0,_,_,_,_,_=>none
 | k + 1,x3,x12,x13,x290000,x290001=>if x13 < x12 then (if 0≤x13 then (if x13 < (x3.length:Int) then (impl_sortsAbove.l0 k (x3.set (x13:Int).toNat (shl .i64 1 x13)) x12 (wrap64 (x13 + 1)) x290000 x290001) else (none)) else (none)) else (impl_sortsAbove.l1 k x3 (x3.length:Int) 0 x290000 x290001)
def impl_sortsAbove.l1:Nat→List Int→Int→Int→List ByteArray→List (S89)→Option (List Int)
 | 0,_,_,_,_,_=>none
 | k + 1,x3,x23,x24,x290000,x290001=>if x24 < x23 then (impl_sortsAbove.l2 k x3 x23 x24 x290001 (x290001.length:Int) 0 x290000 x290001) else (some x3)
def impl_sortsAbove.l2:Nat→List Int→Int→Int→List (S89)→Int→Int→List ByteArray→List (S89)→Option (List Int)
 | 0,_,_,_,_,_,_,_,_=>none
 | k + 1,x3,x23,x24,x27,x28,x29,x290000,x290001=>if x29 < x28 then (if 0≤x29 then (if x29 < (x27.length:Int) then (if 0≤((rd_T89 x27 x29).f0) then (if ((rd_T89 x27 x29).f0) < (x3.length:Int) then (if 0≤((rd_T89 x27 x29).f1) then (if ((rd_T89 x27 x29).f1) < (x3.length:Int) then (impl_sortsAbove.l2 k (x3.set (((rd_T89 x27 x29).f0):Int).toNat (Go.bits .or .i64 (rd x3 ((rd_T89 x27 x29).f0)) (rd x3 ((rd_T89 x27 x29).f1)))) x23 x24 x27 x28 (wrap64 (x29 + 1)) x290000 x290001) else (none)) else (none)) else (none)) else (none)) else (none)) else (none)) else (impl_sortsAbove.l1 k x3 x23 (wrap64 (x24 + 1)) x290000 x290001)
end
def impl_sortsAbove.f (k:Nat) (l0_0:List ByteArray) (l0_1:List (S89)):Option (List Int):=if 0≤(l0_0.length:Int) then (if ((l0_0.length:Int):Int).toNat≤35184372088832 then ((some (List.replicate ((l0_0.length:Int):Int).toNat 0:List Int)).bind fun y290=>(impl_sortsAbove.l0 k y290 (y290.length:Int) 0 l0_0 l0_1)) else (none)) else (none)
def impl_sortsAbove.T12:Bool × List (List Nat × List Nat):=(true,[([],[]),([],[]),([1],[1]),([],[]),([],[]),([4],[4]),([3,5],[3,5]),([6],[6]),([],[]),([],[]),([9],[9]),([8,10],[8,10]),([11],[11]),([7,12],[7,12]),([0,2,0,1,2,3,4,5,6,7,8,9,10,11,12,13],[0,2]),([14,13,0,1,2,3,4,5,6,7,8,9,10,11,12,13],[13,14])])
def impl_sortsAbove.B12:List Nat:=[0,0,2,0,0,16,56,120,0,0,512,1792,3840,8184,16383,32767]
theorem impl_sortsAbove.tab12:rtab .any (opsOf Try.f56 12)=impl_sortsAbove.T12:=by kernel_rfl
theorem impl_sortsAbove.bits12:waitsOk impl_sortsAbove.T12.2 impl_sortsAbove.B12=true:=by kernel_rfl
set_option maxHeartbeats 8000000 in
set_option maxRecDepth 100000 in
theorem impl_sortsAbove.calls (k:Nat) (A0_0:Option Addr) (c0_0:Nat) (l0_0:List ByteArray) (A0_1:Option Addr) (c0_1:Nat) (l0_1:List (S89)) (r:List Int) (w:World) (hr0_0:Kd.C Kd.string w A0_0 l0_0.length l0_0) (hc0_0:l0_0.length≤c0_0) (hr0_1:Kd.C k89 w A0_1 l0_1.length l0_1) (hc0_1:l0_1.length≤c0_1) (h:impl_sortsAbove.f k l0_0 l0_1=some r) :
  Calls Try.prog 56 #[.agg #[.slice A0_0 l0_0.length c0_0,.slice A0_1 l0_1.length c0_1]] w fun e w'=> ∃ v0_:Value,e=.returned (v0_)∧Kd.R (Kd.int .i64) 3 w' w.heap.size (fun _=>True) v0_ r∧Below w.heap.size w w':=by
 have hu33:=Try.underlying33
 have hu89:=Try.underlying89
 have H7:=Aside0.mk hr0_0
 have H8:=Aside0.mk hc0_0
 clear hr0_0 hc0_0
 have F5:=Aside0.mk hr0_1
 have H9:=Aside0.mk hc0_1
 clear hr0_1 hc0_1
 have HB:=Aside0.mk (Below.refl w.heap.size w)
 have H:(if 0≤(l0_0.length:Int) then (if ((l0_0.length:Int):Int).toNat≤35184372088832 then ((some (List.replicate ((l0_0.length:Int):Int).toNat 0:List Int)).bind fun y290=>(impl_sortsAbove.l0 k y290 (y290.length:Int) 0 l0_0 l0_1)) else (none)) else (none))=some r:=h
 clear h
 by_cases c2:0≤(l0_0.length:Int)
 rotate_left
 ·rw [if_neg c2] at H
  exact absurd H (by simp)

 rw [if_pos c2] at H
 have C4:=eq_true c2
 have C5:=decide_eq_true c2
 clear c2
 by_cases c3:((l0_0.length:Int):Int).toNat≤35184372088832
 rotate_left
 ·rw [if_neg c3] at H
  exact absurd H (by simp)
 rw [if_pos c3] at H
 have C6:=eq_true c3
 have C7:=decide_eq_true c3
 clear c3
 obtain ⟨y290,hy290⟩:∃ y_:List Int,y_=(List.replicate ((l0_0.length:Int):Int).toNat 0):=⟨_,rfl⟩
 replace H:(impl_sortsAbove.l0 k y290 (y290.length:Int) 0 l0_0 l0_1)=some r:=by first | (rw [hy290];with_reducible exact H) | (have H2_:=(Option.bind_some _ _).symm.trans H;rw [hy290];with_reducible exact H2_) | (have H2_:=(Option.bind_some _ _).symm.trans H;with_reducible exact H2_) | with_reducible exact H | (rw [hy290];exact H) | exact H
 have D8:=Aside0.mk hy290
 clear hy290
 have H':=Aside0.mk H
 clear H
 go_enter Try.func56,Try.ntmps56
 go_wp2_with (first | (refine bx 1 rfl #[.slice A0_0 l0_0.length c0_0,.slice A0_1 l0_1.length c0_1] 33 ?_;intro A7 hg w4 hbox hb;have A0:=Aside0.mk (hbox);have I0:=hZ HB hg;have I1:=hZ HB hg;replace HB:=hS HB hb;clear hb hbox hg;obtain ⟨B1,B2,B3,B4⟩:=cf2 A0) | ((with_reducible refine gate_dst (N:=10) rfl ?_);refine Kd.R_make (Kd.int .i64) _ 3 rfl (N:=10) rfl 55 _ _ rfl (l0_0.length:Int) rfl rfl Try.underlying55 (.int .i64 0) 8 info3 rfl (by decide) (by omega) 0 (ok:=fun _=>True) (okp:=fun _=>True) rfl (fun _ hk=>hk) trivial (dT) (Nat.le_trans (Nat.mul_le_mul_right _ (dT:(l0_0.length:Int).toNat≤35184372088832)) (by omega)) (Below.refl _ _) (Nat.le_refl _) ?_;intro v291 w6 ho7 hb hg_ hnew_;clear hg_ hnew_;(first | rw [← D8.out] at ho7 | (simp only [Int.reduceToNat] at ho7;rw [← D8.out] at ho7));have D9:=rL ho7 HB;replace A0:=bB A0 hb;replace HB:=hS HB hb;clear hb ho7;obtain ⟨E0,C1,eo8⟩:=Kd.R_slice D9.out;subst eo8))
 go_loopg [13] k (fun kq v13 w'=> ∃ (x3_1:List Int) (x13_1:Int),v13=.int .i64 x13_1∧Aside0 (impl_sortsAbove.l0 kq x3_1 (y290.length:Int) x13_1 l0_0 l0_1=some r)∧Aside0 (kq≤k)∧Aside0 (Kd.R (Kd.int .i64) 3 w' w.heap.size (fun _=>True) (.slice E0 y290.length C1) x3_1)∧Aside0 (w'.heap[A7]? = some (.cells #[(.slice A0_0 l0_0.length c0_0),(.slice A0_1 l0_1.length c0_1)] 33 (0,0)))∧Aside0 (Below w.heap.size w w'))
 case atStart=>exact ⟨(y290),(0),impl_sortsAbove.a1,H',⟨Nat.le_refl _⟩,⟨rV D9⟩,⟨vB A0⟩,⟨hV HB⟩⟩
 clear H'
 try clear c2
 try clear C4
 try clear C5
 try clear c3
 try clear C6
 try clear C7
 try clear B1
 try clear B3
 try clear B2
 try clear B4
 obtain ⟨x3_1,x13_1,rfl,HA,HK1,A1,A0,HB⟩:=hrel
 have A2:=(Kd.R_reads' A1.out).1
 rw [A2] at A1
 (try simp only [A2])
 (try simp only [A2] at A0)
 cases gk with
 | zero=>exact absurd HA.out (by simp [impl_sortsAbove.l0])
 | succ k1=>
  have H:=HA.out
  clear HA
  simp only [impl_sortsAbove.l0] at H
  by_cases c9:x13_1 < (y290.length:Int)
  ·rw [if_pos c9] at H
   have B5:=decide_eq_true c9
   (try (have C8:=B5;simp only [A2] at C8))
   clear c9
   by_cases c10:0≤x13_1
   rotate_left
   ·rw [if_neg c10] at H
    exact absurd H (by simp)
   rw [if_pos c10] at H
   have I2:=eq_true c10
   have I3:=decide_eq_true c10
   clear c10
   obtain ⟨ji11,hji11⟩:∃ j_:Int,(shl .i64 1 x13_1)=j_:=⟨_,rfl⟩
   replace H:(if x13_1 < (x3_1.length:Int) then (impl_sortsAbove.l0 k1 (x3_1.set (x13_1:Int).toNat (ji11)) (y290.length:Int) (wrap64 (x13_1 + 1)) l0_0 l0_1) else (none))=some r:=by first | (rw [hji11] at H;exact H) | (simp only [hji11] at H ⊢;exact H)
   have hji11_:(IntKind.i64.wrap (1 * 2 ^ min x13_1.toNat 64))=ji11:=hji11
   have hji11z:x13_1≤64→(IntKind.i64.wrap (1 * 2 ^ x13_1.toNat))=ji11:=shl_small hji11
   have hji11u:(IntKind.i64.wrap (2 ^ min x13_1.toNat 64))=ji11:=by have h_:=hji11_;rw [Int.one_mul] at h_;exact h_
   have hji11v:x13_1≤64→(IntKind.i64.wrap (2 ^ x13_1.toNat))=ji11:=fun hle_=>by have h_:=hji11z hle_;rw [Int.one_mul] at h_;exact h_
   have hji11y:(wrap64 (1 * 2 ^ min x13_1.toNat 64))=ji11:=(i64_w _).symm.trans hji11_
   have hji11x:x13_1≤64→(wrap64 (1 * 2 ^ x13_1.toNat))=ji11:=fun h_=>(i64_w _).symm.trans (hji11z h_)
   by_cases c12:x13_1 < (x3_1.length:Int)
   rotate_left
   ·rw [if_neg c12] at H
    exact absurd H (by simp)
   rw [if_pos c12] at H
   have F6:=decide_eq_true c12
   (try (have F7:=F6;simp only [A2] at F7))
   clear c12
   obtain ⟨y293,hy293⟩:∃ y_:List Int,y_=(x3_1.set (x13_1:Int).toNat (ji11)):=⟨_,rfl⟩
   replace H:(impl_sortsAbove.l0 k1 y293 (y290.length:Int) (wrap64 (x13_1 + 1)) l0_0 l0_1)=some r:=by first | (rw [hy293];with_reducible exact H) | (have H2_:=(Option.bind_some _ _).symm.trans H;rw [hy293];with_reducible exact H2_) | (have H2_:=(Option.bind_some _ _).symm.trans H;with_reducible exact H2_) | with_reducible exact H | (rw [hy293];exact H) | exact H
   have F8:=Aside0.mk hy293
   clear hy293
   have H':=Aside0.mk H
   clear H
   have E5:0≤(x13_1:Int):=dT
   have E6:(x13_1:Int) < ((x3_1.length:Int):Int):=dT
   obtain ⟨C9,J1,eo13,E7,gl13,cl13,HG13⟩:=Kd.R_form A1.out (by omega)
   (first | cases eo13 | (injection eo13 with ea_ en_ ec_;(first | subst ea_ | (injection ea_ with ea_;subst ea_));subst ec_;clear en_))
   have G9:=Aside0.mk E7
   have J2:=Aside0.mk HG13
   clear E7 gl13 HG13
   obtain ⟨H5,H6⟩:=Kd.R_celln 0 A1.out (x13_1:Int) E5 E6
   replace E5:=eq_true E5
   replace E6:=eq_true E6
   have D0:=Kd.R_putg A1.out (x13_1:Int) ji11
   go_wp2_with (first | ((with_reducible refine gate_store (t:=3) (p:=20) rfl ?_);refine store_event (t:=3) (p:=20) (v:=?vo_w15) (w1:=(wr.setCell ⟨C9,(x13_1:Int).toNat,none⟩ (.int .i64 ji11))) ?hg ?ho ?hn ?hr ?_;(case ho=>rfl);(case hg=>rfl);(case hn=>rfl);(case hr=>first | (go_simp;done) | (go_simp;rfl));intro w15 hw;have hg:wr.grownBy w15 (some C9):=(by rw [hw];exact D0.2);have hp_:Kd.R (Kd.int .i64) 3 w15 w.heap.size (fun _=>True) (.slice (some ⟨C9,0,none⟩) x3_1.length C1) y293:=(by rw [hw,F8.out];exact D0.1);clear D0;replace A0:=Aside0.mk (blk_grown (g:=A7) (o:=.cells #[.slice A0_0 l0_0.length c0_0,.slice A0_1 l0_1.length c0_1] 33 (0,0)) (vB A0) hg (Kd.R_ne A1.out A0.out (by decide)));replace A1:=Aside0.mk (hp_);replace HB:=Aside0.mk ((by rw [hw];exact below_set (HB.out) G9.out:Below w.heap.size w w15));clear hg hw hp_))
   (try simp only [← A2])
   go_roundg k1
   case measure=>have:=HK1.out;omega
   case rel=>exact ⟨(y293),(wrap64 (x13_1 + 1)),impl_sortsAbove.a1,H',⟨by have:=HK1.out;omega⟩,⟨by (try simp only [A2]);exact rV A1⟩,⟨by (try simp only [A2]);exact vB A0⟩,⟨hV HB⟩⟩
  ·rw [if_neg c9] at H
   have B5:=decide_eq_false c9
   (try (have C8:=B5;simp only [A2] at C8))
   clear c9
   have H':=Aside0.mk H
   clear H
   go_wp2
   go_loopg [24] k1 (fun kq v24 w'=> ∃ (x3_2:List Int) (x24_2:Int),v24=.int .i64 x24_2∧Aside0 (impl_sortsAbove.l1 kq x3_2 (x3_1.length:Int) x24_2 l0_0 l0_1=some r)∧Aside0 (kq≤k1)∧Aside0 (Kd.R (Kd.int .i64) 3 w' w.heap.size (fun _=>True) (.slice E0 x3_1.length C1) x3_2)∧Aside0 (w'.heap[A7]? = some (.cells #[(.slice A0_0 l0_0.length c0_0),(.slice A0_1 l0_1.length c0_1)] 33 (0,0)))∧Aside0 (Below w.heap.size w w'))
   case atStart=>exact ⟨(x3_1),(0),impl_sortsAbove.a1,H',⟨Nat.le_refl _⟩,⟨by (try simp only [A2]);exact rV A1⟩,⟨by (try simp only [A2]);exact vB A0⟩,⟨hV HB⟩⟩
   clear H'
   try clear c2
   try clear C4
   try clear C5
   try clear c3
   try clear C6
   try clear C7
   try clear c9
   try clear B5
   try clear B1
   try clear B3
   try clear B2
   try clear B4
   obtain ⟨x3_2,x24_2,rfl,HA,HK2,A1,A0,HB⟩:=hrel
   have A3:=(Kd.R_reads' A1.out).1
   rw [A3] at A1
   (try simp only [A3])
   (try simp only [A3] at A0)
   cases gk with
   | zero=>exact absurd HA.out (by simp [impl_sortsAbove.l1])
   | succ k2=>
    have H:=HA.out
    clear HA
    simp only [impl_sortsAbove.l1] at H
    by_cases c16:x24_2 < (x3_1.length:Int)
    rotate_left
    ·rw [if_neg c16] at H
     have B0:=decide_eq_false c16
     (try (have B8:=B0;simp only [A2,A3] at B8))
     clear c16
     obtain rfl:=Option.some.inj H
     go_wp2
     go_ret
     exact ⟨_,by first | rfl | (simp [errW_none,errW_some] <;> rfl) | (simp [*,errW_none,errW_some] <;> rfl),rV A1,hV HB⟩
    rw [if_pos c16] at H
    have B0:=decide_eq_true c16
    (try (have B8:=B0;simp only [A2,A3] at B8))
    clear c16
    have H':=Aside0.mk H
    clear H
    obtain ⟨E1,E2,E3,E4⟩:=cf2 A0
    go_wp2
    go_loopg [29] k2 (fun kq v29 w'=> ∃ (x3_3:List Int) (x29_3:Int),v29=.int .i64 x29_3∧Aside0 (impl_sortsAbove.l2 kq x3_3 (x3_1.length:Int) x24_2 l0_1 (l0_1.length:Int) x29_3 l0_0 l0_1=some r)∧Aside0 (kq≤k2)∧Aside0 (Kd.R (Kd.int .i64) 3 w' w.heap.size (fun _=>True) (.slice E0 x3_2.length C1) x3_3)∧Aside0 (w'.heap[A7]? = some (.cells #[(.slice A0_0 l0_0.length c0_0),(.slice A0_1 l0_1.length c0_1)] 33 (0,0)))∧Aside0 (Below w.heap.size w w'))
    case atStart=>exact ⟨(x3_2),(0),impl_sortsAbove.a1,H',⟨Nat.le_refl _⟩,⟨by (try simp only [A2]);(try simp only [A3]);exact rV A1⟩,⟨by (try simp only [A2]);(try simp only [A3]);exact vB A0⟩,⟨hV HB⟩⟩
    clear H'
    try clear c2
    try clear C4
    try clear C5
    try clear c3
    try clear C6
    try clear C7
    try clear c9
    try clear B5
    try clear c16
    try clear B0
    try clear E1
    try clear E3
    try clear B1
    try clear B3
    try clear E2
    try clear E4
    try clear B2
    try clear B4
    obtain ⟨x3_3,x29_3,rfl,HA,HK3,A1,A0,HB⟩:=hrel
    have A4:=(Kd.R_reads' A1.out).1
    rw [A4] at A1
    (try simp only [A4])
    (try simp only [A4] at A0)
    cases gk with
    | zero=>exact absurd HA.out (by simp [impl_sortsAbove.l2])
    | succ k3=>
     have H:=HA.out
     clear HA
     simp only [impl_sortsAbove.l2] at H
     by_cases c18:x29_3 < (l0_1.length:Int)
     rotate_left
     ·rw [if_neg c18] at H
      have B9:=decide_eq_false c18
      (try (have C0:=B9;simp only [A2,A3,A4] at C0))
      clear c18
      have H':=Aside0.mk H
      clear H
      go_wp2
      (try simp only [← A3,← A4])
      go_roundg k3
      case measure=>have:=HK1.out;have:=HK2.out;have:=HK3.out;omega
      case rel=>exact ⟨(x3_3),(wrap64 (x24_2 + 1)),impl_sortsAbove.a1,H',⟨by have:=HK1.out;have:=HK2.out;have:=HK3.out;omega⟩,⟨by (try simp only [A2]);(try simp only [A3]);(try simp only [A4]);exact rV A1⟩,⟨by (try simp only [A2]);(try simp only [A3]);(try simp only [A4]);exact vB A0⟩,⟨hV HB⟩⟩
     rw [if_pos c18] at H
     have B9:=decide_eq_true c18
     (try (have C0:=B9;simp only [A2,A3,A4] at C0))
     clear c18
     by_cases c19:0≤x29_3
     rotate_left
     ·rw [if_neg c19] at H
      exact absurd H (by simp)
     rw [if_pos c19] at H
     have I4:=decide_eq_true c19
     clear c19
     by_cases c20:x29_3 < (l0_1.length:Int)
     rotate_left
     ·rw [if_neg c20] at H
      exact absurd H (by simp)
     rw [if_pos c20] at H
     have F9:=decide_eq_true c20
     (try (have G0:=F9;simp only [A2,A3,A4] at G0))
     clear c20
     by_cases c21:0≤((rd_T89 l0_1 x29_3).f0)
     rotate_left
     ·rw [if_neg c21] at H
      exact absurd H (by simp)
     rw [if_pos c21] at H
     have I5:=decide_eq_true c21
     clear c21
     by_cases c22:((rd_T89 l0_1 x29_3).f0) < (x3_3.length:Int)
     rotate_left
     ·rw [if_neg c22] at H
      exact absurd H (by simp)
     rw [if_pos c22] at H
     have G1:=decide_eq_true c22
     (try (have G2:=G1;simp only [A2,A3,A4] at G2))
     clear c22
     by_cases c23:0≤((rd_T89 l0_1 x29_3).f1)
     rotate_left
     ·rw [if_neg c23] at H
      exact absurd H (by simp)
     rw [if_pos c23] at H
     have I6:=decide_eq_true c23
     clear c23
     by_cases c24:((rd_T89 l0_1 x29_3).f1) < (x3_3.length:Int)
     rotate_left
     ·rw [if_neg c24] at H
      exact absurd H (by simp)
     rw [if_pos c24] at H
     have G3:=decide_eq_true c24
     (try (have G4:=G3;simp only [A2,A3,A4] at G4))
     clear c24
     obtain ⟨y298,hy298⟩:∃ y_:List Int,y_=(x3_3.set (((rd_T89 l0_1 x29_3).f0):Int).toNat (Go.bits .or .i64 (rd x3_3 ((rd_T89 l0_1 x29_3).f0)) (rd x3_3 ((rd_T89 l0_1 x29_3).f1)))):=⟨_,rfl⟩
     replace H:(impl_sortsAbove.l2 k3 y298 (x3_1.length:Int) x24_2 l0_1 (l0_1.length:Int) (wrap64 (x29_3 + 1)) l0_0 l0_1)=some r:=by first | (rw [hy298];with_reducible exact H) | (have H2_:=(Option.bind_some _ _).symm.trans H;rw [hy298];with_reducible exact H2_) | (have H2_:=(Option.bind_some _ _).symm.trans H;with_reducible exact H2_) | with_reducible exact H | (rw [hy298];exact H) | exact H
     have G5:=Aside0.mk hy298
     clear hy298
     have H':=Aside0.mk H
     clear H
     have D1:0≤(x29_3:Int):=dT
     have D2:x29_3 < (l0_1.length:Int):=dT
     obtain ⟨G6,e294,B6,B7⟩:=at_T89 F5.out x29_3 D1 D2
     cases e294
     replace B6:=xc HB B6
     replace B7:=xc HB B7
     replace D1:=eq_true D1
     replace D2:=eq_true D2
     try go_wp2_with (first | (refine bx 6 rfl #[.int .i64 0,.int .i64 0] 89 ?_;intro A5 hg w26 hbox hb;replace A1:=rB A1 hb;have A6:=Aside0.mk (hbox);have I7:=hZ HB hg;have I8:=hZ HB hg;replace HB:=hS HB hb;have C2:=nL A0 hg;have C3:=nG A0 hg;replace A0:=bB A0 hb;clear hb hbox hg;have I9:=C3.out;have J0:=C2.out;obtain ⟨H1,H2,H3,H4⟩:=cf2 A6))
     have n0_:Aside0 (Kd.R (Kd.int .i64) 3 ((w26.setCell ⟨A5,0,none⟩ (.int .i64 ((rd_T89 l0_1 x29_3).f0))).setCell ⟨A5,1,none⟩ (.int .i64 ((rd_T89 l0_1 x29_3).f1))) w.heap.size (fun _=>True) (.slice E0 x3_3.length C1) x3_3):=⟨rT A1 A6 (fun _ hk=>trivial)⟩
     have n1_:Aside0 (((w26.setCell ⟨A5,0,none⟩ (.int .i64 ((rd_T89 l0_1 x29_3).f0))).setCell ⟨A5,1,none⟩ (.int .i64 ((rd_T89 l0_1 x29_3).f1))).heap[A7]? = some (.cells #[.slice A0_0 l0_0.length c0_0,.slice (some G6) l0_1.length c0_1] 33 (0,0))):=⟨vB A0⟩
     have n2_:Aside0 (((w26.setCell ⟨A5,0,none⟩ (.int .i64 ((rd_T89 l0_1 x29_3).f0))).setCell ⟨A5,1,none⟩ (.int .i64 ((rd_T89 l0_1 x29_3).f1))).heap[A5]? = some (.cells #[.int .i64 ((rd_T89 l0_1 x29_3).f0),.int .i64 ((rd_T89 l0_1 x29_3).f1)] 89 (0,0))):=⟨vP A6⟩
     have n3_:Aside0 (Below w.heap.size w ((w26.setCell ⟨A5,0,none⟩ (.int .i64 ((rd_T89 l0_1 x29_3).f0))).setCell ⟨A5,1,none⟩ (.int .i64 ((rd_T89 l0_1 x29_3).f1)))):=⟨hV HB⟩
     (try clear A1)
     (try clear A0)
     (try clear A6)
     (try clear HB)
     generalize ((w26.setCell ⟨A5,0,none⟩ (.int .i64 ((rd_T89 l0_1 x29_3).f0))).setCell ⟨A5,1,none⟩ (.int .i64 ((rd_T89 l0_1 x29_3).f1)))=w29 at n0_ n1_ n2_ n3_ ⊢
     have A1:=n0_
     have A0:=n1_
     have A6:=n2_
     have HB:=n3_
     clear n0_ n1_ n2_ n3_
     replace A1:=Aside0.mk (Kd.R_drew A1.out)
     replace A0:=Aside0.mk (blk_drew A0.out)
     replace A6:=Aside0.mk (blk_drew A6.out)
     replace HB:=Aside0.mk (below_drew1 HB.out)
     have D3:0≤(((rd_T89 l0_1 x29_3).f0):Int):=dT
     have D4:((rd_T89 l0_1 x29_3).f0) < (x3_3.length:Int):=dT
     obtain ⟨G7,e296,A8⟩:=Kd.at_int (Kd.R_reads' A1.out).2.2 ((rd_T89 l0_1 x29_3).f0) D3 D4
     cases e296
     replace D3:=eq_true D3
     replace D4:=eq_true D4
     have D5:0≤(((rd_T89 l0_1 x29_3).f1):Int):=dT
     have D6:((rd_T89 l0_1 x29_3).f1) < (x3_3.length:Int):=dT
     obtain ⟨G8,e297,A9⟩:=Kd.at_int (Kd.R_reads' A1.out).2.2 ((rd_T89 l0_1 x29_3).f1) D5 D6
     obtain rfl:G7=G8:=(by injection e297)
     replace D5:=eq_true D5
     replace D6:=eq_true D6
     have E8:0≤(((rd_T89 l0_1 x29_3).f0):Int):=dT
     have E9:(((rd_T89 l0_1 x29_3).f0):Int) < ((x3_3.length:Int):Int):=dT
     obtain ⟨F0,J3,eo25,F1,gl25,cl25,HG25⟩:=Kd.R_form A1.out (by omega)
     (first | cases eo25 | (injection eo25 with ea_ en_ ec_;(first | subst ea_ | (injection ea_ with ea_;subst ea_));subst ec_;clear en_))
     have J4:=Aside0.mk F1
     have H0:=Aside0.mk HG25
     clear F1 gl25 HG25
     (first | simp only [add_plain] at A8 | skip)
     (first | simp only [add_plain] at A9 | skip)
     obtain ⟨F2,F3⟩:=Kd.R_celln 0 A1.out (((rd_T89 l0_1 x29_3).f0):Int) E8 E9
     replace E8:=eq_true E8
     replace E9:=eq_true E9
     have D7:=Kd.R_putn A1.out (((rd_T89 l0_1 x29_3).f0):Int) (Go.bits .or .i64 (rd x3_3 ((rd_T89 l0_1 x29_3).f0)) (rd x3_3 ((rd_T89 l0_1 x29_3).f1)))
     rw [← G5.out] at D7
     have F4:=Aside0.mk D7
     clear D7
     refine start_ (n:=16) (S:=fun w'=>w'.cell? ⟨A5,0,none⟩=some (.int .i64 ((rd_T89 l0_1 x29_3).f0))∧w'.cell? ⟨A5,1,none⟩=some (.int .i64 ((rd_T89 l0_1 x29_3).f1))∧w'.cell? ⟨F0,(((rd_T89 l0_1 x29_3).f0)).toNat,none⟩=some (.int .i64 (rd x3_3 ((rd_T89 l0_1 x29_3).f0)))∧w'.cell? ⟨F0,(((rd_T89 l0_1 x29_3).f1)).toNat,none⟩=some (.int .i64 (rd x3_3 ((rd_T89 l0_1 x29_3).f1)))) (ds:=[15]) #[false,false,false,false,false,false,false,false,false,false,false,false,false,false,false,false] (by kernel_rfl) rfl rfl ⟨cz0 A6,cz1 A6,A8,A9⟩ (fun hHeld=> ?_);refine with_tabW impl_sortsAbove.tab12 impl_sortsAbove.bits12 (fun HT_ HW_=> ?_)
     generalize w29.drew=w30 at A1 A0 A6 HB H0 F4 F3 F2 A8 A9 hHeld ⊢
     refine pureS 0 33 HT_ rfl rfl ?_
     refine pureS 1 34 HT_ rfl rfl ?_
     refine pureS 3 36 HT_ rfl rfl ?_
     refine pureS 4 37 HT_ rfl rfl ?_
     refine pureS 8 41 HT_ rfl rfl ?_
     refine pureS 9 42 HT_ rfl rfl ?_
     refine takeS 2 35 HT_ HW_ rfl rfl hHeld ?_ impl_sortsAbove.a0
     refine takeS 5 38 HT_ HW_ rfl rfl hHeld ?_ impl_sortsAbove.a0
     refine pureS 6 39 HT_ rfl rfl ?_
     refine takeS 7 40 HT_ HW_ rfl rfl hHeld ?_ impl_sortsAbove.a0
     refine takeS 10 43 HT_ HW_ rfl rfl hHeld ?_ impl_sortsAbove.a0
     refine pureS 11 44 HT_ rfl rfl ?_
     refine takeS 12 45 HT_ HW_ rfl rfl hHeld ?_ impl_sortsAbove.a0
     refine pureS 13 46 HT_ rfl rfl ?_
     refine pureS 14 47 HT_ rfl rfl ?_
     refine last_ (i:=15) (N:=none) #[true,true,true,true,true,true,true,true,true,true,true,true,true,true,true,true] rfl rfl (one_of HT_.out (by kernel_rfl)) (by decide) (fun K hK=> ?_)
     refine skip_ (w1:=?_) (by rfl) rfl ?_ ?_
     rotate_left
     ·go_simp
      rfl
     refine hK.out _ _ ?_
     clear hK K
     refine done_ (done_of HT_.out (by kernel_rfl)) ?_
     try go_wp2
     (try simp only [← A4])
     go_roundg k3
     case measure=>have:=HK1.out;have:=HK2.out;have:=HK3.out;omega
     case rel=>exact ⟨(y298),(wrap64 (x29_3 + 1)),impl_sortsAbove.a1,H',⟨by have:=HK1.out;have:=HK2.out;have:=HK3.out;omega⟩,⟨by (try simp only [A2]);(try simp only [A3]);(try simp only [A4]);(with_reducible repeat (first | apply Kd.R_alloc | apply Kd.R_drewN | apply Kd.R_drew));exact F4.out⟩,⟨by (try simp only [A2]);(try simp only [A3]);(try simp only [A4]);(with_reducible repeat (first | refine blk_drewN ?_ _ | refine blk_drew ?_ | refine blk_alloc ?_ _));refine blk_far ?_ (by have h_:=Kd.R_ne A1.out A0.out (by decide);intro e_;exact h_ (by rw [e_];rfl)) _;(with_reducible repeat (first | refine blk_drewN ?_ _ | refine blk_drew ?_ | refine blk_alloc ?_ _));exact A0.out⟩,⟨hV HB⟩⟩
end Go.Proofs.Ytpildjbakceicaa.Q

