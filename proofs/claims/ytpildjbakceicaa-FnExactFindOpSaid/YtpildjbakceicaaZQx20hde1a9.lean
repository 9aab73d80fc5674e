/- Functions of the program as plain Lean functions,and that the calls come to what they say. -/
import Derived.Test.YtpildjbakceicaaZQx0hb61c0
import Derived.Test.YtpildjbakceicaaZQx1h27402
import Derived.Test.YtpildjbakceicaaZQx8ha6c9f
import Derived.Test.YtpildjbakceicaaZQx9h5fb00
import Derived.Test.YtpildjbakceicaaZQx16h0fe0e
import Derived.Test.YtpildjbakceicaaZQx18h97522
import Derived.Test.YtpildjbakceicaaZQx19h80e9d
import Derived.Test.YtpildjbakceicaaZShorth7b252
namespace Go.Proofs.Ytpildjbakceicaa.Q
open Go.RowKit Go.Proofs.YtpildjbakceicaaW.PrintWords Go.Proofs.YtpildjbakceicaaW.PrintLast Go.Proofs.YtpildjbakceicaaW.PrintMore
attribute [local go_sem] max2_int min2_int max_two min_two max_three min_three max_four min_four   -- for this text's walks alone
set_option linter.unusedVariables false
set_option linter.unusedSimpArgs false

/-! ### laws_FnExactIsFreeSignature: function 5 -/
/-! ### spec_FindOp: function 17 -/
mutual
def spec_FindOp.l0:Nat→ByteArray→Int→List ByteArray→List (S89)→List (S50)→Option (Int)
 | 0,_,_,_,_,_=>none
 | k + 1,x1,x5,x549000,x549001,x549002=>if x5 < (x549002.length:Int) then ((spec_IsSignature.f k x549000 x549001 x549002).bind fun t549=>(spec_FindOp.j1 k x1 x5 t549 x549000 x549001 x549002)) else (spec_FindOp.j1 k x1 x5 false x549000 x549001 x549002)
def spec_FindOp.j1:Nat→ByteArray→Int→Bool→List ByteArray→List (S89)→List (S50)→Option (Int)
 | 0,_,_,_,_,_,_=>none
 | k + 1,x1,x5,x14,x549000,x549001,x549002=>if x14=true then (if 0≤x5 then (if x5 < (x549002.length:Int) then (if ((rd_T50 x549002 x5).f0).toList=x1.toList then (some x5) else (spec_FindOp.l0 k x1 (wrap64 (x5 + 1)) x549000 x549001 x549002)) else (none)) else (none)) else (some (-1))
end
def spec_FindOp.f (k:Nat) (l0_0:List ByteArray) (l0_1:List (S89)) (l0_2:List (S50)) (a1:ByteArray):Option (Int):=spec_FindOp.l0 k a1 0 l0_0 l0_1 l0_2
set_option maxHeartbeats 8000000 in
set_option maxRecDepth 100000 in
theorem spec_FindOp.calls (k:Nat) (A0_0:Option Addr) (c0_0:Nat) (l0_0:List ByteArray) (A0_1:Option Addr) (c0_1:Nat) (l0_1:List (S89)) (A0_2:Option Addr) (c0_2:Nat) (l0_2:List (S50)) (a1:ByteArray) (r:Int) (w:World) (hr0_0:Kd.C Kd.string w A0_0 l0_0.length l0_0) (hc0_0:l0_0.length≤c0_0) (hr0_1:Kd.C k89 w A0_1 l0_1.length l0_1) (hc0_1:l0_1.length≤c0_1) (hr0_2:Kd.C k50 w A0_2 l0_2.length l0_2) (hc0_2:l0_2.length≤c0_2) (h:spec_FindOp.f k l0_0 l0_1 l0_2 a1=some r) :
  Calls Try.prog 17 #[.agg #[.slice A0_0 l0_0.length c0_0,.slice A0_1 l0_1.length c0_1,.slice A0_2 l0_2.length c0_2],.string a1] w fun e w'=>e=.returned (.int .i64 r)∧Below w.heap.size w w':=by
 have hu36:=Try.underlying36
 have B7:=Aside0.mk hr0_0
 have B8:=Aside0.mk hc0_0
 clear hr0_0 hc0_0
 have B9:=Aside0.mk hr0_1
 have C0:=Aside0.mk hc0_1
 clear hr0_1 hc0_1
 have B2:=Aside0.mk hr0_2
 have C1:=Aside0.mk hc0_2
 clear hr0_2 hc0_2
 have HB:=Aside0.mk (Below.refl w.heap.size w)
 have H:(spec_FindOp.l0 k a1 0 l0_0 l0_1 l0_2)=some r:=h
 clear h
 have H':=Aside0.mk H
 clear H
 go_enter Try.func17,Try.ntmps17
 go_wp2_with (first | (refine bx 2 rfl #[.slice A0_0 l0_0.length c0_0,.slice A0_1 l0_1.length c0_1,.slice A0_2 l0_2.length c0_2] 36 ?_;intro B3 hg w3 hbox hb;have A0:=Aside0.mk (hbox);have E9:=hZ HB hg;have F0:=hZ HB hg;replace HB:=hS HB hb;clear hb hbox hg))
 go_loopg [5] k (fun kq v5 w'=> ∃ (x5_1:Int),v5=.int .i64 x5_1∧Aside0 (spec_FindOp.l0 kq a1 x5_1 l0_0 l0_1 l0_2=some r)∧Aside0 (kq≤k)∧Aside0 (w'.heap[B3]? = some (.cells #[(.slice A0_0 l0_0.length c0_0),(.slice A0_1 l0_1.length c0_1),(.slice A0_2 l0_2.length c0_2)] 36 (0,0)))∧Aside0 (Below w.heap.size w w'))
 case atStart=>exact ⟨(0),(by first | rfl | (simp;done) | (simp [*];done)),H',⟨Nat.le_refl _⟩,⟨vB A0⟩,⟨hV HB⟩⟩
 clear H'
 obtain ⟨x5_1,rfl,HA,HK1,A0,HB⟩:=hrel
 cases gk with
 | zero=>exact absurd HA.out (by simp [spec_FindOp.l0])
 | succ k1=>
  have H:=HA.out
  clear HA
  simp only [spec_FindOp.l0] at H
  have B6:=Aside0.mk H
  clear H
  go_upto_region 2 with (fail)
  go_cut [14] (fun v14 wc=> ∃ (kq:Nat) (x14_3:Bool),v14=.bool x14_3∧Aside0 (spec_FindOp.j1 kq a1 x5_1 x14_3 l0_0 l0_1 l0_2=some r)∧Aside0 (kq≤k1)∧Aside0 (wc.heap[B3]? = some (.cells #[(.slice A0_0 l0_0.length c0_0),(.slice A0_1 l0_1.length c0_1),(.slice A0_2 l0_2.length c0_2)] 36 (0,0)))∧Aside0 (Below w.heap.size w wc))
  case first=>
   have H:=B6.out
   clear B6
   by_cases c5:x5_1 < (l0_2.length:Int)
   rotate_left
   ·rw [if_neg c5] at H
    have B1:=decide_eq_false c5
    clear c5
    (first | rw [B1] | (simp only [i64_w,i32_w];rw [B1]) | skip)
    have H':=Aside0.mk H
    clear H
    obtain ⟨D7,D8,D9,E0,E1,E2⟩:=cf3 A0
    go_wp2
    go_meet
    case rel=>exact ⟨_,(false),(by first | rfl | (simp;done) | (simp [*];done)),H',⟨by have:=HK1.out;first | omega | exact Nat.le_refl _⟩,⟨vB A0⟩,⟨hV HB⟩⟩
   rw [if_pos c5] at H
   have B1:=decide_eq_true c5
   clear c5
   (first | rw [B1] | (simp only [i64_w,i32_w];rw [B1]) | skip)
   replace H:=Option.bind_eq_some_iff.mp H
   obtain ⟨t549,A60,H⟩:=H
   replace H:(spec_FindOp.j1 k1 a1 x5_1 t549 l0_0 l0_1 l0_2)=some r:=H
   have A6:=Aside0.mk A60
   clear A60
   have H':=Aside0.mk H
   clear H
   obtain ⟨E3,E4,E5,E6,E7,E8⟩:=cf3 A0
   go_wp2_with (first | (go_at_call 9;(with_reducible refine (spec_IsSignature.calls k1 _ _ l0_0 _ _ l0_1 _ _ l0_2 t549 _ ?side1 ?side2 ?side3 ?side4 ?side5 ?side6 A6.out).mono ?_);(case side1=>exact cB B7 HB);(case side2=>exact B8.out);(case side3=>exact cB B9 HB);(case side4=>exact C0.out);(case side5=>exact cB B2 HB);(case side6=>exact C1.out);rintro e w8 ⟨rfl,hb⟩;replace A0:=bB A0 hb;replace HB:=hS HB hb;(try clear hb);(try clear hb2);(try clear hk);(try clear hi)))
   go_meet
   case rel=>exact ⟨_,(t549),(by first | rfl | (simp;done) | (simp [*];done)),H',⟨by have:=HK1.out;first | omega | exact Nat.le_refl _⟩,⟨vB A0⟩,⟨hV HB⟩⟩
  clear B6
  obtain ⟨kq,x14_3,rfl,HA,HJ3,A0,HB⟩:=hcut
  cases kq with
  | zero=>exact absurd HA.out (by simp [spec_FindOp.j1])
  | succ kj3=>
   have H:=HA.out
   clear HA
   simp only [spec_FindOp.j1] at H
   by_cases c10:x14_3=true
   rotate_left
   ·replace c10:=Bool.eq_false_iff.mpr c10
    subst c10
    rw [if_neg (show ¬ (false=true) by decide)] at H
    obtain rfl:=Option.some.inj H
    go_wp2
    go_ret
    exact ⟨by first | rfl | (simp [errW_none,errW_some] <;> rfl) | (simp [*,errW_none,errW_some] <;> rfl),hV HB⟩

   subst c10
   rw [if_pos rfl] at H
   by_cases c11:0≤x5_1
   rotate_left
   ·rw [if_neg c11] at H
    exact absurd H (by simp)
   rw [if_pos c11] at H
   have F1:=decide_eq_true c11
   clear c11
   by_cases c12:x5_1 < (l0_2.length:Int)
   rotate_left
   ·rw [if_neg c12] at H
    exact absurd H (by simp)
   rw [if_pos c12] at H
   have F2:=decide_eq_true c12
   clear c12
   by_cases c13:((rd_T50 l0_2 x5_1).f0).toList=a1.toList
   ·rw [if_pos c13] at H
    have C2:(((rd_T50 l0_2 x5_1).f0).toList == a1.toList)=true:=beq_iff_eq.mpr c13
    have C3:(((rd_T50 l0_2 x5_1).f0).toList != a1.toList)=false:=bne_eq_false_iff_eq.mpr c13
    clear c13
    obtain rfl:=Option.some.inj H
    obtain ⟨C5,C6,C7,C8,C9,D0⟩:=cf3 A0
    have A9:0≤(x5_1:Int):=dT
    have B0:x5_1 < (l0_2.length:Int):=dT
    obtain ⟨C4,A550_1,c550_1,e550,A1,A2,A3,A4,A5,A7,A8⟩:=at_T50 B2.out x5_1 A9 B0
    cases e550
    replace A1:=xc HB A1
    replace A2:=xc HB A2
    replace A3:=xc HB A3
    replace A4:=xc HB A4
    replace A5:=xc HB A5
    have B4:=Aside0.mk A8
    have B5:=Aside0.mk A7
    clear A8 A7
    replace A9:=eq_true A9
    replace B0:=eq_true B0
    go_wp2
    go_ret
    exact ⟨by first | rfl | (simp [errW_none,errW_some] <;> rfl) | (simp [*,errW_none,errW_some] <;> rfl),hV HB⟩
   ·rw [if_neg c13] at H
    have C2:(((rd_T50 l0_2 x5_1).f0).toList == a1.toList)=false:=beq_eq_false_iff_ne.mpr c13
    have C3:(((rd_T50 l0_2 x5_1).f0).toList != a1.toList)=true:=bne_iff_ne.mpr c13
    have H':=Aside0.mk H
    clear H
    obtain ⟨D1,D2,D3,D4,D5,D6⟩:=cf3 A0
    have A9:0≤(x5_1:Int):=dT
    have B0:x5_1 < (l0_2.length:Int):=dT
    obtain ⟨C4,A550_1,c550_1,e550,A1,A2,A3,A4,A5,A7,A8⟩:=at_T50 B2.out x5_1 A9 B0
    cases e550
    replace A1:=xc HB A1
    replace A2:=xc HB A2
    replace A3:=xc HB A3
    replace A4:=xc HB A4
    replace A5:=xc HB A5
    have B4:=Aside0.mk A8
    have B5:=Aside0.mk A7
    clear A8 A7
    replace A9:=eq_true A9
    replace B0:=eq_true B0
    go_wp2
    go_roundg kj3
    case measure=>have:=HK1.out;have:=HJ3.out;omega
    case rel=>exact ⟨(wrap64 (x5_1 + 1)),(by first | rfl | (simp;done) | (simp [*];done)),H',⟨by have:=HK1.out;have:=HJ3.out;omega⟩,⟨vB A0⟩,⟨hV HB⟩⟩
/-! ### impl_FindOp_1: function 38 -/
def impl_FindOp_1.f (a0_0:ByteArray) (l0_1:List (S68)) (a0_2:Bool) (a0_3:Bool) (a0_4:Int) (a1:ByteArray):Option (Bool):=some (a0_0.toList == a1.toList)
set_option maxHeartbeats 8000000 in
set_option maxRecDepth 100000 in
theorem impl_FindOp_1.calls (a0_0:ByteArray) (A0_1:Option Addr) (c0_1:Nat) (l0_1:List (S68)) (a0_2:Bool) (a0_3:Bool) (a0_4:Int) (a1:ByteArray) (r:Bool) (w:World) (hr0_1:Kd.C k68 w A0_1 l0_1.length l0_1) (hc0_1:l0_1.length≤c0_1) (gn_:Nat) (hn_:w.heap[gn_]? = some (.cells #[.string a1] 9 (0,0))) (h:impl_FindOp_1.f a0_0 l0_1 a0_2 a0_3 a0_4 a1=some r) :
    Calls Try.prog 38 #[.agg #[.string a0_0,.slice A0_1 l0_1.length c0_1,.bool a0_2,.bool a0_3,.int .i64 a0_4],.pointer (some ⟨gn_,0,none⟩)] w fun e w'=>e=.returned (.bool r)∧Below w.heap.size w w':=by
  have hu50:=Try.underlying50
  have B1:=Aside0.mk hr0_1
  have B2:=Aside0.mk hc0_1
  clear hr0_1 hc0_1
  have HB:=Aside0.mk (Below.refl w.heap.size w)
  have HN_:=Aside0.mk hn_
  have H:(some (a0_0.toList == a1.toList))=some r:=h
  clear h
  obtain rfl:=Option.some.inj H
  go_enter Try.func38,Try.ntmps38
  go_wp2_with (first | (refine bx 2 rfl #[.string a0_0,.slice A0_1 l0_1.length c0_1,.bool a0_2,.bool a0_3,.int .i64 a0_4] 50 ?_;intro B3 hg w3 hbox hb;have A0:=Aside0.mk (hbox);have B4:=hZ HB hg;have B5:=hZ HB hg;replace HB:=hS HB hb;replace HN_:=bB HN_ hb;clear hb hbox hg;obtain ⟨hcn_,hfn_⟩:=cf1 HN_;obtain ⟨A1,A2,A3,A4,A5,A6,A7,A8,A9,B0⟩:=cf5 A0))
  go_ret
  exact ⟨by first | rfl | (simp [errW_none,errW_some] <;> rfl) | (simp [*,errW_none,errW_some] <;> rfl),hV HB⟩

/-! ### impl_Op: function 37 -/
def impl_Op.l0:Nat→List (S50)→ByteArray→Int→Int→Option (Int)
 | 0,_,_,_,_=>none
 | k + 1,x0,x1,x7,x8=>if x8 < x7 then (if 0≤x8 then (if x8 < (x0.length:Int) then ((impl_FindOp_1.f ((rd_T50 x0 x8).f0) ((rd_T50 x0 x8).f1) ((rd_T50 x0 x8).f2) ((rd_T50 x0 x8).f3) ((rd_T50 x0 x8).f4) x1).bind fun t553=>(if t553=true then (some x8) else (impl_Op.l0 k x0 x1 x7 (wrap64 (x8 + 1))))) else (none)) else (none)) else (some (-1))
def impl_Op.f (k:Nat) (l0:List (S50)) (a1:ByteArray):Option (Int):=impl_Op.l0 k l0 a1 (l0.length:Int) 0
set_option maxHeartbeats 8000000 in
set_option maxRecDepth 100000 in
theorem impl_Op.calls (k:Nat) (A0:Option Addr) (c0:Nat) (l0:List (S50)) (a1:ByteArray) (r:Int) (w:World) (hr0:Kd.C k50 w A0 l0.length l0) (hc0:l0.length≤c0) (gn_:Nat) (hn_:w.heap[gn_]? = some (.cells #[.string a1] 9 (0,0))) (h:impl_Op.f k l0 a1=some r) :
  Calls Try.prog 37 #[.slice A0 l0.length c0,.func (.func 38) #[] #[.pointer (some ⟨gn_,0,none⟩)]] w fun e w'=>e=.returned (.int .i64 r)∧Below w.heap.size w w':=by
 have hu50:=Try.underlying50
 have B4:=Aside0.mk hr0
 have B8:=Aside0.mk hc0
 clear hr0 hc0
 have HB:=Aside0.mk (Below.refl w.heap.size w)
 have HN_:=Aside0.mk hn_
 have H:(impl_Op.l0 k l0 a1 (l0.length:Int) 0)=some r:=h
 clear h
 have H':=Aside0.mk H
 clear H
 go_enter Try.func37,Try.ntmps37
 go_wp2
 go_loopg [8] k (fun kq v8 w'=> ∃ (x8_1:Int),v8=.int .i64 x8_1∧Aside0 (impl_Op.l0 kq l0 a1 (l0.length:Int) x8_1=some r)∧Aside0 (kq≤k)∧Aside0 (Below w.heap.size w w'))
 case atStart=>exact ⟨(0),(by first | rfl | (simp;done) | (simp [*];done)),H',⟨Nat.le_refl _⟩,⟨hV HB⟩⟩
 clear H'
 obtain ⟨x8_1,rfl,HA,HK1,HB⟩:=hrel
 cases gk with
 | zero=>exact absurd HA.out (by simp [impl_Op.l0])
 | succ k1=>
  have H:=HA.out
  clear HA
  simp only [impl_Op.l0] at H
  by_cases c3:x8_1 < (l0.length:Int)
  rotate_left
  ·rw [if_neg c3] at H
   have B5:=decide_eq_false c3
   clear c3
   obtain rfl:=Option.some.inj H
   go_wp2
   go_ret
   exact ⟨by first | rfl | (simp [errW_none,errW_some] <;> rfl) | (simp [*,errW_none,errW_some] <;> rfl),hV HB⟩

  rw [if_pos c3] at H
  have B5:=decide_eq_true c3
  clear c3
  by_cases c4:0≤x8_1
  rotate_left
  ·rw [if_neg c4] at H
   exact absurd H (by simp)
  rw [if_pos c4] at H
  have B6:=decide_eq_true c4
  clear c4
  by_cases c5:x8_1 < (l0.length:Int)
  rotate_left
  ·rw [if_neg c5] at H
   exact absurd H (by simp)
  rw [if_pos c5] at H
  have B7:=decide_eq_true c5
  clear c5
  replace H:=Option.bind_eq_some_iff.mp H
  obtain ⟨t553,A60,H⟩:=H
  replace H:(if t553=true then (some x8_1) else (impl_Op.l0 k1 l0 a1 (l0.length:Int) (wrap64 (x8_1 + 1))))=some r:=H
  have A6:=Aside0.mk A60
  clear A60
  by_cases c7:t553=true
  ·subst c7
   rw [if_pos rfl] at H
   obtain rfl:=Option.some.inj H
   have A9:0≤(x8_1:Int):=dT
   have B0:x8_1 < (l0.length:Int):=dT
   obtain ⟨B3,A552_1,c552_1,e552,A1,A2,A3,A4,A5,A7,A8⟩:=at_T50 B4.out x8_1 A9 B0
   cases e552
   replace A1:=xc HB A1
   replace A2:=xc HB A2
   replace A3:=xc HB A3
   replace A4:=xc HB A4
   replace A5:=xc HB A5
   have B1:=Aside0.mk A8
   have B2:=Aside0.mk A7
   clear A8 A7
   replace A9:=eq_true A9
   replace B0:=eq_true B0
   go_wp2_with (first | (refine goU 38 (some 16) #[.pointer (some ⟨gn_,0,none⟩)] rfl rfl Try.func38 #[.agg #[.string ((rd_T50 l0 x8_1).f0),.slice A552_1 ((rd_T50 l0 x8_1).f1).length c552_1,.bool ((rd_T50 l0 x8_1).f2),.bool ((rd_T50 l0 x8_1).f3),.int .i64 ((rd_T50 l0 x8_1).f4)],.pointer (some ⟨gn_,0,none⟩)] ?_;(with_reducible refine (impl_FindOp_1.calls ((rd_T50 l0 x8_1).f0) _ _ ((rd_T50 l0 x8_1).f1) ((rd_T50 l0 x8_1).f2) ((rd_T50 l0 x8_1).f3) ((rd_T50 l0 x8_1).f4) a1 true _ ?side1 ?side2 gn_ ?sidn A6.out).mono ?_);(case sidn=>exact blk_below HN_.out (hV HB));(case side1=>exact cB B1 HB);(case side2=>exact B2.out);rintro e w8 ⟨rfl,hb⟩;refine ⟨_,rfl,?_⟩;replace HB:=hS HB hb;(try clear hb);(try clear hb2);(try clear hk);(try clear hi)))
   go_ret
   exact ⟨by first | rfl | (simp [errW_none,errW_some] <;> rfl) | (simp [*,errW_none,errW_some] <;> rfl),hV HB⟩
  ·replace c7:=Bool.eq_false_iff.mpr c7
   subst c7
   rw [if_neg (show ¬ (false=true) by decide)] at H
   have H':=Aside0.mk H
   clear H
   have A9:0≤(x8_1:Int):=dT
   have B0:x8_1 < (l0.length:Int):=dT
   obtain ⟨B3,A552_1,c552_1,e552,A1,A2,A3,A4,A5,A7,A8⟩:=at_T50 B4.out x8_1 A9 B0
   cases e552
   replace A1:=xc HB A1
   replace A2:=xc HB A2
   replace A3:=xc HB A3
   replace A4:=xc HB A4
   replace A5:=xc HB A5
   have B1:=Aside0.mk A8
   have B2:=Aside0.mk A7
   clear A8 A7
   replace A9:=eq_true A9
   replace B0:=eq_true B0
   go_wp2_with (first | (refine goU 38 (some 16) #[.pointer (some ⟨gn_,0,none⟩)] rfl rfl Try.func38 #[.agg #[.string ((rd_T50 l0 x8_1).f0),.slice A552_1 ((rd_T50 l0 x8_1).f1).length c552_1,.bool ((rd_T50 l0 x8_1).f2),.bool ((rd_T50 l0 x8_1).f3),.int .i64 ((rd_T50 l0 x8_1).f4)],.pointer (some ⟨gn_,0,none⟩)] ?_;(with_reducible refine (impl_FindOp_1.calls ((rd_T50 l0 x8_1).f0) _ _ ((rd_T50 l0 x8_1).f1) ((rd_T50 l0 x8_1).f2) ((rd_T50 l0 x8_1).f3) ((rd_T50 l0 x8_1).f4) a1 false _ ?side1 ?side2 gn_ ?sidn A6.out).mono ?_);(case sidn=>exact blk_below HN_.out (hV HB));(case side1=>exact cB B1 HB);(case side2=>exact B2.out);rintro e w9 ⟨rfl,hb⟩;refine ⟨_,rfl,?_⟩;replace HB:=hS HB hb;(try clear hb);(try clear hb2);(try clear hk);(try clear hi)))
   go_roundg k1
   case measure=>have:=HK1.out;omega
   case rel=>exact ⟨(wrap64 (x8_1 + 1)),(by first | rfl | (simp;done) | (simp [*];done)),H',⟨by have:=HK1.out;omega⟩,⟨hV HB⟩⟩
/-! ### impl_FindOp: function 18 -/
def impl_FindOp.f (k:Nat) (l0_0:List ByteArray) (l0_1:List (S89)) (l0_2:List (S50)) (a1:ByteArray):Option (Int):=(impl_IsSignature.f k l0_0 l0_1 l0_2).bind fun t555=>(if t555=true then ((impl_Op.f k l0_2 a1).bind fun t556=>(some t556)) else (some (-1)))
set_option maxHeartbeats 8000000 in
set_option maxRecDepth 100000 in
theorem impl_FindOp.calls (k:Nat) (A0_0:Option Addr) (c0_0:Nat) (l0_0:List ByteArray) (A0_1:Option Addr) (c0_1:Nat) (l0_1:List (S89)) (A0_2:Option Addr) (c0_2:Nat) (l0_2:List (S50)) (a1:ByteArray) (r:Int) (w:World) (hr0_0:Kd.C Kd.string w A0_0 l0_0.length l0_0) (hc0_0:l0_0.length≤c0_0) (hr0_1:Kd.C k89 w A0_1 l0_1.length l0_1) (hc0_1:l0_1.length≤c0_1) (hr0_2:Kd.C k50 w A0_2 l0_2.length l0_2) (hc0_2:l0_2.length≤c0_2) (h:impl_FindOp.f k l0_0 l0_1 l0_2 a1=some r) :
  Calls Try.prog 18 #[.agg #[.slice A0_0 l0_0.length c0_0,.slice A0_1 l0_1.length c0_1,.slice A0_2 l0_2.length c0_2],.string a1] w fun e w'=>e=.returned (.int .i64 r)∧Below w.heap.size w w':=by
 have hu36:=Try.underlying36
 have A4:=Aside0.mk hr0_0
 have A6:=Aside0.mk hc0_0
 clear hr0_0 hc0_0
 have A7:=Aside0.mk hr0_1
 have A8:=Aside0.mk hc0_1
 clear hr0_1 hc0_1
 have A1:=Aside0.mk hr0_2
 have A2:=Aside0.mk hc0_2
 clear hr0_2 hc0_2
 have HB:=Aside0.mk (Below.refl w.heap.size w)
 have H:((impl_IsSignature.f k l0_0 l0_1 l0_2).bind fun t555=>(if t555=true then ((impl_Op.f k l0_2 a1).bind fun t556=>(some t556)) else (some (-1))))=some r:=h
 clear h
 replace H:=Option.bind_eq_some_iff.mp H
 obtain ⟨t555,A30,H⟩:=H
 replace H:(if t555=true then ((impl_Op.f k l0_2 a1).bind fun t556=>(some t556)) else (some (-1)))=some r:=H
 have A3:=Aside0.mk A30
 clear A30
 by_cases c4:t555=true
 rotate_left
 ·replace c4:=Bool.eq_false_iff.mpr c4
  subst c4
  rw [if_neg (show ¬ (false=true) by decide)] at H
  obtain rfl:=Option.some.inj H
  go_enter Try.func18,Try.ntmps18
  go_wp2_with (first | (refine bx 2 rfl #[.slice A0_0 l0_0.length c0_0,.slice A0_1 l0_1.length c0_1,.slice A0_2 l0_2.length c0_2] 36 ?_;intro A9 hg w11 hbox hb;have A0:=Aside0.mk (hbox);have B0:=hZ HB hg;have B1:=hZ HB hg;replace HB:=hS HB hb;clear hb hbox hg;obtain ⟨B2,B3,B4,B5,B6,B7⟩:=cf3 A0) | (refine bx 3 rfl #[.string a1] 9 ?_;intro gn_ hg wn_ hbox hb;have HN_:=Aside0.mk hbox;have GN_:=hZ HB hg;replace HB:=hS HB hb;replace A0:=bB A0 hb;clear hb hbox hg;obtain ⟨hcy_0,hfy_0,hcy_1,hfy_1,hcy_2,hfy_2⟩:=cf3 A0) | (refine goK 11 (some 6) rfl Try.func11 #[.agg #[.slice A0_0 l0_0.length c0_0,.slice A0_1 l0_1.length c0_1,.slice A0_2 l0_2.length c0_2]] ?_;(with_reducible refine (impl_IsSignature.calls k _ _ l0_0 _ _ l0_1 _ _ l0_2 false _ ?side1 ?side2 ?side3 ?side4 ?side5 ?side6 A3.out).mono ?_);(case side1=>exact cB A4 HB);(case side2=>exact A6.out);(case side3=>exact cB A7 HB);(case side4=>exact A8.out);(case side5=>exact cB A1 HB);(case side6=>exact A2.out);rintro e w13 ⟨rfl,hb⟩;refine ⟨_,rfl,?_⟩;replace A0:=bB A0 hb;replace HB:=hS HB hb;replace HN_:=bB HN_ hb;(try clear hb);(try clear hb2);(try clear hk);(try clear hi)))
  go_ret
  exact ⟨by first | rfl | (simp [errW_none,errW_some] <;> rfl) | (simp [*,errW_none,errW_some] <;> rfl),hV HB⟩

 subst c4
 rw [if_pos rfl] at H
 replace H:=Option.bind_eq_some_iff.mp H
 obtain ⟨t556,A50,H⟩:=H
 replace H:(some t556)=some r:=H
 have A5:=Aside0.mk A50
 clear A50
 obtain rfl:=Option.some.inj H
 go_enter Try.func18,Try.ntmps18
 go_wp2_with (first | (refine bx 2 rfl #[.slice A0_0 l0_0.length c0_0,.slice A0_1 l0_1.length c0_1,.slice A0_2 l0_2.length c0_2] 36 ?_;intro A9 hg w6 hbox hb;have A0:=Aside0.mk (hbox);have B0:=hZ HB hg;have B1:=hZ HB hg;replace HB:=hS HB hb;clear hb hbox hg;obtain ⟨B8,B9,C0,C1,C2,C3⟩:=cf3 A0) | (refine bx 3 rfl #[.string a1] 9 ?_;intro gn_ hg wn_ hbox hb;have HN_:=Aside0.mk hbox;have GN_:=hZ HB hg;replace HB:=hS HB hb;replace A0:=bB A0 hb;clear hb hbox hg;obtain ⟨hcy_0,hfy_0,hcy_1,hfy_1,hcy_2,hfy_2⟩:=cf3 A0) | (refine goK 11 (some 6) rfl Try.func11 #[.agg #[.slice A0_0 l0_0.length c0_0,.slice A0_1 l0_1.length c0_1,.slice A0_2 l0_2.length c0_2]] ?_;(with_reducible refine (impl_IsSignature.calls k _ _ l0_0 _ _ l0_1 _ _ l0_2 true _ ?side1 ?side2 ?side3 ?side4 ?side5 ?side6 A3.out).mono ?_);(case side1=>exact cB A4 HB);(case side2=>exact A6.out);(case side3=>exact cB A7 HB);(case side4=>exact A8.out);(case side5=>exact cB A1 HB);(case side6=>exact A2.out);rintro e w8 ⟨rfl,hb⟩;refine ⟨_,rfl,?_⟩;replace A0:=bB A0 hb;replace HB:=hS HB hb;replace HN_:=bB HN_ hb;(try clear hb);(try clear hb2);(try clear hk);(try clear hi);obtain ⟨C4,C5,C6,C7,C8,C9⟩:=cf3 A0) | (refine goK 37 (some 11) rfl Try.func37 #[.slice A0_2 l0_2.length c0_2,.func (.func 38) #[] #[.pointer (some ⟨gn_,0,none⟩)]] ?_;(with_reducible refine (impl_Op.calls k _ _ l0_2 a1 t556 _ ?side1 ?side2 _ ?sidn A5.out).mono ?_);(case sidn=>exact vB HN_);(case side1=>exact cB A1 HB);(case side2=>exact A2.out);rintro e w10 ⟨rfl,hb⟩;refine ⟨_,rfl,?_⟩;replace A0:=bB A0 hb;replace HB:=hS HB hb;replace HN_:=bB HN_ hb;(try clear hb);(try clear hb2);(try clear hk);(try clear hi)))
 go_ret
 exact ⟨by first | rfl | (simp [errW_none,errW_some] <;> rfl) | (simp [*,errW_none,errW_some] <;> rfl),hV HB⟩
end Go.Proofs.Ytpildjbakceicaa.Q

