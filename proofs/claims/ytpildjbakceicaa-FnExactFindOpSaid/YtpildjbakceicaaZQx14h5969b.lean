/- Functions of the program as plain Lean functions,and that the calls come to what they say. -/
import Derived.Test.YtpildjbakceicaaZQx0hb61c0
import Derived.Test.YtpildjbakceicaaZQx13heacbc
import Derived.Test.YtpildjbakceicaaZShorth7b252
namespace Go.Proofs.Ytpildjbakceicaa.Q
open Go.RowKit Go.Proofs.YtpildjbakceicaaW.PrintWords Go.Proofs.YtpildjbakceicaaW.PrintLast Go.Proofs.YtpildjbakceicaaW.PrintMore
attribute [local go_sem] max2_int min2_int max_two min_two max_three min_three max_four min_four   -- for this text's walks alone
set_option linter.unusedVariables false
set_option linter.unusedSimpArgs false

/-! ### impl_declsOK: function 31 -/
theorem impl_declsOK.a0 {P_:Prop} (h_:P_:=by rintro w' ⟨s0,s1,s2,s3,s4,s5,s6,s7⟩;go_simp;with_reducible rfl):P_:=h_
theorem impl_declsOK.a1 {P_:Prop} (h_:P_:=by rintro w' ⟨s0,s1,s2,s3,s4,s5,s6,s7,s8⟩;go_simp;with_reducible rfl):P_:=h_
theorem impl_declsOK.a2 {P_:Prop} (h_:P_:=by first | rfl | (simp [errW_none,errW_some] <;> rfl) | (simp [*,errW_none,errW_some] <;> rfl)):P_:=h_
theorem impl_declsOK.a3 {P_:Prop} (h_:P_:=by (try simp only [List.map_toArray,List.map_cons,List.map_nil]);first | done | rfl | (simp only [List.length_drop,List.length_take];rfl)):P_:=h_
theorem impl_declsOK.a4 {P_:Prop} (h_:P_:=by first | rfl | (simp;done) | (simp [*];done)):P_:=h_
theorem impl_declsOK.a5 {P_:Prop} (h_:P_:=by rintro w' ⟨s0,s1,s2,s3,s4,s5,s6⟩;go_simp;with_reducible rfl):P_:=h_
theorem impl_declsOK.a6 {P_:Prop} (h_:P_:=by have:=HJ2.out;have:=HK2.out;have:=HK3.out;first | omega | exact Nat.le_refl _):P_:=h_
mutual
def impl_declsOK.j0:Nat→Bool→List Int→List Int→List Int→ByteArray→List (S68)→Bool→Bool→Int→Option (Bool)
 | 0,_,_,_,_,_,_,_,_,_=>none
 | k + 1,x30,x346000,x346001,x346002,x347000,x347001,x347002,x347003,x347004=>if x30=true then (some false) else (if 0 < (x347001.length:Int) then ((impl_order_has.f x346000 x346001 x346002 ((rd_T68 x347001 0).f1)).bind fun t350=>(if t350=true then (impl_declsOK.l0 k ((rd_T68 x347001 0).f0) (((rd_T68 x347001 0).f0).length:Int) 0 x346000 x346001 x346002 x347000 x347001 x347002 x347003 x347004 ((rd_T68 x347001 0).f0) ((rd_T68 x347001 0).f1)) else (some false))) else (none))
def impl_declsOK.l0:Nat→List Int→Int→Int→List Int→List Int→List Int→ByteArray→List (S68)→Bool→Bool→Int→List Int→Int→Option (Bool)
 | 0,_,_,_,_,_,_,_,_,_,_,_,_,_=>none
 | k + 1,x41,x42,x43,x346000,x346001,x346002,x347000,x347001,x347002,x347003,x347004,x350000,x350001=>if x43 < x42 then (if 0≤x43 then (if x43 < (x41.length:Int) then ((impl_order_has.f x346000 x346001 x346002 (rd x41 x43)).bind fun t352=>(if t352=true then (impl_declsOK.l0 k x41 x42 (wrap64 (x43 + 1)) x346000 x346001 x346002 x347000 x347001 x347002 x347003 x347004 x350000 x350001) else (some false))) else (none)) else (none)) else (impl_declsOK.l1 k x347001 (x347001.length:Int) 0 x346000 x346001 x346002 x350000 x350001)
def impl_declsOK.l1:Nat→List (S68)→Int→Int→List Int→List Int→List Int→List Int→Int→Option (Bool)
 | 0,_,_,_,_,_,_,_,_=>none
 | k + 1,x53,x54,x55,x346000,x346001,x346002,x350000,x350001=>if x55 < x54 then (if 0≤x55 then (if x55 < (x53.length:Int) then (if (((rd_T68 x53 x55).f0).length:Int)=(x350000.length:Int) then ((impl_order_has.f x346000 x346001 x346002 ((rd_T68 x53 x55).f1)).bind fun t355=>(if t355=true then (if 0≤((rd_T68 x53 x55).f1) then (if ((rd_T68 x53 x55).f1) < (x346002.length:Int) then (if 0≤x350001 then (if x350001 < (x346002.length:Int) then (impl_declsOK.j3 k x53 x54 x55 ((rd x346002 ((rd_T68 x53 x55).f1)) != (rd x346002 x350001)) x346000 x346001 x346002 x350000 x350001 ((rd_T68 x53 x55).f0) ((rd_T68 x53 x55).f1)) else (none)) else (none)) else (none)) else (none)) else (impl_declsOK.j3 k x53 x54 x55 true x346000 x346001 x346002 x350000 x350001 ((rd_T68 x53 x55).f0) ((rd_T68 x53 x55).f1)))) else (impl_declsOK.j3 k x53 x54 x55 true x346000 x346001 x346002 x350000 x350001 ((rd_T68 x53 x55).f0) ((rd_T68 x53 x55).f1))) else (none)) else (none)) else (some true)
def impl_declsOK.j3:Nat→List (S68)→Int→Int→Bool→List Int→List Int→List Int→List Int→Int→List Int→Int→Option (Bool)
 | 0,_,_,_,_,_,_,_,_,_,_,_=>none
 | k + 1,x53,x54,x55,x87,x346000,x346001,x346002,x350000,x350001,x355000,x355001=>if x87=true then (some false) else (impl_declsOK.l2 k x53 x54 x55 x355000 (x355000.length:Int) 0 x346000 x346001 x346002 x350000 x350001)
def impl_declsOK.l2:Nat→List (S68)→Int→Int→List Int→Int→Int→List Int→List Int→List Int→List Int→Int→Option (Bool)
 | 0,_,_,_,_,_,_,_,_,_,_,_=>none
 | k + 1,x53,x54,x55,x89,x90,x91,x346000,x346001,x346002,x350000,x350001=>if x91 < x90 then (if 0≤x91 then (if x91 < (x89.length:Int) then ((impl_order_has.f x346000 x346001 x346002 (rd x89 x91)).bind fun t359=>(if t359=true then (if 0≤(rd x89 x91) then (if (rd x89 x91) < (x346002.length:Int) then (if x91 < (x350000.length:Int) then (if 0≤(rd x350000 x91) then (if (rd x350000 x91) < (x346002.length:Int) then (if (rd x346002 (rd x89 x91))=(rd x346002 (rd x350000 x91)) then (impl_declsOK.l2 k x53 x54 x55 x89 x90 (wrap64 (x91 + 1)) x346000 x346001 x346002 x350000 x350001) else (some false)) else (none)) else (none)) else (none)) else (none)) else (none)) else (some false))) else (none)) else (none)) else (impl_declsOK.l1 k x53 x54 (wrap64 (x55 + 1)) x346000 x346001 x346002 x350000 x350001)
end
def impl_declsOK.f (k:Nat) (l0_0:List Int) (l0_1:List Int) (l0_2:List Int) (a1_0:ByteArray) (l1_1:List (S68)) (a1_2:Bool) (a1_3:Bool) (a1_4:Int):Option (Bool):=if (l1_1.length:Int) < 1 then (impl_declsOK.j0 k true l0_0 l0_1 l0_2 a1_0 l1_1 a1_2 a1_3 a1_4) else (if (l1_1.length:Int) > 4 then (impl_declsOK.j0 k true l0_0 l0_1 l0_2 a1_0 l1_1 a1_2 a1_3 a1_4) else (if 0 < (l1_1.length:Int) then (impl_declsOK.j0 k (decide ((((rd_T68 l1_1 0).f0).length:Int) > 3)) l0_0 l0_1 l0_2 a1_0 l1_1 a1_2 a1_3 a1_4) else (none)))
def impl_declsOK.T15:Bool × List (List Nat × List Nat):=(true,[([],[]),([0],[0]),([1],[1]),([],[]),([3],[3]),([4],[4]),([2,5],[2,5]),([6],[6]),([7],[7]),([7],[7]),([9,7],[7,9]),([8,10,7,7],[7,8,10]),([11,7],[7,11]),([7,12],[7,12]),([13,11],[13]),([14],[14]),([15,14],[14,15]),([14],[14]),([17,14],[14,17]),([16,18,14],[14,16,18]),([19,14],[14,19]),([14],[14]),([21,14],[14,21]),([14],[14]),([23,14],[14,23]),([22,24,14],[14,22,24]),([25,14],[14,25]),([20,26,14],[14,20,26]),([14,27],[14,27])])
def impl_declsOK.B15:List Nat:=[0,1,3,0,8,24,63,127,255,255,767,2047,4095,8191,16383,32767,65535,32767,163839,524287,1048575,32767,2129919,32767,8421375,31490047,65044479,134217727,268435455]
theorem impl_declsOK.tab15:rtab .any (opsOf Try.f31 15)=impl_declsOK.T15:=by kernel_rfl
theorem impl_declsOK.bits15:waitsOk impl_declsOK.T15.2 impl_declsOK.B15=true:=by kernel_rfl
def impl_declsOK.T20:Bool × List (List Nat × List Nat):=(true,[([],[]),([],[]),([0,1],[0,1]),([2],[2]),([3,2],[3]),([4],[4]),([5,4],[4,5]),([4],[4]),([6,7,4],[4,6,7]),([8,4],[4,8]),([4],[4]),([10,4],[4,10]),([4],[4]),([12,4],[4,12]),([4],[4]),([13,14,4],[4,13,14]),([15,4],[4,15]),([11,16,4],[4,11,16]),([17,4],[4,17]),([9,18,4],[4,9,18]),([4,19],[4,19])])
def impl_declsOK.B20:List Nat:=[0,0,3,7,15,31,63,31,255,511,31,1055,31,4127,31,28703,61471,130079,261151,524287,1048575]
theorem impl_declsOK.tab20:rtab .any (opsOf Try.f31 20)=impl_declsOK.T20:=by kernel_rfl
theorem impl_declsOK.bits20:waitsOk impl_declsOK.T20.2 impl_declsOK.B20=true:=by kernel_rfl
set_option maxHeartbeats 8000000 in
set_option maxRecDepth 100000 in
theorem impl_declsOK.calls (k:Nat) (A0_0:Option Addr) (c0_0:Nat) (l0_0:List Int) (A0_1:Option Addr) (c0_1:Nat) (l0_1:List Int) (A0_2:Option Addr) (c0_2:Nat) (l0_2:List Int) (a1_0:ByteArray) (A1_1:Option Addr) (c1_1:Nat) (l1_1:List (S68)) (a1_2:Bool) (a1_3:Bool) (a1_4:Int) (r:Bool) (w:World) (hr0_0:Kd.C (Kd.int .i64) w A0_0 l0_0.length l0_0) (hc0_0:l0_0.length≤c0_0) (hr0_1:Kd.C (Kd.int .i64) w A0_1 l0_1.length l0_1) (hc0_1:l0_1.length≤c0_1) (hr0_2:Kd.C (Kd.int .i64) w A0_2 l0_2.length l0_2) (hc0_2:l0_2.length≤c0_2) (hr1_1:Kd.C k68 w A1_1 l1_1.length l1_1) (hc1_1:l1_1.length≤c1_1) (h:impl_declsOK.f k l0_0 l0_1 l0_2 a1_0 l1_1 a1_2 a1_3 a1_4=some r) :
  Calls Try.prog 31 #[.agg #[.slice A0_0 l0_0.length c0_0,.slice A0_1 l0_1.length c0_1,.slice A0_2 l0_2.length c0_2],.agg #[.string a1_0,.slice A1_1 l1_1.length c1_1,.bool a1_2,.bool a1_3,.int .i64 a1_4]] w fun e w'=>e=.returned (.bool r)∧Below w.heap.size w w':=by
 have hu57:=Try.underlying57
 have hu50:=Try.underlying50
 have hu68:=Try.underlying68
 have C2:=Aside0.mk hr0_0
 have C3:=Aside0.mk hc0_0
 clear hr0_0 hc0_0
 have C4:=Aside0.mk hr0_1
 have C5:=Aside0.mk hc0_1
 clear hr0_1 hc0_1
 have B1:=Aside0.mk hr0_2
 have C6:=Aside0.mk hc0_2
 clear hr0_2 hc0_2
 have G3:=Aside0.mk hr1_1
 have U9:=Aside0.mk hc1_1
 clear hr1_1 hc1_1
 have HB:=Aside0.mk (Below.refl w.heap.size w)
 have H:(if (l1_1.length:Int) < 1 then (impl_declsOK.j0 k true l0_0 l0_1 l0_2 a1_0 l1_1 a1_2 a1_3 a1_4) else (if (l1_1.length:Int) > 4 then (impl_declsOK.j0 k true l0_0 l0_1 l0_2 a1_0 l1_1 a1_2 a1_3 a1_4) else (if 0 < (l1_1.length:Int) then (impl_declsOK.j0 k (decide ((((rd_T68 l1_1 0).f0).length:Int) > 3)) l0_0 l0_1 l0_2 a1_0 l1_1 a1_2 a1_3 a1_4) else (none))))=some r:=h
 clear h
 have M4:=Aside0.mk H
 clear H
 go_enter Try.func31,Try.ntmps31
 go_upto_region 1 with (first | ((with_reducible refine gate_dst (N:=2) rfl ?_);(try (refine gate_guard (by rfl) ?_;dsimp only));refine bx 2 rfl #[.slice A0_0 l0_0.length c0_0,.slice A0_1 l0_1.length c0_1,.slice A0_2 l0_2.length c0_2] 57 ?_;intro A5 hg w4 hbox hb;have A0:=Aside0.mk (hbox);have V0:=hZ HB hg;have V1:=hZ HB hg;replace HB:=hS HB hb;clear hb hbox hg) | ((with_reducible refine gate_dst (N:=3) rfl ?_);(try (refine gate_guard (by rfl) ?_;dsimp only));refine bx 3 rfl #[.string a1_0,.slice A1_1 l1_1.length c1_1,.bool a1_2,.bool a1_3,.int .i64 a1_4] 50 ?_;intro D0 hg w5 hbox hb;have A2:=Aside0.mk (hbox);have V2:=hZ HB hg;have V3:=hZ HB hg;replace HB:=hS HB hb;have A9:=nL A0 hg;have B0:=nG A0 hg;replace A0:=bB A0 hb;clear hb hbox hg))
 (try simp only [Act.put,List.setIfInBounds_toArray,List.set_cons_zero,List.set_cons_succ])
 go_cut [30] (fun v30 wc=> ∃ (kq:Nat) (x30_2:Bool),v30=.bool x30_2∧Aside0 (impl_declsOK.j0 kq x30_2 l0_0 l0_1 l0_2 a1_0 l1_1 a1_2 a1_3 a1_4=some r)∧Aside0 (kq≤k)∧Aside0 (wc.heap[A5]? = some (.cells #[(.slice A0_0 l0_0.length c0_0),(.slice A0_1 l0_1.length c0_1),(.slice A0_2 l0_2.length c0_2)] 57 (0,0)))∧Aside0 (wc.heap[D0]? = some (.cells #[.string a1_0,(.slice A1_1 l1_1.length c1_1),.bool a1_2,.bool a1_3,.int .i64 a1_4] 50 (0,0)))∧Aside0 (Below w.heap.size w wc))
 case first=>
  have H:=M4.out
  clear M4
  by_cases c6:(l1_1.length:Int) < 1
  ·rw [if_pos c6] at H
   have G4:=decide_eq_true c6
   have N7:decide (l1_1.length < 1)=true:=decide_eq_true (by omega)
   clear c6
   (first | rw [G4] | (simp only [i64_w,i32_w];rw [G4]) | skip)
   have H':=Aside0.mk H
   clear H
   have c3:=B0.out
   have c4:=A9.out
   obtain ⟨T9,U0,U1,U2,U3,U4,U5,U6,U7,U8⟩:=cf5 A2
   go_wp2
   go_meet
   case rel=>exact ⟨_,(true),impl_declsOK.a4,H',⟨by first | omega | exact Nat.le_refl _⟩,⟨vB A0⟩,⟨vB A2⟩,⟨hV HB⟩⟩
  ·rw [if_neg c6] at H
   have G4:=decide_eq_false c6
   have N7:decide (l1_1.length < 1)=false:=decide_eq_false (by omega)
   clear c6
   (first | rw [G4] | (simp only [i64_w,i32_w];rw [G4]) | skip)
   by_cases c9:(l1_1.length:Int) > 4
   ·rw [if_pos c9] at H
    have N8:=decide_eq_true c9
    have N9:decide (4 < l1_1.length)=true:=decide_eq_true (by omega)
    clear c9
    have H':=Aside0.mk H
    clear H
    have V4:=B0.out
    have V5:=A9.out
    obtain ⟨O0,O1,O2,O3,O4,O5,O6,O7,O8,O9⟩:=cf5 A2
    go_wp2
    go_meet
    case rel=>exact ⟨_,(true),impl_declsOK.a4,H',⟨by first | omega | exact Nat.le_refl _⟩,⟨vB A0⟩,⟨vB A2⟩,⟨hV HB⟩⟩
   ·rw [if_neg c9] at H
    have N8:=decide_eq_false c9
    have N9:decide (4 < l1_1.length)=false:=decide_eq_false (by omega)
    clear c9
    by_cases c12:0 < (l1_1.length:Int)
    rotate_left
    ·rw [if_neg c12] at H
     exact absurd H (by simp)
    rw [if_pos c12] at H
    have V6:=decide_eq_true c12
    have V7:decide (0 < l1_1.length)=true:=decide_eq_true (by omega)
    clear c12
    have H':=Aside0.mk H
    clear H
    have V8:=B0.out
    have V9:=A9.out
    obtain ⟨P0,P1,P2,P3,P4,P5,P6,P7,P8,P9⟩:=cf5 A2
    have J6:0≤(0:Int):=(by omega)
    have J7:0 < (l1_1.length:Int):=dT
    obtain ⟨W0,A347_0,c347_0,e347,D3,D4,G5,G6⟩:=at_T68 G3.out 0 J6 J7
    cases e347
    have W1:(0 < l1_1.length)=True:=eq_true (by omega)
    (try rw [show ((0:Int)).toNat=0 from rfl] at D3)
    (try rw [show 0 * 2=0 from rfl] at D3)
    (try rw [Addr.add_zero'] at D3)
    (try rw [show ((0:Int)).toNat=0 from rfl] at D4)
    (try rw [show 0 * 2=0 from rfl] at D4)
    (try rw [Addr.add_zero'] at D4)
    replace D3:=xc HB D3
    replace D4:=xc HB D4
    have Q0:=Aside0.mk G6
    have Q1:=Aside0.mk G5
    clear G6 G5
    replace J6:=eq_true J6
    replace J7:=eq_true J7
    go_wp2
    go_meet
    case rel=>exact ⟨_,(decide ((((rd_T68 l1_1 0).f0).length:Int) > 3)),impl_declsOK.a4,H',⟨by first | omega | exact Nat.le_refl _⟩,⟨vB A0⟩,⟨vB A2⟩,⟨hV HB⟩⟩
 clear M4
 obtain ⟨kq,x30_2,rfl,HA,HJ2,A0,A2,HB⟩:=hcut
 cases kq with
 | zero=>exact absurd HA.out (by simp [impl_declsOK.j0])
 | succ kj2=>
  have H:=HA.out
  clear HA
  simp only [impl_declsOK.j0] at H
  by_cases c15:x30_2=true
  ·subst c15
   rw [if_pos rfl] at H
   obtain rfl:=Option.some.inj H
   go_wp2
   go_ret
   exact ⟨impl_declsOK.a2,hV HB⟩
  replace c15:=Bool.eq_false_iff.mpr c15
  subst c15
  rw [if_neg (show ¬ (false=true) by decide)] at H
  by_cases c16:0 < (l1_1.length:Int)
  rotate_left
  ·rw [if_neg c16] at H
   exact absurd H (by simp)

  rw [if_pos c16] at H
  have K5:=decide_eq_true c16
  have K6:decide (0 < l1_1.length)=true:=decide_eq_true (by omega)
  clear c16
  replace H:=Option.bind_eq_some_iff.mp H
  obtain ⟨t350,A170,H⟩:=H
  replace H:(if t350=true then (impl_declsOK.l0 kj2 ((rd_T68 l1_1 0).f0) (((rd_T68 l1_1 0).f0).length:Int) 0 l0_0 l0_1 l0_2 a1_0 l1_1 a1_2 a1_3 a1_4 ((rd_T68 l1_1 0).f0) ((rd_T68 l1_1 0).f1)) else (some false))=some r:=H
  have A17:=Aside0.mk A170
  clear A170
  by_cases c18:t350=true
  ·subst c18
   rw [if_pos rfl] at H
   have H':=Aside0.mk H
   clear H
   have W2:=B0.out
   have W3:=A9.out
   obtain ⟨G7,G8,G9,H0,H1,H2,H3,H4,H5,H6⟩:=cf5 A2
   have D9:0≤(0:Int):=(by omega)
   have E0:0 < (l1_1.length:Int):=dT
   obtain ⟨C7,A348_0,c348_0,e348,A6,A7,D5,D6⟩:=at_T68 G3.out 0 D9 E0
   cases e348
   have M5:(0 < l1_1.length)=True:=eq_true (by omega)
   (try rw [show ((0:Int)).toNat=0 from rfl] at A6)
   (try rw [show 0 * 2=0 from rfl] at A6)
   (try rw [Addr.add_zero'] at A6)
   (try rw [show ((0:Int)).toNat=0 from rfl] at A7)
   (try rw [show 0 * 2=0 from rfl] at A7)
   (try rw [Addr.add_zero'] at A7)
   replace A6:=xc HB A6
   replace A7:=xc HB A7
   have D7:=Aside0.mk D6
   have K9:=Aside0.mk D5
   clear D6 D5
   replace D9:=eq_true D9
   replace E0:=eq_true E0
   go_wp2_with (first | ((with_reducible refine gate_dst (N:=5) rfl ?_);(try (refine gate_guard (by rfl) ?_;dsimp only));refine bx 5 rfl #[.slice none 0 0,.int .i64 0] 68 ?_;intro A8 hg w21 hbox hb;have A1:=Aside0.mk (hbox);have M6:=hZ HB hg;have M7:=hZ HB hg;replace HB:=hS HB hb;have C0:=nL A0 hg;have C1:=nG A0 hg;replace A0:=bB A0 hb;have D1:=nL A2 hg;have D2:=nG A2 hg;replace A2:=bB A2 hb;clear hb hbox hg;have W4:=C1.out;have W5:=C0.out;have W6:=D2.out;have W7:=D1.out;obtain ⟨H7,H8,H9,I0⟩:=cf2 A1;obtain ⟨I1,I2,I3,I4,I5,I6⟩:=cf3 A0) | (refine goK 59 (some 38) rfl Try.func59 #[.agg #[.slice A0_0 l0_0.length c0_0,.slice A0_1 l0_1.length c0_1,.slice A0_2 l0_2.length c0_2],.int .i64 ((rd_T68 l1_1 0).f1)] ?_;(with_reducible refine (impl_order_has.calls _ _ l0_0 _ _ l0_1 _ _ l0_2 ((rd_T68 l1_1 0).f1) true _ ?side1 ?side2 ?side3 ?side4 ?side5 ?side6 A17.out).mono ?_);(case side1=>exact cV C2 HB);(case side2=>exact C3.out);(case side3=>exact cV C4 HB);(case side4=>exact C5.out);(case side5=>exact cV B1 HB);(case side6=>exact C6.out);rintro e w26 ⟨rfl,hb⟩;refine ⟨_,rfl,?_⟩;replace A0:=bB A0 hb;replace A2:=bB A2 hb;replace A1:=bP (o:=.cells #[.slice A348_0 ((rd_T68 l1_1 0).f0).length c348_0,.int .i64 ((rd_T68 l1_1 0).f1)] 68 (0,0)) A1 hb;replace HB:=hS HB hb;(try clear hb);(try clear hb2);(try clear hk);(try clear hi);obtain ⟨I7,I8,I9,J0⟩:=cf2 A1))
   go_loopg [43] kj2 (fun kq v43 w'=> ∃ (x43_2:Int),v43=.int .i64 x43_2∧Aside0 (impl_declsOK.l0 kq ((rd_T68 l1_1 0).f0) (((rd_T68 l1_1 0).f0).length:Int) x43_2 l0_0 l0_1 l0_2 a1_0 l1_1 a1_2 a1_3 a1_4 ((rd_T68 l1_1 0).f0) ((rd_T68 l1_1 0).f1)=some r)∧Aside0 (kq≤kj2)∧Aside0 (w'.heap[A5]? = some (.cells #[(.slice A0_0 l0_0.length c0_0),(.slice A0_1 l0_1.length c0_1),(.slice A0_2 l0_2.length c0_2)] 57 (0,0)))∧Aside0 (w'.heap[D0]? = some (.cells #[.string a1_0,(.slice (some C7) l1_1.length c1_1),.bool a1_2,.bool a1_3,.int .i64 a1_4] 50 (0,0)))∧Aside0 (w'.heap[A8]? = some (.cells #[(.slice A348_0 ((rd_T68 l1_1 0).f0).length c348_0),.int .i64 ((rd_T68 l1_1 0).f1)] 68 (0,0)))∧Aside0 (Below w.heap.size w w'))
   case atStart=>exact ⟨(0),impl_declsOK.a4,H',⟨Nat.le_refl _⟩,⟨vB A0⟩,⟨vB A2⟩,⟨vB A1⟩,⟨hV HB⟩⟩
   clear H'
   try clear c15
   try clear c16
   try clear K5
   try clear K6
   try clear c18
   try clear G7
   try clear G9
   try clear H1
   try clear H3
   try clear H5
   try clear H7
   try clear H9
   try clear I1
   try clear I3
   try clear I5
   try clear I7
   try clear I9
   try clear G8
   try clear H0
   try clear H2
   try clear H4
   try clear H6
   try clear H8
   try clear I0
   try clear I2
   try clear I4
   try clear I6
   try clear I8
   try clear J0
   try clear A6
   try clear A7
   try clear D9
   try clear E0
   obtain ⟨x43_2,rfl,HA,HK2,A0,A2,A1,HB⟩:=hrel
   cases gk with
   | zero=>exact absurd HA.out (by simp [impl_declsOK.l0])
   | succ k2=>
    have H:=HA.out
    clear HA
    simp only [impl_declsOK.l0] at H
    by_cases c28:x43_2 < (((rd_T68 l1_1 0).f0).length:Int)
    ·rw [if_pos c28] at H
     have K7:=decide_eq_true c28
     clear c28
     by_cases c29:0≤x43_2
     rotate_left
     ·rw [if_neg c29] at H
      exact absurd H (by simp)
     rw [if_pos c29] at H
     have W8:=decide_eq_true c29
     clear c29
     by_cases c30:x43_2 < (((rd_T68 l1_1 0).f0).length:Int)
     rotate_left
     ·rw [if_neg c30] at H
      exact absurd H (by simp)
     rw [if_pos c30] at H
     have W9:=decide_eq_true c30
     clear c30
     replace H:=Option.bind_eq_some_iff.mp H
     obtain ⟨t352,A310,H⟩:=H
     replace H:(if t352=true then (impl_declsOK.l0 k2 ((rd_T68 l1_1 0).f0) (((rd_T68 l1_1 0).f0).length:Int) (wrap64 (x43_2 + 1)) l0_0 l0_1 l0_2 a1_0 l1_1 a1_2 a1_3 a1_4 ((rd_T68 l1_1 0).f0) ((rd_T68 l1_1 0).f1)) else (some false))=some r:=H
     have A31:=Aside0.mk A310
     clear A310
     by_cases c32:t352=true
     ·subst c32
      rw [if_pos rfl] at H
      have H':=Aside0.mk H
      clear H
      have E5:0≤(x43_2:Int):=dT
      have E6:x43_2 < (((rd_T68 l1_1 0).f0).length:Int):=dT
      obtain ⟨M8,e351,D8⟩:=Kd.at_int D7.out x43_2 E5 E6
      cases e351
      replace D8:=xc HB D8
      replace E5:=eq_true E5
      replace E6:=eq_true E6
      have X0:=A9.out
      have X1:=B0.out
      have X2:=C0.out
      have X3:=C1.out
      obtain ⟨Q2,Q3,Q4,Q5,Q6,Q7⟩:=cf3 A0
      go_wp2_with (first | (refine goK 59 (some 49) rfl Try.func59 #[.agg #[.slice A0_0 l0_0.length c0_0,.slice A0_1 l0_1.length c0_1,.slice A0_2 l0_2.length c0_2],.int .i64 (rd ((rd_T68 l1_1 0).f0) x43_2)] ?_;(with_reducible refine (impl_order_has.calls _ _ l0_0 _ _ l0_1 _ _ l0_2 (rd ((rd_T68 l1_1 0).f0) x43_2) true _ ?side1 ?side2 ?side3 ?side4 ?side5 ?side6 A31.out).mono ?_);(case side1=>exact cB C2 HB);(case side2=>exact C3.out);(case side3=>exact cB C4 HB);(case side4=>exact C5.out);(case side5=>exact cB B1 HB);(case side6=>exact C6.out);rintro e w36 ⟨rfl,hb⟩;refine ⟨_,rfl,?_⟩;replace A0:=bB A0 hb;replace A2:=bB A2 hb;replace A1:=bB A1 hb;replace HB:=hS HB hb;(try clear hb);(try clear hb2);(try clear hk);(try clear hi)))
      go_roundg k2
      case measure=>have:=HJ2.out;have:=HK2.out;omega
      case rel=>exact ⟨(wrap64 (x43_2 + 1)),impl_declsOK.a4,H',⟨by have:=HJ2.out;have:=HK2.out;omega⟩,⟨vB A0⟩,⟨vB A2⟩,⟨vB A1⟩,⟨hV HB⟩⟩
     ·replace c32:=Bool.eq_false_iff.mpr c32
      subst c32
      rw [if_neg (show ¬ (false=true) by decide)] at H
      obtain rfl:=Option.some.inj H
      have E5:0≤(x43_2:Int):=dT
      have E6:x43_2 < (((rd_T68 l1_1 0).f0).length:Int):=dT
      obtain ⟨M8,e351,D8⟩:=Kd.at_int D7.out x43_2 E5 E6
      cases e351
      replace D8:=xc HB D8
      replace E5:=eq_true E5
      replace E6:=eq_true E6
      have X4:=A9.out
      have X5:=B0.out
      have X6:=C0.out
      have X7:=C1.out
      obtain ⟨Q8,Q9,R0,R1,R2,R3⟩:=cf3 A0
      go_wp2_with (first | (refine goK 59 (some 49) rfl Try.func59 #[.agg #[.slice A0_0 l0_0.length c0_0,.slice A0_1 l0_1.length c0_1,.slice A0_2 l0_2.length c0_2],.int .i64 (rd ((rd_T68 l1_1 0).f0) x43_2)] ?_;(with_reducible refine (impl_order_has.calls _ _ l0_0 _ _ l0_1 _ _ l0_2 (rd ((rd_T68 l1_1 0).f0) x43_2) false _ ?side1 ?side2 ?side3 ?side4 ?side5 ?side6 A31.out).mono ?_);(case side1=>exact cB C2 HB);(case side2=>exact C3.out);(case side3=>exact cB C4 HB);(case side4=>exact C5.out);(case side5=>exact cB B1 HB);(case side6=>exact C6.out);rintro e w40 ⟨rfl,hb⟩;refine ⟨_,rfl,?_⟩;replace A0:=bB A0 hb;replace A2:=bB A2 hb;replace A1:=bB A1 hb;replace HB:=hS HB hb;(try clear hb);(try clear hb2);(try clear hk);(try clear hi)))
      go_ret
      exact ⟨impl_declsOK.a2,hV HB⟩
    ·rw [if_neg c28] at H
     have K7:=decide_eq_false c28
     clear c28
     have H':=Aside0.mk H
     clear H
     have X8:=B0.out
     have X9:=A9.out
     have Y0:=D1.out
     have Y1:=D2.out
     obtain ⟨L0,L1,L2,L3,L4,L5,L6,L7,L8,L9⟩:=cf5 A2
     go_wp2
     go_loopg [55] k2 (fun kq v55 w'=> ∃ (x55_3:Int),v55=.int .i64 x55_3∧Aside0 (impl_declsOK.l1 kq l1_1 (l1_1.length:Int) x55_3 l0_0 l0_1 l0_2 ((rd_T68 l1_1 0).f0) ((rd_T68 l1_1 0).f1)=some r)∧Aside0 (kq≤k2)∧Aside0 (w'.heap[A5]? = some (.cells #[(.slice A0_0 l0_0.length c0_0),(.slice A0_1 l0_1.length c0_1),(.slice A0_2 l0_2.length c0_2)] 57 (0,0)))∧Aside0 (w'.heap[D0]? = some (.cells #[.string a1_0,(.slice (some C7) l1_1.length c1_1),.bool a1_2,.bool a1_3,.int .i64 a1_4] 50 (0,0)))∧Aside0 (w'.heap[A8]? = some (.cells #[(.slice A348_0 ((rd_T68 l1_1 0).f0).length c348_0),.int .i64 ((rd_T68 l1_1 0).f1)] 68 (0,0)))∧Aside0 (Below w.heap.size w w'))
     case atStart=>exact ⟨(0),impl_declsOK.a4,H',⟨Nat.le_refl _⟩,⟨vB A0⟩,⟨vB A2⟩,⟨vB A1⟩,⟨hV HB⟩⟩
     clear H'
     try clear c15
     try clear c16
     try clear K5
     try clear K6
     try clear c18
     try clear c28
     try clear K7
     try clear G7
     try clear G9
     try clear H1
     try clear H3
     try clear H5
     try clear H7
     try clear H9
     try clear I1
     try clear I3
     try clear I5
     try clear I7
     try clear I9
     try clear L0
     try clear L2
     try clear L4
     try clear L6
     try clear L8
     try clear G8
     try clear H0
     try clear H2
     try clear H4
     try clear H6
     try clear H8
     try clear I0
     try clear I2
     try clear I4
     try clear I6
     try clear I8
     try clear J0
     try clear L1
     try clear L3
     try clear L5
     try clear L7
     try clear L9
     try clear A6
     try clear A7
     try clear D9
     try clear E0
     obtain ⟨x55_3,rfl,HA,HK3,A0,A2,A1,HB⟩:=hrel
     cases gk with
     | zero=>exact absurd HA.out (by simp [impl_declsOK.l1])
     | succ k3=>
      have H:=HA.out
      clear HA
      simp only [impl_declsOK.l1] at H
      by_cases c44:x55_3 < (l1_1.length:Int)
      rotate_left
      ·rw [if_neg c44] at H
       have M9:=decide_eq_false c44
       clear c44
       obtain rfl:=Option.some.inj H
       go_wp2
       go_ret
       exact ⟨impl_declsOK.a2,hV HB⟩
      rw [if_pos c44] at H
      have M9:=decide_eq_true c44
      clear c44
      by_cases c45:0≤x55_3
      rotate_left
      ·rw [if_neg c45] at H
       exact absurd H (by simp)
      rw [if_pos c45] at H
      have Y2:=decide_eq_true c45
      clear c45
      by_cases c46:x55_3 < (l1_1.length:Int)
      rotate_left
      ·rw [if_neg c46] at H
       exact absurd H (by simp)
      rw [if_pos c46] at H
      have Y3:=decide_eq_true c46
      clear c46
      have J8:=Aside0.mk H
      clear H
      have J9:0≤(x55_3:Int):=dT
      have K0:x55_3 < (l1_1.length:Int):=dT
      obtain ⟨N0,A353_0,c353_0,e353,J1,J2,J3,J4⟩:=at_T68 G3.out x55_3 J9 K0
      obtain rfl:C7=N0:=(by injection e353)
      replace J1:=xc HB J1
      replace J2:=xc HB J2
      have F6:=Aside0.mk J4
      have R4:=Aside0.mk J3
      clear J4 J3
      replace J9:=eq_true J9
      replace K0:=eq_true K0
      go_upto_region 15 with (first | ((with_reducible refine gate_dst (N:=9) rfl ?_);(try (refine gate_guard (by rfl) ?_;dsimp only));refine bx 9 rfl #[.slice none 0 0,.int .i64 0] 68 ?_;intro A4 hg w48 hbox hb;have A3:=Aside0.mk (hbox);have Y4:=hZ HB hg;have Y5:=hZ HB hg;replace HB:=hS HB hb;have F7:=nL A0 hg;have F8:=nG A0 hg;replace A0:=bB A0 hb;have F9:=nL A2 hg;have G0:=nG A2 hg;replace A2:=bB A2 hb;have G1:=nL A1 hg;have G2:=nG A1 hg;replace A1:=bB A1 hb;clear hb hbox hg;have Y6:=F8.out;have Y7:=F7.out;have Y8:=G0.out;have Y9:=F9.out;have Z0:=G2.out;have Z1:=G1.out;obtain ⟨R5,R6,R7,R8⟩:=cf2 A3))
      (try simp only [Act.put,List.setIfInBounds_toArray,List.set_cons_zero,List.set_cons_succ])
      go_cut [87] (fun v87 wc=> ∃ (kq:Nat) (x87_46:Bool),v87=.bool x87_46∧Aside0 (impl_declsOK.j3 kq l1_1 (l1_1.length:Int) x55_3 x87_46 l0_0 l0_1 l0_2 ((rd_T68 l1_1 0).f0) ((rd_T68 l1_1 0).f1) ((rd_T68 l1_1 x55_3).f0) ((rd_T68 l1_1 x55_3).f1)=some r)∧Aside0 (kq≤k3)∧Aside0 (wc.heap[A5]? = some (.cells #[(.slice A0_0 l0_0.length c0_0),(.slice A0_1 l0_1.length c0_1),(.slice A0_2 l0_2.length c0_2)] 57 (0,0)))∧Aside0 (wc.heap[D0]? = some (.cells #[.string a1_0,(.slice (some C7) l1_1.length c1_1),.bool a1_2,.bool a1_3,.int .i64 a1_4] 50 (0,0)))∧Aside0 (wc.heap[A8]? = some (.cells #[(.slice A348_0 ((rd_T68 l1_1 0).f0).length c348_0),.int .i64 ((rd_T68 l1_1 0).f1)] 68 (0,0)))∧Aside0 (wc.heap[A4]? = some (.cells #[(.slice A353_0 ((rd_T68 l1_1 x55_3).f0).length c353_0),.int .i64 ((rd_T68 l1_1 x55_3).f1)] 68 (0,0)))∧Aside0 (Below w.heap.size w wc))
      case first=>
       have H:=J8.out
       clear J8
       by_cases c53:(((rd_T68 l1_1 x55_3).f0).length:Int)=(((rd_T68 l1_1 0).f0).length:Int)
       ·rw [if_pos c53] at H
        have F3:((((rd_T68 l1_1 x55_3).f0).length:Int) == (((rd_T68 l1_1 0).f0).length:Int))=true:=beq_iff_eq.mpr c53
        have N1:((((rd_T68 l1_1 x55_3).f0).length:Int) != (((rd_T68 l1_1 0).f0).length:Int))=false:=bne_eq_false_iff_eq.mpr c53
        have N2:(((rd_T68 l1_1 x55_3).f0).length == ((rd_T68 l1_1 0).f0).length)=true:=by first | simpa using c53 | (simp at c53 ⊢;omega)
        clear c53
        (first | rw [F3] | (simp only [i64_w,i32_w];rw [F3]) | skip)
        replace H:=Option.bind_eq_some_iff.mp H
        obtain ⟨t355,A540,H⟩:=H
        replace H:(if t355=true then (if 0≤((rd_T68 l1_1 x55_3).f1) then (if ((rd_T68 l1_1 x55_3).f1) < (l0_2.length:Int) then (if 0≤((rd_T68 l1_1 0).f1) then (if ((rd_T68 l1_1 0).f1) < (l0_2.length:Int) then (impl_declsOK.j3 k3 l1_1 (l1_1.length:Int) x55_3 ((rd l0_2 ((rd_T68 l1_1 x55_3).f1)) != (rd l0_2 ((rd_T68 l1_1 0).f1))) l0_0 l0_1 l0_2 ((rd_T68 l1_1 0).f0) ((rd_T68 l1_1 0).f1) ((rd_T68 l1_1 x55_3).f0) ((rd_T68 l1_1 x55_3).f1)) else (none)) else (none)) else (none)) else (none)) else (impl_declsOK.j3 k3 l1_1 (l1_1.length:Int) x55_3 true l0_0 l0_1 l0_2 ((rd_T68 l1_1 0).f0) ((rd_T68 l1_1 0).f1) ((rd_T68 l1_1 x55_3).f0) ((rd_T68 l1_1 x55_3).f1)))=some r:=H
        have A54:=Aside0.mk A540
        clear A540
        by_cases c55:t355=true
        ·subst c55
         rw [if_pos rfl] at H
         by_cases c56:0≤((rd_T68 l1_1 x55_3).f1)
         rotate_left
         ·rw [if_neg c56] at H
          exact absurd H (by simp)
         rw [if_pos c56] at H
         have Z2:=decide_eq_true c56
         clear c56
         by_cases c57:((rd_T68 l1_1 x55_3).f1) < (l0_2.length:Int)
         rotate_left
         ·rw [if_neg c57] at H
          exact absurd H (by simp)
         rw [if_pos c57] at H
         have Z3:=decide_eq_true c57
         clear c57
         by_cases c58:0≤((rd_T68 l1_1 0).f1)
         rotate_left
         ·rw [if_neg c58] at H
          exact absurd H (by simp)
         rw [if_pos c58] at H
         have Z4:=decide_eq_true c58
         clear c58
         by_cases c59:((rd_T68 l1_1 0).f1) < (l0_2.length:Int)
         rotate_left
         ·rw [if_neg c59] at H
          exact absurd H (by simp)
         rw [if_pos c59] at H
         have Z5:=decide_eq_true c59
         clear c59
         have H':=Aside0.mk H
         clear H
         try go_wp2
         have n0_:Aside0 (((w48.setCell ⟨A4,0,none⟩ (.slice A353_0 ((rd_T68 l1_1 x55_3).f0).length c353_0)).setCell ⟨A4,1,none⟩ (.int .i64 ((rd_T68 l1_1 x55_3).f1))).heap[A5]? = some (.cells #[.slice A0_0 l0_0.length c0_0,.slice A0_1 l0_1.length c0_1,.slice A0_2 l0_2.length c0_2] 57 (0,0))):=⟨vB A0⟩
         have n1_:Aside0 (((w48.setCell ⟨A4,0,none⟩ (.slice A353_0 ((rd_T68 l1_1 x55_3).f0).length c353_0)).setCell ⟨A4,1,none⟩ (.int .i64 ((rd_T68 l1_1 x55_3).f1))).heap[D0]? = some (.cells #[.string a1_0,.slice (some C7) l1_1.length c1_1,.bool a1_2,.bool a1_3,.int .i64 a1_4] 50 (0,0))):=⟨vB A2⟩
         have n2_:Aside0 (((w48.setCell ⟨A4,0,none⟩ (.slice A353_0 ((rd_T68 l1_1 x55_3).f0).length c353_0)).setCell ⟨A4,1,none⟩ (.int .i64 ((rd_T68 l1_1 x55_3).f1))).heap[A8]? = some (.cells #[.slice A348_0 ((rd_T68 l1_1 0).f0).length c348_0,.int .i64 ((rd_T68 l1_1 0).f1)] 68 (0,0))):=⟨vB A1⟩
         have n3_:Aside0 (((w48.setCell ⟨A4,0,none⟩ (.slice A353_0 ((rd_T68 l1_1 x55_3).f0).length c353_0)).setCell ⟨A4,1,none⟩ (.int .i64 ((rd_T68 l1_1 x55_3).f1))).heap[A4]? = some (.cells #[.slice A353_0 ((rd_T68 l1_1 x55_3).f0).length c353_0,.int .i64 ((rd_T68 l1_1 x55_3).f1)] 68 (0,0))):=⟨vP A3⟩
         have n4_:Aside0 (Below w.heap.size w ((w48.setCell ⟨A4,0,none⟩ (.slice A353_0 ((rd_T68 l1_1 x55_3).f0).length c353_0)).setCell ⟨A4,1,none⟩ (.int .i64 ((rd_T68 l1_1 x55_3).f1)))):=⟨hV HB⟩
         (try clear A0)
         (try clear A2)
         (try clear A1)
         (try clear A3)
         (try clear HB)
         generalize ((w48.setCell ⟨A4,0,none⟩ (.slice A353_0 ((rd_T68 l1_1 x55_3).f0).length c353_0)).setCell ⟨A4,1,none⟩ (.int .i64 ((rd_T68 l1_1 x55_3).f1)))=w60 at n0_ n1_ n2_ n3_ n4_ ⊢
         have A0:=n0_
         have A2:=n1_
         have A1:=n2_
         have A3:=n3_
         have HB:=n4_
         clear n0_ n1_ n2_ n3_ n4_
         replace A0:=Aside0.mk (blk_drew A0.out)
         replace A2:=Aside0.mk (blk_drew A2.out)
         replace A1:=Aside0.mk (blk_drew A1.out)
         replace A3:=Aside0.mk (blk_drew A3.out)
         replace HB:=Aside0.mk (below_drew1 HB.out)
         have K1:0≤(((rd_T68 l1_1 x55_3).f1):Int):=dT
         have K2:((rd_T68 l1_1 x55_3).f1) < (l0_2.length:Int):=dT
         obtain ⟨F4,e356,E1⟩:=Kd.at_int B1.out ((rd_T68 l1_1 x55_3).f1) K1 K2
         have E2:=E1
         cases e356
         replace E1:=xc HB E1
         replace K1:=eq_true K1
         replace K2:=eq_true K2
         have K3:0≤(((rd_T68 l1_1 0).f1):Int):=dT
         have K4:((rd_T68 l1_1 0).f1) < (l0_2.length:Int):=dT
         obtain ⟨N3,e357,E3⟩:=Kd.at_int B1.out ((rd_T68 l1_1 0).f1) K3 K4
         have E4:=E3
         obtain rfl:F4=N3:=(by injection e357)
         replace E3:=xc HB E3
         replace K3:=eq_true K3
         replace K4:=eq_true K4
         refine start_ (n:=29) (S:=fun w'=>w'.cell? ⟨A4,0,none⟩=some (.slice A353_0 ((rd_T68 l1_1 x55_3).f0).length c353_0)∧w'.cell? ⟨A4,1,none⟩=some (.int .i64 ((rd_T68 l1_1 x55_3).f1))∧w'.cell? ⟨A8,0,none⟩=some (.slice A348_0 ((rd_T68 l1_1 0).f0).length c348_0)∧w'.cell? ⟨A8,1,none⟩=some (.int .i64 ((rd_T68 l1_1 0).f1))∧w'.cell? ⟨A5,0,none⟩=some (.slice A0_0 l0_0.length c0_0)∧w'.cell? ⟨A5,1,none⟩=some (.slice A0_1 l0_1.length c0_1)∧w'.cell? ⟨A5,2,none⟩=some (.slice (some F4) l0_2.length c0_2)∧w'.cell? (F4.add (((rd_T68 l1_1 x55_3).f1)).toNat)=some (.int .i64 (rd l0_2 ((rd_T68 l1_1 x55_3).f1)))∧w'.cell? (F4.add (((rd_T68 l1_1 0).f1)).toNat)=some (.int .i64 (rd l0_2 ((rd_T68 l1_1 0).f1)))) (ds:=[]) #[false,false,false,false,false,false,false,false,false,false,false,false,false,false,false,false,false,false,false,false,false,false,false,false,false,false,false,false,false] (by kernel_rfl) rfl rfl ⟨cz0 A3,cz1 A3,cz0 A1,cz1 A1,cz0 A0,cz1 A0,cz2 A0,((HB.out.cell (World.block_lt_of_cell? w _ E2)).trans E2),((HB.out.cell (World.block_lt_of_cell? w _ E4)).trans E4)⟩ (fun hHeld=> ?_);refine with_tabW impl_declsOK.tab15 impl_declsOK.bits15 (fun HT_ HW_=> ?_)
         generalize w60.drew=w61 at A0 A2 A1 A3 HB E1 E3 hHeld ⊢
         refine pureS 0 59 HT_ rfl rfl ?_
         refine pureS 3 62 HT_ rfl rfl ?_
         refine takeS 1 60 HT_ HW_ rfl rfl hHeld ?_ impl_declsOK.a1
         refine pureS 2 61 HT_ rfl rfl ?_
         refine takeS 4 63 HT_ HW_ rfl rfl hHeld ?_ impl_declsOK.a1
         refine pureS 5 64 HT_ rfl rfl ?_
         refine pureS 6 65 HT_ rfl rfl ?_
         refine pureS 7 66 HT_ rfl rfl ?_
         refine pureS 9 68 HT_ rfl rfl ?_
         refine takeS 8 67 HT_ HW_ rfl rfl hHeld ?_ impl_declsOK.a1
         refine takeS 10 69 HT_ HW_ rfl rfl hHeld ?_ impl_declsOK.a1
         refine one_ (i:=11) (N:=some 70) #[true,true,true,true,true,true,true,true,true,true,true,true,false,false,false,false,false,false,false,false,false,false,false,false,false,false,false,false,false] rfl rfl (one_of HT_.out (by kernel_rfl)) (by decide) (fun K hK=> ?_)
         refine goes_ Try.func59 (by kernel_rfl) rfl #[.agg #[.slice A0_0 l0_0.length c0_0,.slice A0_1 l0_1.length c0_1,.slice (some F4) l0_2.length c0_2],.int .i64 ((rd_T68 l1_1 x55_3).f1)] (by rfl) rfl rfl impl_declsOK.a3 ?_
         with_reducible refine (impl_order_has.calls _ _ l0_0 _ _ l0_1 _ _ l0_2 ((rd_T68 l1_1 x55_3).f1) true _ ?side1 ?side2 ?side3 ?side4 ?side5 ?side6 A54.out).mono ?_
         (case side1=>exact cB C2 HB)
         (case side2=>exact C3.out)
         (case side3=>exact cB C4 HB)
         (case side4=>exact C5.out)
         (case side5=>exact cB B1 HB)
         (case side6=>exact C6.out)
         rintro e w62 ⟨rfl,hb⟩
         refine ⟨_,rfl,?_⟩
         replace A0:=bB A0 hb
         replace A2:=bB A2 hb
         replace A1:=bB A1 hb
         replace A3:=bB A3 hb
         replace HB:=hS HB hb
         (try clear hb)
         (try clear hb2)
         (try clear hk)
         (try clear hi)
         refine hK.out _ _ ⟨cz0 A3,cz1 A3,cz0 A1,cz1 A1,cz0 A0,cz1 A0,cz2 A0,((HB.out.cell (World.block_lt_of_cell? w _ E2)).trans E2),((HB.out.cell (World.block_lt_of_cell? w _ E4)).trans E4)⟩ (fun hHeld=> ?_)
         clear hK K
         refine norm_ (a':=?_) ?_ ?_
         rotate_left
         ·show Act.put _ (some 70) _=_
          simp only [Act.put,List.setIfInBounds_toArray,List.set_cons_zero,List.set_cons_succ,i64_w,i32_w]
          rfl
         refine pureS 12 71 HT_ rfl rfl ?_
         refine pureS 13 72 HT_ rfl rfl ?_
         refine pureS 14 73 HT_ rfl rfl ?_
         refine pureS 15 74 HT_ rfl rfl ?_
         refine pureS 17 76 HT_ rfl rfl ?_
         refine pureS 21 80 HT_ rfl rfl ?_
         refine pureS 23 82 HT_ rfl rfl ?_
         refine takeS 16 75 HT_ HW_ rfl rfl hHeld ?_ impl_declsOK.a1
         refine takeS 18 77 HT_ HW_ rfl rfl hHeld ?_ impl_declsOK.a1
         refine pureS 19 78 HT_ rfl rfl ?_
         refine takeS 20 79 HT_ HW_ rfl rfl hHeld ?_ impl_declsOK.a1
         refine takeS 22 81 HT_ HW_ rfl rfl hHeld ?_ impl_declsOK.a1
         refine takeS 24 83 HT_ HW_ rfl rfl hHeld ?_ impl_declsOK.a1
         refine pureS 25 84 HT_ rfl rfl ?_
         refine takeS 26 85 HT_ HW_ rfl rfl hHeld ?_ impl_declsOK.a1
         refine pureS 27 86 HT_ rfl rfl ?_
         refine pureS 28 87 HT_ rfl rfl ?_
         refine done_ (done_of HT_.out (by kernel_rfl)) ?_
         try go_wp2
         go_meet
         case rel=>exact ⟨_,(((rd l0_2 ((rd_T68 l1_1 x55_3).f1)) != (rd l0_2 ((rd_T68 l1_1 0).f1)))),impl_declsOK.a4,H',⟨impl_declsOK.a6⟩,⟨vB A0⟩,⟨vB A2⟩,⟨vB A1⟩,⟨vB A3⟩,⟨hV HB⟩⟩
        ·replace c55:=Bool.eq_false_iff.mpr c55
         subst c55
         rw [if_neg (show ¬ (false=true) by decide)] at H
         have H':=Aside0.mk H
         clear H
         try go_wp2
         have n0_:Aside0 (((w48.setCell ⟨A4,0,none⟩ (.slice A353_0 ((rd_T68 l1_1 x55_3).f0).length c353_0)).setCell ⟨A4,1,none⟩ (.int .i64 ((rd_T68 l1_1 x55_3).f1))).heap[A5]? = some (.cells #[.slice A0_0 l0_0.length c0_0,.slice A0_1 l0_1.length c0_1,.slice A0_2 l0_2.length c0_2] 57 (0,0))):=⟨vB A0⟩
         have n1_:Aside0 (((w48.setCell ⟨A4,0,none⟩ (.slice A353_0 ((rd_T68 l1_1 x55_3).f0).length c353_0)).setCell ⟨A4,1,none⟩ (.int .i64 ((rd_T68 l1_1 x55_3).f1))).heap[D0]? = some (.cells #[.string a1_0,.slice (some C7) l1_1.length c1_1,.bool a1_2,.bool a1_3,.int .i64 a1_4] 50 (0,0))):=⟨vB A2⟩
         have n2_:Aside0 (((w48.setCell ⟨A4,0,none⟩ (.slice A353_0 ((rd_T68 l1_1 x55_3).f0).length c353_0)).setCell ⟨A4,1,none⟩ (.int .i64 ((rd_T68 l1_1 x55_3).f1))).heap[A8]? = some (.cells #[.slice A348_0 ((rd_T68 l1_1 0).f0).length c348_0,.int .i64 ((rd_T68 l1_1 0).f1)] 68 (0,0))):=⟨vB A1⟩
         have n3_:Aside0 (((w48.setCell ⟨A4,0,none⟩ (.slice A353_0 ((rd_T68 l1_1 x55_3).f0).length c353_0)).setCell ⟨A4,1,none⟩ (.int .i64 ((rd_T68 l1_1 x55_3).f1))).heap[A4]? = some (.cells #[.slice A353_0 ((rd_T68 l1_1 x55_3).f0).length c353_0,.int .i64 ((rd_T68 l1_1 x55_3).f1)] 68 (0,0))):=⟨vP A3⟩
         have n4_:Aside0 (Below w.heap.size w ((w48.setCell ⟨A4,0,none⟩ (.slice A353_0 ((rd_T68 l1_1 x55_3).f0).length c353_0)).setCell ⟨A4,1,none⟩ (.int .i64 ((rd_T68 l1_1 x55_3).f1)))):=⟨hV HB⟩
         (try clear A0)
         (try clear A2)
         (try clear A1)
         (try clear A3)
         (try clear HB)
         generalize ((w48.setCell ⟨A4,0,none⟩ (.slice A353_0 ((rd_T68 l1_1 x55_3).f0).length c353_0)).setCell ⟨A4,1,none⟩ (.int .i64 ((rd_T68 l1_1 x55_3).f1)))=w63 at n0_ n1_ n2_ n3_ n4_ ⊢
         have A0:=n0_
         have A2:=n1_
         have A1:=n2_
         have A3:=n3_
         have HB:=n4_
         clear n0_ n1_ n2_ n3_ n4_
         replace A0:=Aside0.mk (blk_drew A0.out)
         replace A2:=Aside0.mk (blk_drew A2.out)
         replace A1:=Aside0.mk (blk_drew A1.out)
         replace A3:=Aside0.mk (blk_drew A3.out)
         replace HB:=Aside0.mk (below_drew1 HB.out)
         refine start_ (n:=29) (S:=fun w'=>w'.cell? ⟨A4,0,none⟩=some (.slice A353_0 ((rd_T68 l1_1 x55_3).f0).length c353_0)∧w'.cell? ⟨A4,1,none⟩=some (.int .i64 ((rd_T68 l1_1 x55_3).f1))∧w'.cell? ⟨A8,0,none⟩=some (.slice A348_0 ((rd_T68 l1_1 0).f0).length c348_0)∧w'.cell? ⟨A8,1,none⟩=some (.int .i64 ((rd_T68 l1_1 0).f1))∧w'.cell? ⟨A5,0,none⟩=some (.slice A0_0 l0_0.length c0_0)∧w'.cell? ⟨A5,1,none⟩=some (.slice A0_1 l0_1.length c0_1)∧w'.cell? ⟨A5,2,none⟩=some (.slice A0_2 l0_2.length c0_2)) (ds:=[]) #[false,false,false,false,false,false,false,false,false,false,false,false,false,false,false,false,false,false,false,false,false,false,false,false,false,false,false,false,false] (by kernel_rfl) rfl rfl ⟨cz0 A3,cz1 A3,cz0 A1,cz1 A1,cz0 A0,cz1 A0,cz2 A0⟩ (fun hHeld=> ?_);refine with_tabW impl_declsOK.tab15 impl_declsOK.bits15 (fun HT_ HW_=> ?_)
         generalize w63.drew=w64 at A0 A2 A1 A3 HB hHeld ⊢
         refine pureS 0 59 HT_ rfl rfl ?_
         refine pureS 3 62 HT_ rfl rfl ?_
         refine takeS 1 60 HT_ HW_ rfl rfl hHeld ?_ impl_declsOK.a5
         refine pureS 2 61 HT_ rfl rfl ?_
         refine takeS 4 63 HT_ HW_ rfl rfl hHeld ?_ impl_declsOK.a5
         refine pureS 5 64 HT_ rfl rfl ?_
         refine pureS 6 65 HT_ rfl rfl ?_
         refine pureS 7 66 HT_ rfl rfl ?_
         refine pureS 9 68 HT_ rfl rfl ?_
         refine takeS 8 67 HT_ HW_ rfl rfl hHeld ?_ impl_declsOK.a5
         refine takeS 10 69 HT_ HW_ rfl rfl hHeld ?_ impl_declsOK.a5
         refine one_ (i:=11) (N:=some 70) #[true,true,true,true,true,true,true,true,true,true,true,true,false,false,false,false,false,false,false,false,false,false,false,false,false,false,false,false,false] rfl rfl (one_of HT_.out (by kernel_rfl)) (by decide) (fun K hK=> ?_)
         refine goes_ Try.func59 (by kernel_rfl) rfl #[.agg #[.slice A0_0 l0_0.length c0_0,.slice A0_1 l0_1.length c0_1,.slice A0_2 l0_2.length c0_2],.int .i64 ((rd_T68 l1_1 x55_3).f1)] (by rfl) rfl rfl impl_declsOK.a3 ?_
         with_reducible refine (impl_order_has.calls _ _ l0_0 _ _ l0_1 _ _ l0_2 ((rd_T68 l1_1 x55_3).f1) false _ ?side1 ?side2 ?side3 ?side4 ?side5 ?side6 A54.out).mono ?_
         (case side1=>exact cB C2 HB)
         (case side2=>exact C3.out)
         (case side3=>exact cB C4 HB)
         (case side4=>exact C5.out)
         (case side5=>exact cB B1 HB)
         (case side6=>exact C6.out)
         rintro e w65 ⟨rfl,hb⟩
         refine ⟨_,rfl,?_⟩
         replace A0:=bB A0 hb
         replace A2:=bB A2 hb
         replace A1:=bB A1 hb
         replace A3:=bB A3 hb
         replace HB:=hS HB hb
         (try clear hb)
         (try clear hb2)
         (try clear hk)
         (try clear hi)
         refine hK.out _ _ ⟨cz0 A3,cz1 A3,cz0 A1,cz1 A1,cz0 A0,cz1 A0,cz2 A0⟩ (fun hHeld=> ?_)
         clear hK K
         refine norm_ (a':=?_) ?_ ?_
         rotate_left
         ·show Act.put _ (some 70) _=_
          simp only [Act.put,List.setIfInBounds_toArray,List.set_cons_zero,List.set_cons_succ,i64_w,i32_w]
          rfl
         refine pureS 12 71 HT_ rfl rfl ?_
         refine pureS 13 72 HT_ rfl rfl ?_
         refine pureS 14 73 HT_ rfl rfl ?_
         refine undS 15 74 HT_ rfl rfl ?_
         refine undS 16 75 HT_ rfl rfl ?_
         refine undS 17 76 HT_ rfl rfl ?_
         refine undS 18 77 HT_ rfl rfl ?_
         refine undS 19 78 HT_ rfl rfl ?_
         refine undS 20 79 HT_ rfl rfl ?_
         refine undS 21 80 HT_ rfl rfl ?_
         refine undS 22 81 HT_ rfl rfl ?_
         refine undS 23 82 HT_ rfl rfl ?_
         refine undS 24 83 HT_ rfl rfl ?_
         refine undS 25 84 HT_ rfl rfl ?_
         refine undS 26 85 HT_ rfl rfl ?_
         refine undS 27 86 HT_ rfl rfl ?_
         refine pureS 28 87 HT_ rfl rfl ?_
         refine done_ (done_of HT_.out (by kernel_rfl)) ?_
         try go_wp2
         go_meet
         case rel=>exact ⟨_,(true),impl_declsOK.a4,H',⟨impl_declsOK.a6⟩,⟨vB A0⟩,⟨vB A2⟩,⟨vB A1⟩,⟨vB A3⟩,⟨hV HB⟩⟩
       ·rw [if_neg c53] at H
        have F3:((((rd_T68 l1_1 x55_3).f0).length:Int) == (((rd_T68 l1_1 0).f0).length:Int))=false:=beq_eq_false_iff_ne.mpr c53
        have N1:((((rd_T68 l1_1 x55_3).f0).length:Int) != (((rd_T68 l1_1 0).f0).length:Int))=true:=bne_iff_ne.mpr c53
        have N2:(((rd_T68 l1_1 x55_3).f0).length == ((rd_T68 l1_1 0).f0).length)=false:=by first | simpa using c53 | (simp at c53 ⊢;omega)
        (first | rw [F3] | (simp only [i64_w,i32_w];rw [F3]) | skip)
        have H':=Aside0.mk H
        clear H
        try go_wp2
        have n0_:Aside0 (((w48.setCell ⟨A4,0,none⟩ (.slice A353_0 ((rd_T68 l1_1 x55_3).f0).length c353_0)).setCell ⟨A4,1,none⟩ (.int .i64 ((rd_T68 l1_1 x55_3).f1))).heap[A5]? = some (.cells #[.slice A0_0 l0_0.length c0_0,.slice A0_1 l0_1.length c0_1,.slice A0_2 l0_2.length c0_2] 57 (0,0))):=⟨vB A0⟩
        have n1_:Aside0 (((w48.setCell ⟨A4,0,none⟩ (.slice A353_0 ((rd_T68 l1_1 x55_3).f0).length c353_0)).setCell ⟨A4,1,none⟩ (.int .i64 ((rd_T68 l1_1 x55_3).f1))).heap[D0]? = some (.cells #[.string a1_0,.slice (some C7) l1_1.length c1_1,.bool a1_2,.bool a1_3,.int .i64 a1_4] 50 (0,0))):=⟨vB A2⟩
        have n2_:Aside0 (((w48.setCell ⟨A4,0,none⟩ (.slice A353_0 ((rd_T68 l1_1 x55_3).f0).length c353_0)).setCell ⟨A4,1,none⟩ (.int .i64 ((rd_T68 l1_1 x55_3).f1))).heap[A8]? = some (.cells #[.slice A348_0 ((rd_T68 l1_1 0).f0).length c348_0,.int .i64 ((rd_T68 l1_1 0).f1)] 68 (0,0))):=⟨vB A1⟩
        have n3_:Aside0 (((w48.setCell ⟨A4,0,none⟩ (.slice A353_0 ((rd_T68 l1_1 x55_3).f0).length c353_0)).setCell ⟨A4,1,none⟩ (.int .i64 ((rd_T68 l1_1 x55_3).f1))).heap[A4]? = some (.cells #[.slice A353_0 ((rd_T68 l1_1 x55_3).f0).length c353_0,.int .i64 ((rd_T68 l1_1 x55_3).f1)] 68 (0,0))):=⟨vP A3⟩
        have n4_:Aside0 (Below w.heap.size w ((w48.setCell ⟨A4,0,none⟩ (.slice A353_0 ((rd_T68 l1_1 x55_3).f0).length c353_0)).setCell ⟨A4,1,none⟩ (.int .i64 ((rd_T68 l1_1 x55_3).f1)))):=⟨hV HB⟩
        (try clear A0)
        (try clear A2)
        (try clear A1)
        (try clear A3)
        (try clear HB)
        generalize ((w48.setCell ⟨A4,0,none⟩ (.slice A353_0 ((rd_T68 l1_1 x55_3).f0).length c353_0)).setCell ⟨A4,1,none⟩ (.int .i64 ((rd_T68 l1_1 x55_3).f1)))=w66 at n0_ n1_ n2_ n3_ n4_ ⊢
        have A0:=n0_
        have A2:=n1_
        have A1:=n2_
        have A3:=n3_
        have HB:=n4_
        clear n0_ n1_ n2_ n3_ n4_
        replace A0:=Aside0.mk (blk_drew A0.out)
        replace A2:=Aside0.mk (blk_drew A2.out)
        replace A1:=Aside0.mk (blk_drew A1.out)
        replace A3:=Aside0.mk (blk_drew A3.out)
        replace HB:=Aside0.mk (below_drew1 HB.out)
        refine start_ (n:=29) (S:=fun w'=>w'.cell? ⟨A4,0,none⟩=some (.slice A353_0 ((rd_T68 l1_1 x55_3).f0).length c353_0)∧w'.cell? ⟨A4,1,none⟩=some (.int .i64 ((rd_T68 l1_1 x55_3).f1))∧w'.cell? ⟨A8,0,none⟩=some (.slice A348_0 ((rd_T68 l1_1 0).f0).length c348_0)∧w'.cell? ⟨A8,1,none⟩=some (.int .i64 ((rd_T68 l1_1 0).f1))) (ds:=[]) #[false,false,false,false,false,false,false,false,false,false,false,false,false,false,false,false,false,false,false,false,false,false,false,false,false,false,false,false,false] (by kernel_rfl) rfl rfl ⟨cz0 A3,cz1 A3,cz0 A1,cz1 A1⟩ (fun hHeld=> ?_);refine with_tabW impl_declsOK.tab15 impl_declsOK.bits15 (fun HT_ HW_=> ?_)
        generalize w66.drew=w67 at A0 A2 A1 A3 HB hHeld ⊢
        refine pureS 0 59 HT_ rfl rfl ?_
        refine pureS 3 62 HT_ rfl rfl ?_
        refine takeS 1 60 HT_ HW_ rfl rfl hHeld ?_ (by rintro w' ⟨s0,s1,s2,s3⟩;go_simp;with_reducible rfl)
        refine pureS 2 61 HT_ rfl rfl ?_
        refine takeS 4 63 HT_ HW_ rfl rfl hHeld ?_ (by rintro w' ⟨s0,s1,s2,s3⟩;go_simp;with_reducible rfl)
        refine pureS 5 64 HT_ rfl rfl ?_
        refine pureS 6 65 HT_ rfl rfl ?_
        refine pureS 7 66 HT_ rfl rfl ?_
        refine undS 8 67 HT_ rfl rfl ?_
        refine undS 9 68 HT_ rfl rfl ?_
        refine undS 10 69 HT_ rfl rfl ?_
        refine undS 11 70 HT_ rfl rfl ?_
        refine undS 12 71 HT_ rfl rfl ?_
        refine pureS 13 72 HT_ rfl rfl ?_
        refine pureS 14 73 HT_ rfl rfl ?_
        refine undS 15 74 HT_ rfl rfl ?_
        refine undS 16 75 HT_ rfl rfl ?_
        refine undS 17 76 HT_ rfl rfl ?_
        refine undS 18 77 HT_ rfl rfl ?_
        refine undS 19 78 HT_ rfl rfl ?_
        refine undS 20 79 HT_ rfl rfl ?_
        refine undS 21 80 HT_ rfl rfl ?_
        refine undS 22 81 HT_ rfl rfl ?_
        refine undS 23 82 HT_ rfl rfl ?_
        refine undS 24 83 HT_ rfl rfl ?_
        refine undS 25 84 HT_ rfl rfl ?_
        refine undS 26 85 HT_ rfl rfl ?_
        refine undS 27 86 HT_ rfl rfl ?_
        refine pureS 28 87 HT_ rfl rfl ?_
        refine done_ (done_of HT_.out (by kernel_rfl)) ?_
        try go_wp2
        go_meet
        case rel=>exact ⟨_,(true),impl_declsOK.a4,H',⟨impl_declsOK.a6⟩,⟨vB A0⟩,⟨vB A2⟩,⟨vB A1⟩,⟨vB A3⟩,⟨hV HB⟩⟩
      clear J8
      obtain ⟨kq,x87_46,rfl,HA,HJ46,A0,A2,A1,A3,HB⟩:=hcut
      cases kq with
      | zero=>exact absurd HA.out (by simp [impl_declsOK.j3])
      | succ kj46=>
       have H:=HA.out
       clear HA
       simp only [impl_declsOK.j3] at H
       by_cases c68:x87_46=true
       ·subst c68
        rw [if_pos rfl] at H
        obtain rfl:=Option.some.inj H
        go_wp2
        go_ret
        exact ⟨impl_declsOK.a2,hV HB⟩
       replace c68:=Bool.eq_false_iff.mpr c68
       subst c68
       rw [if_neg (show ¬ (false=true) by decide)] at H
       have H':=Aside0.mk H
       clear H
       have Z6:=F8.out
       have Z7:=F7.out
       have Z8:=G0.out
       have Z9:=F9.out
       have a8:=G2.out
       have a9:=G1.out
       obtain ⟨M0,M1,M2,M3⟩:=cf2 A3
       go_wp2
       go_loopg [91] kj46 (fun kq v91 w'=> ∃ (x91_5:Int),v91=.int .i64 x91_5∧Aside0 (impl_declsOK.l2 kq l1_1 (l1_1.length:Int) x55_3 ((rd_T68 l1_1 x55_3).f0) (((rd_T68 l1_1 x55_3).f0).length:Int) x91_5 l0_0 l0_1 l0_2 ((rd_T68 l1_1 0).f0) ((rd_T68 l1_1 0).f1)=some r)∧Aside0 (kq≤kj46)∧Aside0 (w'.heap[A5]? = some (.cells #[(.slice A0_0 l0_0.length c0_0),(.slice A0_1 l0_1.length c0_1),(.slice A0_2 l0_2.length c0_2)] 57 (0,0)))∧Aside0 (w'.heap[D0]? = some (.cells #[.string a1_0,(.slice (some C7) l1_1.length c1_1),.bool a1_2,.bool a1_3,.int .i64 a1_4] 50 (0,0)))∧Aside0 (w'.heap[A8]? = some (.cells #[(.slice A348_0 ((rd_T68 l1_1 0).f0).length c348_0),.int .i64 ((rd_T68 l1_1 0).f1)] 68 (0,0)))∧Aside0 (w'.heap[A4]? = some (.cells #[(.slice A353_0 ((rd_T68 l1_1 x55_3).f0).length c353_0),.int .i64 ((rd_T68 l1_1 x55_3).f1)] 68 (0,0)))∧Aside0 (Below w.heap.size w w'))
       case atStart=>exact ⟨(0),impl_declsOK.a4,H',⟨Nat.le_refl _⟩,⟨vB A0⟩,⟨vB A2⟩,⟨vB A1⟩,⟨vB A3⟩,⟨hV HB⟩⟩
       clear H'
       try clear c68
       try clear M0
       try clear M2
       try clear M1
       try clear M3
       obtain ⟨x91_5,rfl,HA,HK5,A0,A2,A1,A3,HB⟩:=hrel
       cases gk with
       | zero=>exact absurd HA.out (by simp [impl_declsOK.l2])
       | succ k5=>
        have H:=HA.out
        clear HA
        simp only [impl_declsOK.l2] at H
        by_cases c73:x91_5 < (((rd_T68 l1_1 x55_3).f0).length:Int)
        rotate_left
        ·rw [if_neg c73] at H
         have N4:=decide_eq_false c73
         clear c73
         have H':=Aside0.mk H
         clear H
         go_wp2
         go_roundg k5
         case measure=>have:=HJ2.out;have:=HK2.out;have:=HK3.out;have:=HJ46.out;have:=HK5.out;omega
         case rel=>exact ⟨(wrap64 (x55_3 + 1)),impl_declsOK.a4,H',⟨by have:=HJ2.out;have:=HK2.out;have:=HK3.out;have:=HJ46.out;have:=HK5.out;omega⟩,⟨vB A0⟩,⟨vB A2⟩,⟨vB A1⟩,⟨hV HB⟩⟩
        rw [if_pos c73] at H
        have N4:=decide_eq_true c73
        clear c73
        by_cases c74:0≤x91_5
        rotate_left
        ·rw [if_neg c74] at H
         exact absurd H (by simp)
        rw [if_pos c74] at H
        have b0:=decide_eq_true c74
        clear c74
        by_cases c75:x91_5 < (((rd_T68 l1_1 x55_3).f0).length:Int)
        rotate_left
        ·rw [if_neg c75] at H
         exact absurd H (by simp)
        rw [if_pos c75] at H
        have b1:=decide_eq_true c75
        clear c75
        replace H:=Option.bind_eq_some_iff.mp H
        obtain ⟨t359,A760,H⟩:=H
        replace H:(if t359=true then (if 0≤(rd ((rd_T68 l1_1 x55_3).f0) x91_5) then (if (rd ((rd_T68 l1_1 x55_3).f0) x91_5) < (l0_2.length:Int) then (if x91_5 < (((rd_T68 l1_1 0).f0).length:Int) then (if 0≤(rd ((rd_T68 l1_1 0).f0) x91_5) then (if (rd ((rd_T68 l1_1 0).f0) x91_5) < (l0_2.length:Int) then (if (rd l0_2 (rd ((rd_T68 l1_1 x55_3).f0) x91_5))=(rd l0_2 (rd ((rd_T68 l1_1 0).f0) x91_5)) then (impl_declsOK.l2 k5 l1_1 (l1_1.length:Int) x55_3 ((rd_T68 l1_1 x55_3).f0) (((rd_T68 l1_1 x55_3).f0).length:Int) (wrap64 (x91_5 + 1)) l0_0 l0_1 l0_2 ((rd_T68 l1_1 0).f0) ((rd_T68 l1_1 0).f1)) else (some false)) else (none)) else (none)) else (none)) else (none)) else (none)) else (some false))=some r:=H
        have A76:=Aside0.mk A760
        clear A760
        by_cases c77:t359=true
        ·subst c77
         rw [if_pos rfl] at H
         by_cases c78:0≤(rd ((rd_T68 l1_1 x55_3).f0) x91_5)
         rotate_left
         ·rw [if_neg c78] at H
          exact absurd H (by simp)
         rw [if_pos c78] at H
         have b2:=decide_eq_true c78
         clear c78
         by_cases c79:(rd ((rd_T68 l1_1 x55_3).f0) x91_5) < (l0_2.length:Int)
         rotate_left
         ·rw [if_neg c79] at H
          exact absurd H (by simp)
         rw [if_pos c79] at H
         have b3:=decide_eq_true c79
         clear c79
         by_cases c80:x91_5 < (((rd_T68 l1_1 0).f0).length:Int)
         rotate_left
         ·rw [if_neg c80] at H
          exact absurd H (by simp)
         rw [if_pos c80] at H
         have b4:=decide_eq_true c80
         clear c80
         by_cases c81:0≤(rd ((rd_T68 l1_1 0).f0) x91_5)
         rotate_left
         ·rw [if_neg c81] at H
          exact absurd H (by simp)
         rw [if_pos c81] at H
         have b5:=decide_eq_true c81
         clear c81
         by_cases c82:(rd ((rd_T68 l1_1 0).f0) x91_5) < (l0_2.length:Int)
         rotate_left
         ·rw [if_neg c82] at H
          exact absurd H (by simp)
         rw [if_pos c82] at H
         have b6:=decide_eq_true c82
         clear c82
         by_cases c83:(rd l0_2 (rd ((rd_T68 l1_1 x55_3).f0) x91_5))=(rd l0_2 (rd ((rd_T68 l1_1 0).f0) x91_5))
         ·rw [if_pos c83] at H
          have N5:((rd l0_2 (rd ((rd_T68 l1_1 x55_3).f0) x91_5)) == (rd l0_2 (rd ((rd_T68 l1_1 0).f0) x91_5)))=true:=beq_iff_eq.mpr c83
          have N6:((rd l0_2 (rd ((rd_T68 l1_1 x55_3).f0) x91_5)) != (rd l0_2 (rd ((rd_T68 l1_1 0).f0) x91_5)))=false:=bne_eq_false_iff_eq.mpr c83
          clear c83
          have H':=Aside0.mk H
          clear H
          have C8:0≤(x91_5:Int):=dT
          have C9:x91_5 < (((rd_T68 l1_1 x55_3).f0).length:Int):=dT
          obtain ⟨K8,e358,B8⟩:=Kd.at_int F6.out x91_5 C8 C9
          cases e358
          replace B8:=xc HB B8
          replace C8:=eq_true C8
          replace C9:=eq_true C9
          try go_wp2
          replace A0:=Aside0.mk (blk_drew A0.out)
          replace A2:=Aside0.mk (blk_drew A2.out)
          replace A1:=Aside0.mk (blk_drew A1.out)
          replace A3:=Aside0.mk (blk_drew A3.out)
          replace HB:=Aside0.mk (below_drew1 HB.out)
          have E7:0≤((rd ((rd_T68 l1_1 x55_3).f0) x91_5):Int):=dT
          have E8:(rd ((rd_T68 l1_1 x55_3).f0) x91_5) < (l0_2.length:Int):=dT
          obtain ⟨B9,e360,B2⟩:=Kd.at_int B1.out (rd ((rd_T68 l1_1 x55_3).f0) x91_5) E7 E8
          have B3:=B2
          cases e360
          replace B2:=xc HB B2
          replace E7:=eq_true E7
          replace E8:=eq_true E8
          have E9:0≤(x91_5:Int):=dT
          have F0:x91_5 < (((rd_T68 l1_1 0).f0).length:Int):=dT
          obtain ⟨F5,e361,B4⟩:=Kd.at_int D7.out x91_5 E9 F0
          have B5:=B4
          cases e361
          replace B4:=xc HB B4
          replace E9:=eq_true E9
          replace F0:=eq_true F0
          have F1:0≤((rd ((rd_T68 l1_1 0).f0) x91_5):Int):=dT
          have F2:(rd ((rd_T68 l1_1 0).f0) x91_5) < (l0_2.length:Int):=dT
          obtain ⟨J5,e362,B6⟩:=Kd.at_int B1.out (rd ((rd_T68 l1_1 0).f0) x91_5) F1 F2
          have B7:=B6
          obtain rfl:B9=J5:=(by injection e362)
          replace B6:=xc HB B6
          replace F1:=eq_true F1
          replace F2:=eq_true F2
          refine start_ (n:=21) (S:=fun w'=>w'.cell? ⟨A5,0,none⟩=some (.slice A0_0 l0_0.length c0_0)∧w'.cell? ⟨A5,1,none⟩=some (.slice A0_1 l0_1.length c0_1)∧w'.cell? ⟨A5,2,none⟩=some (.slice (some B9) l0_2.length c0_2)∧w'.cell? ⟨A8,0,none⟩=some (.slice (some F5) ((rd_T68 l1_1 0).f0).length c348_0)∧w'.cell? ⟨A8,1,none⟩=some (.int .i64 ((rd_T68 l1_1 0).f1))∧w'.cell? (B9.add ((rd ((rd_T68 l1_1 x55_3).f0) x91_5)).toNat)=some (.int .i64 (rd l0_2 (rd ((rd_T68 l1_1 x55_3).f0) x91_5)))∧w'.cell? (F5.add (x91_5).toNat)=some (.int .i64 (rd ((rd_T68 l1_1 0).f0) x91_5))∧w'.cell? (B9.add ((rd ((rd_T68 l1_1 0).f0) x91_5)).toNat)=some (.int .i64 (rd l0_2 (rd ((rd_T68 l1_1 0).f0) x91_5)))) (ds:=[]) #[false,false,false,false,false,false,false,false,false,false,false,false,false,false,false,false,false,false,false,false,false] (by kernel_rfl) rfl rfl ⟨cz0 A0,cz1 A0,cz2 A0,cz0 A1,cz1 A1,((HB.out.cell (World.block_lt_of_cell? w _ B3)).trans B3),((HB.out.cell (World.block_lt_of_cell? w _ B5)).trans B5),((HB.out.cell (World.block_lt_of_cell? w _ B7)).trans B7)⟩ (fun hHeld=> ?_);refine with_tabW impl_declsOK.tab20 impl_declsOK.bits20 (fun HT_ HW_=> ?_)
          generalize wr.drew=w84 at A0 A2 A1 A3 HB B2 B4 B6 hHeld ⊢
          refine pureS 1 97 HT_ rfl rfl ?_
          refine takeS 0 96 HT_ HW_ rfl rfl hHeld ?_ impl_declsOK.a0
          refine one_ (i:=2) (N:=some 98) #[true,true,true,false,false,false,false,false,false,false,false,false,false,false,false,false,false,false,false,false,false] rfl rfl (one_of HT_.out (by kernel_rfl)) (by decide) (fun K hK=> ?_)
          refine goes_ Try.func59 (by kernel_rfl) rfl #[.agg #[.slice A0_0 l0_0.length c0_0,.slice A0_1 l0_1.length c0_1,.slice (some B9) l0_2.length c0_2],.int .i64 (rd ((rd_T68 l1_1 x55_3).f0) x91_5)] (by rfl) rfl rfl impl_declsOK.a3 ?_
          with_reducible refine (impl_order_has.calls _ _ l0_0 _ _ l0_1 _ _ l0_2 (rd ((rd_T68 l1_1 x55_3).f0) x91_5) true _ ?side1 ?side2 ?side3 ?side4 ?side5 ?side6 A76.out).mono ?_
          (case side1=>exact cB C2 HB)
          (case side2=>exact C3.out)
          (case side3=>exact cB C4 HB)
          (case side4=>exact C5.out)
          (case side5=>exact cB B1 HB)
          (case side6=>exact C6.out)
          rintro e w85 ⟨rfl,hb⟩
          refine ⟨_,rfl,?_⟩
          replace A0:=bB A0 hb
          replace A2:=bB A2 hb
          replace A1:=bB A1 hb
          replace A3:=bB A3 hb
          replace HB:=hS HB hb
          (try clear hb)
          (try clear hb2)
          (try clear hk)
          (try clear hi)
          refine hK.out _ _ ⟨cz0 A0,cz1 A0,cz2 A0,cz0 A1,cz1 A1,((HB.out.cell (World.block_lt_of_cell? w _ B3)).trans B3),((HB.out.cell (World.block_lt_of_cell? w _ B5)).trans B5),((HB.out.cell (World.block_lt_of_cell? w _ B7)).trans B7)⟩ (fun hHeld=> ?_)
          clear hK K
          refine norm_ (a':=?_) ?_ ?_
          rotate_left
          ·show Act.put _ (some 98) _=_
           simp only [Act.put,List.setIfInBounds_toArray,List.set_cons_zero,List.set_cons_succ,i64_w,i32_w]
           rfl
          refine pureS 3 99 HT_ rfl rfl ?_
          refine pureS 4 100 HT_ rfl rfl ?_
          refine pureS 5 101 HT_ rfl rfl ?_
          refine pureS 7 103 HT_ rfl rfl ?_
          refine pureS 10 106 HT_ rfl rfl ?_
          refine pureS 12 108 HT_ rfl rfl ?_
          refine pureS 14 110 HT_ rfl rfl ?_
          refine takeS 6 102 HT_ HW_ rfl rfl hHeld ?_ impl_declsOK.a0
          refine pureS 8 104 HT_ rfl rfl ?_
          refine takeS 9 105 HT_ HW_ rfl rfl hHeld ?_ impl_declsOK.a0
          refine takeS 11 107 HT_ HW_ rfl rfl hHeld ?_ impl_declsOK.a0
          refine takeS 13 109 HT_ HW_ rfl rfl hHeld ?_ impl_declsOK.a0
          refine pureS 15 111 HT_ rfl rfl ?_
          refine takeS 16 112 HT_ HW_ rfl rfl hHeld ?_ impl_declsOK.a0
          refine pureS 17 113 HT_ rfl rfl ?_
          refine takeS 18 114 HT_ HW_ rfl rfl hHeld ?_ impl_declsOK.a0
          refine pureS 19 115 HT_ rfl rfl ?_
          refine pureS 20 116 HT_ rfl rfl ?_
          refine done_ (done_of HT_.out (by kernel_rfl)) ?_
          try go_wp2
          go_roundg k5
          case measure=>have:=HJ2.out;have:=HK2.out;have:=HK3.out;have:=HJ46.out;have:=HK5.out;omega
          case rel=>exact ⟨(wrap64 (x91_5 + 1)),impl_declsOK.a4,H',⟨by have:=HJ2.out;have:=HK2.out;have:=HK3.out;have:=HJ46.out;have:=HK5.out;omega⟩,⟨vB A0⟩,⟨vB A2⟩,⟨vB A1⟩,⟨vB A3⟩,⟨hV HB⟩⟩
         ·rw [if_neg c83] at H
          have N5:((rd l0_2 (rd ((rd_T68 l1_1 x55_3).f0) x91_5)) == (rd l0_2 (rd ((rd_T68 l1_1 0).f0) x91_5)))=false:=beq_eq_false_iff_ne.mpr c83
          have N6:((rd l0_2 (rd ((rd_T68 l1_1 x55_3).f0) x91_5)) != (rd l0_2 (rd ((rd_T68 l1_1 0).f0) x91_5)))=true:=bne_iff_ne.mpr c83
          obtain rfl:=Option.some.inj H
          have C8:0≤(x91_5:Int):=dT
          have C9:x91_5 < (((rd_T68 l1_1 x55_3).f0).length:Int):=dT
          obtain ⟨K8,e358,B8⟩:=Kd.at_int F6.out x91_5 C8 C9
          cases e358
          replace B8:=xc HB B8
          replace C8:=eq_true C8
          replace C9:=eq_true C9
          try go_wp2
          replace A0:=Aside0.mk (blk_drew A0.out)
          replace A2:=Aside0.mk (blk_drew A2.out)
          replace A1:=Aside0.mk (blk_drew A1.out)
          replace A3:=Aside0.mk (blk_drew A3.out)
          replace HB:=Aside0.mk (below_drew1 HB.out)
          have E7:0≤((rd ((rd_T68 l1_1 x55_3).f0) x91_5):Int):=dT
          have E8:(rd ((rd_T68 l1_1 x55_3).f0) x91_5) < (l0_2.length:Int):=dT
          obtain ⟨B9,e360,B2⟩:=Kd.at_int B1.out (rd ((rd_T68 l1_1 x55_3).f0) x91_5) E7 E8
          have B3:=B2
          cases e360
          replace B2:=xc HB B2
          replace E7:=eq_true E7
          replace E8:=eq_true E8
          have E9:0≤(x91_5:Int):=dT
          have F0:x91_5 < (((rd_T68 l1_1 0).f0).length:Int):=dT
          obtain ⟨F5,e361,B4⟩:=Kd.at_int D7.out x91_5 E9 F0
          have B5:=B4
          cases e361
          replace B4:=xc HB B4
          replace E9:=eq_true E9
          replace F0:=eq_true F0
          have F1:0≤((rd ((rd_T68 l1_1 0).f0) x91_5):Int):=dT
          have F2:(rd ((rd_T68 l1_1 0).f0) x91_5) < (l0_2.length:Int):=dT
          obtain ⟨J5,e362,B6⟩:=Kd.at_int B1.out (rd ((rd_T68 l1_1 0).f0) x91_5) F1 F2
          have B7:=B6
          obtain rfl:B9=J5:=(by injection e362)
          replace B6:=xc HB B6
          replace F1:=eq_true F1
          replace F2:=eq_true F2
          refine start_ (n:=21) (S:=fun w'=>w'.cell? ⟨A5,0,none⟩=some (.slice A0_0 l0_0.length c0_0)∧w'.cell? ⟨A5,1,none⟩=some (.slice A0_1 l0_1.length c0_1)∧w'.cell? ⟨A5,2,none⟩=some (.slice (some B9) l0_2.length c0_2)∧w'.cell? ⟨A8,0,none⟩=some (.slice (some F5) ((rd_T68 l1_1 0).f0).length c348_0)∧w'.cell? ⟨A8,1,none⟩=some (.int .i64 ((rd_T68 l1_1 0).f1))∧w'.cell? (B9.add ((rd ((rd_T68 l1_1 x55_3).f0) x91_5)).toNat)=some (.int .i64 (rd l0_2 (rd ((rd_T68 l1_1 x55_3).f0) x91_5)))∧w'.cell? (F5.add (x91_5).toNat)=some (.int .i64 (rd ((rd_T68 l1_1 0).f0) x91_5))∧w'.cell? (B9.add ((rd ((rd_T68 l1_1 0).f0) x91_5)).toNat)=some (.int .i64 (rd l0_2 (rd ((rd_T68 l1_1 0).f0) x91_5)))) (ds:=[]) #[false,false,false,false,false,false,false,false,false,false,false,false,false,false,false,false,false,false,false,false,false] (by kernel_rfl) rfl rfl ⟨cz0 A0,cz1 A0,cz2 A0,cz0 A1,cz1 A1,((HB.out.cell (World.block_lt_of_cell? w _ B3)).trans B3),((HB.out.cell (World.block_lt_of_cell? w _ B5)).trans B5),((HB.out.cell (World.block_lt_of_cell? w _ B7)).trans B7)⟩ (fun hHeld=> ?_);refine with_tabW impl_declsOK.tab20 impl_declsOK.bits20 (fun HT_ HW_=> ?_)
          generalize wr.drew=w86 at A0 A2 A1 A3 HB B2 B4 B6 hHeld ⊢
          refine pureS 1 97 HT_ rfl rfl ?_
          refine takeS 0 96 HT_ HW_ rfl rfl hHeld ?_ impl_declsOK.a0
          refine one_ (i:=2) (N:=some 98) #[true,true,true,false,false,false,false,false,false,false,false,false,false,false,false,false,false,false,false,false,false] rfl rfl (one_of HT_.out (by kernel_rfl)) (by decide) (fun K hK=> ?_)
          refine goes_ Try.func59 (by kernel_rfl) rfl #[.agg #[.slice A0_0 l0_0.length c0_0,.slice A0_1 l0_1.length c0_1,.slice (some B9) l0_2.length c0_2],.int .i64 (rd ((rd_T68 l1_1 x55_3).f0) x91_5)] (by rfl) rfl rfl impl_declsOK.a3 ?_
          with_reducible refine (impl_order_has.calls _ _ l0_0 _ _ l0_1 _ _ l0_2 (rd ((rd_T68 l1_1 x55_3).f0) x91_5) true _ ?side1 ?side2 ?side3 ?side4 ?side5 ?side6 A76.out).mono ?_
          (case side1=>exact cB C2 HB)
          (case side2=>exact C3.out)
          (case side3=>exact cB C4 HB)
          (case side4=>exact C5.out)
          (case side5=>exact cB B1 HB)
          (case side6=>exact C6.out)
          rintro e w87 ⟨rfl,hb⟩
          refine ⟨_,rfl,?_⟩
          replace A0:=bB A0 hb
          replace A2:=bB A2 hb
          replace A1:=bB A1 hb
          replace A3:=bB A3 hb
          replace HB:=hS HB hb
          (try clear hb)
          (try clear hb2)
          (try clear hk)
          (try clear hi)
          refine hK.out _ _ ⟨cz0 A0,cz1 A0,cz2 A0,cz0 A1,cz1 A1,((HB.out.cell (World.block_lt_of_cell? w _ B3)).trans B3),((HB.out.cell (World.block_lt_of_cell? w _ B5)).trans B5),((HB.out.cell (World.block_lt_of_cell? w _ B7)).trans B7)⟩ (fun hHeld=> ?_)
          clear hK K
          refine norm_ (a':=?_) ?_ ?_
          rotate_left
          ·show Act.put _ (some 98) _=_
           simp only [Act.put,List.setIfInBounds_toArray,List.set_cons_zero,List.set_cons_succ,i64_w,i32_w]
           rfl
          refine pureS 3 99 HT_ rfl rfl ?_
          refine pureS 4 100 HT_ rfl rfl ?_
          refine pureS 5 101 HT_ rfl rfl ?_
          refine pureS 7 103 HT_ rfl rfl ?_
          refine pureS 10 106 HT_ rfl rfl ?_
          refine pureS 12 108 HT_ rfl rfl ?_
          refine pureS 14 110 HT_ rfl rfl ?_
          refine takeS 6 102 HT_ HW_ rfl rfl hHeld ?_ impl_declsOK.a0
          refine pureS 8 104 HT_ rfl rfl ?_
          refine takeS 9 105 HT_ HW_ rfl rfl hHeld ?_ impl_declsOK.a0
          refine takeS 11 107 HT_ HW_ rfl rfl hHeld ?_ impl_declsOK.a0
          refine takeS 13 109 HT_ HW_ rfl rfl hHeld ?_ impl_declsOK.a0
          refine pureS 15 111 HT_ rfl rfl ?_
          refine takeS 16 112 HT_ HW_ rfl rfl hHeld ?_ impl_declsOK.a0
          refine pureS 17 113 HT_ rfl rfl ?_
          refine takeS 18 114 HT_ HW_ rfl rfl hHeld ?_ impl_declsOK.a0
          refine pureS 19 115 HT_ rfl rfl ?_
          refine pureS 20 116 HT_ rfl rfl ?_
          refine done_ (done_of HT_.out (by kernel_rfl)) ?_
          try go_wp2
          go_ret
          exact ⟨impl_declsOK.a2,hV HB⟩
        ·replace c77:=Bool.eq_false_iff.mpr c77
         subst c77
         rw [if_neg (show ¬ (false=true) by decide)] at H
         obtain rfl:=Option.some.inj H
         have C8:0≤(x91_5:Int):=dT
         have C9:x91_5 < (((rd_T68 l1_1 x55_3).f0).length:Int):=dT
         obtain ⟨K8,e358,B8⟩:=Kd.at_int F6.out x91_5 C8 C9
         cases e358
         replace B8:=xc HB B8
         replace C8:=eq_true C8
         replace C9:=eq_true C9
         try go_wp2
         replace A0:=Aside0.mk (blk_drew A0.out)
         replace A2:=Aside0.mk (blk_drew A2.out)
         replace A1:=Aside0.mk (blk_drew A1.out)
         replace A3:=Aside0.mk (blk_drew A3.out)
         replace HB:=Aside0.mk (below_drew1 HB.out)
         refine start_ (n:=21) (S:=fun w'=>w'.cell? ⟨A5,0,none⟩=some (.slice A0_0 l0_0.length c0_0)∧w'.cell? ⟨A5,1,none⟩=some (.slice A0_1 l0_1.length c0_1)∧w'.cell? ⟨A5,2,none⟩=some (.slice A0_2 l0_2.length c0_2)) (ds:=[]) #[false,false,false,false,false,false,false,false,false,false,false,false,false,false,false,false,false,false,false,false,false] (by kernel_rfl) rfl rfl ⟨cz0 A0,cz1 A0,cz2 A0⟩ (fun hHeld=> ?_);refine with_tabW impl_declsOK.tab20 impl_declsOK.bits20 (fun HT_ HW_=> ?_)
         generalize wr.drew=w88 at A0 A2 A1 A3 HB hHeld ⊢
         refine pureS 1 97 HT_ rfl rfl ?_
         refine takeS 0 96 HT_ HW_ rfl rfl hHeld ?_ (by rintro w' ⟨s0,s1,s2⟩;go_simp;with_reducible rfl)
         refine one_ (i:=2) (N:=some 98) #[true,true,true,false,false,false,false,false,false,false,false,false,false,false,false,false,false,false,false,false,false] rfl rfl (one_of HT_.out (by kernel_rfl)) (by decide) (fun K hK=> ?_)
         refine goes_ Try.func59 (by kernel_rfl) rfl #[.agg #[.slice A0_0 l0_0.length c0_0,.slice A0_1 l0_1.length c0_1,.slice A0_2 l0_2.length c0_2],.int .i64 (rd ((rd_T68 l1_1 x55_3).f0) x91_5)] (by rfl) rfl rfl impl_declsOK.a3 ?_
         with_reducible refine (impl_order_has.calls _ _ l0_0 _ _ l0_1 _ _ l0_2 (rd ((rd_T68 l1_1 x55_3).f0) x91_5) false _ ?side1 ?side2 ?side3 ?side4 ?side5 ?side6 A76.out).mono ?_
         (case side1=>exact cB C2 HB)
         (case side2=>exact C3.out)
         (case side3=>exact cB C4 HB)
         (case side4=>exact C5.out)
         (case side5=>exact cB B1 HB)
         (case side6=>exact C6.out)
         rintro e w89 ⟨rfl,hb⟩
         refine ⟨_,rfl,?_⟩
         replace A0:=bB A0 hb
         replace A2:=bB A2 hb
         replace A1:=bB A1 hb
         replace A3:=bB A3 hb
         replace HB:=hS HB hb
         (try clear hb)
         (try clear hb2)
         (try clear hk)
         (try clear hi)
         refine hK.out _ _ ⟨cz0 A0,cz1 A0,cz2 A0⟩ (fun hHeld=> ?_)
         clear hK K
         refine norm_ (a':=?_) ?_ ?_
         rotate_left
         ·show Act.put _ (some 98) _=_
          simp only [Act.put,List.setIfInBounds_toArray,List.set_cons_zero,List.set_cons_succ,i64_w,i32_w]
          rfl
         refine pureS 3 99 HT_ rfl rfl ?_
         refine pureS 4 100 HT_ rfl rfl ?_
         refine undS 5 101 HT_ rfl rfl ?_
         refine undS 6 102 HT_ rfl rfl ?_
         refine undS 7 103 HT_ rfl rfl ?_
         refine undS 8 104 HT_ rfl rfl ?_
         refine undS 9 105 HT_ rfl rfl ?_
         refine undS 10 106 HT_ rfl rfl ?_
         refine undS 11 107 HT_ rfl rfl ?_
         refine undS 12 108 HT_ rfl rfl ?_
         refine undS 13 109 HT_ rfl rfl ?_
         refine undS 14 110 HT_ rfl rfl ?_
         refine undS 15 111 HT_ rfl rfl ?_
         refine undS 16 112 HT_ rfl rfl ?_
         refine undS 17 113 HT_ rfl rfl ?_
         refine undS 18 114 HT_ rfl rfl ?_
         refine undS 19 115 HT_ rfl rfl ?_
         refine pureS 20 116 HT_ rfl rfl ?_
         refine done_ (done_of HT_.out (by kernel_rfl)) ?_
         try go_wp2
         go_ret
         exact ⟨impl_declsOK.a2,hV HB⟩
  ·replace c18:=Bool.eq_false_iff.mpr c18
   subst c18
   rw [if_neg (show ¬ (false=true) by decide)] at H
   obtain rfl:=Option.some.inj H
   have b7:=B0.out
   have b8:=A9.out
   obtain ⟨R9,S0,S1,S2,S3,S4,S5,S6,S7,S8⟩:=cf5 A2
   have D9:0≤(0:Int):=(by omega)
   have E0:0 < (l1_1.length:Int):=dT
   obtain ⟨C7,A348_0,c348_0,e348,A6,A7,D5,D6⟩:=at_T68 G3.out 0 D9 E0
   cases e348
   have M5:(0 < l1_1.length)=True:=eq_true (by omega)
   (try rw [show ((0:Int)).toNat=0 from rfl] at A6)
   (try rw [show 0 * 2=0 from rfl] at A6)
   (try rw [Addr.add_zero'] at A6)
   (try rw [show ((0:Int)).toNat=0 from rfl] at A7)
   (try rw [show 0 * 2=0 from rfl] at A7)
   (try rw [Addr.add_zero'] at A7)
   replace A6:=xc HB A6
   replace A7:=xc HB A7
   have D7:=Aside0.mk D6
   have K9:=Aside0.mk D5
   clear D6 D5
   replace D9:=eq_true D9
   replace E0:=eq_true E0
   go_wp2_with (first | ((with_reducible refine gate_dst (N:=5) rfl ?_);(try (refine gate_guard (by rfl) ?_;dsimp only));refine bx 5 rfl #[.slice none 0 0,.int .i64 0] 68 ?_;intro A8 hg w92 hbox hb;have A1:=Aside0.mk (hbox);have M6:=hZ HB hg;have M7:=hZ HB hg;replace HB:=hS HB hb;have C0:=nL A0 hg;have C1:=nG A0 hg;replace A0:=bB A0 hb;have D1:=nL A2 hg;have D2:=nG A2 hg;replace A2:=bB A2 hb;clear hb hbox hg;have b9:=C1.out;have c0:=C0.out;have c1:=D2.out;have c2:=D1.out;obtain ⟨S9,T0,T1,T2⟩:=cf2 A1;obtain ⟨T3,T4,T5,T6,T7,T8⟩:=cf3 A0) | (refine goK 59 (some 38) rfl Try.func59 #[.agg #[.slice A0_0 l0_0.length c0_0,.slice A0_1 l0_1.length c0_1,.slice A0_2 l0_2.length c0_2],.int .i64 ((rd_T68 l1_1 0).f1)] ?_;(with_reducible refine (impl_order_has.calls _ _ l0_0 _ _ l0_1 _ _ l0_2 ((rd_T68 l1_1 0).f1) false _ ?side1 ?side2 ?side3 ?side4 ?side5 ?side6 A17.out).mono ?_);(case side1=>exact cV C2 HB);(case side2=>exact C3.out);(case side3=>exact cV C4 HB);(case side4=>exact C5.out);(case side5=>exact cV B1 HB);(case side6=>exact C6.out);rintro e w97 ⟨rfl,hb⟩;refine ⟨_,rfl,?_⟩;replace A0:=bB A0 hb;replace A2:=bB A2 hb;replace A1:=bP (o:=.cells #[.slice A348_0 ((rd_T68 l1_1 0).f0).length c348_0,.int .i64 ((rd_T68 l1_1 0).f1)] 68 (0,0)) A1 hb;replace HB:=hS HB hb;(try clear hb);(try clear hb2);(try clear hk);(try clear hi)))
   go_ret
   exact ⟨impl_declsOK.a2,hV HB⟩
end Go.Proofs.Ytpildjbakceicaa.Q

