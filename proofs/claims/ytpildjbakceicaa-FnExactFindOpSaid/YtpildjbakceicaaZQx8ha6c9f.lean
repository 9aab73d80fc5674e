/- Functions of the program as plain Lean functions,and that the calls come to what they say. -/
import Derived.Test.YtpildjbakceicaaZQx0hb61c0
import Derived.Test.YtpildjbakceicaaZQx2hbf1bc
import Derived.Test.YtpildjbakceicaaZQx4he3f3d
import Derived.Test.YtpildjbakceicaaZQx6hca9c4
import Derived.Test.YtpildjbakceicaaZQx7ha5fae
import Derived.Test.YtpildjbakceicaaZShorth7b252
namespace Go.Proofs.Ytpildjbakceicaa.Q
open Go.RowKit Go.Proofs.YtpildjbakceicaaW.PrintWords Go.Proofs.YtpildjbakceicaaW.PrintLast Go.Proofs.YtpildjbakceicaaW.PrintMore
attribute [local go_sem] max2_int min2_int max_two min_two max_three min_three max_four min_four   -- for this text's walks alone
set_option linter.unusedVariables false
set_option linter.unusedSimpArgs false

/-! ### spec_IsSignature: function 9 -/
theorem spec_IsSignature.a0 {P_:Prop} (h_:P_:=by rintro w' ⟨s0,s1,s2,s3,s4,s5,s6,s7,s8,s9,s10,s11,s12⟩;go_simp;with_reducible rfl):P_:=h_
theorem spec_IsSignature.a1 {P_:Prop} (h_:P_:=by first | rfl | (simp;done) | (simp [*];done)):P_:=h_
theorem spec_IsSignature.a2 {P_:Prop} (h_:P_:=by first | rfl | (simp [errW_none,errW_some] <;> rfl) | (simp [*,errW_none,errW_some] <;> rfl)):P_:=h_
theorem spec_IsSignature.a3 {P_:Prop} (h_:P_:=by (try simp only [List.map_toArray,List.map_cons,List.map_nil]);first | done | rfl | (simp only [List.length_drop,List.length_take];rfl)):P_:=h_
mutual
def spec_IsSignature.j0:Nat→Bool→List ByteArray→List (S89)→List (S50)→Option (Bool)
 | 0,_,_,_,_=>none
 | k + 1,x15,x206000,x206001,x206002=>if x15=true then (some false) else (spec_IsSignature.l0 k 0 x206000 x206001 x206002)
def spec_IsSignature.l0:Nat→Int→List ByteArray→List (S89)→List (S50)→Option (Bool)
 | 0,_,_,_,_=>none
 | k + 1,x3,x206000,x206001,x206002=>if x3 < (x206002.length:Int) then (if 0≤x3 then ((spec_IsName.f k ((rd_T50 x206002 x3).f0)).bind fun t208=>(if t208=true then ((spec_l4Decls.f k x206000 x206001 x206002 ((rd_T50 x206002 x3).f0) ((rd_T50 x206002 x3).f1) ((rd_T50 x206002 x3).f2) ((rd_T50 x206002 x3).f3) ((rd_T50 x206002 x3).f4)).bind fun t210=>(spec_IsSignature.j2 k x3 (!t210) x206000 x206001 x206002)) else (spec_IsSignature.j2 k x3 true x206000 x206001 x206002))) else (none)) else (spec_IsSignature.l2 k 0 x206000 x206001 x206002)
def spec_IsSignature.j2:Nat→Int→Bool→List ByteArray→List (S89)→List (S50)→Option (Bool)
 | 0,_,_,_,_,_=>none
 | k + 1,x3,x40,x206000,x206001,x206002=>if x40=true then (some false) else (spec_IsSignature.l1 k x3 0 x206000 x206001 x206002)
def spec_IsSignature.l1:Nat→Int→Int→List ByteArray→List (S89)→List (S50)→Option (Bool)
 | 0,_,_,_,_,_=>none
 | k + 1,x3,x4,x206000,x206001,x206002=>if x4 < x3 then (if 0≤x4 then (if x4 < (x206002.length:Int) then (if 0≤x3 then (if x3 < (x206002.length:Int) then (if ((rd_T50 x206002 x4).f0).toList=((rd_T50 x206002 x3).f0).toList then (some false) else (spec_IsSignature.l1 k x3 (wrap64 (x4 + 1)) x206000 x206001 x206002)) else (none)) else (none)) else (none)) else (none)) else (spec_IsSignature.l0 k (wrap64 (x3 + 1)) x206000 x206001 x206002)
def spec_IsSignature.l2:Nat→Int→List ByteArray→List (S89)→List (S50)→Option (Bool)
 | 0,_,_,_,_=>none
 | k + 1,x5,x206000,x206001,x206002=>if x5 < (x206002.length:Int) then ((spec_l4Axioms.f k x206000 x206001 x206002 x5).bind fun t213=>(if t213=true then (spec_IsSignature.l2 k (wrap64 (x5 + 1)) x206000 x206001 x206002) else (some false))) else (some true)
end
def spec_IsSignature.f (k:Nat) (l0_0:List ByteArray) (l0_1:List (S89)) (l0_2:List (S50)):Option (Bool):=(spec_IsSorts.f k l0_0 l0_1).bind fun t206=>(if t206=true then (spec_IsSignature.j0 k (decide ((l0_2.length:Int) > 14)) l0_0 l0_1 l0_2) else (spec_IsSignature.j0 k true l0_0 l0_1 l0_2))
def spec_IsSignature.T6:Bool × List (List Nat × List Nat):=(true,[([],[]),([0],[0]),([],[]),([1,2],[1,2]),([3],[3]),([4],[4]),([5],[5]),([6],[6]),([7,6],[7]),([8],[8]),([8],[8]),([10,8],[8,10]),([8],[8]),([11,12,8],[8,11,12]),([13,8],[8,13]),([9,14,8,8],[8,9,14]),([15,8],[8,15]),([8,16],[8,16])])
def spec_IsSignature.B6:List Nat:=[0,1,0,7,15,31,63,127,255,511,511,1535,511,7679,15871,32767,65535,131071]
theorem spec_IsSignature.tab6:rtab .any (opsOf Try.f9 6)=spec_IsSignature.T6:=by kernel_rfl
theorem spec_IsSignature.bits6:waitsOk spec_IsSignature.T6.2 spec_IsSignature.B6=true:=by kernel_rfl
def spec_IsSignature.T11:Bool × List (List Nat × List Nat):=(true,[([],[]),([0],[0]),([],[]),([1,2],[1,2]),([3],[3]),([4],[4]),([],[]),([6],[6]),([],[]),([7,8],[7,8]),([9],[9]),([10],[10]),([5,11],[5,11])])
def spec_IsSignature.B11:List Nat:=[0,1,0,7,15,31,0,64,0,448,960,1984,4095]
theorem spec_IsSignature.tab11:rtab .any (opsOf Try.f9 11)=spec_IsSignature.T11:=by kernel_rfl
theorem spec_IsSignature.bits11:waitsOk spec_IsSignature.T11.2 spec_IsSignature.B11=true:=by kernel_rfl
set_option maxHeartbeats 8000000 in
set_option maxRecDepth 100000 in
theorem spec_IsSignature.calls (k:Nat) (A0_0:Option Addr) (c0_0:Nat) (l0_0:List ByteArray) (A0_1:Option Addr) (c0_1:Nat) (l0_1:List (S89)) (A0_2:Option Addr) (c0_2:Nat) (l0_2:List (S50)) (r:Bool) (w:World) (hr0_0:Kd.C Kd.string w A0_0 l0_0.length l0_0) (hc0_0:l0_0.length≤c0_0) (hr0_1:Kd.C k89 w A0_1 l0_1.length l0_1) (hc0_1:l0_1.length≤c0_1) (hr0_2:Kd.C k50 w A0_2 l0_2.length l0_2) (hc0_2:l0_2.length≤c0_2) (h:spec_IsSignature.f k l0_0 l0_1 l0_2=some r) :
  Calls Try.prog 9 #[.agg #[.slice A0_0 l0_0.length c0_0,.slice A0_1 l0_1.length c0_1,.slice A0_2 l0_2.length c0_2]] w fun e w'=>e=.returned (.bool r)∧Below w.heap.size w w':=by
 have hu36:=Try.underlying36
 have hu33:=Try.underlying33
 have hu50:=Try.underlying50
 have F9:=Aside0.mk hr0_0
 have G0:=Aside0.mk hc0_0
 clear hr0_0 hc0_0
 have G1:=Aside0.mk hr0_1
 have G2:=Aside0.mk hc0_1
 clear hr0_1 hc0_1
 have C6:=Aside0.mk hr0_2
 have H6:=Aside0.mk hc0_2
 clear hr0_2 hc0_2
 have HB:=Aside0.mk (Below.refl w.heap.size w)
 have H:((spec_IsSorts.f k l0_0 l0_1).bind fun t206=>(if t206=true then (spec_IsSignature.j0 k (decide ((l0_2.length:Int) > 14)) l0_0 l0_1 l0_2) else (spec_IsSignature.j0 k true l0_0 l0_1 l0_2)))=some r:=h
 clear h
 have J2:=Aside0.mk H
 clear H
 go_enter Try.func9,Try.ntmps9
 go_upto_region 1 with (first | ((with_reducible refine gate_dst (N:=1) rfl ?_);(try (refine gate_guard (by rfl) ?_;dsimp only));refine bx 1 rfl #[.slice A0_0 l0_0.length c0_0,.slice A0_1 l0_1.length c0_1,.slice A0_2 l0_2.length c0_2] 36 ?_;intro A3 hg w3 hbox hb;have A0:=Aside0.mk (hbox);have N4:=hZ HB hg;have N5:=hZ HB hg;replace HB:=hS HB hb;clear hb hbox hg))
 (try simp only [Act.put,List.setIfInBounds_toArray,List.set_cons_zero,List.set_cons_succ])
 go_cut [15] (fun v15 wc=> ∃ (kq:Nat) (x15_1:Bool),v15=.bool x15_1∧Aside0 (spec_IsSignature.j0 kq x15_1 l0_0 l0_1 l0_2=some r)∧Aside0 (kq≤k)∧Aside0 (wc.heap[A3]? = some (.cells #[(.slice A0_0 l0_0.length c0_0),(.slice A0_1 l0_1.length c0_1),(.slice A0_2 l0_2.length c0_2)] 36 (0,0)))∧Aside0 (Below w.heap.size w wc))
 case first=>
  have H:=J2.out
  clear J2
  replace H:=Option.bind_eq_some_iff.mp H
  obtain ⟨t206,A40,H⟩:=H
  replace H:(if t206=true then (spec_IsSignature.j0 k (decide ((l0_2.length:Int) > 14)) l0_0 l0_1 l0_2) else (spec_IsSignature.j0 k true l0_0 l0_1 l0_2))=some r:=H
  have A4:=Aside0.mk A40
  clear A40
  by_cases c5:t206=true
  ·subst c5
   rw [if_pos rfl] at H
   have H':=Aside0.mk H
   clear H
   obtain ⟨L6,L7,L8,L9,M0,M1⟩:=cf3 A0
   go_wp2_with (first | (refine goK 23 (some 8) rfl Try.func23 #[.agg #[.slice A0_0 l0_0.length c0_0,.slice A0_1 l0_1.length c0_1]] ?_;(with_reducible refine (spec_IsSorts.calls k _ _ l0_0 _ _ l0_1 true _ ?side1 ?side2 ?side3 ?side4 A4.out).mono ?_);(case side1=>exact cB F9 HB);(case side2=>exact G0.out);(case side3=>exact cB G1 HB);(case side4=>exact G2.out);rintro e w7 ⟨rfl,hb⟩;refine ⟨_,rfl,?_⟩;replace A0:=bB A0 hb;replace HB:=hS HB hb;(try clear hb);(try clear hb2);(try clear hk);(try clear hi);obtain ⟨M2,M3,M4,M5,M6,M7⟩:=cf3 A0))
   go_meet
   case rel=>exact ⟨_,(decide ((l0_2.length:Int) > 14)),spec_IsSignature.a1,H',⟨by first | omega | exact Nat.le_refl _⟩,⟨vB A0⟩,⟨hV HB⟩⟩
  replace c5:=Bool.eq_false_iff.mpr c5
  subst c5
  rw [if_neg (show ¬ (false=true) by decide)] at H
  have H':=Aside0.mk H
  clear H
  obtain ⟨M8,M9,N0,N1,N2,N3⟩:=cf3 A0
  go_wp2_with (first | (refine goK 23 (some 8) rfl Try.func23 #[.agg #[.slice A0_0 l0_0.length c0_0,.slice A0_1 l0_1.length c0_1]] ?_;(with_reducible refine (spec_IsSorts.calls k _ _ l0_0 _ _ l0_1 false _ ?side1 ?side2 ?side3 ?side4 A4.out).mono ?_);(case side1=>exact cB F9 HB);(case side2=>exact G0.out);(case side3=>exact cB G1 HB);(case side4=>exact G2.out);rintro e w10 ⟨rfl,hb⟩;refine ⟨_,rfl,?_⟩;replace A0:=bB A0 hb;replace HB:=hS HB hb;(try clear hb);(try clear hb2);(try clear hk);(try clear hi)))
  go_meet
  case rel=>exact ⟨_,(true),spec_IsSignature.a1,H',⟨by first | omega | exact Nat.le_refl _⟩,⟨vB A0⟩,⟨hV HB⟩⟩
 clear J2
 obtain ⟨kq,x15_1,rfl,HA,HJ1,A0,HB⟩:=hcut
 cases kq with
 | zero=>exact absurd HA.out (by simp [spec_IsSignature.j0])
 | succ kj1=>
  have H:=HA.out
  clear HA
  simp only [spec_IsSignature.j0] at H
  by_cases c11:x15_1=true
  ·subst c11
   rw [if_pos rfl] at H
   obtain rfl:=Option.some.inj H
   go_wp2
   go_ret
   exact ⟨spec_IsSignature.a2,hV HB⟩
  replace c11:=Bool.eq_false_iff.mpr c11
  subst c11
  rw [if_neg (show ¬ (false=true) by decide)] at H
  have H':=Aside0.mk H
  clear H
  go_wp2
  go_loopg [3] kj1 (fun kq v3 w'=> ∃ (x3_2:Int),v3=.int .i64 x3_2∧Aside0 (spec_IsSignature.l0 kq x3_2 l0_0 l0_1 l0_2=some r)∧Aside0 (kq≤kj1)∧Aside0 (w'.heap[A3]? = some (.cells #[(.slice A0_0 l0_0.length c0_0),(.slice A0_1 l0_1.length c0_1),(.slice A0_2 l0_2.length c0_2)] 36 (0,0)))∧Aside0 (Below w.heap.size w w'))
  case atStart=>exact ⟨(0),spec_IsSignature.a1,H',⟨Nat.le_refl _⟩,⟨vB A0⟩,⟨hV HB⟩⟩
  clear H'
  try clear c11
  obtain ⟨x3_2,rfl,HA,HK2,A0,HB⟩:=hrel
  cases gk with
  | zero=>exact absurd HA.out (by simp [spec_IsSignature.l0])
  | succ k2=>
   have H:=HA.out
   clear HA
   simp only [spec_IsSignature.l0] at H
   by_cases c12:x3_2 < (l0_2.length:Int)
   ·rw [if_pos c12] at H
    have G6:=decide_eq_true c12
    clear c12
    have H8:=Aside0.mk H
    clear H
    obtain ⟨G7,G8,G9,H0,H1,H2⟩:=cf3 A0
    go_upto_region 6 with (fail)
    go_cut [40] (fun v40 wc=> ∃ (kq:Nat) (x40_12:Bool),v40=.bool x40_12∧Aside0 (spec_IsSignature.j2 kq x3_2 x40_12 l0_0 l0_1 l0_2=some r)∧Aside0 (kq≤k2)∧Aside0 (wc.heap[A3]? = some (.cells #[(.slice A0_0 l0_0.length c0_0),(.slice A0_1 l0_1.length c0_1),(.slice A0_2 l0_2.length c0_2)] 36 (0,0)))∧Aside0 (Below w.heap.size w wc))
    case first=>
     have H:=H8.out
     clear H8
     by_cases c15:0≤x3_2
     rotate_left
     ·rw [if_neg c15] at H
      exact absurd H (by simp)
     rw [if_pos c15] at H
     have I1:=decide_eq_true c15
     clear c15
     (first | rw [I1] | (simp only [i64_w,i32_w];rw [I1]) | skip)
     replace H:=Option.bind_eq_some_iff.mp H
     obtain ⟨t208,A160,H⟩:=H
     replace H:(if t208=true then ((spec_l4Decls.f k2 l0_0 l0_1 l0_2 ((rd_T50 l0_2 x3_2).f0) ((rd_T50 l0_2 x3_2).f1) ((rd_T50 l0_2 x3_2).f2) ((rd_T50 l0_2 x3_2).f3) ((rd_T50 l0_2 x3_2).f4)).bind fun t210=>(spec_IsSignature.j2 k2 x3_2 (!t210) l0_0 l0_1 l0_2)) else (spec_IsSignature.j2 k2 x3_2 true l0_0 l0_1 l0_2))=some r:=H
     have A16:=Aside0.mk A160
     clear A160
     by_cases c17:t208=true
     ·subst c17
      rw [if_pos rfl] at H
      replace H:=Option.bind_eq_some_iff.mp H
      obtain ⟨t210,A180,H⟩:=H
      replace H:(spec_IsSignature.j2 k2 x3_2 (!t210) l0_0 l0_1 l0_2)=some r:=H
      have A18:=Aside0.mk A180
      clear A180
      have H':=Aside0.mk H
      clear H
      try go_wp2
      replace A0:=Aside0.mk (blk_drew A0.out)
      replace HB:=Aside0.mk (below_drew1 HB.out)
      have F3:0≤(x3_2:Int):=dT
      have F4:x3_2 < (l0_2.length:Int):=dT
      obtain ⟨A2,A207_1,c207_1,e207,B1,B0,B2,B3,B4,D2,D3⟩:=at_T50 C6.out x3_2 F3 F4
      have A5:=B4
      have A6:=B3
      have A7:=B2
      have A8:=B0
      have A9:=B1
      cases e207
      replace B1:=xc HB B1
      replace B0:=xc HB B0
      replace B2:=xc HB B2
      replace B3:=xc HB B3
      replace B4:=xc HB B4
      have G3:=Aside0.mk D3
      have I2:=Aside0.mk D2
      clear D3 D2
      replace F3:=eq_true F3
      replace F4:=eq_true F4
      have H9:0≤(x3_2:Int):=dT
      have I0:x3_2 < (l0_2.length:Int):=dT
      obtain ⟨J3,A209_1,c209_1,e209,E9,D4,F0,F1,F2,H3,H4⟩:=at_T50 C6.out x3_2 H9 I0
      have C7:=F2
      have C8:=F1
      have C9:=F0
      have D0:=D4
      have D1:=E9
      obtain rfl:A2=J3:=(by injection e209)
      replace E9:=xc HB E9
      replace D4:=xc HB D4
      replace F0:=xc HB F0
      replace F1:=xc HB F1
      replace F2:=xc HB F2
      have H5:=Aside0.mk H4
      have I3:=Aside0.mk H3
      clear H4 H3
      replace H9:=eq_true H9
      replace I0:=eq_true I0
      have ea_:=Option.some.inj (B0.symm.trans D4)
      injection ea_ with ea_ en_ ec_
      subst ea_
      subst ec_
      clear en_
      refine start_ (n:=18) (S:=fun w'=>w'.cell? ⟨A3,0,none⟩=some (.slice A0_0 l0_0.length c0_0)∧w'.cell? ⟨A3,1,none⟩=some (.slice A0_1 l0_1.length c0_1)∧w'.cell? ⟨A3,2,none⟩=some (.slice (some A2) l0_2.length c0_2)∧w'.cell? (A2.add ((x3_2).toNat * 5))=some (.string ((rd_T50 l0_2 x3_2).f0))∧w'.cell? ⟨(A2.add ((x3_2).toNat * 5)).block,(A2.add ((x3_2).toNat * 5)).off + 1,none⟩=some (.slice A207_1 ((rd_T50 l0_2 x3_2).f1).length c207_1)∧w'.cell? ⟨(A2.add ((x3_2).toNat * 5)).block,(A2.add ((x3_2).toNat * 5)).off + 2,none⟩=some (.bool ((rd_T50 l0_2 x3_2).f2))∧w'.cell? ⟨(A2.add ((x3_2).toNat * 5)).block,(A2.add ((x3_2).toNat * 5)).off + 3,none⟩=some (.bool ((rd_T50 l0_2 x3_2).f3))∧w'.cell? ⟨(A2.add ((x3_2).toNat * 5)).block,(A2.add ((x3_2).toNat * 5)).off + 4,none⟩=some (.int .i64 ((rd_T50 l0_2 x3_2).f4))∧w'.cell? (A2.add ((x3_2).toNat * 5))=some (.string ((rd_T50 l0_2 x3_2).f0))∧w'.cell? ⟨(A2.add ((x3_2).toNat * 5)).block,(A2.add ((x3_2).toNat * 5)).off + 1,none⟩=some (.slice A207_1 ((rd_T50 l0_2 x3_2).f1).length c207_1)∧w'.cell? ⟨(A2.add ((x3_2).toNat * 5)).block,(A2.add ((x3_2).toNat * 5)).off + 2,none⟩=some (.bool ((rd_T50 l0_2 x3_2).f2))∧w'.cell? ⟨(A2.add ((x3_2).toNat * 5)).block,(A2.add ((x3_2).toNat * 5)).off + 3,none⟩=some (.bool ((rd_T50 l0_2 x3_2).f3))∧w'.cell? ⟨(A2.add ((x3_2).toNat * 5)).block,(A2.add ((x3_2).toNat * 5)).off + 4,none⟩=some (.int .i64 ((rd_T50 l0_2 x3_2).f4))) (ds:=[]) #[false,false,false,false,false,false,false,false,false,false,false,false,false,false,false,false,false,false] (by kernel_rfl) rfl rfl ⟨cz0 A0,cz1 A0,cz2 A0,((HB.out.cell (World.block_lt_of_cell? w _ A9)).trans A9),((HB.out.cell (World.block_lt_of_cell? w _ A8)).trans A8),((HB.out.cell (World.block_lt_of_cell? w _ A7)).trans A7),((HB.out.cell (World.block_lt_of_cell? w _ A6)).trans A6),((HB.out.cell (World.block_lt_of_cell? w _ A5)).trans A5),((HB.out.cell (World.block_lt_of_cell? w _ D1)).trans D1),((HB.out.cell (World.block_lt_of_cell? w _ D0)).trans D0),((HB.out.cell (World.block_lt_of_cell? w _ C9)).trans C9),((HB.out.cell (World.block_lt_of_cell? w _ C8)).trans C8),((HB.out.cell (World.block_lt_of_cell? w _ C7)).trans C7)⟩ (fun hHeld=> ?_);refine with_tabW spec_IsSignature.tab6 spec_IsSignature.bits6 (fun HT_ HW_=> ?_)
      generalize wr.drew=w19 at A0 HB G3 H5 B1 B0 B2 B3 B4 E9 D4 F0 F1 F2 hHeld ⊢
      refine pureS 0 23 HT_ rfl rfl ?_
      refine pureS 2 25 HT_ rfl rfl ?_
      refine takeS 1 24 HT_ HW_ rfl rfl hHeld ?_ spec_IsSignature.a0
      refine pureS 3 26 HT_ rfl rfl ?_
      refine pureS 4 27 HT_ rfl rfl ?_
      refine takeS 5 28 HT_ HW_ rfl rfl hHeld ?_ spec_IsSignature.a0
      refine one_ (i:=6) (N:=some 29) #[true,true,true,true,true,true,true,false,false,false,false,false,false,false,false,false,false,false] rfl rfl (one_of HT_.out (by kernel_rfl)) (by decide) (fun K hK=> ?_)
      refine goes_ Try.func24 (by kernel_rfl) rfl #[.string ((rd_T50 l0_2 x3_2).f0)] (by rfl) rfl rfl spec_IsSignature.a3 ?_
      with_reducible refine (spec_IsName.calls k2 ((rd_T50 l0_2 x3_2).f0) true _ A16.out).mono ?_
      rintro e w' ⟨rfl,⟨nd,rfl⟩⟩
      refine ⟨_,rfl,?_⟩
      refine hK.out _ _ ⟨cz0 A0,cz1 A0,cz2 A0,((HB.out.cell (World.block_lt_of_cell? w _ A9)).trans A9),((HB.out.cell (World.block_lt_of_cell? w _ A8)).trans A8),((HB.out.cell (World.block_lt_of_cell? w _ A7)).trans A7),((HB.out.cell (World.block_lt_of_cell? w _ A6)).trans A6),((HB.out.cell (World.block_lt_of_cell? w _ A5)).trans A5),((HB.out.cell (World.block_lt_of_cell? w _ D1)).trans D1),((HB.out.cell (World.block_lt_of_cell? w _ D0)).trans D0),((HB.out.cell (World.block_lt_of_cell? w _ C9)).trans C9),((HB.out.cell (World.block_lt_of_cell? w _ C8)).trans C8),((HB.out.cell (World.block_lt_of_cell? w _ C7)).trans C7)⟩ (fun hHeld=> ?_)
      clear hK K
      refine norm_ (a':=?_) ?_ ?_
      rotate_left
      ·show Act.put _ (some 29) _=_
       simp only [Act.put,List.setIfInBounds_toArray,List.set_cons_zero,List.set_cons_succ,i64_w,i32_w]
       rfl
      refine pureS 7 30 HT_ rfl rfl ?_
      refine pureS 8 31 HT_ rfl rfl ?_
      refine pureS 10 33 HT_ rfl rfl ?_
      refine pureS 12 35 HT_ rfl rfl ?_
      refine takeS 9 32 HT_ HW_ rfl rfl hHeld ?_ spec_IsSignature.a0
      refine takeS 11 34 HT_ HW_ rfl rfl hHeld ?_ spec_IsSignature.a0
      refine pureS 13 36 HT_ rfl rfl ?_
      refine takeS 14 37 HT_ HW_ rfl rfl hHeld ?_ spec_IsSignature.a0
      refine one_ (i:=15) (N:=some 38) #[true,true,true,true,true,true,true,true,true,true,true,true,true,true,true,true,false,false] rfl rfl (one_of HT_.out (by kernel_rfl)) (by decide) (fun K hK=> ?_)
      refine goes_ Try.func25 (by kernel_rfl) rfl #[.agg #[.slice A0_0 l0_0.length c0_0,.slice A0_1 l0_1.length c0_1,.slice (some A2) l0_2.length c0_2],.agg #[.string ((rd_T50 l0_2 x3_2).f0),.slice A207_1 ((rd_T50 l0_2 x3_2).f1).length c207_1,.bool ((rd_T50 l0_2 x3_2).f2),.bool ((rd_T50 l0_2 x3_2).f3),.int .i64 ((rd_T50 l0_2 x3_2).f4)]] (by rfl) rfl rfl spec_IsSignature.a3 ?_
      with_reducible refine (spec_l4Decls.calls k2 _ _ l0_0 _ _ l0_1 _ _ l0_2 ((rd_T50 l0_2 x3_2).f0) _ _ ((rd_T50 l0_2 x3_2).f1) ((rd_T50 l0_2 x3_2).f2) ((rd_T50 l0_2 x3_2).f3) ((rd_T50 l0_2 x3_2).f4) t210 _ ?side1 ?side2 ?side3 ?side4 ?side5 ?side6 ?side7 ?side8 A18.out).mono ?_
      (case side1=>repeat (first | exact (Kd.C_below F9.out (hV HB)) | (with_reducible refine Kd.C_alloc ?_ _) | (with_reducible refine Kd.C_drewN ?_ _) | (with_reducible refine Kd.C_drew ?_)))
      (case side2=>exact G0.out)
      (case side3=>repeat (first | exact (Kd.C_below G1.out (hV HB)) | (with_reducible refine Kd.C_alloc ?_ _) | (with_reducible refine Kd.C_drewN ?_ _) | (with_reducible refine Kd.C_drew ?_)))
      (case side4=>exact G2.out)
      (case side5=>repeat (first | exact (Kd.C_below C6.out (hV HB)) | (with_reducible refine Kd.C_alloc ?_ _) | (with_reducible refine Kd.C_drewN ?_ _) | (with_reducible refine Kd.C_drew ?_)))
      (case side6=>exact H6.out)
      (case side7=>repeat (first | exact (Kd.C_below H5.out (hV HB)) | (with_reducible refine Kd.C_alloc ?_ _) | (with_reducible refine Kd.C_drewN ?_ _) | (with_reducible refine Kd.C_drew ?_)))
      (case side8=>exact I3.out)
      rintro e w20 ⟨rfl,hb⟩
      refine ⟨_,rfl,?_⟩
      replace A0:=bB A0 hb
      replace HB:=hS HB hb
      (try clear hb)
      (try clear hb2)
      (try clear hk)
      (try clear hi)
      refine hK.out _ _ ⟨cz0 A0,cz1 A0,cz2 A0,((HB.out.cell (World.block_lt_of_cell? w _ A9)).trans A9),((HB.out.cell (World.block_lt_of_cell? w _ A8)).trans A8),((HB.out.cell (World.block_lt_of_cell? w _ A7)).trans A7),((HB.out.cell (World.block_lt_of_cell? w _ A6)).trans A6),((HB.out.cell (World.block_lt_of_cell? w _ A5)).trans A5),((HB.out.cell (World.block_lt_of_cell? w _ D1)).trans D1),((HB.out.cell (World.block_lt_of_cell? w _ D0)).trans D0),((HB.out.cell (World.block_lt_of_cell? w _ C9)).trans C9),((HB.out.cell (World.block_lt_of_cell? w _ C8)).trans C8),((HB.out.cell (World.block_lt_of_cell? w _ C7)).trans C7)⟩ (fun hHeld=> ?_)
      clear hK K
      refine norm_ (a':=?_) ?_ ?_
      rotate_left
      ·show Act.put _ (some 38) _=_
       simp only [Act.put,List.setIfInBounds_toArray,List.set_cons_zero,List.set_cons_succ,i64_w,i32_w]
       rfl
      refine pureS 16 39 HT_ rfl rfl ?_
      refine pureS 17 40 HT_ rfl rfl ?_
      refine done_ (done_of HT_.out (by kernel_rfl)) ?_
      try go_wp2
      go_meet
      case rel=>exact ⟨_,(!t210),spec_IsSignature.a1,H',⟨by have:=HJ1.out;have:=HK2.out;first | omega | exact Nat.le_refl _⟩,⟨vB A0⟩,⟨hV HB⟩⟩
     ·replace c17:=Bool.eq_false_iff.mpr c17
      subst c17
      rw [if_neg (show ¬ (false=true) by decide)] at H
      have H':=Aside0.mk H
      clear H
      try go_wp2
      replace A0:=Aside0.mk (blk_drew A0.out)
      replace HB:=Aside0.mk (below_drew1 HB.out)
      have F3:0≤(x3_2:Int):=dT
      have F4:x3_2 < (l0_2.length:Int):=dT
      obtain ⟨A2,A207_1,c207_1,e207,B1,B0,B2,B3,B4,D2,D3⟩:=at_T50 C6.out x3_2 F3 F4
      have A5:=B4
      have A6:=B3
      have A7:=B2
      have A8:=B0
      have A9:=B1
      cases e207
      replace B1:=xc HB B1
      replace B0:=xc HB B0
      replace B2:=xc HB B2
      replace B3:=xc HB B3
      replace B4:=xc HB B4
      have G3:=Aside0.mk D3
      have I2:=Aside0.mk D2
      clear D3 D2
      replace F3:=eq_true F3
      replace F4:=eq_true F4
      refine start_ (n:=18) (S:=fun w'=>w'.cell? ⟨A3,0,none⟩=some (.slice A0_0 l0_0.length c0_0)∧w'.cell? ⟨A3,1,none⟩=some (.slice A0_1 l0_1.length c0_1)∧w'.cell? ⟨A3,2,none⟩=some (.slice (some A2) l0_2.length c0_2)∧w'.cell? (A2.add ((x3_2).toNat * 5))=some (.string ((rd_T50 l0_2 x3_2).f0))∧w'.cell? ⟨(A2.add ((x3_2).toNat * 5)).block,(A2.add ((x3_2).toNat * 5)).off + 1,none⟩=some (.slice A207_1 ((rd_T50 l0_2 x3_2).f1).length c207_1)∧w'.cell? ⟨(A2.add ((x3_2).toNat * 5)).block,(A2.add ((x3_2).toNat * 5)).off + 2,none⟩=some (.bool ((rd_T50 l0_2 x3_2).f2))∧w'.cell? ⟨(A2.add ((x3_2).toNat * 5)).block,(A2.add ((x3_2).toNat * 5)).off + 3,none⟩=some (.bool ((rd_T50 l0_2 x3_2).f3))∧w'.cell? ⟨(A2.add ((x3_2).toNat * 5)).block,(A2.add ((x3_2).toNat * 5)).off + 4,none⟩=some (.int .i64 ((rd_T50 l0_2 x3_2).f4))) (ds:=[]) #[false,false,false,false,false,false,false,false,false,false,false,false,false,false,false,false,false,false] (by kernel_rfl) rfl rfl ⟨cz0 A0,cz1 A0,cz2 A0,((HB.out.cell (World.block_lt_of_cell? w _ A9)).trans A9),((HB.out.cell (World.block_lt_of_cell? w _ A8)).trans A8),((HB.out.cell (World.block_lt_of_cell? w _ A7)).trans A7),((HB.out.cell (World.block_lt_of_cell? w _ A6)).trans A6),((HB.out.cell (World.block_lt_of_cell? w _ A5)).trans A5)⟩ (fun hHeld=> ?_);refine with_tabW spec_IsSignature.tab6 spec_IsSignature.bits6 (fun HT_ HW_=> ?_)
      generalize wr.drew=w21 at A0 HB G3 B1 B0 B2 B3 B4 hHeld ⊢
      refine pureS 0 23 HT_ rfl rfl ?_
      refine pureS 2 25 HT_ rfl rfl ?_
      refine takeS 1 24 HT_ HW_ rfl rfl hHeld ?_ (by rintro w' ⟨s0,s1,s2,s3,s4,s5,s6,s7⟩;go_simp;with_reducible rfl)
      refine pureS 3 26 HT_ rfl rfl ?_
      refine pureS 4 27 HT_ rfl rfl ?_
      refine takeS 5 28 HT_ HW_ rfl rfl hHeld ?_ (by rintro w' ⟨s0,s1,s2,s3,s4,s5,s6,s7⟩;go_simp;with_reducible rfl)
      refine one_ (i:=6) (N:=some 29) #[true,true,true,true,true,true,true,false,false,false,false,false,false,false,false,false,false,false] rfl rfl (one_of HT_.out (by kernel_rfl)) (by decide) (fun K hK=> ?_)
      refine goes_ Try.func24 (by kernel_rfl) rfl #[.string ((rd_T50 l0_2 x3_2).f0)] (by rfl) rfl rfl spec_IsSignature.a3 ?_
      with_reducible refine (spec_IsName.calls k2 ((rd_T50 l0_2 x3_2).f0) false _ A16.out).mono ?_
      rintro e w' ⟨rfl,⟨nd,rfl⟩⟩
      refine ⟨_,rfl,?_⟩
      refine hK.out _ _ ⟨cz0 A0,cz1 A0,cz2 A0,((HB.out.cell (World.block_lt_of_cell? w _ A9)).trans A9),((HB.out.cell (World.block_lt_of_cell? w _ A8)).trans A8),((HB.out.cell (World.block_lt_of_cell? w _ A7)).trans A7),((HB.out.cell (World.block_lt_of_cell? w _ A6)).trans A6),((HB.out.cell (World.block_lt_of_cell? w _ A5)).trans A5)⟩ (fun hHeld=> ?_)
      clear hK K
      refine norm_ (a':=?_) ?_ ?_
      rotate_left
      ·show Act.put _ (some 29) _=_
       simp only [Act.put,List.setIfInBounds_toArray,List.set_cons_zero,List.set_cons_succ,i64_w,i32_w]
       rfl
      refine pureS 7 30 HT_ rfl rfl ?_
      refine pureS 8 31 HT_ rfl rfl ?_
      refine undS 9 32 HT_ rfl rfl ?_
      refine undS 10 33 HT_ rfl rfl ?_
      refine undS 11 34 HT_ rfl rfl ?_
      refine undS 12 35 HT_ rfl rfl ?_
      refine undS 13 36 HT_ rfl rfl ?_
      refine undS 14 37 HT_ rfl rfl ?_
      refine undS 15 38 HT_ rfl rfl ?_
      refine undS 16 39 HT_ rfl rfl ?_
      refine pureS 17 40 HT_ rfl rfl ?_
      refine done_ (done_of HT_.out (by kernel_rfl)) ?_
      try go_wp2
      go_meet
      case rel=>exact ⟨_,(true),spec_IsSignature.a1,H',⟨by have:=HJ1.out;have:=HK2.out;first | omega | exact Nat.le_refl _⟩,⟨vB A0⟩,⟨hV HB⟩⟩
    clear H8
    try clear c11
    try clear c12
    try clear G6
    try clear G7
    try clear G9
    try clear H1
    try clear G8
    try clear H0
    try clear H2
    obtain ⟨kq,x40_12,rfl,HA,HJ12,A0,HB⟩:=hcut
    cases kq with
    | zero=>exact absurd HA.out (by simp [spec_IsSignature.j2])
    | succ kj12=>
     have H:=HA.out
     clear HA
     simp only [spec_IsSignature.j2] at H
     by_cases c22:x40_12=true
     ·subst c22
      rw [if_pos rfl] at H
      obtain rfl:=Option.some.inj H
      go_wp2
      go_ret
      exact ⟨spec_IsSignature.a2,hV HB⟩
     replace c22:=Bool.eq_false_iff.mpr c22
     subst c22
     rw [if_neg (show ¬ (false=true) by decide)] at H
     have H':=Aside0.mk H
     clear H
     go_wp2
     go_loopg [4] kj12 (fun kq v4 w'=> ∃ (x4_4:Int),v4=.int .i64 x4_4∧Aside0 (spec_IsSignature.l1 kq x3_2 x4_4 l0_0 l0_1 l0_2=some r)∧Aside0 (kq≤kj12)∧Aside0 (w'.heap[A3]? = some (.cells #[(.slice A0_0 l0_0.length c0_0),(.slice A0_1 l0_1.length c0_1),(.slice A0_2 l0_2.length c0_2)] 36 (0,0)))∧Aside0 (Below w.heap.size w w'))
     case atStart=>exact ⟨(0),spec_IsSignature.a1,H',⟨Nat.le_refl _⟩,⟨vB A0⟩,⟨hV HB⟩⟩
     clear H'
     try clear c11
     try clear c12
     try clear G6
     try clear c22
     try clear G7
     try clear G9
     try clear H1
     try clear G8
     try clear H0
     try clear H2
     obtain ⟨x4_4,rfl,HA,HK4,A0,HB⟩:=hrel
     cases gk with
     | zero=>exact absurd HA.out (by simp [spec_IsSignature.l1])
     | succ k4=>
      have H:=HA.out
      clear HA
      simp only [spec_IsSignature.l1] at H
      by_cases c23:x4_4 < x3_2
      rotate_left
      ·rw [if_neg c23] at H
       have J4:=decide_eq_false c23
       clear c23
       have H':=Aside0.mk H
       clear H
       go_wp2
       go_roundg k4
       case measure=>have:=HJ1.out;have:=HK2.out;have:=HJ12.out;have:=HK4.out;omega
       case rel=>exact ⟨(wrap64 (x3_2 + 1)),spec_IsSignature.a1,H',⟨by have:=HJ1.out;have:=HK2.out;have:=HJ12.out;have:=HK4.out;omega⟩,⟨vB A0⟩,⟨hV HB⟩⟩
      rw [if_pos c23] at H
      have J4:=decide_eq_true c23
      clear c23
      by_cases c24:0≤x4_4
      rotate_left
      ·rw [if_neg c24] at H
       exact absurd H (by simp)
      rw [if_pos c24] at H
      have N6:=decide_eq_true c24
      clear c24
      by_cases c25:x4_4 < (l0_2.length:Int)
      rotate_left
      ·rw [if_neg c25] at H
       exact absurd H (by simp)
      rw [if_pos c25] at H
      have N7:=decide_eq_true c25
      clear c25
      by_cases c26:0≤x3_2
      rotate_left
      ·rw [if_neg c26] at H
       exact absurd H (by simp)
      rw [if_pos c26] at H
      have N8:=decide_eq_true c26
      clear c26
      by_cases c27:x3_2 < (l0_2.length:Int)
      rotate_left
      ·rw [if_neg c27] at H
       exact absurd H (by simp)
      rw [if_pos c27] at H
      have N9:=decide_eq_true c27
      clear c27
      by_cases c28:((rd_T50 l0_2 x4_4).f0).toList=((rd_T50 l0_2 x3_2).f0).toList
      ·rw [if_pos c28] at H
       have J5:(((rd_T50 l0_2 x4_4).f0).toList == ((rd_T50 l0_2 x3_2).f0).toList)=true:=beq_iff_eq.mpr c28
       have J6:(((rd_T50 l0_2 x4_4).f0).toList != ((rd_T50 l0_2 x3_2).f0).toList)=false:=bne_eq_false_iff_eq.mpr c28
       clear c28
       obtain rfl:=Option.some.inj H
       try go_wp2
       replace A0:=Aside0.mk (blk_drew A0.out)
       replace HB:=Aside0.mk (below_drew1 HB.out)
       have F5:0≤(x4_4:Int):=dT
       have F6:x4_4 < (l0_2.length:Int):=dT
       obtain ⟨A1,A211_1,c211_1,e211,B5,B7,B8,B9,C0,D5,D6⟩:=at_T50 C6.out x4_4 F5 F6
       have D7:=C0
       have D8:=B9
       have D9:=B8
       have E0:=B7
       have E1:=B5
       cases e211
       replace B5:=xc HB B5
       replace B7:=xc HB B7
       replace B8:=xc HB B8
       replace B9:=xc HB B9
       replace C0:=xc HB C0
       have G4:=Aside0.mk D6
       have I4:=Aside0.mk D5
       clear D6 D5
       replace F5:=eq_true F5
       replace F6:=eq_true F6
       have F7:0≤(x3_2:Int):=dT
       have F8:x3_2 < (l0_2.length:Int):=dT
       obtain ⟨H7,A212_1,c212_1,e212,C1,C2,C3,C4,C5,E2,E3⟩:=at_T50 C6.out x3_2 F7 F8
       have E4:=C5
       have E5:=C4
       have E6:=C3
       have E7:=C2
       have E8:=C1
       obtain rfl:A1=H7:=(by injection e212)
       replace C1:=xc HB C1
       replace C2:=xc HB C2
       replace C3:=xc HB C3
       replace C4:=xc HB C4
       replace C5:=xc HB C5
       have G5:=Aside0.mk E3
       have I5:=Aside0.mk E2
       clear E3 E2
       replace F7:=eq_true F7
       replace F8:=eq_true F8
       refine start_ (n:=13) (S:=fun w'=>w'.cell? ⟨A3,0,none⟩=some (.slice A0_0 l0_0.length c0_0)∧w'.cell? ⟨A3,1,none⟩=some (.slice A0_1 l0_1.length c0_1)∧w'.cell? ⟨A3,2,none⟩=some (.slice (some A1) l0_2.length c0_2)∧w'.cell? (A1.add ((x4_4).toNat * 5))=some (.string ((rd_T50 l0_2 x4_4).f0))∧w'.cell? ⟨(A1.add ((x4_4).toNat * 5)).block,(A1.add ((x4_4).toNat * 5)).off + 1,none⟩=some (.slice A211_1 ((rd_T50 l0_2 x4_4).f1).length c211_1)∧w'.cell? ⟨(A1.add ((x4_4).toNat * 5)).block,(A1.add ((x4_4).toNat * 5)).off + 2,none⟩=some (.bool ((rd_T50 l0_2 x4_4).f2))∧w'.cell? ⟨(A1.add ((x4_4).toNat * 5)).block,(A1.add ((x4_4).toNat * 5)).off + 3,none⟩=some (.bool ((rd_T50 l0_2 x4_4).f3))∧w'.cell? ⟨(A1.add ((x4_4).toNat * 5)).block,(A1.add ((x4_4).toNat * 5)).off + 4,none⟩=some (.int .i64 ((rd_T50 l0_2 x4_4).f4))∧w'.cell? (A1.add ((x3_2).toNat * 5))=some (.string ((rd_T50 l0_2 x3_2).f0))∧w'.cell? ⟨(A1.add ((x3_2).toNat * 5)).block,(A1.add ((x3_2).toNat * 5)).off + 1,none⟩=some (.slice A212_1 ((rd_T50 l0_2 x3_2).f1).length c212_1)∧w'.cell? ⟨(A1.add ((x3_2).toNat * 5)).block,(A1.add ((x3_2).toNat * 5)).off + 2,none⟩=some (.bool ((rd_T50 l0_2 x3_2).f2))∧w'.cell? ⟨(A1.add ((x3_2).toNat * 5)).block,(A1.add ((x3_2).toNat * 5)).off + 3,none⟩=some (.bool ((rd_T50 l0_2 x3_2).f3))∧w'.cell? ⟨(A1.add ((x3_2).toNat * 5)).block,(A1.add ((x3_2).toNat * 5)).off + 4,none⟩=some (.int .i64 ((rd_T50 l0_2 x3_2).f4))) (ds:=[]) #[false,false,false,false,false,false,false,false,false,false,false,false,false] (by kernel_rfl) rfl rfl ⟨cz0 A0,cz1 A0,cz2 A0,((HB.out.cell (World.block_lt_of_cell? w _ E1)).trans E1),((HB.out.cell (World.block_lt_of_cell? w _ E0)).trans E0),((HB.out.cell (World.block_lt_of_cell? w _ D9)).trans D9),((HB.out.cell (World.block_lt_of_cell? w _ D8)).trans D8),((HB.out.cell (World.block_lt_of_cell? w _ D7)).trans D7),((HB.out.cell (World.block_lt_of_cell? w _ E8)).trans E8),((HB.out.cell (World.block_lt_of_cell? w _ E7)).trans E7),((HB.out.cell (World.block_lt_of_cell? w _ E6)).trans E6),((HB.out.cell (World.block_lt_of_cell? w _ E5)).trans E5),((HB.out.cell (World.block_lt_of_cell? w _ E4)).trans E4)⟩ (fun hHeld=> ?_);refine with_tabW spec_IsSignature.tab11 spec_IsSignature.bits11 (fun HT_ HW_=> ?_)
       generalize wr.drew=w29 at A0 HB G4 G5 B5 B7 B8 B9 C0 C1 C2 C3 C4 C5 hHeld ⊢
       refine pureS 0 46 HT_ rfl rfl ?_
       refine pureS 2 48 HT_ rfl rfl ?_
       refine pureS 6 52 HT_ rfl rfl ?_
       refine pureS 8 54 HT_ rfl rfl ?_
       refine takeS 1 47 HT_ HW_ rfl rfl hHeld ?_ spec_IsSignature.a0
       refine pureS 3 49 HT_ rfl rfl ?_
       refine pureS 4 50 HT_ rfl rfl ?_
       refine takeS 5 51 HT_ HW_ rfl rfl hHeld ?_ spec_IsSignature.a0
       refine takeS 7 53 HT_ HW_ rfl rfl hHeld ?_ spec_IsSignature.a0
       refine pureS 9 55 HT_ rfl rfl ?_
       refine pureS 10 56 HT_ rfl rfl ?_
       refine takeS 11 57 HT_ HW_ rfl rfl hHeld ?_ spec_IsSignature.a0
       refine pureS 12 58 HT_ rfl rfl ?_
       refine done_ (done_of HT_.out (by kernel_rfl)) ?_
       try go_wp2
       go_ret
       exact ⟨spec_IsSignature.a2,hV HB⟩
      ·rw [if_neg c28] at H
       have J5:(((rd_T50 l0_2 x4_4).f0).toList == ((rd_T50 l0_2 x3_2).f0).toList)=false:=beq_eq_false_iff_ne.mpr c28
       have J6:(((rd_T50 l0_2 x4_4).f0).toList != ((rd_T50 l0_2 x3_2).f0).toList)=true:=bne_iff_ne.mpr c28
       have H':=Aside0.mk H
       clear H
       try go_wp2
       replace A0:=Aside0.mk (blk_drew A0.out)
       replace HB:=Aside0.mk (below_drew1 HB.out)
       have F5:0≤(x4_4:Int):=dT
       have F6:x4_4 < (l0_2.length:Int):=dT
       obtain ⟨A1,A211_1,c211_1,e211,B5,B7,B8,B9,C0,D5,D6⟩:=at_T50 C6.out x4_4 F5 F6
       have D7:=C0
       have D8:=B9
       have D9:=B8
       have E0:=B7
       have E1:=B5
       cases e211
       replace B5:=xc HB B5
       replace B7:=xc HB B7
       replace B8:=xc HB B8
       replace B9:=xc HB B9
       replace C0:=xc HB C0
       have G4:=Aside0.mk D6
       have I4:=Aside0.mk D5
       clear D6 D5
       replace F5:=eq_true F5
       replace F6:=eq_true F6
       have F7:0≤(x3_2:Int):=dT
       have F8:x3_2 < (l0_2.length:Int):=dT
       obtain ⟨H7,A212_1,c212_1,e212,C1,C2,C3,C4,C5,E2,E3⟩:=at_T50 C6.out x3_2 F7 F8
       have E4:=C5
       have E5:=C4
       have E6:=C3
       have E7:=C2
       have E8:=C1
       obtain rfl:A1=H7:=(by injection e212)
       replace C1:=xc HB C1
       replace C2:=xc HB C2
       replace C3:=xc HB C3
       replace C4:=xc HB C4
       replace C5:=xc HB C5
       have G5:=Aside0.mk E3
       have I5:=Aside0.mk E2
       clear E3 E2
       replace F7:=eq_true F7
       replace F8:=eq_true F8
       refine start_ (n:=13) (S:=fun w'=>w'.cell? ⟨A3,0,none⟩=some (.slice A0_0 l0_0.length c0_0)∧w'.cell? ⟨A3,1,none⟩=some (.slice A0_1 l0_1.length c0_1)∧w'.cell? ⟨A3,2,none⟩=some (.slice (some A1) l0_2.length c0_2)∧w'.cell? (A1.add ((x4_4).toNat * 5))=some (.string ((rd_T50 l0_2 x4_4).f0))∧w'.cell? ⟨(A1.add ((x4_4).toNat * 5)).block,(A1.add ((x4_4).toNat * 5)).off + 1,none⟩=some (.slice A211_1 ((rd_T50 l0_2 x4_4).f1).length c211_1)∧w'.cell? ⟨(A1.add ((x4_4).toNat * 5)).block,(A1.add ((x4_4).toNat * 5)).off + 2,none⟩=some (.bool ((rd_T50 l0_2 x4_4).f2))∧w'.cell? ⟨(A1.add ((x4_4).toNat * 5)).block,(A1.add ((x4_4).toNat * 5)).off + 3,none⟩=some (.bool ((rd_T50 l0_2 x4_4).f3))∧w'.cell? ⟨(A1.add ((x4_4).toNat * 5)).block,(A1.add ((x4_4).toNat * 5)).off + 4,none⟩=some (.int .i64 ((rd_T50 l0_2 x4_4).f4))∧w'.cell? (A1.add ((x3_2).toNat * 5))=some (.string ((rd_T50 l0_2 x3_2).f0))∧w'.cell? ⟨(A1.add ((x3_2).toNat * 5)).block,(A1.add ((x3_2).toNat * 5)).off + 1,none⟩=some (.slice A212_1 ((rd_T50 l0_2 x3_2).f1).length c212_1)∧w'.cell? ⟨(A1.add ((x3_2).toNat * 5)).block,(A1.add ((x3_2).toNat * 5)).off + 2,none⟩=some (.bool ((rd_T50 l0_2 x3_2).f2))∧w'.cell? ⟨(A1.add ((x3_2).toNat * 5)).block,(A1.add ((x3_2).toNat * 5)).off + 3,none⟩=some (.bool ((rd_T50 l0_2 x3_2).f3))∧w'.cell? ⟨(A1.add ((x3_2).toNat * 5)).block,(A1.add ((x3_2).toNat * 5)).off + 4,none⟩=some (.int .i64 ((rd_T50 l0_2 x3_2).f4))) (ds:=[]) #[false,false,false,false,false,false,false,false,false,false,false,false,false] (by kernel_rfl) rfl rfl ⟨cz0 A0,cz1 A0,cz2 A0,((HB.out.cell (World.block_lt_of_cell? w _ E1)).trans E1),((HB.out.cell (World.block_lt_of_cell? w _ E0)).trans E0),((HB.out.cell (World.block_lt_of_cell? w _ D9)).trans D9),((HB.out.cell (World.block_lt_of_cell? w _ D8)).trans D8),((HB.out.cell (World.block_lt_of_cell? w _ D7)).trans D7),((HB.out.cell (World.block_lt_of_cell? w _ E8)).trans E8),((HB.out.cell (World.block_lt_of_cell? w _ E7)).trans E7),((HB.out.cell (World.block_lt_of_cell? w _ E6)).trans E6),((HB.out.cell (World.block_lt_of_cell? w _ E5)).trans E5),((HB.out.cell (World.block_lt_of_cell? w _ E4)).trans E4)⟩ (fun hHeld=> ?_);refine with_tabW spec_IsSignature.tab11 spec_IsSignature.bits11 (fun HT_ HW_=> ?_)
       generalize wr.drew=w30 at A0 HB G4 G5 B5 B7 B8 B9 C0 C1 C2 C3 C4 C5 hHeld ⊢
       refine pureS 0 46 HT_ rfl rfl ?_
       refine pureS 2 48 HT_ rfl rfl ?_
       refine pureS 6 52 HT_ rfl rfl ?_
       refine pureS 8 54 HT_ rfl rfl ?_
       refine takeS 1 47 HT_ HW_ rfl rfl hHeld ?_ spec_IsSignature.a0
       refine pureS 3 49 HT_ rfl rfl ?_
       refine pureS 4 50 HT_ rfl rfl ?_
       refine takeS 5 51 HT_ HW_ rfl rfl hHeld ?_ spec_IsSignature.a0
       refine takeS 7 53 HT_ HW_ rfl rfl hHeld ?_ spec_IsSignature.a0
       refine pureS 9 55 HT_ rfl rfl ?_
       refine pureS 10 56 HT_ rfl rfl ?_
       refine takeS 11 57 HT_ HW_ rfl rfl hHeld ?_ spec_IsSignature.a0
       refine pureS 12 58 HT_ rfl rfl ?_
       refine done_ (done_of HT_.out (by kernel_rfl)) ?_
       try go_wp2
       go_roundg k4
       case measure=>have:=HJ1.out;have:=HK2.out;have:=HJ12.out;have:=HK4.out;omega
       case rel=>exact ⟨(wrap64 (x4_4 + 1)),spec_IsSignature.a1,H',⟨by have:=HJ1.out;have:=HK2.out;have:=HJ12.out;have:=HK4.out;omega⟩,⟨vB A0⟩,⟨hV HB⟩⟩
   ·rw [if_neg c12] at H
    have G6:=decide_eq_false c12
    clear c12
    have H':=Aside0.mk H
    clear H
    obtain ⟨I6,I7,I8,I9,J0,J1⟩:=cf3 A0
    go_wp2
    go_loopg [5] k2 (fun kq v5 w'=> ∃ (x5_3:Int),v5=.int .i64 x5_3∧Aside0 (spec_IsSignature.l2 kq x5_3 l0_0 l0_1 l0_2=some r)∧Aside0 (kq≤k2)∧Aside0 (w'.heap[A3]? = some (.cells #[(.slice A0_0 l0_0.length c0_0),(.slice A0_1 l0_1.length c0_1),(.slice A0_2 l0_2.length c0_2)] 36 (0,0)))∧Aside0 (Below w.heap.size w w'))
    case atStart=>exact ⟨(0),spec_IsSignature.a1,H',⟨Nat.le_refl _⟩,⟨vB A0⟩,⟨hV HB⟩⟩
    clear H'
    try clear c11
    try clear c12
    try clear G6
    try clear I6
    try clear I8
    try clear J0
    try clear I7
    try clear I9
    try clear J1
    obtain ⟨x5_3,rfl,HA,HK3,A0,HB⟩:=hrel
    cases gk with
    | zero=>exact absurd HA.out (by simp [spec_IsSignature.l2])
    | succ k3=>
     have H:=HA.out
     clear HA
     simp only [spec_IsSignature.l2] at H
     by_cases c32:x5_3 < (l0_2.length:Int)
     rotate_left
     ·rw [if_neg c32] at H
      have J7:=decide_eq_false c32
      clear c32
      obtain rfl:=Option.some.inj H
      obtain ⟨J8,J9,K0,K1,K2,K3⟩:=cf3 A0
      go_wp2
      go_ret
      exact ⟨spec_IsSignature.a2,hV HB⟩

     rw [if_pos c32] at H
     have J7:=decide_eq_true c32
     clear c32
     replace H:=Option.bind_eq_some_iff.mp H
     obtain ⟨t213,A330,H⟩:=H
     replace H:(if t213=true then (spec_IsSignature.l2 k3 (wrap64 (x5_3 + 1)) l0_0 l0_1 l0_2) else (some false))=some r:=H
     have A33:=Aside0.mk A330
     clear A330
     by_cases c34:t213=true
     rotate_left
     ·replace c34:=Bool.eq_false_iff.mpr c34
      subst c34
      rw [if_neg (show ¬ (false=true) by decide)] at H
      obtain rfl:=Option.some.inj H
      obtain ⟨K4,K5,K6,K7,K8,K9⟩:=cf3 A0
      go_wp2_with (first | (refine goK 26 (some 68) rfl Try.func26 #[.agg #[.slice A0_0 l0_0.length c0_0,.slice A0_1 l0_1.length c0_1,.slice A0_2 l0_2.length c0_2],.int .i64 x5_3] ?_;(with_reducible refine (spec_l4Axioms.calls k3 _ _ l0_0 _ _ l0_1 _ _ l0_2 x5_3 false _ ?side1 ?side2 ?side3 ?side4 ?side5 ?side6 A33.out).mono ?_);(case side1=>exact cB F9 HB);(case side2=>exact G0.out);(case side3=>exact cB G1 HB);(case side4=>exact G2.out);(case side5=>exact cB C6 HB);(case side6=>exact H6.out);rintro e w38 ⟨rfl,hb⟩;refine ⟨_,rfl,?_⟩;replace A0:=bB A0 hb;replace HB:=hS HB hb;(try clear hb);(try clear hb2);(try clear hk);(try clear hi)))
      go_ret
      exact ⟨spec_IsSignature.a2,hV HB⟩
     subst c34
     rw [if_pos rfl] at H
     have H':=Aside0.mk H
     clear H
     obtain ⟨L0,L1,L2,L3,L4,L5⟩:=cf3 A0
     go_wp2_with (first | (refine goK 26 (some 68) rfl Try.func26 #[.agg #[.slice A0_0 l0_0.length c0_0,.slice A0_1 l0_1.length c0_1,.slice A0_2 l0_2.length c0_2],.int .i64 x5_3] ?_;(with_reducible refine (spec_l4Axioms.calls k3 _ _ l0_0 _ _ l0_1 _ _ l0_2 x5_3 true _ ?side1 ?side2 ?side3 ?side4 ?side5 ?side6 A33.out).mono ?_);(case side1=>exact cB F9 HB);(case side2=>exact G0.out);(case side3=>exact cB G1 HB);(case side4=>exact G2.out);(case side5=>exact cB C6 HB);(case side6=>exact H6.out);rintro e w36 ⟨rfl,hb⟩;refine ⟨_,rfl,?_⟩;replace A0:=bB A0 hb;replace HB:=hS HB hb;(try clear hb);(try clear hb2);(try clear hk);(try clear hi)))
     go_roundg k3
     case measure=>have:=HJ1.out;have:=HK2.out;have:=HK3.out;omega
     case rel=>exact ⟨(wrap64 (x5_3 + 1)),spec_IsSignature.a1,H',⟨by have:=HJ1.out;have:=HK2.out;have:=HK3.out;omega⟩,⟨vB A0⟩,⟨hV HB⟩⟩
/-! ### laws_toStringS: function 52 -/
def laws_toStringS.l0:Nat→List ByteArray→List ByteArray→Int→Option (List ByteArray)
 | 0,_,_,_=>none
 | k + 1,x0,x3,x4=>if x4 < (x0.length:Int) then (if 0≤x4 then (if x4 < (x3.length:Int) then (laws_toStringS.l0 k x0 (x3.set (x4:Int).toNat (rdOf ByteArray.empty x0 x4)) (wrap64 (x4 + 1))) else (none)) else (none)) else (some x3)
def laws_toStringS.f (k:Nat) (l0:List ByteArray):Option (List ByteArray):=if 0≤(l0.length:Int) then (if ((l0.length:Int):Int).toNat≤17592186044416 then (laws_toStringS.l0 k l0 (List.replicate ((l0.length:Int):Int).toNat (⟨#[]⟩:ByteArray)) 0) else (none)) else (none)
set_option maxHeartbeats 8000000 in
set_option maxRecDepth 100000 in
theorem laws_toStringS.calls (k:Nat) (A0:Option Addr) (c0:Nat) (l0:List ByteArray) (r:List ByteArray) (w:World) (hr0:Kd.C Kd.string w A0 l0.length l0) (hc0:l0.length≤c0) (h:laws_toStringS.f k l0=some r) :
  Calls Try.prog 52 #[.slice A0 l0.length c0] w fun e w'=> ∃ v0_:Value,e=.returned (v0_)∧Kd.R Kd.string 9 w' w.heap.size (fun _=>True) v0_ r∧Below w.heap.size w w':=by
 have B8:=Aside0.mk hr0
 have C6:=Aside0.mk hc0
 clear hr0 hc0
 have HB:=Aside0.mk (Below.refl w.heap.size w)
 have H:(if 0≤(l0.length:Int) then (if ((l0.length:Int):Int).toNat≤17592186044416 then (laws_toStringS.l0 k l0 (List.replicate ((l0.length:Int):Int).toNat (⟨#[]⟩:ByteArray)) 0) else (none)) else (none))=some r:=h
 clear h
 by_cases c2:0≤(l0.length:Int)
 rotate_left
 ·rw [if_neg c2] at H
  exact absurd H (by simp)

 rw [if_pos c2] at H
 have B1:=eq_true c2
 have B2:=decide_eq_true c2
 clear c2
 by_cases c3:((l0.length:Int):Int).toNat≤17592186044416
 rotate_left
 ·rw [if_neg c3] at H
  exact absurd H (by simp)
 rw [if_pos c3] at H
 have B3:=eq_true c3
 have B4:=decide_eq_true c3
 clear c3
 obtain ⟨y214,hy214⟩:∃ y_:List ByteArray,y_=(List.replicate ((l0.length:Int):Int).toNat (⟨#[]⟩:ByteArray)):=⟨_,rfl⟩
 replace H:(laws_toStringS.l0 k l0 y214 0)=some r:=by first | (rw [hy214];with_reducible exact H) | (have H2_:=(Option.bind_some _ _).symm.trans H;rw [hy214];with_reducible exact H2_) | (have H2_:=(Option.bind_some _ _).symm.trans H;with_reducible exact H2_) | with_reducible exact H | (rw [hy214];exact H) | exact H
 have A6:=Aside0.mk hy214
 clear hy214
 have H':=Aside0.mk H
 clear H
 go_enter Try.func52,Try.ntmps52
 go_wp2_with (first | ((with_reducible refine gate_dst (N:=7) rfl ?_);refine Kd.R_make Kd.string _ 9 rfl (N:=7) rfl 22 _ _ rfl (l0.length:Int) rfl rfl Try.underlying22 (.string ⟨#[]⟩) 16 info9 rfl (by decide) (by omega) (⟨#[]⟩:ByteArray) (ok:=fun _=>True) (okp:=fun _=>True) rfl (fun _ hk=>hk) trivial (dT) (Nat.le_trans (Nat.mul_le_mul_right _ (dT:(l0.length:Int).toNat≤17592186044416)) (by omega)) (Below.refl _ _) (Nat.le_refl _) ?_;intro v215 w4 ho5 hb hg_ hnew_;clear hg_ hnew_;(first | rw [← A6.out] at ho5 | (simp only [Int.reduceToNat] at ho5;rw [← A6.out] at ho5));have A8:=rL ho5 HB;replace HB:=hS HB hb;clear hb ho5))
 go_loopg [4] k (fun kq v4 w'=> ∃ (x3_1:List ByteArray) (x4_1:Int),v4=.int .i64 x4_1∧Aside0 (laws_toStringS.l0 kq l0 x3_1 x4_1=some r)∧Aside0 (kq≤k)∧Aside0 (Kd.R Kd.string 9 w' w.heap.size (fun _=>True) v215 x3_1)∧Aside0 (Below w.heap.size w w'))
 case atStart=>exact ⟨(y214),(0),(by first | rfl | (simp;done) | (simp [*];done)),H',⟨Nat.le_refl _⟩,⟨rV A8⟩,⟨hV HB⟩⟩
 clear H'
 try clear c2
 try clear B1
 try clear B2
 try clear c3
 try clear B3
 try clear B4
 obtain ⟨x3_1,x4_1,rfl,HA,HK1,A1,HB⟩:=hrel
 cases gk with
 | zero=>exact absurd HA.out (by simp [laws_toStringS.l0])
 | succ k1=>
  have H:=HA.out
  clear HA
  simp only [laws_toStringS.l0] at H
  by_cases c6:x4_1 < (l0.length:Int)
  rotate_left
  ·rw [if_neg c6] at H
   have B5:=decide_eq_false c6
   clear c6
   obtain rfl:=Option.some.inj H
   go_wp2
   go_ret
   exact ⟨_,by first | rfl | (simp [errW_none,errW_some] <;> rfl) | (simp [*,errW_none,errW_some] <;> rfl),rV A1,hV HB⟩
  rw [if_pos c6] at H
  have B5:=decide_eq_true c6
  clear c6
  by_cases c7:0≤x4_1
  rotate_left
  ·rw [if_neg c7] at H
   exact absurd H (by simp)
  rw [if_pos c7] at H
  have C4:=decide_eq_true c7
  clear c7
  by_cases c8:x4_1 < (x3_1.length:Int)
  rotate_left
  ·rw [if_neg c8] at H
   exact absurd H (by simp)
  rw [if_pos c8] at H
  have C5:=decide_eq_true c8
  clear c8
  obtain ⟨y218,hy218⟩:∃ y_:List ByteArray,y_=(x3_1.set (x4_1:Int).toNat (rdOf ByteArray.empty l0 x4_1)):=⟨_,rfl⟩
  replace H:(laws_toStringS.l0 k1 l0 y218 (wrap64 (x4_1 + 1)))=some r:=by first | (rw [hy218];with_reducible exact H) | (have H2_:=(Option.bind_some _ _).symm.trans H;rw [hy218];with_reducible exact H2_) | (have H2_:=(Option.bind_some _ _).symm.trans H;with_reducible exact H2_) | with_reducible exact H | (rw [hy218];exact H) | exact H
  have A9:=Aside0.mk hy218
  clear hy218
  have H':=Aside0.mk H
  clear H
  have A3:0≤(x4_1:Int):=dT
  have A4:x4_1 < (l0.length:Int):=dT
  obtain ⟨C1,e217,A2⟩:=Kd.at_string B8.out x4_1 A3 A4
  cases e217
  replace A2:=xc HB A2
  replace A3:=eq_true A3
  replace A4:=eq_true A4
  have p9:0≤(x4_1:Int):=dT
  have q9:(x4_1:Int) < ((x3_1.length:Int):Int):=dT
  obtain ⟨A7,B9,eo9,B0,gl9,cl9,HG9⟩:=Kd.R_form A1.out (by omega)
  (first | cases eo9 | (injection eo9 with ea_ en_ ec_;(first | subst ea_ | (injection ea_ with ea_;subst ea_));subst ec_;clear en_))
  have C0:=Aside0.mk B0
  have C7:=Aside0.mk HG9
  clear B0 gl9 HG9
  obtain ⟨C2,C3⟩:=Kd.R_celln (⟨#[]⟩:ByteArray) A1.out (x4_1:Int) p9 q9
  replace p9:=eq_true p9
  replace q9:=eq_true q9
  have A5:=Kd.R_putg A1.out (x4_1:Int) (rdOf ByteArray.empty l0 x4_1)
  go_wp2_with (first | ((with_reducible refine gate_store (t:=9) (p:=20) rfl ?_);refine store_event (t:=9) (p:=20) (v:=?vo_w11) (w1:=(wr.setCell ⟨A7,(x4_1:Int).toNat,none⟩ (.string (rdOf ByteArray.empty l0 x4_1)))) ?hg ?ho ?hn ?hr ?_;(case ho=>rfl);(case hg=>rfl);(case hn=>rfl);(case hr=>first | (go_simp;done) | (go_simp;rfl));intro w11 hw;have hg:wr.grownBy w11 (some A7):=(by rw [hw];exact A5.2);have hp_:Kd.R Kd.string 9 w11 w.heap.size (fun _=>True) (.slice (some ⟨A7,0,none⟩) x3_1.length B9) y218:=(by rw [hw,A9.out];exact A5.1);clear A5;replace A1:=Aside0.mk (hp_);replace HB:=Aside0.mk ((by rw [hw];exact below_set (HB.out) C0.out:Below w.heap.size w w11));clear hg hw hp_))
  go_roundg k1
  case measure=>have:=HK1.out;omega
  case rel=>exact ⟨(y218),(wrap64 (x4_1 + 1)),(by first | rfl | (simp;done) | (simp [*];done)),H',⟨by have:=HK1.out;omega⟩,⟨rV A1⟩,⟨hV HB⟩⟩
/-! ### laws_toSub: function 69 -/
def laws_toSub.f (a0_0:Int) (a0_1:Int):Option (Int × Int):=some (a0_0,a0_1)
set_option maxHeartbeats 8000000 in
set_option maxRecDepth 100000 in
theorem laws_toSub.calls (a0_0:Int) (a0_1:Int) (r1:Int) (r2:Int) (w:World) (h:laws_toSub.f a0_0 a0_1=some (r1,r2)) :
    Calls Try.prog 69 #[.agg #[.int .i64 a0_0,.int .i64 a0_1]] w fun e w'=>e=.returned (.agg #[.int .i64 r1,.int .i64 r2])∧Below w.heap.size w w':=by
  have hu107:=Try.underlying107
  have hu89:=Try.underlying89
  have HB:=Aside0.mk (Below.refl w.heap.size w)
  have H:(some (a0_0,a0_1))=some (r1,r2):=h
  clear h
  simp only [Option.some.injEq,Prod.mk.injEq] at H
  obtain ⟨rfl,rfl⟩:=H
  go_enter Try.func69,Try.ntmps69
  go_wp2_with (first | (refine bx 1 rfl #[.int .i64 a0_0,.int .i64 a0_1] 107 ?_;intro C2 hg w2 hbox hb;have A0:=Aside0.mk (hbox);have C3:=hZ HB hg;have C4:=hZ HB hg;replace HB:=hS HB hb;clear hb hbox hg) | (refine bx 2 rfl #[.int .i64 0,.int .i64 0] 89 ?_;intro A8 hg w3 hbox hb;have A1:=Aside0.mk (hbox);have C5:=hZ HB hg;have C6:=hZ HB hg;replace HB:=hS HB hb;have A2:=nL A0 hg;have A3:=nG A0 hg;replace A0:=bB A0 hb;clear hb hbox hg) | (refine bx 3 rfl #[.int .i64 0,.int .i64 0] 89 ?_;intro C7 hg w4 hbox hb;have A9:=Aside0.mk (hbox);have C8:=hZ HB hg;have C9:=hZ HB hg;replace HB:=hS HB hb;have A4:=nL A0 hg;have A5:=nG A0 hg;replace A0:=bB A0 hb;have A6:=nL A1 hg;have A7:=nG A1 hg;replace A1:=bB A1 hb;clear hb hbox hg;have D0:=A2.out;have D1:=A3.out;have D2:=A4.out;have D3:=A5.out;obtain ⟨B4,B5,B6,B7⟩:=cf2 A0;have D4:=A7.out;have D5:=A6.out;obtain ⟨B8,B9,C0,C1⟩:=cf2 A9;obtain ⟨B0,B1,B2,B3⟩:=cf2 A1))
  refine bodyPost_ret (results_cell_row rfl _ _ A8 89 #[.int .i64 a0_0,.int .i64 a0_1] (0,0) _ rfl (vP A1) Try.underlying89 rfl (by kernel_rfl)) rfl ?_
  exact ⟨by first | rfl | (simp [errW_none,errW_some] <;> rfl) | (simp [*,errW_none,errW_some] <;> rfl),hV HB⟩

end Go.Proofs.Ytpildjbakceicaa.Q

