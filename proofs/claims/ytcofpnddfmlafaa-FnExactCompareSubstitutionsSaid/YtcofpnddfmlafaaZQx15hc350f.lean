/- Functions of the program as plain Lean functions,and that the calls come to what they say. -/
import Derived.Test.YtcofpnddfmlafaaZQx0hd86e5
import Derived.Test.YtcofpnddfmlafaaZQx1h4b58c
import Derived.Test.YtcofpnddfmlafaaZQx2h610b2
import Derived.Test.YtcofpnddfmlafaaZShorth79069
namespace Go.Proofs.Ytcofpnddfmlafaa.Q
open Go.RowKit Go.Proofs.YtcofpnddfmlafaaW.PrintWords Go.Proofs.YtcofpnddfmlafaaW.PrintLast Go.Proofs.YtcofpnddfmlafaaW.PrintMore
attribute [local go_sem] max2_int min2_int max_two min_two max_three min_three max_four min_four   -- for this text's walks alone
set_option linter.unusedVariables false
set_option linter.unusedSimpArgs false

/-! ### spec_CompareSubstitutions: function 36 -/
theorem spec_CompareSubstitutions.a0 {P_:Prop} (h_:P_:=by rintro w' ⟨s0,s1,s2,s3,s4,s5,s6,s7,s8,s9,s10,s11,s12,s13,s14,s15⟩;go_simp;with_reducible rfl):P_:=h_
theorem spec_CompareSubstitutions.a1 {P_:Prop} (h_:P_:=by (try simp only [List.map_toArray,List.map_cons,List.map_nil]);first | done | rfl | (simp only [List.length_drop,List.length_take];rfl)):P_:=h_
theorem spec_CompareSubstitutions.a2 {P_:Prop} (h_:P_:=by first | rfl | (simp [errW_none,errW_some] <;> rfl) | (simp [*,errW_none,errW_some] <;> rfl)):P_:=h_
mutual
def spec_CompareSubstitutions.l0:Nat→List (S73)→List (S73)→Int→Option (Int)
 | 0,_,_,_=>none
 | k + 1,x0,x1,x5=>if x5 < (x0.length:Int) then (spec_CompareSubstitutions.j1 k x0 x1 x5 (decide (x5 < (x1.length:Int)))) else (spec_CompareSubstitutions.j1 k x0 x1 x5 false)
def spec_CompareSubstitutions.j1:Nat→List (S73)→List (S73)→Int→Bool→Option (Int)
 | 0,_,_,_,_=>none
 | k + 1,x0,x1,x5,x16=>if x16=true then (if 0≤x5 then (if x5 < (x0.length:Int) then (if x5 < (x1.length:Int) then ((spec_CompareTerms.f k ((rd_T73 x0 x5).f0.f0) ((rd_T73 x0 x5).f0.f1) ((rd_T73 x0 x5).f0.f2) ((rd_T73 x0 x5).f0.f3) ((rd_T73 x1 x5).f0.f0) ((rd_T73 x1 x5).f0.f1) ((rd_T73 x1 x5).f0.f2) ((rd_T73 x1 x5).f0.f3)).bind fun t682=>(if t682=0 then ((spec_CompareTerms.f k ((rd_T73 x0 x5).f1.f0) ((rd_T73 x0 x5).f1.f1) ((rd_T73 x0 x5).f1.f2) ((rd_T73 x0 x5).f1.f3) ((rd_T73 x1 x5).f1.f0) ((rd_T73 x1 x5).f1.f1) ((rd_T73 x1 x5).f1.f2) ((rd_T73 x1 x5).f1.f3)).bind fun t685=>(if t685=0 then (spec_CompareSubstitutions.l0 k x0 x1 (wrap64 (x5 + 1))) else (some t685))) else (some t682))) else (none)) else (none)) else (none)) else (if (x0.length:Int) < (x1.length:Int) then (some (-1)) else (if (x0.length:Int) > (x1.length:Int) then (some 1) else (some 0)))
end
def spec_CompareSubstitutions.f (k:Nat) (l0:List (S73)) (l1:List (S73)):Option (Int):=spec_CompareSubstitutions.l0 k l0 l1 0
def spec_CompareSubstitutions.T4:Bool × List (List Nat × List Nat):=(true,[([],[]),([],[]),([0,1],[0,1]),([2],[2]),([3],[3]),([],[]),([],[]),([5,6],[5,6]),([7],[7]),([8],[8]),([4,9],[4,9]),([10,10,0,1,2,3,4,5,6,7,8,9,10],[10])])
def spec_CompareSubstitutions.B4:List Nat:=[0,0,3,7,15,0,0,96,224,480,1023,2047]
theorem spec_CompareSubstitutions.tab4:rtab .any (opsOf Try.f36 4)=spec_CompareSubstitutions.T4:=by kernel_rfl
theorem spec_CompareSubstitutions.bits4:waitsOk spec_CompareSubstitutions.T4.2 spec_CompareSubstitutions.B4=true:=by kernel_rfl
def spec_CompareSubstitutions.T6:Bool × List (List Nat × List Nat):=(true,[([],[]),([],[]),([0,1],[0,1]),([2],[2]),([3],[3]),([],[]),([],[]),([5,6],[5,6]),([7],[7]),([8],[8]),([4,9],[4,9]),([10,10,0,1,2,3,4,5,6,7,8,9,10],[10])])
def spec_CompareSubstitutions.B6:List Nat:=[0,0,3,7,15,0,0,96,224,480,1023,2047]
theorem spec_CompareSubstitutions.tab6:rtab .any (opsOf Try.f36 6)=spec_CompareSubstitutions.T6:=by kernel_rfl
theorem spec_CompareSubstitutions.bits6:waitsOk spec_CompareSubstitutions.T6.2 spec_CompareSubstitutions.B6=true:=by kernel_rfl
set_option maxHeartbeats 8000000 in
set_option maxRecDepth 100000 in
theorem spec_CompareSubstitutions.calls (k:Nat) (A0:Option Addr) (c0:Nat) (l0:List (S73)) (A1:Option Addr) (c1:Nat) (l1:List (S73)) (r:Int) (w:World) (hr0:Kd.C k73 w A0 l0.length l0) (hc0:l0.length≤c0) (hr1:Kd.C k73 w A1 l1.length l1) (hc1:l1.length≤c1) (h:spec_CompareSubstitutions.f k l0 l1=some r) :
  Calls Try.prog 36 #[.slice A0 l0.length c0,.slice A1 l1.length c1] w fun e w'=>e=.returned (.int .i64 r)∧Below w.heap.size w w':=by
 have hu29:=Try.underlying29
 have L2:=Aside0.mk hr0
 have M8:=Aside0.mk hc0
 clear hr0 hc0
 have L3:=Aside0.mk hr1
 have M9:=Aside0.mk hc1
 clear hr1 hc1
 have HB:=Aside0.mk (Below.refl w.heap.size w)
 have H:(spec_CompareSubstitutions.l0 k l0 l1 0)=some r:=h
 clear h
 have H':=Aside0.mk H
 clear H
 go_enter Try.func36,Try.ntmps36
 go_wp2
 go_loopg [5] k (fun kq v5 w'=> ∃ (x5_1:Int),v5=.int .i64 x5_1∧Aside0 (spec_CompareSubstitutions.l0 kq l0 l1 x5_1=some r)∧Aside0 (kq≤k)∧Aside0 (Below w.heap.size w w'))
 case atStart=>exact ⟨(0),(by first | rfl | (simp;done) | (simp [*];done)),H',⟨Nat.le_refl _⟩,⟨hV HB⟩⟩
 clear H'
 try clear c1
 obtain ⟨x5_1,rfl,HA,HK1,HB⟩:=hrel
 cases gk with
 | zero=>exact absurd HA.out (by simp [spec_CompareSubstitutions.l0])
 | succ k1=>
  have H:=HA.out
  clear HA
  simp only [spec_CompareSubstitutions.l0] at H
  have L6:=Aside0.mk H
  clear H
  go_upto_region 2 with (fail)
  go_cut [16] (fun v16 wc=> ∃ (kq:Nat) (x16_2:Bool),v16=.bool x16_2∧Aside0 (spec_CompareSubstitutions.j1 kq l0 l1 x5_1 x16_2=some r)∧Aside0 (kq≤k1)∧Aside0 (Below w.heap.size w wc))
  case first=>
   have H:=L6.out
   clear L6
   by_cases c4:x5_1 < (l0.length:Int)
   rotate_left
   ·rw [if_neg c4] at H
    have K7:=decide_eq_false c4
    clear c4
    (first | rw [K7] | (simp only [i64_w,i32_w];rw [K7]) | skip)
    have H':=Aside0.mk H
    clear H
    go_wp2
    go_meet
    case rel=>exact ⟨_,(false),(by first | rfl | (simp;done) | (simp [*];done)),H',⟨by have:=HK1.out;first | omega | exact Nat.le_refl _⟩,⟨hV HB⟩⟩
   rw [if_pos c4] at H
   have K7:=decide_eq_true c4
   clear c4
   (first | rw [K7] | (simp only [i64_w,i32_w];rw [K7]) | skip)
   have H':=Aside0.mk H
   clear H
   go_wp2
   go_meet
   case rel=>exact ⟨_,(decide (x5_1 < (l1.length:Int))),(by first | rfl | (simp;done) | (simp [*];done)),H',⟨by have:=HK1.out;first | omega | exact Nat.le_refl _⟩,⟨hV HB⟩⟩
  clear L6
  try clear c1
  obtain ⟨kq,x16_2,rfl,HA,HJ2,HB⟩:=hcut
  cases kq with
  | zero=>exact absurd HA.out (by simp [spec_CompareSubstitutions.j1])
  | succ kj2=>
   have H:=HA.out
   clear HA
   simp only [spec_CompareSubstitutions.j1] at H
   by_cases c5:x16_2=true
   ·subst c5
    rw [if_pos rfl] at H
    by_cases c6:0≤x5_1
    rotate_left
    ·rw [if_neg c6] at H
     exact absurd H (by simp)
    rw [if_pos c6] at H
    have M5:=decide_eq_true c6
    clear c6
    by_cases c7:x5_1 < (l0.length:Int)
    rotate_left
    ·rw [if_neg c7] at H
     exact absurd H (by simp)
    rw [if_pos c7] at H
    have M6:=decide_eq_true c7
    clear c7
    by_cases c8:x5_1 < (l1.length:Int)
    rotate_left
    ·rw [if_neg c8] at H
     exact absurd H (by simp)
    rw [if_pos c8] at H
    have M7:=decide_eq_true c8
    clear c8
    replace H:=Option.bind_eq_some_iff.mp H
    obtain ⟨t682,A90,H⟩:=H
    replace H:(if t682=0 then ((spec_CompareTerms.f kj2 ((rd_T73 l0 x5_1).f1.f0) ((rd_T73 l0 x5_1).f1.f1) ((rd_T73 l0 x5_1).f1.f2) ((rd_T73 l0 x5_1).f1.f3) ((rd_T73 l1 x5_1).f1.f0) ((rd_T73 l1 x5_1).f1.f1) ((rd_T73 l1 x5_1).f1.f2) ((rd_T73 l1 x5_1).f1.f3)).bind fun t685=>(if t685=0 then (spec_CompareSubstitutions.l0 kj2 l0 l1 (wrap64 (x5_1 + 1))) else (some t685))) else (some t682))=some r:=H
    have A9:=Aside0.mk A90
    clear A90
    by_cases c10:t682=0
    ·rw [if_pos c10] at H
     have L7:(t682 == 0)=true:=beq_iff_eq.mpr c10
     have L8:(t682 != 0)=false:=bne_eq_false_iff_eq.mpr c10
     clear c10
     replace H:=Option.bind_eq_some_iff.mp H
     obtain ⟨t685,A110,H⟩:=H
     replace H:(if t685=0 then (spec_CompareSubstitutions.l0 kj2 l0 l1 (wrap64 (x5_1 + 1))) else (some t685))=some r:=H
     have A11:=Aside0.mk A110
     clear A110
     by_cases c12:t685=0
     ·rw [if_pos c12] at H
      have L9:(t685 == 0)=true:=beq_iff_eq.mpr c12
      have M0:(t685 != 0)=false:=bne_eq_false_iff_eq.mpr c12
      clear c12
      have H':=Aside0.mk H
      clear H
      try go_wp2
      replace HB:=Aside0.mk (below_drew1 HB.out)
      have I1:0≤(x5_1:Int):=dT
      have I2:x5_1 < (l0.length:Int):=dT
      obtain ⟨A2,A680_3,c680_3,A680_7,c680_7,e680,A4,A5,A6,A7,A8,B0,B1,B2,H1,H2,H3,H4⟩:=at_T73 L2.out x5_1 I1 I2
      have B3:=B2
      have B5:=B1
      have B7:=B0
      have B8:=A8
      have B9:=A7
      have C0:=A6
      have C1:=A5
      have C2:=A4
      cases e680
      replace A4:=xc HB A4
      replace A5:=xc HB A5
      replace A6:=xc HB A6
      replace A7:=xc HB A7
      replace A8:=xc HB A8
      replace B0:=xc HB B0
      replace B1:=xc HB B1
      replace B2:=xc HB B2
      have H5:=Aside0.mk H2
      have I5:=Aside0.mk H1
      clear H2 H1
      have I6:=Aside0.mk H4
      have K8:=Aside0.mk H3
      clear H4 H3
      replace I1:=eq_true I1
      replace I2:=eq_true I2
      have I3:0≤(x5_1:Int):=dT
      have I4:x5_1 < (l1.length:Int):=dT
      obtain ⟨A3,A681_3,c681_3,A681_7,c681_7,e681,C3,C4,C5,C6,C7,C8,C9,D0,H6,H7,H8,H9⟩:=at_T73 L3.out x5_1 I3 I4
      have D1:=D0
      have D2:=C9
      have D3:=C8
      have D4:=C7
      have D5:=C6
      have D6:=C5
      have D7:=C4
      have D8:=C3
      cases e681
      replace C3:=xc HB C3
      replace C4:=xc HB C4
      replace C5:=xc HB C5
      replace C6:=xc HB C6
      replace C7:=xc HB C7
      replace C8:=xc HB C8
      replace C9:=xc HB C9
      replace D0:=xc HB D0
      have I0:=Aside0.mk H7
      have I7:=Aside0.mk H6
      clear H7 H6
      have I8:=Aside0.mk H9
      have K9:=Aside0.mk H8
      clear H9 H8
      replace I3:=eq_true I3
      replace I4:=eq_true I4
      refine start_ (n:=12) (S:=fun w'=>w'.cell? (A2.add ((x5_1).toNat * 8))=some (.int .i64 ((rd_T73 l0 x5_1).f0.f0))∧w'.cell? ⟨(A2.add ((x5_1).toNat * 8)).block,(A2.add ((x5_1).toNat * 8)).off + 1,none⟩=some (.string ((rd_T73 l0 x5_1).f0.f1))∧w'.cell? ⟨(A2.add ((x5_1).toNat * 8)).block,(A2.add ((x5_1).toNat * 8)).off + 2,none⟩=some (.int .i64 ((rd_T73 l0 x5_1).f0.f2))∧w'.cell? ⟨(A2.add ((x5_1).toNat * 8)).block,(A2.add ((x5_1).toNat * 8)).off + 3,none⟩=some (.slice A680_3 ((rd_T73 l0 x5_1).f0.f3).length c680_3)∧w'.cell? ⟨(A2.add ((x5_1).toNat * 8)).block,(A2.add ((x5_1).toNat * 8)).off + 4,none⟩=some (.int .i64 ((rd_T73 l0 x5_1).f1.f0))∧w'.cell? ⟨(A2.add ((x5_1).toNat * 8)).block,(A2.add ((x5_1).toNat * 8)).off + 5,none⟩=some (.string ((rd_T73 l0 x5_1).f1.f1))∧w'.cell? ⟨(A2.add ((x5_1).toNat * 8)).block,(A2.add ((x5_1).toNat * 8)).off + 6,none⟩=some (.int .i64 ((rd_T73 l0 x5_1).f1.f2))∧w'.cell? ⟨(A2.add ((x5_1).toNat * 8)).block,(A2.add ((x5_1).toNat * 8)).off + 7,none⟩=some (.slice A680_7 ((rd_T73 l0 x5_1).f1.f3).length c680_7)∧w'.cell? (A3.add ((x5_1).toNat * 8))=some (.int .i64 ((rd_T73 l1 x5_1).f0.f0))∧w'.cell? ⟨(A3.add ((x5_1).toNat * 8)).block,(A3.add ((x5_1).toNat * 8)).off + 1,none⟩=some (.string ((rd_T73 l1 x5_1).f0.f1))∧w'.cell? ⟨(A3.add ((x5_1).toNat * 8)).block,(A3.add ((x5_1).toNat * 8)).off + 2,none⟩=some (.int .i64 ((rd_T73 l1 x5_1).f0.f2))∧w'.cell? ⟨(A3.add ((x5_1).toNat * 8)).block,(A3.add ((x5_1).toNat * 8)).off + 3,none⟩=some (.slice A681_3 ((rd_T73 l1 x5_1).f0.f3).length c681_3)∧w'.cell? ⟨(A3.add ((x5_1).toNat * 8)).block,(A3.add ((x5_1).toNat * 8)).off + 4,none⟩=some (.int .i64 ((rd_T73 l1 x5_1).f1.f0))∧w'.cell? ⟨(A3.add ((x5_1).toNat * 8)).block,(A3.add ((x5_1).toNat * 8)).off + 5,none⟩=some (.string ((rd_T73 l1 x5_1).f1.f1))∧w'.cell? ⟨(A3.add ((x5_1).toNat * 8)).block,(A3.add ((x5_1).toNat * 8)).off + 6,none⟩=some (.int .i64 ((rd_T73 l1 x5_1).f1.f2))∧w'.cell? ⟨(A3.add ((x5_1).toNat * 8)).block,(A3.add ((x5_1).toNat * 8)).off + 7,none⟩=some (.slice A681_7 ((rd_T73 l1 x5_1).f1.f3).length c681_7)) (ds:=[]) #[false,false,false,false,false,false,false,false,false,false,false,false] (by kernel_rfl) rfl rfl ⟨((HB.out.cell (World.block_lt_of_cell? w _ C2)).trans C2),((HB.out.cell (World.block_lt_of_cell? w _ C1)).trans C1),((HB.out.cell (World.block_lt_of_cell? w _ C0)).trans C0),((HB.out.cell (World.block_lt_of_cell? w _ B9)).trans B9),((HB.out.cell (World.block_lt_of_cell? w _ B8)).trans B8),((HB.out.cell (World.block_lt_of_cell? w _ B7)).trans B7),((HB.out.cell (World.block_lt_of_cell? w _ B5)).trans B5),((HB.out.cell (World.block_lt_of_cell? w _ B3)).trans B3),((HB.out.cell (World.block_lt_of_cell? w _ D8)).trans D8),((HB.out.cell (World.block_lt_of_cell? w _ D7)).trans D7),((HB.out.cell (World.block_lt_of_cell? w _ D6)).trans D6),((HB.out.cell (World.block_lt_of_cell? w _ D5)).trans D5),((HB.out.cell (World.block_lt_of_cell? w _ D4)).trans D4),((HB.out.cell (World.block_lt_of_cell? w _ D3)).trans D3),((HB.out.cell (World.block_lt_of_cell? w _ D2)).trans D2),((HB.out.cell (World.block_lt_of_cell? w _ D1)).trans D1)⟩ (fun hHeld=> ?_);refine with_tabW spec_CompareSubstitutions.tab4 spec_CompareSubstitutions.bits4 (fun HT_ HW_=> ?_)
      generalize wc.drew=w13 at HB H5 I6 I0 I8 A4 A5 A6 A7 A8 B0 B1 B2 C3 C4 C5 C6 C7 C8 C9 D0 hHeld ⊢
      refine pureS 0 19 HT_ rfl rfl ?_
      refine pureS 1 20 HT_ rfl rfl ?_
      refine pureS 2 21 HT_ rfl rfl ?_
      refine pureS 3 22 HT_ rfl rfl ?_
      refine pureS 5 24 HT_ rfl rfl ?_
      refine pureS 6 25 HT_ rfl rfl ?_
      refine pureS 7 26 HT_ rfl rfl ?_
      refine pureS 8 27 HT_ rfl rfl ?_
      refine takeS 4 23 HT_ HW_ rfl rfl hHeld ?_ spec_CompareSubstitutions.a0
      refine takeS 9 28 HT_ HW_ rfl rfl hHeld ?_ spec_CompareSubstitutions.a0
      refine one_ (i:=10) (N:=some 29) #[true,true,true,true,true,true,true,true,true,true,true,false] rfl rfl (one_of HT_.out (by kernel_rfl)) (by decide) (fun K hK=> ?_)
      refine goes_ Try.func12 (by kernel_rfl) rfl #[.agg #[.int .i64 ((rd_T73 l0 x5_1).f0.f0),.string ((rd_T73 l0 x5_1).f0.f1),.int .i64 ((rd_T73 l0 x5_1).f0.f2),.slice A680_3 ((rd_T73 l0 x5_1).f0.f3).length c680_3],.agg #[.int .i64 ((rd_T73 l1 x5_1).f0.f0),.string ((rd_T73 l1 x5_1).f0.f1),.int .i64 ((rd_T73 l1 x5_1).f0.f2),.slice A681_3 ((rd_T73 l1 x5_1).f0.f3).length c681_3]] (by rfl) rfl rfl spec_CompareSubstitutions.a1 ?_
      with_reducible refine (spec_CompareTerms.calls kj2 ((rd_T73 l0 x5_1).f0.f0) ((rd_T73 l0 x5_1).f0.f1) ((rd_T73 l0 x5_1).f0.f2) _ _ ((rd_T73 l0 x5_1).f0.f3) ((rd_T73 l1 x5_1).f0.f0) ((rd_T73 l1 x5_1).f0.f1) ((rd_T73 l1 x5_1).f0.f2) _ _ ((rd_T73 l1 x5_1).f0.f3) t682 _ ?side1 ?side2 ?side3 ?side4 A9.out).mono ?_
      (case side1=>exact cB H5 HB)
      (case side2=>exact I5.out)
      (case side3=>exact cB I0 HB)
      (case side4=>exact I7.out)
      rintro e w14 ⟨rfl,hb⟩
      refine ⟨_,rfl,?_⟩
      replace HB:=hS HB hb
      (try clear hb)
      (try clear hb2)
      (try clear hk)
      (try clear hi)
      refine hK.out _ _ ⟨((HB.out.cell (World.block_lt_of_cell? w _ C2)).trans C2),((HB.out.cell (World.block_lt_of_cell? w _ C1)).trans C1),((HB.out.cell (World.block_lt_of_cell? w _ C0)).trans C0),((HB.out.cell (World.block_lt_of_cell? w _ B9)).trans B9),((HB.out.cell (World.block_lt_of_cell? w _ B8)).trans B8),((HB.out.cell (World.block_lt_of_cell? w _ B7)).trans B7),((HB.out.cell (World.block_lt_of_cell? w _ B5)).trans B5),((HB.out.cell (World.block_lt_of_cell? w _ B3)).trans B3),((HB.out.cell (World.block_lt_of_cell? w _ D8)).trans D8),((HB.out.cell (World.block_lt_of_cell? w _ D7)).trans D7),((HB.out.cell (World.block_lt_of_cell? w _ D6)).trans D6),((HB.out.cell (World.block_lt_of_cell? w _ D5)).trans D5),((HB.out.cell (World.block_lt_of_cell? w _ D4)).trans D4),((HB.out.cell (World.block_lt_of_cell? w _ D3)).trans D3),((HB.out.cell (World.block_lt_of_cell? w _ D2)).trans D2),((HB.out.cell (World.block_lt_of_cell? w _ D1)).trans D1)⟩ (fun hHeld=> ?_)
      clear hK K
      refine norm_ (a':=?_) ?_ ?_
      rotate_left
      ·show Act.put _ (some 29) _=_
       simp only [Act.put,List.setIfInBounds_toArray,List.set_cons_zero,List.set_cons_succ,i64_w,i32_w]
       rfl
      refine pureS 11 6 HT_ rfl rfl ?_
      refine done_ (done_of HT_.out (by kernel_rfl)) ?_
      try go_wp2
      replace HB:=Aside0.mk (below_drew1 HB.out)
      have J9:0≤(x5_1:Int):=dT
      have K0:x5_1 < (l0.length:Int):=dT
      obtain ⟨L0,A683_3,c683_3,A683_7,c683_7,e683,D9,E0,E1,E2,E3,E4,E5,E6,I9,J0,J1,J2⟩:=at_T73 L2.out x5_1 J9 K0
      have E7:=E6
      have E8:=E5
      have E9:=E4
      have F0:=E3
      have F1:=E2
      have F2:=E1
      have F3:=E0
      have F4:=D9
      obtain rfl:A2=L0:=(by injection e683)
      replace D9:=xc HB D9
      replace E0:=xc HB E0
      replace E1:=xc HB E1
      replace E2:=xc HB E2
      replace E3:=xc HB E3
      replace E4:=xc HB E4
      replace E5:=xc HB E5
      replace E6:=xc HB E6
      have K3:=Aside0.mk J0
      have L4:=Aside0.mk I9
      clear J0 I9
      have J3:=Aside0.mk J2
      have K4:=Aside0.mk J1
      clear J2 J1
      replace J9:=eq_true J9
      replace K0:=eq_true K0
      have K1:0≤(x5_1:Int):=dT
      have K2:x5_1 < (l1.length:Int):=dT
      obtain ⟨L1,A684_3,c684_3,A684_7,c684_7,e684,F5,F6,F7,F8,F9,G0,G1,G2,J4,J5,J6,J7⟩:=at_T73 L3.out x5_1 K1 K2
      have G3:=G2
      have G4:=G1
      have G5:=G0
      have G6:=F9
      have G7:=F8
      have G8:=F7
      have G9:=F6
      have H0:=F5
      obtain rfl:A3=L1:=(by injection e684)
      replace F5:=xc HB F5
      replace F6:=xc HB F6
      replace F7:=xc HB F7
      replace F8:=xc HB F8
      replace F9:=xc HB F9
      replace G0:=xc HB G0
      replace G1:=xc HB G1
      replace G2:=xc HB G2
      have K5:=Aside0.mk J5
      have L5:=Aside0.mk J4
      clear J5 J4
      have J8:=Aside0.mk J7
      have K6:=Aside0.mk J6
      clear J7 J6
      replace K1:=eq_true K1
      replace K2:=eq_true K2
      refine start_ (n:=12) (S:=fun w'=>w'.cell? (A2.add ((x5_1).toNat * 8))=some (.int .i64 ((rd_T73 l0 x5_1).f0.f0))∧w'.cell? ⟨(A2.add ((x5_1).toNat * 8)).block,(A2.add ((x5_1).toNat * 8)).off + 1,none⟩=some (.string ((rd_T73 l0 x5_1).f0.f1))∧w'.cell? ⟨(A2.add ((x5_1).toNat * 8)).block,(A2.add ((x5_1).toNat * 8)).off + 2,none⟩=some (.int .i64 ((rd_T73 l0 x5_1).f0.f2))∧w'.cell? ⟨(A2.add ((x5_1).toNat * 8)).block,(A2.add ((x5_1).toNat * 8)).off + 3,none⟩=some (.slice A683_3 ((rd_T73 l0 x5_1).f0.f3).length c683_3)∧w'.cell? ⟨(A2.add ((x5_1).toNat * 8)).block,(A2.add ((x5_1).toNat * 8)).off + 4,none⟩=some (.int .i64 ((rd_T73 l0 x5_1).f1.f0))∧w'.cell? ⟨(A2.add ((x5_1).toNat * 8)).block,(A2.add ((x5_1).toNat * 8)).off + 5,none⟩=some (.string ((rd_T73 l0 x5_1).f1.f1))∧w'.cell? ⟨(A2.add ((x5_1).toNat * 8)).block,(A2.add ((x5_1).toNat * 8)).off + 6,none⟩=some (.int .i64 ((rd_T73 l0 x5_1).f1.f2))∧w'.cell? ⟨(A2.add ((x5_1).toNat * 8)).block,(A2.add ((x5_1).toNat * 8)).off + 7,none⟩=some (.slice A683_7 ((rd_T73 l0 x5_1).f1.f3).length c683_7)∧w'.cell? (A3.add ((x5_1).toNat * 8))=some (.int .i64 ((rd_T73 l1 x5_1).f0.f0))∧w'.cell? ⟨(A3.add ((x5_1).toNat * 8)).block,(A3.add ((x5_1).toNat * 8)).off + 1,none⟩=some (.string ((rd_T73 l1 x5_1).f0.f1))∧w'.cell? ⟨(A3.add ((x5_1).toNat * 8)).block,(A3.add ((x5_1).toNat * 8)).off + 2,none⟩=some (.int .i64 ((rd_T73 l1 x5_1).f0.f2))∧w'.cell? ⟨(A3.add ((x5_1).toNat * 8)).block,(A3.add ((x5_1).toNat * 8)).off + 3,none⟩=some (.slice A684_3 ((rd_T73 l1 x5_1).f0.f3).length c684_3)∧w'.cell? ⟨(A3.add ((x5_1).toNat * 8)).block,(A3.add ((x5_1).toNat * 8)).off + 4,none⟩=some (.int .i64 ((rd_T73 l1 x5_1).f1.f0))∧w'.cell? ⟨(A3.add ((x5_1).toNat * 8)).block,(A3.add ((x5_1).toNat * 8)).off + 5,none⟩=some (.string ((rd_T73 l1 x5_1).f1.f1))∧w'.cell? ⟨(A3.add ((x5_1).toNat * 8)).block,(A3.add ((x5_1).toNat * 8)).off + 6,none⟩=some (.int .i64 ((rd_T73 l1 x5_1).f1.f2))∧w'.cell? ⟨(A3.add ((x5_1).toNat * 8)).block,(A3.add ((x5_1).toNat * 8)).off + 7,none⟩=some (.slice A684_7 ((rd_T73 l1 x5_1).f1.f3).length c684_7)) (ds:=[]) #[false,false,false,false,false,false,false,false,false,false,false,false] (by kernel_rfl) rfl rfl ⟨((HB.out.cell (World.block_lt_of_cell? w _ F4)).trans F4),((HB.out.cell (World.block_lt_of_cell? w _ F3)).trans F3),((HB.out.cell (World.block_lt_of_cell? w _ F2)).trans F2),((HB.out.cell (World.block_lt_of_cell? w _ F1)).trans F1),((HB.out.cell (World.block_lt_of_cell? w _ F0)).trans F0),((HB.out.cell (World.block_lt_of_cell? w _ E9)).trans E9),((HB.out.cell (World.block_lt_of_cell? w _ E8)).trans E8),((HB.out.cell (World.block_lt_of_cell? w _ E7)).trans E7),((HB.out.cell (World.block_lt_of_cell? w _ H0)).trans H0),((HB.out.cell (World.block_lt_of_cell? w _ G9)).trans G9),((HB.out.cell (World.block_lt_of_cell? w _ G8)).trans G8),((HB.out.cell (World.block_lt_of_cell? w _ G7)).trans G7),((HB.out.cell (World.block_lt_of_cell? w _ G6)).trans G6),((HB.out.cell (World.block_lt_of_cell? w _ G5)).trans G5),((HB.out.cell (World.block_lt_of_cell? w _ G4)).trans G4),((HB.out.cell (World.block_lt_of_cell? w _ G3)).trans G3)⟩ (fun hHeld=> ?_);refine with_tabW spec_CompareSubstitutions.tab6 spec_CompareSubstitutions.bits6 (fun HT_ HW_=> ?_)
      generalize w14.drew=w15 at HB K3 J3 K5 J8 D9 E0 E1 E2 E3 E4 E5 E6 F5 F6 F7 F8 F9 G0 G1 G2 hHeld ⊢
      refine pureS 0 32 HT_ rfl rfl ?_
      refine pureS 1 33 HT_ rfl rfl ?_
      refine pureS 2 34 HT_ rfl rfl ?_
      refine pureS 3 35 HT_ rfl rfl ?_
      refine pureS 5 37 HT_ rfl rfl ?_
      refine pureS 6 38 HT_ rfl rfl ?_
      refine pureS 7 39 HT_ rfl rfl ?_
      refine pureS 8 40 HT_ rfl rfl ?_
      refine takeS 4 36 HT_ HW_ rfl rfl hHeld ?_ spec_CompareSubstitutions.a0
      refine takeS 9 41 HT_ HW_ rfl rfl hHeld ?_ spec_CompareSubstitutions.a0
      refine one_ (i:=10) (N:=some 42) #[true,true,true,true,true,true,true,true,true,true,true,false] rfl rfl (one_of HT_.out (by kernel_rfl)) (by decide) (fun K hK=> ?_)
      refine goes_ Try.func12 (by kernel_rfl) rfl #[.agg #[.int .i64 ((rd_T73 l0 x5_1).f1.f0),.string ((rd_T73 l0 x5_1).f1.f1),.int .i64 ((rd_T73 l0 x5_1).f1.f2),.slice A683_7 ((rd_T73 l0 x5_1).f1.f3).length c683_7],.agg #[.int .i64 ((rd_T73 l1 x5_1).f1.f0),.string ((rd_T73 l1 x5_1).f1.f1),.int .i64 ((rd_T73 l1 x5_1).f1.f2),.slice A684_7 ((rd_T73 l1 x5_1).f1.f3).length c684_7]] (by rfl) rfl rfl spec_CompareSubstitutions.a1 ?_
      with_reducible refine (spec_CompareTerms.calls kj2 ((rd_T73 l0 x5_1).f1.f0) ((rd_T73 l0 x5_1).f1.f1) ((rd_T73 l0 x5_1).f1.f2) _ _ ((rd_T73 l0 x5_1).f1.f3) ((rd_T73 l1 x5_1).f1.f0) ((rd_T73 l1 x5_1).f1.f1) ((rd_T73 l1 x5_1).f1.f2) _ _ ((rd_T73 l1 x5_1).f1.f3) t685 _ ?side1 ?side2 ?side3 ?side4 A11.out).mono ?_
      (case side1=>exact cB J3 HB)
      (case side2=>exact K4.out)
      (case side3=>exact cB J8 HB)
      (case side4=>exact K6.out)
      rintro e w16 ⟨rfl,hb⟩
      refine ⟨_,rfl,?_⟩
      replace HB:=hS HB hb
      (try clear hb)
      (try clear hb2)
      (try clear hk)
      (try clear hi)
      refine hK.out _ _ ⟨((HB.out.cell (World.block_lt_of_cell? w _ F4)).trans F4),((HB.out.cell (World.block_lt_of_cell? w _ F3)).trans F3),((HB.out.cell (World.block_lt_of_cell? w _ F2)).trans F2),((HB.out.cell (World.block_lt_of_cell? w _ F1)).trans F1),((HB.out.cell (World.block_lt_of_cell? w _ F0)).trans F0),((HB.out.cell (World.block_lt_of_cell? w _ E9)).trans E9),((HB.out.cell (World.block_lt_of_cell? w _ E8)).trans E8),((HB.out.cell (World.block_lt_of_cell? w _ E7)).trans E7),((HB.out.cell (World.block_lt_of_cell? w _ H0)).trans H0),((HB.out.cell (World.block_lt_of_cell? w _ G9)).trans G9),((HB.out.cell (World.block_lt_of_cell? w _ G8)).trans G8),((HB.out.cell (World.block_lt_of_cell? w _ G7)).trans G7),((HB.out.cell (World.block_lt_of_cell? w _ G6)).trans G6),((HB.out.cell (World.block_lt_of_cell? w _ G5)).trans G5),((HB.out.cell (World.block_lt_of_cell? w _ G4)).trans G4),((HB.out.cell (World.block_lt_of_cell? w _ G3)).trans G3)⟩ (fun hHeld=> ?_)
      clear hK K
      refine norm_ (a':=?_) ?_ ?_
      rotate_left
      ·show Act.put _ (some 42) _=_
       simp only [Act.put,List.setIfInBounds_toArray,List.set_cons_zero,List.set_cons_succ,i64_w,i32_w]
       rfl
      refine pureS 11 6 HT_ rfl rfl ?_
      refine done_ (done_of HT_.out (by kernel_rfl)) ?_
      try go_wp2
      go_roundg kj2
      case measure=>have:=HK1.out;have:=HJ2.out;omega
      case rel=>exact ⟨(wrap64 (x5_1 + 1)),(by first | rfl | (simp;done) | (simp [*];done)),H',⟨by have:=HK1.out;have:=HJ2.out;omega⟩,⟨hV HB⟩⟩
     ·rw [if_neg c12] at H
      have L9:(t685 == 0)=false:=beq_eq_false_iff_ne.mpr c12
      have M0:(t685 != 0)=true:=bne_iff_ne.mpr c12
      obtain rfl:=Option.some.inj H
      try go_wp2
      replace HB:=Aside0.mk (below_drew1 HB.out)
      have I1:0≤(x5_1:Int):=dT
      have I2:x5_1 < (l0.length:Int):=dT
      obtain ⟨A2,A680_3,c680_3,A680_7,c680_7,e680,A4,A5,A6,A7,A8,B0,B1,B2,H1,H2,H3,H4⟩:=at_T73 L2.out x5_1 I1 I2
      have B3:=B2
      have B5:=B1
      have B7:=B0
      have B8:=A8
      have B9:=A7
      have C0:=A6
      have C1:=A5
      have C2:=A4
      cases e680
      replace A4:=xc HB A4
      replace A5:=xc HB A5
      replace A6:=xc HB A6
      replace A7:=xc HB A7
      replace A8:=xc HB A8
      replace B0:=xc HB B0
      replace B1:=xc HB B1
      replace B2:=xc HB B2
      have H5:=Aside0.mk H2
      have I5:=Aside0.mk H1
      clear H2 H1
      have I6:=Aside0.mk H4
      have K8:=Aside0.mk H3
      clear H4 H3
      replace I1:=eq_true I1
      replace I2:=eq_true I2
      have I3:0≤(x5_1:Int):=dT
      have I4:x5_1 < (l1.length:Int):=dT
      obtain ⟨A3,A681_3,c681_3,A681_7,c681_7,e681,C3,C4,C5,C6,C7,C8,C9,D0,H6,H7,H8,H9⟩:=at_T73 L3.out x5_1 I3 I4
      have D1:=D0
      have D2:=C9
      have D3:=C8
      have D4:=C7
      have D5:=C6
      have D6:=C5
      have D7:=C4
      have D8:=C3
      cases e681
      replace C3:=xc HB C3
      replace C4:=xc HB C4
      replace C5:=xc HB C5
      replace C6:=xc HB C6
      replace C7:=xc HB C7
      replace C8:=xc HB C8
      replace C9:=xc HB C9
      replace D0:=xc HB D0
      have I0:=Aside0.mk H7
      have I7:=Aside0.mk H6
      clear H7 H6
      have I8:=Aside0.mk H9
      have K9:=Aside0.mk H8
      clear H9 H8
      replace I3:=eq_true I3
      replace I4:=eq_true I4
      refine start_ (n:=12) (S:=fun w'=>w'.cell? (A2.add ((x5_1).toNat * 8))=some (.int .i64 ((rd_T73 l0 x5_1).f0.f0))∧w'.cell? ⟨(A2.add ((x5_1).toNat * 8)).block,(A2.add ((x5_1).toNat * 8)).off + 1,none⟩=some (.string ((rd_T73 l0 x5_1).f0.f1))∧w'.cell? ⟨(A2.add ((x5_1).toNat * 8)).block,(A2.add ((x5_1).toNat * 8)).off + 2,none⟩=some (.int .i64 ((rd_T73 l0 x5_1).f0.f2))∧w'.cell? ⟨(A2.add ((x5_1).toNat * 8)).block,(A2.add ((x5_1).toNat * 8)).off + 3,none⟩=some (.slice A680_3 ((rd_T73 l0 x5_1).f0.f3).length c680_3)∧w'.cell? ⟨(A2.add ((x5_1).toNat * 8)).block,(A2.add ((x5_1).toNat * 8)).off + 4,none⟩=some (.int .i64 ((rd_T73 l0 x5_1).f1.f0))∧w'.cell? ⟨(A2.add ((x5_1).toNat * 8)).block,(A2.add ((x5_1).toNat * 8)).off + 5,none⟩=some (.string ((rd_T73 l0 x5_1).f1.f1))∧w'.cell? ⟨(A2.add ((x5_1).toNat * 8)).block,(A2.add ((x5_1).toNat * 8)).off + 6,none⟩=some (.int .i64 ((rd_T73 l0 x5_1).f1.f2))∧w'.cell? ⟨(A2.add ((x5_1).toNat * 8)).block,(A2.add ((x5_1).toNat * 8)).off + 7,none⟩=some (.slice A680_7 ((rd_T73 l0 x5_1).f1.f3).length c680_7)∧w'.cell? (A3.add ((x5_1).toNat * 8))=some (.int .i64 ((rd_T73 l1 x5_1).f0.f0))∧w'.cell? ⟨(A3.add ((x5_1).toNat * 8)).block,(A3.add ((x5_1).toNat * 8)).off + 1,none⟩=some (.string ((rd_T73 l1 x5_1).f0.f1))∧w'.cell? ⟨(A3.add ((x5_1).toNat * 8)).block,(A3.add ((x5_1).toNat * 8)).off + 2,none⟩=some (.int .i64 ((rd_T73 l1 x5_1).f0.f2))∧w'.cell? ⟨(A3.add ((x5_1).toNat * 8)).block,(A3.add ((x5_1).toNat * 8)).off + 3,none⟩=some (.slice A681_3 ((rd_T73 l1 x5_1).f0.f3).length c681_3)∧w'.cell? ⟨(A3.add ((x5_1).toNat * 8)).block,(A3.add ((x5_1).toNat * 8)).off + 4,none⟩=some (.int .i64 ((rd_T73 l1 x5_1).f1.f0))∧w'.cell? ⟨(A3.add ((x5_1).toNat * 8)).block,(A3.add ((x5_1).toNat * 8)).off + 5,none⟩=some (.string ((rd_T73 l1 x5_1).f1.f1))∧w'.cell? ⟨(A3.add ((x5_1).toNat * 8)).block,(A3.add ((x5_1).toNat * 8)).off + 6,none⟩=some (.int .i64 ((rd_T73 l1 x5_1).f1.f2))∧w'.cell? ⟨(A3.add ((x5_1).toNat * 8)).block,(A3.add ((x5_1).toNat * 8)).off + 7,none⟩=some (.slice A681_7 ((rd_T73 l1 x5_1).f1.f3).length c681_7)) (ds:=[]) #[false,false,false,false,false,false,false,false,false,false,false,false] (by kernel_rfl) rfl rfl ⟨((HB.out.cell (World.block_lt_of_cell? w _ C2)).trans C2),((HB.out.cell (World.block_lt_of_cell? w _ C1)).trans C1),((HB.out.cell (World.block_lt_of_cell? w _ C0)).trans C0),((HB.out.cell (World.block_lt_of_cell? w _ B9)).trans B9),((HB.out.cell (World.block_lt_of_cell? w _ B8)).trans B8),((HB.out.cell (World.block_lt_of_cell? w _ B7)).trans B7),((HB.out.cell (World.block_lt_of_cell? w _ B5)).trans B5),((HB.out.cell (World.block_lt_of_cell? w _ B3)).trans B3),((HB.out.cell (World.block_lt_of_cell? w _ D8)).trans D8),((HB.out.cell (World.block_lt_of_cell? w _ D7)).trans D7),((HB.out.cell (World.block_lt_of_cell? w _ D6)).trans D6),((HB.out.cell (World.block_lt_of_cell? w _ D5)).trans D5),((HB.out.cell (World.block_lt_of_cell? w _ D4)).trans D4),((HB.out.cell (World.block_lt_of_cell? w _ D3)).trans D3),((HB.out.cell (World.block_lt_of_cell? w _ D2)).trans D2),((HB.out.cell (World.block_lt_of_cell? w _ D1)).trans D1)⟩ (fun hHeld=> ?_);refine with_tabW spec_CompareSubstitutions.tab4 spec_CompareSubstitutions.bits4 (fun HT_ HW_=> ?_)
      generalize wc.drew=w17 at HB H5 I6 I0 I8 A4 A5 A6 A7 A8 B0 B1 B2 C3 C4 C5 C6 C7 C8 C9 D0 hHeld ⊢
      refine pureS 0 19 HT_ rfl rfl ?_
      refine pureS 1 20 HT_ rfl rfl ?_
      refine pureS 2 21 HT_ rfl rfl ?_
      refine pureS 3 22 HT_ rfl rfl ?_
      refine pureS 5 24 HT_ rfl rfl ?_
      refine pureS 6 25 HT_ rfl rfl ?_
      refine pureS 7 26 HT_ rfl rfl ?_
      refine pureS 8 27 HT_ rfl rfl ?_
      refine takeS 4 23 HT_ HW_ rfl rfl hHeld ?_ spec_CompareSubstitutions.a0
      refine takeS 9 28 HT_ HW_ rfl rfl hHeld ?_ spec_CompareSubstitutions.a0
      refine one_ (i:=10) (N:=some 29) #[true,true,true,true,true,true,true,true,true,true,true,false] rfl rfl (one_of HT_.out (by kernel_rfl)) (by decide) (fun K hK=> ?_)
      refine goes_ Try.func12 (by kernel_rfl) rfl #[.agg #[.int .i64 ((rd_T73 l0 x5_1).f0.f0),.string ((rd_T73 l0 x5_1).f0.f1),.int .i64 ((rd_T73 l0 x5_1).f0.f2),.slice A680_3 ((rd_T73 l0 x5_1).f0.f3).length c680_3],.agg #[.int .i64 ((rd_T73 l1 x5_1).f0.f0),.string ((rd_T73 l1 x5_1).f0.f1),.int .i64 ((rd_T73 l1 x5_1).f0.f2),.slice A681_3 ((rd_T73 l1 x5_1).f0.f3).length c681_3]] (by rfl) rfl rfl spec_CompareSubstitutions.a1 ?_
      with_reducible refine (spec_CompareTerms.calls kj2 ((rd_T73 l0 x5_1).f0.f0) ((rd_T73 l0 x5_1).f0.f1) ((rd_T73 l0 x5_1).f0.f2) _ _ ((rd_T73 l0 x5_1).f0.f3) ((rd_T73 l1 x5_1).f0.f0) ((rd_T73 l1 x5_1).f0.f1) ((rd_T73 l1 x5_1).f0.f2) _ _ ((rd_T73 l1 x5_1).f0.f3) t682 _ ?side1 ?side2 ?side3 ?side4 A9.out).mono ?_
      (case side1=>exact cB H5 HB)
      (case side2=>exact I5.out)
      (case side3=>exact cB I0 HB)
      (case side4=>exact I7.out)
      rintro e w18 ⟨rfl,hb⟩
      refine ⟨_,rfl,?_⟩
      replace HB:=hS HB hb
      (try clear hb)
      (try clear hb2)
      (try clear hk)
      (try clear hi)
      refine hK.out _ _ ⟨((HB.out.cell (World.block_lt_of_cell? w _ C2)).trans C2),((HB.out.cell (World.block_lt_of_cell? w _ C1)).trans C1),((HB.out.cell (World.block_lt_of_cell? w _ C0)).trans C0),((HB.out.cell (World.block_lt_of_cell? w _ B9)).trans B9),((HB.out.cell (World.block_lt_of_cell? w _ B8)).trans B8),((HB.out.cell (World.block_lt_of_cell? w _ B7)).trans B7),((HB.out.cell (World.block_lt_of_cell? w _ B5)).trans B5),((HB.out.cell (World.block_lt_of_cell? w _ B3)).trans B3),((HB.out.cell (World.block_lt_of_cell? w _ D8)).trans D8),((HB.out.cell (World.block_lt_of_cell? w _ D7)).trans D7),((HB.out.cell (World.block_lt_of_cell? w _ D6)).trans D6),((HB.out.cell (World.block_lt_of_cell? w _ D5)).trans D5),((HB.out.cell (World.block_lt_of_cell? w _ D4)).trans D4),((HB.out.cell (World.block_lt_of_cell? w _ D3)).trans D3),((HB.out.cell (World.block_lt_of_cell? w _ D2)).trans D2),((HB.out.cell (World.block_lt_of_cell? w _ D1)).trans D1)⟩ (fun hHeld=> ?_)
      clear hK K
      refine norm_ (a':=?_) ?_ ?_
      rotate_left
      ·show Act.put _ (some 29) _=_
       simp only [Act.put,List.setIfInBounds_toArray,List.set_cons_zero,List.set_cons_succ,i64_w,i32_w]
       rfl
      refine pureS 11 6 HT_ rfl rfl ?_
      refine done_ (done_of HT_.out (by kernel_rfl)) ?_
      try go_wp2
      replace HB:=Aside0.mk (below_drew1 HB.out)
      have J9:0≤(x5_1:Int):=dT
      have K0:x5_1 < (l0.length:Int):=dT
      obtain ⟨L0,A683_3,c683_3,A683_7,c683_7,e683,D9,E0,E1,E2,E3,E4,E5,E6,I9,J0,J1,J2⟩:=at_T73 L2.out x5_1 J9 K0
      have E7:=E6
      have E8:=E5
      have E9:=E4
      have F0:=E3
      have F1:=E2
      have F2:=E1
      have F3:=E0
      have F4:=D9
      obtain rfl:A2=L0:=(by injection e683)
      replace D9:=xc HB D9
      replace E0:=xc HB E0
      replace E1:=xc HB E1
      replace E2:=xc HB E2
      replace E3:=xc HB E3
      replace E4:=xc HB E4
      replace E5:=xc HB E5
      replace E6:=xc HB E6
      have K3:=Aside0.mk J0
      have L4:=Aside0.mk I9
      clear J0 I9
      have J3:=Aside0.mk J2
      have K4:=Aside0.mk J1
      clear J2 J1
      replace J9:=eq_true J9
      replace K0:=eq_true K0
      have K1:0≤(x5_1:Int):=dT
      have K2:x5_1 < (l1.length:Int):=dT
      obtain ⟨L1,A684_3,c684_3,A684_7,c684_7,e684,F5,F6,F7,F8,F9,G0,G1,G2,J4,J5,J6,J7⟩:=at_T73 L3.out x5_1 K1 K2
      have G3:=G2
      have G4:=G1
      have G5:=G0
      have G6:=F9
      have G7:=F8
      have G8:=F7
      have G9:=F6
      have H0:=F5
      obtain rfl:A3=L1:=(by injection e684)
      replace F5:=xc HB F5
      replace F6:=xc HB F6
      replace F7:=xc HB F7
      replace F8:=xc HB F8
      replace F9:=xc HB F9
      replace G0:=xc HB G0
      replace G1:=xc HB G1
      replace G2:=xc HB G2
      have K5:=Aside0.mk J5
      have L5:=Aside0.mk J4
      clear J5 J4
      have J8:=Aside0.mk J7
      have K6:=Aside0.mk J6
      clear J7 J6
      replace K1:=eq_true K1
      replace K2:=eq_true K2
      refine start_ (n:=12) (S:=fun w'=>w'.cell? (A2.add ((x5_1).toNat * 8))=some (.int .i64 ((rd_T73 l0 x5_1).f0.f0))∧w'.cell? ⟨(A2.add ((x5_1).toNat * 8)).block,(A2.add ((x5_1).toNat * 8)).off + 1,none⟩=some (.string ((rd_T73 l0 x5_1).f0.f1))∧w'.cell? ⟨(A2.add ((x5_1).toNat * 8)).block,(A2.add ((x5_1).toNat * 8)).off + 2,none⟩=some (.int .i64 ((rd_T73 l0 x5_1).f0.f2))∧w'.cell? ⟨(A2.add ((x5_1).toNat * 8)).block,(A2.add ((x5_1).toNat * 8)).off + 3,none⟩=some (.slice A683_3 ((rd_T73 l0 x5_1).f0.f3).length c683_3)∧w'.cell? ⟨(A2.add ((x5_1).toNat * 8)).block,(A2.add ((x5_1).toNat * 8)).off + 4,none⟩=some (.int .i64 ((rd_T73 l0 x5_1).f1.f0))∧w'.cell? ⟨(A2.add ((x5_1).toNat * 8)).block,(A2.add ((x5_1).toNat * 8)).off + 5,none⟩=some (.string ((rd_T73 l0 x5_1).f1.f1))∧w'.cell? ⟨(A2.add ((x5_1).toNat * 8)).block,(A2.add ((x5_1).toNat * 8)).off + 6,none⟩=some (.int .i64 ((rd_T73 l0 x5_1).f1.f2))∧w'.cell? ⟨(A2.add ((x5_1).toNat * 8)).block,(A2.add ((x5_1).toNat * 8)).off + 7,none⟩=some (.slice A683_7 ((rd_T73 l0 x5_1).f1.f3).length c683_7)∧w'.cell? (A3.add ((x5_1).toNat * 8))=some (.int .i64 ((rd_T73 l1 x5_1).f0.f0))∧w'.cell? ⟨(A3.add ((x5_1).toNat * 8)).block,(A3.add ((x5_1).toNat * 8)).off + 1,none⟩=some (.string ((rd_T73 l1 x5_1).f0.f1))∧w'.cell? ⟨(A3.add ((x5_1).toNat * 8)).block,(A3.add ((x5_1).toNat * 8)).off + 2,none⟩=some (.int .i64 ((rd_T73 l1 x5_1).f0.f2))∧w'.cell? ⟨(A3.add ((x5_1).toNat * 8)).block,(A3.add ((x5_1).toNat * 8)).off + 3,none⟩=some (.slice A684_3 ((rd_T73 l1 x5_1).f0.f3).length c684_3)∧w'.cell? ⟨(A3.add ((x5_1).toNat * 8)).block,(A3.add ((x5_1).toNat * 8)).off + 4,none⟩=some (.int .i64 ((rd_T73 l1 x5_1).f1.f0))∧w'.cell? ⟨(A3.add ((x5_1).toNat * 8)).block,(A3.add ((x5_1).toNat * 8)).off + 5,none⟩=some (.string ((rd_T73 l1 x5_1).f1.f1))∧w'.cell? ⟨(A3.add ((x5_1).toNat * 8)).block,(A3.add ((x5_1).toNat * 8)).off + 6,none⟩=some (.int .i64 ((rd_T73 l1 x5_1).f1.f2))∧w'.cell? ⟨(A3.add ((x5_1).toNat * 8)).block,(A3.add ((x5_1).toNat * 8)).off + 7,none⟩=some (.slice A684_7 ((rd_T73 l1 x5_1).f1.f3).length c684_7)) (ds:=[]) #[false,false,false,false,false,false,false,false,false,false,false,false] (by kernel_rfl) rfl rfl ⟨((HB.out.cell (World.block_lt_of_cell? w _ F4)).trans F4),((HB.out.cell (World.block_lt_of_cell? w _ F3)).trans F3),((HB.out.cell (World.block_lt_of_cell? w _ F2)).trans F2),((HB.out.cell (World.block_lt_of_cell? w _ F1)).trans F1),((HB.out.cell (World.block_lt_of_cell? w _ F0)).trans F0),((HB.out.cell (World.block_lt_of_cell? w _ E9)).trans E9),((HB.out.cell (World.block_lt_of_cell? w _ E8)).trans E8),((HB.out.cell (World.block_lt_of_cell? w _ E7)).trans E7),((HB.out.cell (World.block_lt_of_cell? w _ H0)).trans H0),((HB.out.cell (World.block_lt_of_cell? w _ G9)).trans G9),((HB.out.cell (World.block_lt_of_cell? w _ G8)).trans G8),((HB.out.cell (World.block_lt_of_cell? w _ G7)).trans G7),((HB.out.cell (World.block_lt_of_cell? w _ G6)).trans G6),((HB.out.cell (World.block_lt_of_cell? w _ G5)).trans G5),((HB.out.cell (World.block_lt_of_cell? w _ G4)).trans G4),((HB.out.cell (World.block_lt_of_cell? w _ G3)).trans G3)⟩ (fun hHeld=> ?_);refine with_tabW spec_CompareSubstitutions.tab6 spec_CompareSubstitutions.bits6 (fun HT_ HW_=> ?_)
      generalize w18.drew=w19 at HB K3 J3 K5 J8 D9 E0 E1 E2 E3 E4 E5 E6 F5 F6 F7 F8 F9 G0 G1 G2 hHeld ⊢
      refine pureS 0 32 HT_ rfl rfl ?_
      refine pureS 1 33 HT_ rfl rfl ?_
      refine pureS 2 34 HT_ rfl rfl ?_
      refine pureS 3 35 HT_ rfl rfl ?_
      refine pureS 5 37 HT_ rfl rfl ?_
      refine pureS 6 38 HT_ rfl rfl ?_
      refine pureS 7 39 HT_ rfl rfl ?_
      refine pureS 8 40 HT_ rfl rfl ?_
      refine takeS 4 36 HT_ HW_ rfl rfl hHeld ?_ spec_CompareSubstitutions.a0
      refine takeS 9 41 HT_ HW_ rfl rfl hHeld ?_ spec_CompareSubstitutions.a0
      refine one_ (i:=10) (N:=some 42) #[true,true,true,true,true,true,true,true,true,true,true,false] rfl rfl (one_of HT_.out (by kernel_rfl)) (by decide) (fun K hK=> ?_)
      refine goes_ Try.func12 (by kernel_rfl) rfl #[.agg #[.int .i64 ((rd_T73 l0 x5_1).f1.f0),.string ((rd_T73 l0 x5_1).f1.f1),.int .i64 ((rd_T73 l0 x5_1).f1.f2),.slice A683_7 ((rd_T73 l0 x5_1).f1.f3).length c683_7],.agg #[.int .i64 ((rd_T73 l1 x5_1).f1.f0),.string ((rd_T73 l1 x5_1).f1.f1),.int .i64 ((rd_T73 l1 x5_1).f1.f2),.slice A684_7 ((rd_T73 l1 x5_1).f1.f3).length c684_7]] (by rfl) rfl rfl spec_CompareSubstitutions.a1 ?_
      with_reducible refine (spec_CompareTerms.calls kj2 ((rd_T73 l0 x5_1).f1.f0) ((rd_T73 l0 x5_1).f1.f1) ((rd_T73 l0 x5_1).f1.f2) _ _ ((rd_T73 l0 x5_1).f1.f3) ((rd_T73 l1 x5_1).f1.f0) ((rd_T73 l1 x5_1).f1.f1) ((rd_T73 l1 x5_1).f1.f2) _ _ ((rd_T73 l1 x5_1).f1.f3) t685 _ ?side1 ?side2 ?side3 ?side4 A11.out).mono ?_
      (case side1=>exact cB J3 HB)
      (case side2=>exact K4.out)
      (case side3=>exact cB J8 HB)
      (case side4=>exact K6.out)
      rintro e w20 ⟨rfl,hb⟩
      refine ⟨_,rfl,?_⟩
      replace HB:=hS HB hb
      (try clear hb)
      (try clear hb2)
      (try clear hk)
      (try clear hi)
      refine hK.out _ _ ⟨((HB.out.cell (World.block_lt_of_cell? w _ F4)).trans F4),((HB.out.cell (World.block_lt_of_cell? w _ F3)).trans F3),((HB.out.cell (World.block_lt_of_cell? w _ F2)).trans F2),((HB.out.cell (World.block_lt_of_cell? w _ F1)).trans F1),((HB.out.cell (World.block_lt_of_cell? w _ F0)).trans F0),((HB.out.cell (World.block_lt_of_cell? w _ E9)).trans E9),((HB.out.cell (World.block_lt_of_cell? w _ E8)).trans E8),((HB.out.cell (World.block_lt_of_cell? w _ E7)).trans E7),((HB.out.cell (World.block_lt_of_cell? w _ H0)).trans H0),((HB.out.cell (World.block_lt_of_cell? w _ G9)).trans G9),((HB.out.cell (World.block_lt_of_cell? w _ G8)).trans G8),((HB.out.cell (World.block_lt_of_cell? w _ G7)).trans G7),((HB.out.cell (World.block_lt_of_cell? w _ G6)).trans G6),((HB.out.cell (World.block_lt_of_cell? w _ G5)).trans G5),((HB.out.cell (World.block_lt_of_cell? w _ G4)).trans G4),((HB.out.cell (World.block_lt_of_cell? w _ G3)).trans G3)⟩ (fun hHeld=> ?_)
      clear hK K
      refine norm_ (a':=?_) ?_ ?_
      rotate_left
      ·show Act.put _ (some 42) _=_
       simp only [Act.put,List.setIfInBounds_toArray,List.set_cons_zero,List.set_cons_succ,i64_w,i32_w]
       rfl
      refine pureS 11 6 HT_ rfl rfl ?_
      refine done_ (done_of HT_.out (by kernel_rfl)) ?_
      try go_wp2
      go_ret
      exact ⟨spec_CompareSubstitutions.a2,hV HB⟩
    ·rw [if_neg c10] at H
     have L7:(t682 == 0)=false:=beq_eq_false_iff_ne.mpr c10
     have L8:(t682 != 0)=true:=bne_iff_ne.mpr c10
     obtain rfl:=Option.some.inj H
     try go_wp2
     replace HB:=Aside0.mk (below_drew1 HB.out)
     have I1:0≤(x5_1:Int):=dT
     have I2:x5_1 < (l0.length:Int):=dT
     obtain ⟨A2,A680_3,c680_3,A680_7,c680_7,e680,A4,A5,A6,A7,A8,B0,B1,B2,H1,H2,H3,H4⟩:=at_T73 L2.out x5_1 I1 I2
     have B3:=B2
     have B5:=B1
     have B7:=B0
     have B8:=A8
     have B9:=A7
     have C0:=A6
     have C1:=A5
     have C2:=A4
     cases e680
     replace A4:=xc HB A4
     replace A5:=xc HB A5
     replace A6:=xc HB A6
     replace A7:=xc HB A7
     replace A8:=xc HB A8
     replace B0:=xc HB B0
     replace B1:=xc HB B1
     replace B2:=xc HB B2
     have H5:=Aside0.mk H2
     have I5:=Aside0.mk H1
     clear H2 H1
     have I6:=Aside0.mk H4
     have K8:=Aside0.mk H3
     clear H4 H3
     replace I1:=eq_true I1
     replace I2:=eq_true I2
     have I3:0≤(x5_1:Int):=dT
     have I4:x5_1 < (l1.length:Int):=dT
     obtain ⟨A3,A681_3,c681_3,A681_7,c681_7,e681,C3,C4,C5,C6,C7,C8,C9,D0,H6,H7,H8,H9⟩:=at_T73 L3.out x5_1 I3 I4
     have D1:=D0
     have D2:=C9
     have D3:=C8
     have D4:=C7
     have D5:=C6
     have D6:=C5
     have D7:=C4
     have D8:=C3
     cases e681
     replace C3:=xc HB C3
     replace C4:=xc HB C4
     replace C5:=xc HB C5
     replace C6:=xc HB C6
     replace C7:=xc HB C7
     replace C8:=xc HB C8
     replace C9:=xc HB C9
     replace D0:=xc HB D0
     have I0:=Aside0.mk H7
     have I7:=Aside0.mk H6
     clear H7 H6
     have I8:=Aside0.mk H9
     have K9:=Aside0.mk H8
     clear H9 H8
     replace I3:=eq_true I3
     replace I4:=eq_true I4
     refine start_ (n:=12) (S:=fun w'=>w'.cell? (A2.add ((x5_1).toNat * 8))=some (.int .i64 ((rd_T73 l0 x5_1).f0.f0))∧w'.cell? ⟨(A2.add ((x5_1).toNat * 8)).block,(A2.add ((x5_1).toNat * 8)).off + 1,none⟩=some (.string ((rd_T73 l0 x5_1).f0.f1))∧w'.cell? ⟨(A2.add ((x5_1).toNat * 8)).block,(A2.add ((x5_1).toNat * 8)).off + 2,none⟩=some (.int .i64 ((rd_T73 l0 x5_1).f0.f2))∧w'.cell? ⟨(A2.add ((x5_1).toNat * 8)).block,(A2.add ((x5_1).toNat * 8)).off + 3,none⟩=some (.slice A680_3 ((rd_T73 l0 x5_1).f0.f3).length c680_3)∧w'.cell? ⟨(A2.add ((x5_1).toNat * 8)).block,(A2.add ((x5_1).toNat * 8)).off + 4,none⟩=some (.int .i64 ((rd_T73 l0 x5_1).f1.f0))∧w'.cell? ⟨(A2.add ((x5_1).toNat * 8)).block,(A2.add ((x5_1).toNat * 8)).off + 5,none⟩=some (.string ((rd_T73 l0 x5_1).f1.f1))∧w'.cell? ⟨(A2.add ((x5_1).toNat * 8)).block,(A2.add ((x5_1).toNat * 8)).off + 6,none⟩=some (.int .i64 ((rd_T73 l0 x5_1).f1.f2))∧w'.cell? ⟨(A2.add ((x5_1).toNat * 8)).block,(A2.add ((x5_1).toNat * 8)).off + 7,none⟩=some (.slice A680_7 ((rd_T73 l0 x5_1).f1.f3).length c680_7)∧w'.cell? (A3.add ((x5_1).toNat * 8))=some (.int .i64 ((rd_T73 l1 x5_1).f0.f0))∧w'.cell? ⟨(A3.add ((x5_1).toNat * 8)).block,(A3.add ((x5_1).toNat * 8)).off + 1,none⟩=some (.string ((rd_T73 l1 x5_1).f0.f1))∧w'.cell? ⟨(A3.add ((x5_1).toNat * 8)).block,(A3.add ((x5_1).toNat * 8)).off + 2,none⟩=some (.int .i64 ((rd_T73 l1 x5_1).f0.f2))∧w'.cell? ⟨(A3.add ((x5_1).toNat * 8)).block,(A3.add ((x5_1).toNat * 8)).off + 3,none⟩=some (.slice A681_3 ((rd_T73 l1 x5_1).f0.f3).length c681_3)∧w'.cell? ⟨(A3.add ((x5_1).toNat * 8)).block,(A3.add ((x5_1).toNat * 8)).off + 4,none⟩=some (.int .i64 ((rd_T73 l1 x5_1).f1.f0))∧w'.cell? ⟨(A3.add ((x5_1).toNat * 8)).block,(A3.add ((x5_1).toNat * 8)).off + 5,none⟩=some (.string ((rd_T73 l1 x5_1).f1.f1))∧w'.cell? ⟨(A3.add ((x5_1).toNat * 8)).block,(A3.add ((x5_1).toNat * 8)).off + 6,none⟩=some (.int .i64 ((rd_T73 l1 x5_1).f1.f2))∧w'.cell? ⟨(A3.add ((x5_1).toNat * 8)).block,(A3.add ((x5_1).toNat * 8)).off + 7,none⟩=some (.slice A681_7 ((rd_T73 l1 x5_1).f1.f3).length c681_7)) (ds:=[]) #[false,false,false,false,false,false,false,false,false,false,false,false] (by kernel_rfl) rfl rfl ⟨((HB.out.cell (World.block_lt_of_cell? w _ C2)).trans C2),((HB.out.cell (World.block_lt_of_cell? w _ C1)).trans C1),((HB.out.cell (World.block_lt_of_cell? w _ C0)).trans C0),((HB.out.cell (World.block_lt_of_cell? w _ B9)).trans B9),((HB.out.cell (World.block_lt_of_cell? w _ B8)).trans B8),((HB.out.cell (World.block_lt_of_cell? w _ B7)).trans B7),((HB.out.cell (World.block_lt_of_cell? w _ B5)).trans B5),((HB.out.cell (World.block_lt_of_cell? w _ B3)).trans B3),((HB.out.cell (World.block_lt_of_cell? w _ D8)).trans D8),((HB.out.cell (World.block_lt_of_cell? w _ D7)).trans D7),((HB.out.cell (World.block_lt_of_cell? w _ D6)).trans D6),((HB.out.cell (World.block_lt_of_cell? w _ D5)).trans D5),((HB.out.cell (World.block_lt_of_cell? w _ D4)).trans D4),((HB.out.cell (World.block_lt_of_cell? w _ D3)).trans D3),((HB.out.cell (World.block_lt_of_cell? w _ D2)).trans D2),((HB.out.cell (World.block_lt_of_cell? w _ D1)).trans D1)⟩ (fun hHeld=> ?_);refine with_tabW spec_CompareSubstitutions.tab4 spec_CompareSubstitutions.bits4 (fun HT_ HW_=> ?_)
     generalize wc.drew=w21 at HB H5 I6 I0 I8 A4 A5 A6 A7 A8 B0 B1 B2 C3 C4 C5 C6 C7 C8 C9 D0 hHeld ⊢
     refine pureS 0 19 HT_ rfl rfl ?_
     refine pureS 1 20 HT_ rfl rfl ?_
     refine pureS 2 21 HT_ rfl rfl ?_
     refine pureS 3 22 HT_ rfl rfl ?_
     refine pureS 5 24 HT_ rfl rfl ?_
     refine pureS 6 25 HT_ rfl rfl ?_
     refine pureS 7 26 HT_ rfl rfl ?_
     refine pureS 8 27 HT_ rfl rfl ?_
     refine takeS 4 23 HT_ HW_ rfl rfl hHeld ?_ spec_CompareSubstitutions.a0
     refine takeS 9 28 HT_ HW_ rfl rfl hHeld ?_ spec_CompareSubstitutions.a0
     refine one_ (i:=10) (N:=some 29) #[true,true,true,true,true,true,true,true,true,true,true,false] rfl rfl (one_of HT_.out (by kernel_rfl)) (by decide) (fun K hK=> ?_)
     refine goes_ Try.func12 (by kernel_rfl) rfl #[.agg #[.int .i64 ((rd_T73 l0 x5_1).f0.f0),.string ((rd_T73 l0 x5_1).f0.f1),.int .i64 ((rd_T73 l0 x5_1).f0.f2),.slice A680_3 ((rd_T73 l0 x5_1).f0.f3).length c680_3],.agg #[.int .i64 ((rd_T73 l1 x5_1).f0.f0),.string ((rd_T73 l1 x5_1).f0.f1),.int .i64 ((rd_T73 l1 x5_1).f0.f2),.slice A681_3 ((rd_T73 l1 x5_1).f0.f3).length c681_3]] (by rfl) rfl rfl spec_CompareSubstitutions.a1 ?_
     with_reducible refine (spec_CompareTerms.calls kj2 ((rd_T73 l0 x5_1).f0.f0) ((rd_T73 l0 x5_1).f0.f1) ((rd_T73 l0 x5_1).f0.f2) _ _ ((rd_T73 l0 x5_1).f0.f3) ((rd_T73 l1 x5_1).f0.f0) ((rd_T73 l1 x5_1).f0.f1) ((rd_T73 l1 x5_1).f0.f2) _ _ ((rd_T73 l1 x5_1).f0.f3) t682 _ ?side1 ?side2 ?side3 ?side4 A9.out).mono ?_
     (case side1=>exact cB H5 HB)
     (case side2=>exact I5.out)
     (case side3=>exact cB I0 HB)
     (case side4=>exact I7.out)
     rintro e w22 ⟨rfl,hb⟩
     refine ⟨_,rfl,?_⟩
     replace HB:=hS HB hb
     (try clear hb)
     (try clear hb2)
     (try clear hk)
     (try clear hi)
     refine hK.out _ _ ⟨((HB.out.cell (World.block_lt_of_cell? w _ C2)).trans C2),((HB.out.cell (World.block_lt_of_cell? w _ C1)).trans C1),((HB.out.cell (World.block_lt_of_cell? w _ C0)).trans C0),((HB.out.cell (World.block_lt_of_cell? w _ B9)).trans B9),((HB.out.cell (World.block_lt_of_cell? w _ B8)).trans B8),((HB.out.cell (World.block_lt_of_cell? w _ B7)).trans B7),((HB.out.cell (World.block_lt_of_cell? w _ B5)).trans B5),((HB.out.cell (World.block_lt_of_cell? w _ B3)).trans B3),((HB.out.cell (World.block_lt_of_cell? w _ D8)).trans D8),((HB.out.cell (World.block_lt_of_cell? w _ D7)).trans D7),((HB.out.cell (World.block_lt_of_cell? w _ D6)).trans D6),((HB.out.cell (World.block_lt_of_cell? w _ D5)).trans D5),((HB.out.cell (World.block_lt_of_cell? w _ D4)).trans D4),((HB.out.cell (World.block_lt_of_cell? w _ D3)).trans D3),((HB.out.cell (World.block_lt_of_cell? w _ D2)).trans D2),((HB.out.cell (World.block_lt_of_cell? w _ D1)).trans D1)⟩ (fun hHeld=> ?_)
     clear hK K
     refine norm_ (a':=?_) ?_ ?_
     rotate_left
     ·show Act.put _ (some 29) _=_
      simp only [Act.put,List.setIfInBounds_toArray,List.set_cons_zero,List.set_cons_succ,i64_w,i32_w]
      rfl
     refine pureS 11 6 HT_ rfl rfl ?_
     refine done_ (done_of HT_.out (by kernel_rfl)) ?_
     try go_wp2
     go_ret
     exact ⟨spec_CompareSubstitutions.a2,hV HB⟩
   ·replace c5:=Bool.eq_false_iff.mpr c5
    subst c5
    rw [if_neg (show ¬ (false=true) by decide)] at H
    by_cases c23:(l0.length:Int) < (l1.length:Int)
    ·rw [if_pos c23] at H
     have M1:=decide_eq_true c23
     have M2:decide (l0.length < l1.length)=true:=decide_eq_true (Int.ofNat_lt.mp c23)
     clear c23
     obtain rfl:=Option.some.inj H
     go_wp2
     go_ret
     exact ⟨spec_CompareSubstitutions.a2,hV HB⟩
    rw [if_neg c23] at H
    have M1:=decide_eq_false c23
    have M2:decide (l0.length < l1.length)=false:=decide_eq_false (fun h=>c23 (Int.ofNat_lt.mpr h))
    clear c23
    by_cases c24:(l0.length:Int) > (l1.length:Int)
    ·rw [if_pos c24] at H
     have M3:=decide_eq_true c24
     have M4:decide (l1.length < l0.length)=true:=decide_eq_true (Int.ofNat_lt.mp c24)
     clear c24
     obtain rfl:=Option.some.inj H
     go_wp2
     go_ret
     exact ⟨spec_CompareSubstitutions.a2,hV HB⟩
    rw [if_neg c24] at H
    have M3:=decide_eq_false c24
    have M4:decide (l1.length < l0.length)=false:=decide_eq_false (fun h=>c24 (Int.ofNat_lt.mpr h))
    clear c24
    obtain rfl:=Option.some.inj H
    go_wp2
    go_ret
    exact ⟨spec_CompareSubstitutions.a2,hV HB⟩

/-! ### laws_toBinding: function 59 -/
def laws_toBinding.f (k:Nat) (a0_0:Int) (a0_1:ByteArray) (a0_2:Int) (l0_3:List (S24)) (a0_4:Int) (a0_5:ByteArray) (a0_6:Int) (l0_7:List (S24)):Option (Int × ByteArray × Int × (List (S29)) × Int × ByteArray × Int × (List (S29))):=(laws_toTerm.f k a0_0 a0_1 a0_2 l0_3).bind fun bt689=>((laws_toTerm.f k a0_4 a0_5 a0_6 l0_7).bind fun bt695=>(some (bt689.1,bt689.2.1,bt689.2.2.1,bt689.2.2.2,bt695.1,bt695.2.1,bt695.2.2.1,bt695.2.2.2)))
set_option maxHeartbeats 8000000 in
set_option maxRecDepth 100000 in
theorem laws_toBinding.calls (k:Nat) (a0_0:Int) (a0_1:ByteArray) (a0_2:Int) (A0_3:Option Addr) (c0_3:Nat) (l0_3:List (S24)) (a0_4:Int) (a0_5:ByteArray) (a0_6:Int) (A0_7:Option Addr) (c0_7:Nat) (l0_7:List (S24)) (r1:Int) (r2:ByteArray) (r3:Int) (r4:List (S29)) (r5:Int) (r6:ByteArray) (r7:Int) (r8:List (S29)) (w:World) (hr0_3:Kd.C k24 w A0_3 l0_3.length l0_3) (hc0_3:l0_3.length≤c0_3) (hr0_7:Kd.C k24 w A0_7 l0_7.length l0_7) (hc0_7:l0_7.length≤c0_7) (h:laws_toBinding.f k a0_0 a0_1 a0_2 l0_3 a0_4 a0_5 a0_6 l0_7=some (r1,r2,r3,r4,r5,r6,r7,r8)) :
  Calls Try.prog 59 #[.agg #[.int .i64 a0_0,.string a0_1,.int .i64 a0_2,.slice A0_3 l0_3.length c0_3,.int .i64 a0_4,.string a0_5,.int .i64 a0_6,.slice A0_7 l0_7.length c0_7]] w fun e w'=> ∃ v3_ v7_:Value,e=.returned (.agg #[.int .i64 r1,.string r2,.int .i64 r3,v3_,.int .i64 r5,.string r6,.int .i64 r7,v7_])∧Kd.R k29 29 w' w.heap.size (fun k_=>some k_≠(v7_:Value).ownBlock) v3_ r4∧Kd.R k29 29 w' w.heap.size (fun k_=>some k_≠(v3_:Value).ownBlock) v7_ r8∧Below w.heap.size w w':=by
 have hu71:=Try.underlying71
 have hu73:=Try.underlying73
 have hu24:=Try.underlying24
 have hu29:=Try.underlying29
 have B9:=Aside0.mk hr0_3
 have C0:=Aside0.mk hc0_3
 clear hr0_3 hc0_3
 have C1:=Aside0.mk hr0_7
 have C2:=Aside0.mk hc0_7
 clear hr0_7 hc0_7
 have HB:=Aside0.mk (Below.refl w.heap.size w)
 have H:((laws_toTerm.f k a0_0 a0_1 a0_2 l0_3).bind fun bt689=>((laws_toTerm.f k a0_4 a0_5 a0_6 l0_7).bind fun bt695=>(some (bt689.1,bt689.2.1,bt689.2.2.1,bt689.2.2.2,bt695.1,bt695.2.1,bt695.2.2.1,bt695.2.2.2))))=some (r1,r2,r3,r4,r5,r6,r7,r8):=h
 clear h
 replace H:=Option.bind_eq_some_iff.mp H
 obtain ⟨⟨t689,t690,t691,t692⟩,A20,H⟩:=H
 replace H:((laws_toTerm.f k a0_4 a0_5 a0_6 l0_7).bind fun bt695=>(some (t689,t690,t691,t692,bt695.1,bt695.2.1,bt695.2.2.1,bt695.2.2.2)))=some (r1,r2,r3,r4,r5,r6,r7,r8):=H
 have A2:=Aside0.mk A20
 clear A20
 replace H:=Option.bind_eq_some_iff.mp H
 obtain ⟨⟨t695,t696,t697,t698⟩,A30,H⟩:=H
 replace H:(some (t689,t690,t691,t692,t695,t696,t697,t698))=some (r1,r2,r3,r4,r5,r6,r7,r8):=H
 have A3:=Aside0.mk A30
 clear A30
 simp only [Option.some.injEq,Prod.mk.injEq] at H
 obtain ⟨rfl,rfl,rfl,rfl,rfl,rfl,rfl,rfl⟩:=H
 go_enter Try.func59,Try.ntmps59
 go_wp2_with (first | (refine bx 1 rfl #[.int .i64 a0_0,.string a0_1,.int .i64 a0_2,.slice A0_3 l0_3.length c0_3,.int .i64 a0_4,.string a0_5,.int .i64 a0_6,.slice A0_7 l0_7.length c0_7] 71 ?_;intro K3 hg w4 hbox hb;have A1:=Aside0.mk (hbox);have K4:=hZ HB hg;have K5:=hZ HB hg;replace HB:=hS HB hb;clear hb hbox hg) | (refine bx 2 rfl #[.int .i64 0,.string (⟨#[]⟩:ByteArray),.int .i64 0,.slice none 0 0,.int .i64 0,.string (⟨#[]⟩:ByteArray),.int .i64 0,.slice none 0 0] 73 ?_;intro A0 hg w5 hbox hb;have A4:=Aside0.mk (hbox);have K6:=hZ HB hg;have K7:=hZ HB hg;replace HB:=hS HB hb;have B2:=nL A1 hg;have B3:=nG A1 hg;replace A1:=bB A1 hb;clear hb hbox hg) | (refine bx 3 rfl #[.int .i64 0,.string (⟨#[]⟩:ByteArray),.int .i64 0,.slice none 0 0,.int .i64 0,.string (⟨#[]⟩:ByteArray),.int .i64 0,.slice none 0 0] 73 ?_;intro A6 hg w6 hbox hb;have A5:=Aside0.mk (hbox);have K8:=hZ HB hg;have K9:=hZ HB hg;replace HB:=hS HB hb;have B4:=nL A1 hg;have B5:=nG A1 hg;replace A1:=bB A1 hb;have B6:=nL A4 hg;have B7:=nG A4 hg;replace A4:=bB A4 hb;clear hb hbox hg;have L2:=B2.out;have L3:=B3.out;have L4:=B4.out;have L5:=B5.out;obtain ⟨I7,I8,I9,J0,J1,J2,J3,J4,J5,J6,J7,J8,J9,K0,K1,K2⟩:=cf8 A1) | (refine goK 13 (some 6) rfl Try.func13 #[.agg #[.int .i64 a0_0,.string a0_1,.int .i64 a0_2,.slice A0_3 l0_3.length c0_3]] ?_;(with_reducible refine (laws_toTerm.calls k a0_0 a0_1 a0_2 _ _ l0_3 t689 t690 t691 t692 _ ?side1 ?side2 A2.out).mono ?_);(case side1=>exact cB B9 HB);(case side2=>exact C0.out);rintro e w10 ⟨v693,rfl,ho0,hb⟩;refine ⟨_,rfl,?_⟩;have A7:=rL ho0 HB;replace A1:=bB A1 hb;replace A4:=bB A4 hb;replace A5:=bB A5 hb;replace HB:=hS HB hb;(try clear hb);(try clear hb2);(try clear hk);(try clear hi);(try clear ho0);have L0:=B7.out;have L1:=B6.out;obtain ⟨C3,C4,C5,C6,C7,C8,C9,D0,D1,D2,D3,D4,D5,D6,D7,D8⟩:=cf8 A5;obtain ⟨B0,B1,eo13⟩:=Kd.R_slice A7.out;subst eo13;obtain ⟨D9,E0,E1,E2,E3,E4,E5,E6,E7,E8,E9,F0,F1,F2,F3,F4⟩:=cf8 A1) | (refine goK 13 (some 10) rfl Try.func13 #[.agg #[.int .i64 a0_4,.string a0_5,.int .i64 a0_6,.slice A0_7 l0_7.length c0_7]] ?_;(with_reducible refine (laws_toTerm.calls k a0_4 a0_5 a0_6 _ _ l0_7 t695 t696 t697 t698 _ ?side1 ?side2 A3.out).mono ?_);(case side1=>exact cV C1 HB);(case side2=>exact C2.out);rintro e w15 ⟨v699,rfl,ho0,hb⟩;refine ⟨_,rfl,?_⟩;have B8:=Aside0.mk (Kd.R_lower (Kd.R_new' ho0 (Kd.R_lt (rT A7 A5 (fun _ h_=>h_.1)))) (below_size (hV HB)));replace A7:=Aside0.mk (Kd.R_elder' (rT A7 A5 (fun _ h_=>h_.1)) (Kd.R_base ho0) hb);replace A1:=bB A1 hb;replace A4:=bB A4 hb;replace A5:=bP (o:=.cells #[.int .i64 t689,.string t690,.int .i64 t691,.slice B0 t692.length B1,.int .i64 0,.string (⟨#[]⟩:ByteArray),.int .i64 0,.slice none 0 0] 73 (0,0)) A5 hb;replace HB:=hS HB hb;(try clear hb);(try clear hb2);(try clear hk);(try clear hi);(try clear ho0);obtain ⟨F5,F6,F7,F8,F9,G0,G1,G2,G3,G4,G5,G6,G7,G8,G9,H0⟩:=cf8 A5;obtain ⟨A8,A9,eo17⟩:=Kd.R_slice B8.out;subst eo17;obtain ⟨H1,H2,H3,H4,H5,H6,H7,H8,H9,I0,I1,I2,I3,I4,I5,I6⟩:=cf8 A4))
 refine bodyPost_ret (results_cell_row rfl _ _ A0 73 #[.int .i64 t689,.string t690,.int .i64 t691,.slice B0 t692.length B1,.int .i64 t695,.string t696,.int .i64 t697,.slice A8 t698.length A9] (0,0) _ rfl (vP A4) Try.underlying73 rfl (by kernel_rfl)) rfl ?_
 exact ⟨_,_,by first | rfl | (simp [errW_none,errW_some] <;> rfl) | (simp [*,errW_none,errW_some] <;> rfl),by (with_reducible repeat (first | apply Kd.R_alloc | apply Kd.R_drewN | apply Kd.R_drew));exact Kd.R_mono (Kd.R_far (p:=⟨A0,7,none⟩) (Kd.R_far (p:=⟨A0,6,none⟩) (Kd.R_far (p:=⟨A0,5,none⟩) (Kd.R_far (p:=⟨A0,4,none⟩) (Kd.R_far (p:=⟨A0,3,none⟩) (Kd.R_far (p:=⟨A0,2,none⟩) (Kd.R_far (p:=⟨A0,1,none⟩) (Kd.R_far (p:=⟨A0,0,none⟩) (Kd.R_far (p:=⟨A6,7,none⟩) (Kd.R_far (p:=⟨A6,6,none⟩) (Kd.R_far (p:=⟨A6,5,none⟩) (Kd.R_far (p:=⟨A6,4,none⟩) (Kd.R_types (Kd.R_types A7.out A5.out (by decide)) A4.out (by decide)) (fun _ hk=>hk.1.2) (.int .i64 t695)) (fun _ hk=>hk.1.2) (.string t696)) (fun _ hk=>hk.1.2) (.int .i64 t697)) (fun _ hk=>hk.1.2) (.slice A8 t698.length A9)) (fun _ hk=>hk.2) (.int .i64 t689)) (fun _ hk=>hk.2) (.string t690)) (fun _ hk=>hk.2) (.int .i64 t691)) (fun _ hk=>hk.2) (.slice B0 t692.length B1)) (fun _ hk=>hk.2) (.int .i64 t695)) (fun _ hk=>hk.2) (.string t696)) (fun _ hk=>hk.2) (.int .i64 t697)) (fun _ hk=>hk.2) (.slice A8 t698.length A9)) (fun _ hk=>hk.1.1.2),by (with_reducible repeat (first | apply Kd.R_alloc | apply Kd.R_drewN | apply Kd.R_drew));exact Kd.R_mono (Kd.R_far (p:=⟨A0,7,none⟩) (Kd.R_far (p:=⟨A0,6,none⟩) (Kd.R_far (p:=⟨A0,5,none⟩) (Kd.R_far (p:=⟨A0,4,none⟩) (Kd.R_far (p:=⟨A0,3,none⟩) (Kd.R_far (p:=⟨A0,2,none⟩) (Kd.R_far (p:=⟨A0,1,none⟩) (Kd.R_far (p:=⟨A0,0,none⟩) (Kd.R_far (p:=⟨A6,7,none⟩) (Kd.R_far (p:=⟨A6,6,none⟩) (Kd.R_far (p:=⟨A6,5,none⟩) (Kd.R_far (p:=⟨A6,4,none⟩) (Kd.R_types (Kd.R_types B8.out A5.out (by decide)) A4.out (by decide)) (fun _ hk=>hk.1.2) (.int .i64 t695)) (fun _ hk=>hk.1.2) (.string t696)) (fun _ hk=>hk.1.2) (.int .i64 t697)) (fun _ hk=>hk.1.2) (.slice A8 t698.length A9)) (fun _ hk=>hk.2) (.int .i64 t689)) (fun _ hk=>hk.2) (.string t690)) (fun _ hk=>hk.2) (.int .i64 t691)) (fun _ hk=>hk.2) (.slice B0 t692.length B1)) (fun _ hk=>hk.2) (.int .i64 t695)) (fun _ hk=>hk.2) (.string t696)) (fun _ hk=>hk.2) (.int .i64 t697)) (fun _ hk=>hk.2) (.slice A8 t698.length A9)) (fun _ hk=>hk.1.1.2),hV HB⟩

/-! ### laws_toBindingS: function 37 -/
def laws_toBindingS.l0:Nat→List (S71)→List (S73)→Int→Option ((List (S73)))
 | 0,_,_,_=>none
 | k + 1,x0,x3,x4=>if x4 < (x0.length:Int) then (if 0≤x4 then ((laws_toBinding.f k ((rd_T71 x0 x4).f0.f0) ((rd_T71 x0 x4).f0.f1) ((rd_T71 x0 x4).f0.f2) ((rd_T71 x0 x4).f0.f3) ((rd_T71 x0 x4).f1.f0) ((rd_T71 x0 x4).f1.f1) ((rd_T71 x0 x4).f1.f2) ((rd_T71 x0 x4).f1.f3)).bind fun bt705=>(if x4 < (x3.length:Int) then (laws_toBindingS.l0 k x0 (x3.set (x4:Int).toNat (⟨(⟨bt705.1,bt705.2.1,bt705.2.2.1,bt705.2.2.2.1⟩:S29),(⟨bt705.2.2.2.2.1,bt705.2.2.2.2.2.1,bt705.2.2.2.2.2.2.1,bt705.2.2.2.2.2.2.2⟩:S29)⟩:S73)) (wrap64 (x4 + 1))) else (none))) else (none)) else (some x3)
def laws_toBindingS.f (k:Nat) (l0:List (S71)):Option ((List (S73))):=if 0≤(l0.length:Int) then (if ((l0.length:Int):Int).toNat≤2513169434916 then (laws_toBindingS.l0 k l0 (List.replicate ((l0.length:Int):Int).toNat z73) 0) else (none)) else (none)
set_option maxHeartbeats 8000000 in
set_option maxRecDepth 100000 in
theorem laws_toBindingS.calls (k:Nat) (A0:Option Addr) (c0:Nat) (l0:List (S71)) (r:List (S73)) (w:World) (hr0:Kd.C k71 w A0 l0.length l0) (hc0:l0.length≤c0) (h:laws_toBindingS.f k l0=some r) :
  Calls Try.prog 37 #[.slice A0 l0.length c0] w fun e w'=> ∃ v0_:Value,e=.returned (v0_)∧Kd.R k73 73 w' w.heap.size (fun _=>True) v0_ r∧Below w.heap.size w w':=by
 have hu71:=Try.underlying71
 have hu73:=Try.underlying73
 have G3:=Aside0.mk hr0
 have I4:=Aside0.mk hc0
 clear hr0 hc0
 have HB:=Aside0.mk (Below.refl w.heap.size w)
 have H:(if 0≤(l0.length:Int) then (if ((l0.length:Int):Int).toNat≤2513169434916 then (laws_toBindingS.l0 k l0 (List.replicate ((l0.length:Int):Int).toNat z73) 0) else (none)) else (none))=some r:=h
 clear h
 by_cases c2:0≤(l0.length:Int)
 rotate_left
 ·rw [if_neg c2] at H
  exact absurd H (by simp)

 rw [if_pos c2] at H
 have F8:=eq_true c2
 have F9:=decide_eq_true c2
 clear c2
 by_cases c3:((l0.length:Int):Int).toNat≤2513169434916
 rotate_left
 ·rw [if_neg c3] at H
  exact absurd H (by simp)
 rw [if_pos c3] at H
 have G0:=eq_true c3
 have G1:=decide_eq_true c3
 clear c3
 obtain ⟨y701,hy701⟩:∃ y_:List (S73),y_=(List.replicate ((l0.length:Int):Int).toNat z73):=⟨_,rfl⟩
 replace H:(laws_toBindingS.l0 k l0 y701 0)=some r:=by first | (rw [hy701];with_reducible exact H) | (have H2_:=(Option.bind_some _ _).symm.trans H;rw [hy701];with_reducible exact H2_) | (have H2_:=(Option.bind_some _ _).symm.trans H;with_reducible exact H2_) | with_reducible exact H | (rw [hy701];exact H) | exact H
 have C6:=Aside0.mk hy701
 clear hy701
 have H':=Aside0.mk H
 clear H
 go_enter Try.func37,Try.ntmps37
 go_wp2_with (first | ((with_reducible refine gate_dst (N:=7) rfl ?_);refine Kd.R_make k73 _ 73 rfl (N:=7) rfl 52 _ _ rfl (l0.length:Int) rfl rfl Try.underlying52 (.agg #[(.int .i64 0),(.string ⟨#[]⟩),(.int .i64 0),(.slice none 0 0),(.int .i64 0),(.string ⟨#[]⟩),(.int .i64 0),(.slice none 0 0)]) 112 info73 rfl (by decide) (by omega) z73 (ok:=fun _=>True) (okp:=fun _=>True) (k73_mkM _ _ _ z73 (Kd.R_nil _ _ _ _ _) (Kd.R_nil _ _ _ _ _)) (fun _ hk=>hk) trivial (dT) (Nat.le_trans (Nat.mul_le_mul_right _ (dT:(l0.length:Int).toNat≤2513169434916)) (by omega)) (Below.refl _ _) (Nat.le_refl _) ?_;intro v702 w4 ho5 hb hg_ hnew_;clear hg_ hnew_;(first | rw [← C6.out] at ho5 | (simp only [Int.reduceToNat] at ho5;rw [← C6.out] at ho5));have F5:=rL ho5 HB;replace HB:=hS HB hb;clear hb ho5))
 go_loopg [4] k (fun kq v4 w'=> ∃ (x3_1:List (S73)) (x4_1:Int),v4=.int .i64 x4_1∧Aside0 (laws_toBindingS.l0 kq l0 x3_1 x4_1=some r)∧Aside0 (kq≤k)∧Aside0 (Kd.R k73 73 w' w.heap.size (fun _=>True) v702 x3_1)∧Aside0 (Below w.heap.size w w'))
 case atStart=>exact ⟨(y701),(0),(by first | rfl | (simp;done) | (simp [*];done)),H',⟨Nat.le_refl _⟩,⟨rV F5⟩,⟨hV HB⟩⟩
 clear H'
 try clear c2
 try clear F8
 try clear F9
 try clear c3
 try clear G0
 try clear G1
 obtain ⟨x3_1,x4_1,rfl,HA,HK1,A2,HB⟩:=hrel
 cases gk with
 | zero=>exact absurd HA.out (by simp [laws_toBindingS.l0])
 | succ k1=>
  have H:=HA.out
  clear HA
  simp only [laws_toBindingS.l0] at H
  by_cases c6:x4_1 < (l0.length:Int)
  rotate_left
  ·rw [if_neg c6] at H
   have G2:=decide_eq_false c6
   clear c6
   obtain rfl:=Option.some.inj H
   go_wp2
   go_ret
   exact ⟨_,by first | rfl | (simp [errW_none,errW_some] <;> rfl) | (simp [*,errW_none,errW_some] <;> rfl),rV A2,hV HB⟩
  rw [if_pos c6] at H
  have G2:=decide_eq_true c6
  clear c6
  by_cases c7:0≤x4_1
  rotate_left
  ·rw [if_neg c7] at H
   exact absurd H (by simp)
  rw [if_pos c7] at H
  have I1:=decide_eq_true c7
  clear c7
  replace H:=Option.bind_eq_some_iff.mp H
  obtain ⟨⟨t705,t706,t707,t708,t711,t712,t713,t714⟩,A80,H⟩:=H
  replace H:(if x4_1 < (x3_1.length:Int) then (laws_toBindingS.l0 k1 l0 (x3_1.set (x4_1:Int).toNat (⟨(⟨t705,t706,t707,t708⟩:S29),(⟨t711,t712,t713,t714⟩:S29)⟩:S73)) (wrap64 (x4_1 + 1))) else (none))=some r:=H
  have A8:=Aside0.mk A80
  clear A80
  by_cases c9:x4_1 < (x3_1.length:Int)
  rotate_left
  ·rw [if_neg c9] at H
   exact absurd H (by simp)
  rw [if_pos c9] at H
  have I2:=decide_eq_true c9
  clear c9
  obtain ⟨y717,hy717⟩:∃ y_:List (S73),y_=(x3_1.set (x4_1:Int).toNat (⟨(⟨t705,t706,t707,t708⟩:S29),(⟨t711,t712,t713,t714⟩:S29)⟩:S73)):=⟨_,rfl⟩
  replace H:(laws_toBindingS.l0 k1 l0 y717 (wrap64 (x4_1 + 1)))=some r:=by first | (rw [hy717];with_reducible exact H) | (have H2_:=(Option.bind_some _ _).symm.trans H;rw [hy717];with_reducible exact H2_) | (have H2_:=(Option.bind_some _ _).symm.trans H;with_reducible exact H2_) | with_reducible exact H | (rw [hy717];exact H) | exact H
  have F6:=Aside0.mk hy717
  clear hy717
  have H':=Aside0.mk H
  clear H
  have C3:0≤(x4_1:Int):=dT
  have C4:x4_1 < (l0.length:Int):=dT
  obtain ⟨I0,A704_3,c704_3,A704_7,c704_7,e704,A9,B0,B1,B2,B3,B4,B5,B6,B7,B8,B9,C0⟩:=at_T71 G3.out x4_1 C3 C4
  cases e704
  replace A9:=xc HB A9
  replace B0:=xc HB B0
  replace B1:=xc HB B1
  replace B2:=xc HB B2
  replace B3:=xc HB B3
  replace B4:=xc HB B4
  replace B5:=xc HB B5
  replace B6:=xc HB B6
  have C8:=Aside0.mk B8
  have C9:=Aside0.mk B7
  clear B8 B7
  have D0:=Aside0.mk C0
  have D1:=Aside0.mk B9
  clear C0 B9
  replace C3:=eq_true C3
  replace C4:=eq_true C4
  go_wp2_with (first | (refine goK 59 (some 20) rfl Try.func59 #[.agg #[.int .i64 ((rd_T71 l0 x4_1).f0.f0),.string ((rd_T71 l0 x4_1).f0.f1),.int .i64 ((rd_T71 l0 x4_1).f0.f2),.slice A704_3 ((rd_T71 l0 x4_1).f0.f3).length c704_3,.int .i64 ((rd_T71 l0 x4_1).f1.f0),.string ((rd_T71 l0 x4_1).f1.f1),.int .i64 ((rd_T71 l0 x4_1).f1.f2),.slice A704_7 ((rd_T71 l0 x4_1).f1.f3).length c704_7]] ?_;(with_reducible refine (laws_toBinding.calls k1 ((rd_T71 l0 x4_1).f0.f0) ((rd_T71 l0 x4_1).f0.f1) ((rd_T71 l0 x4_1).f0.f2) _ _ ((rd_T71 l0 x4_1).f0.f3) ((rd_T71 l0 x4_1).f1.f0) ((rd_T71 l0 x4_1).f1.f1) ((rd_T71 l0 x4_1).f1.f2) _ _ ((rd_T71 l0 x4_1).f1.f3) t705 t706 t707 t708 t711 t712 t713 t714 _ ?side1 ?side2 ?side3 ?side4 A8.out).mono ?_);(case side1=>exact cB C8 HB);(case side2=>exact C9.out);(case side3=>exact cB D0 HB);(case side4=>exact D1.out);rintro e w11 ⟨v709,v715,rfl,ho0,ho1,hb⟩;refine ⟨_,rfl,?_⟩;replace A2:=Aside0.mk (Kd.R_mono (Kd.R_told (Kd.R_told (Kd.R_old (rV A2) hb) (Kd.R_base ho0)) (Kd.R_base ho1)) (fun _ h_=>h_.1));have C1:=rL ho0 HB;have C2:=rL ho1 HB;replace HB:=hS HB hb;(try clear hb);(try clear hb2);(try clear hk);(try clear hi);(try clear ho0);(try clear ho1);have D2:0≤(x4_1:Int):=dT;have D3:(x4_1:Int) < ((x3_1.length:Int):Int):=dT;obtain ⟨A1,D4,eo10,D5,gl10,cl10,HG10⟩:=Kd.R_form A2.out (by omega);(first | cases eo10 | (injection eo10 with ea_ en_ ec_;(first | subst ea_ | (injection ea_ with ea_;subst ea_));subst ec_;clear en_));have A7:=Aside0.mk D5;have I3:=Aside0.mk HG10;clear D5 gl10 HG10;obtain ⟨ce10,F7,D6,A4,A5⟩:=Kd.R_elem A2.out z73 (x4_1:Int) D2 D3;obtain ⟨ve10_3,ve10_7,rfl,ge10_3,ge10_7⟩:=k73_openM D6;have G4:w11.cell? ⟨A1,(x4_1:Int).toNat * 8,none⟩=some (.int .i64 ((rd_T73 x3_1 x4_1).f0.f0)):=A4 0 _ rfl;have G5:w11.cell? ⟨A1,(x4_1:Int).toNat * 8 + 1,none⟩=some (.string ((rd_T73 x3_1 x4_1).f0.f1)):=A4 1 _ rfl;have G6:w11.cell? ⟨A1,(x4_1:Int).toNat * 8 + 2,none⟩=some (.int .i64 ((rd_T73 x3_1 x4_1).f0.f2)):=A4 2 _ rfl;have G7:w11.cell? ⟨A1,(x4_1:Int).toNat * 8 + 3,none⟩=some (ve10_3):=A4 3 _ rfl;have G8:w11.cell? ⟨A1,(x4_1:Int).toNat * 8 + 4,none⟩=some (.int .i64 ((rd_T73 x3_1 x4_1).f1.f0)):=A4 4 _ rfl;have G9:w11.cell? ⟨A1,(x4_1:Int).toNat * 8 + 5,none⟩=some (.string ((rd_T73 x3_1 x4_1).f1.f1)):=A4 5 _ rfl;have H0:w11.cell? ⟨A1,(x4_1:Int).toNat * 8 + 6,none⟩=some (.int .i64 ((rd_T73 x3_1 x4_1).f1.f2)):=A4 6 _ rfl;have H1:w11.cell? ⟨A1,(x4_1:Int).toNat * 8 + 7,none⟩=some (ve10_7):=A4 7 _ rfl;have H2:w11.frozen? ⟨A1,(x4_1:Int).toNat * 8,none⟩=false:=A5 0;have H3:w11.frozen? ⟨A1,(x4_1:Int).toNat * 8 + 1,none⟩=false:=A5 1;have H4:w11.frozen? ⟨A1,(x4_1:Int).toNat * 8 + 2,none⟩=false:=A5 2;have H5:w11.frozen? ⟨A1,(x4_1:Int).toNat * 8 + 3,none⟩=false:=A5 3;have H6:w11.frozen? ⟨A1,(x4_1:Int).toNat * 8 + 4,none⟩=false:=A5 4;have H7:w11.frozen? ⟨A1,(x4_1:Int).toNat * 8 + 5,none⟩=false:=A5 5;have H8:w11.frozen? ⟨A1,(x4_1:Int).toNat * 8 + 6,none⟩=false:=A5 6;have H9:w11.frozen? ⟨A1,(x4_1:Int).toNat * 8 + 7,none⟩=false:=A5 7;clear F7 A4 A5 D6;replace D2:=eq_true D2;replace D3:=eq_true D3;have n_:=Aside0.mk (Kd.R_mono (ok':=(fun k_=>some k_≠(v709:Value).ownBlock∧some k_≠(v715:Value).ownBlock)) A2.out (fun k_ hk=>⟨hk.1.2,hk.2⟩));clear A2;have A2:=n_;clear n_;have D7:=Aside0.mk (show Kd.R k73 73 w11 w.heap.size (fun _=>True) (.slice (some ⟨A1,0,none⟩) x3_1.length D4) x3_1 from (rM A2 (fun _ hk=>trivial)));obtain ⟨ce12,C7,D8,A3,A6⟩:=Kd.R_elem D7.out z73 (x4_1:Int) (dT) (by have h_:(x4_1:Int) < ((x3_1.length:Int):Int):=dT;first | exact h_ | (have e_:=(Kd.R_reads' A2.out).1;omega) | simpa using h_);obtain ⟨ve12_3,ve12_7,rfl,ge12_3,ge12_7⟩:=k73_openM D8;have C5:=Kd.R_seg D7.out (x4_1:Int) (dT) (by have h_:(x4_1:Int) < ((x3_1.length:Int):Int):=dT;first | exact h_ | (have e_:=(Kd.R_reads' A2.out).1;omega) | simpa using h_) (seg:=[.int .i64 t705,.string t706,.int .i64 t707,v709,.int .i64 t711,.string t712,.int .i64 t713,v715]) (j:=0) C7 A3 (show 8≤8 from by decide) (x':=(⟨(⟨t705,t706,t707,t708⟩:S29),(⟨t711,t712,t713,t714⟩:S29)⟩:S73)) (k73_mkM _ _ _ (⟨(⟨t705,t706,t707,t708⟩:S29),(⟨t711,t712,t713,t714⟩:S29)⟩:S73) (Kd.R_mono (Kd.R_apart' (C1.out) (Kd.R_typed A2.out) (by decide)) (fun k_ hk=>⟨trivial,fun e_=>(hk.2) (by rw [e_];rfl)⟩)) (Kd.R_mono (Kd.R_apart' (C2.out) (Kd.R_typed A2.out) (by decide)) (fun k_ hk=>⟨trivial,fun e_=>(hk.2) (by rw [e_];rfl)⟩))) (fun _ hk=>hk);have D9:=A3 0 _ rfl;(try simp only [show (k73).sz=8 from rfl,Nat.mul_one,Nat.add_zero] at D9);have E0:=A6 0;(try simp only [show (k73).sz=8 from rfl,Nat.mul_one,Nat.add_zero] at E0);have E1:=A3 1 _ rfl;(try simp only [show (k73).sz=8 from rfl,Nat.mul_one,Nat.add_zero] at E1);have E2:=A6 1;(try simp only [show (k73).sz=8 from rfl,Nat.mul_one,Nat.add_zero] at E2);have E3:=A3 2 _ rfl;(try simp only [show (k73).sz=8 from rfl,Nat.mul_one,Nat.add_zero] at E3);have E4:=A6 2;(try simp only [show (k73).sz=8 from rfl,Nat.mul_one,Nat.add_zero] at E4);have E5:=A3 3 _ rfl;(try simp only [show (k73).sz=8 from rfl,Nat.mul_one,Nat.add_zero] at E5);have E6:=A6 3;(try simp only [show (k73).sz=8 from rfl,Nat.mul_one,Nat.add_zero] at E6);have E7:=A3 4 _ rfl;(try simp only [show (k73).sz=8 from rfl,Nat.mul_one,Nat.add_zero] at E7);have E8:=A6 4;(try simp only [show (k73).sz=8 from rfl,Nat.mul_one,Nat.add_zero] at E8);have E9:=A3 5 _ rfl;(try simp only [show (k73).sz=8 from rfl,Nat.mul_one,Nat.add_zero] at E9);have F0:=A6 5;(try simp only [show (k73).sz=8 from rfl,Nat.mul_one,Nat.add_zero] at F0);have F1:=A3 6 _ rfl;(try simp only [show (k73).sz=8 from rfl,Nat.mul_one,Nat.add_zero] at F1);have F2:=A6 6;(try simp only [show (k73).sz=8 from rfl,Nat.mul_one,Nat.add_zero] at F2);have F3:=A3 7 _ rfl;(try simp only [show (k73).sz=8 from rfl,Nat.mul_one,Nat.add_zero] at F3);have F4:=A6 7;(try simp only [show (k73).sz=8 from rfl,Nat.mul_one,Nat.add_zero] at F4);clear C7 A3 A6 D8) | ((with_reducible refine gate_store (t:=73) (p:=21) rfl ?_);refine store_event (t:=73) (p:=21) (v:=?vo_w13) (w1:=((((((((w11.setCell ⟨A1,(x4_1:Int).toNat * 8,none⟩ (.int .i64 t705)).setCell ⟨A1,(x4_1:Int).toNat * 8 + 1,none⟩ (.string t706)).setCell ⟨A1,(x4_1:Int).toNat * 8 + 2,none⟩ (.int .i64 t707)).setCell ⟨A1,(x4_1:Int).toNat * 8 + 3,none⟩ (v709)).setCell ⟨A1,(x4_1:Int).toNat * 8 + 4,none⟩ (.int .i64 t711)).setCell ⟨A1,(x4_1:Int).toNat * 8 + 5,none⟩ (.string t712)).setCell ⟨A1,(x4_1:Int).toNat * 8 + 6,none⟩ (.int .i64 t713)).setCell ⟨A1,(x4_1:Int).toNat * 8 + 7,none⟩ (v715))) ?hg ?ho ?hn ?hr ?_;(case ho=>rfl);(case hg=>rfl);(case hn=>rfl);(case hr=>first | (go_simp;done) | (go_simp;rfl) | (obtain ⟨a0_,c0_,e0_⟩:=Kd.R_slice C1.out;rw [e0_];obtain ⟨a1_,c1_,e1_⟩:=Kd.R_slice C2.out;rw [e1_];first | (go_simp;done) | (go_simp;rfl)));intro w13 hw;have hg:w11.grownBy w13 (some A1):=(by rw [hw];exact C5.2);have hp_:Kd.R k73 73 w13 w.heap.size (fun _=>True) (.slice (some ⟨A1,0,none⟩) x3_1.length D4) y717:=(by rw [hw,F6.out];exact C5.1);clear C5;replace A2:=Aside0.mk (hp_);replace HB:=Aside0.mk ((by rw [hw];exact below_set (below_set (below_set (below_set (below_set (below_set (below_set (below_set (HB.out) A7.out) A7.out) A7.out) A7.out) A7.out) A7.out) A7.out) A7.out:Below w.heap.size w w13));clear C1;clear C2;clear hg hw hp_))
  go_roundg k1
  case measure=>have:=HK1.out;omega
  case rel=>exact ⟨(y717),(wrap64 (x4_1 + 1)),(by first | rfl | (simp;done) | (simp [*];done)),H',⟨by have:=HK1.out;omega⟩,⟨rV A2⟩,⟨hV HB⟩⟩
end Go.Proofs.Ytcofpnddfmlafaa.Q

