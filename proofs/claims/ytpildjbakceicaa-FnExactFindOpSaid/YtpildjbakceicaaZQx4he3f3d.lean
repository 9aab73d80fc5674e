/- Functions of the program as plain Lean functions,and that the calls come to what they say. -/
import Derived.Test.YtpildjbakceicaaZQx0hb61c0
import Derived.Test.YtpildjbakceicaaZQx2hbf1bc
import Derived.Test.YtpildjbakceicaaZQx3hfb23e
import Derived.Test.YtpildjbakceicaaZShorth7b252
namespace Go.Proofs.Ytpildjbakceicaa.Q
open Go.RowKit Go.Proofs.YtpildjbakceicaaW.PrintWords Go.Proofs.YtpildjbakceicaaW.PrintLast Go.Proofs.YtpildjbakceicaaW.PrintMore
attribute [local go_sem] max2_int min2_int max_two min_two max_three min_three max_four min_four   -- for this text's walks alone
set_option linter.unusedVariables false
set_option linter.unusedSimpArgs false

/-! ### spec_IsSorts: function 23 -/
theorem spec_IsSorts.a0 {P_:Prop} (h_:P_:=by rintro w' ⟨s0,s1,s2,s3,s4,s5,s6,s7,s8,s9⟩;go_simp;with_reducible rfl):P_:=h_
theorem spec_IsSorts.a1 {P_:Prop} (h_:P_:=by (try simp only [List.map_toArray,List.map_cons,List.map_nil]);first | done | rfl | (simp only [List.length_drop,List.length_take];rfl)):P_:=h_
theorem spec_IsSorts.a2 {P_:Prop} (h_:P_:=by rintro w' ⟨s0,s1,s2,s3⟩;go_simp;with_reducible rfl):P_:=h_
theorem spec_IsSorts.a3 {P_:Prop} (h_:P_:=by first | rfl | (simp [errW_none,errW_some] <;> rfl) | (simp [*,errW_none,errW_some] <;> rfl)):P_:=h_
theorem spec_IsSorts.a4 {P_:Prop} (h_:P_:=by first | rfl | (simp;done) | (simp [*];done)):P_:=h_
theorem spec_IsSorts.a5 {P_:Prop} (h_:P_:=by rintro w' ⟨s0,s1,s2,s3,s4,s5⟩;go_simp;with_reducible rfl):P_:=h_
theorem spec_IsSorts.a6 {P_:Prop} (h_:P_:=by (try simp only [List.map_toArray,List.map_cons,List.map_nil]);first | done | (rw [show (l0_0.take (x3_2:Int).toNat).length=x3_2.toNat from (by rw [List.length_take];have h_:(x3_2:Int)≤(l0_0.length:Int):=dT;omega)] <;> rfl) | rfl | (simp only [List.length_drop,List.length_take];rfl)):P_:=h_
theorem spec_IsSorts.a7 {P_:Prop} (h_:P_:=by kernel_rfl):P_:=h_
theorem spec_IsSorts.a8 {P_:Prop} (h_:P_:=by have:=HJ1.out;have:=HK2.out;have:=HK3.out;have:=HK4.out;have:=HK5.out;omega):P_:=h_
mutual
def spec_IsSorts.j0:Nat→Bool→List ByteArray→List (S89)→Option (Bool)
 | 0,_,_,_=>none
 | k + 1,x23,x132000,x132001=>if x23=true then (some false) else (spec_IsSorts.l0 k 0 x132000 x132001)
def spec_IsSorts.l0:Nat→Int→List ByteArray→List (S89)→Option (Bool)
 | 0,_,_,_=>none
 | k + 1,x3,x132000,x132001=>if x3 < (x132000.length:Int) then (if 0≤x3 then ((spec_IsName.f k (rdOf ByteArray.empty x132000 x3)).bind fun t133=>(if t133=true then (if x3≤(x132000.length:Int) then ((spec_l1Has.f k (x132000.take (x3:Int).toNat) (rdOf ByteArray.empty x132000 x3)).bind fun t136=>(if t136=true then (some false) else (spec_IsSorts.l0 k (wrap64 (x3 + 1)) x132000 x132001))) else (none)) else (some false))) else (none)) else (spec_IsSorts.l1 k 0 x132000 x132001)
def spec_IsSorts.l1:Nat→Int→List ByteArray→List (S89)→Option (Bool)
 | 0,_,_,_=>none
 | k + 1,x4,x132000,x132001=>if x4 < (x132001.length:Int) then (if 0≤x4 then ((spec_l1In.f ((rd_T89 x132001 x4).f0) 0 (wrap64 ((x132000.length:Int) - 1))).bind fun t138=>(if t138=true then ((spec_l1In.f ((rd_T89 x132001 x4).f1) 0 (wrap64 ((x132000.length:Int) - 1))).bind fun t140=>(if t140=true then (if ((rd_T89 x132001 x4).f0)=((rd_T89 x132001 x4).f1) then (some false) else (spec_IsSorts.l1 k (wrap64 (x4 + 1)) x132000 x132001)) else (some false))) else (some false))) else (none)) else ((spec_l3Up.f k x132000 x132001).bind fun t143=>(spec_IsSorts.l2 k t143 0))
def spec_IsSorts.l2:Nat→List Int→Int→Option (Bool)
 | 0,_,_=>none
 | k + 1,x5,x6=>if x6 < (x5.length:Int) then (spec_IsSorts.l3 k x5 x6 0) else (some true)
def spec_IsSorts.l3:Nat→List Int→Int→Int→Option (Bool)
 | 0,_,_,_=>none
 | k + 1,x5,x6,x7=>if x7 < x6 then (if 0≤x6 then (if x6 < (x5.length:Int) then ((spec_l2Has.f (rd x5 x6) x7).bind fun t147=>(if t147=true then (if 0≤x7 then (if x7 < (x5.length:Int) then ((spec_l2Has.f (rd x5 x7) x6).bind fun t149=>(if t149=true then (some false) else (spec_IsSorts.l3 k x5 x6 (wrap64 (x7 + 1))))) else (none)) else (none)) else (spec_IsSorts.l3 k x5 x6 (wrap64 (x7 + 1))))) else (none)) else (none)) else (spec_IsSorts.l2 k x5 (wrap64 (x6 + 1)))
end
def spec_IsSorts.f (k:Nat) (l0_0:List ByteArray) (l0_1:List (S89)):Option (Bool):=if (l0_0.length:Int) < 1 then (spec_IsSorts.j0 k true l0_0 l0_1) else (if (l0_0.length:Int) > 8 then (spec_IsSorts.j0 k true l0_0 l0_1) else (spec_IsSorts.j0 k (decide ((l0_1.length:Int) > 16)) l0_0 l0_1))
def spec_IsSorts.T6:Bool × List (List Nat × List Nat):=(true,[([],[]),([0],[0]),([],[]),([1,2],[1,2]),([3],[3]),([4],[4]),([5],[5]),([6,5],[6]),([7],[7]),([8,7],[7,8]),([7],[7]),([9,10,7],[7,9,10]),([7],[7]),([12,7],[7,12]),([7],[7]),([13,14,7],[7,13,14]),([15,7],[7,15]),([11,16,7,7],[7,11,16]),([7,17],[7,17])])
def spec_IsSorts.B6:List Nat:=[0,1,0,7,15,31,63,127,255,511,255,2047,255,4351,255,28927,61695,131071,262143]
theorem spec_IsSorts.tab6:rtab .any (opsOf Try.f23 6)=spec_IsSorts.T6:=by kernel_rfl
theorem spec_IsSorts.bits6:waitsOk spec_IsSorts.T6.2 spec_IsSorts.B6=true:=by kernel_rfl
def spec_IsSorts.T11:Bool × List (List Nat × List Nat):=(true,[([],[]),([0],[0]),([],[]),([1,2],[1,2]),([3],[3]),([4],[4]),([],[]),([6],[6]),([7],[7]),([8],[8]),([5,9],[5,9]),([10],[10]),([11,10],[11]),([12],[12]),([13,12],[12,13]),([12],[12]),([14,15,12],[12,14,15]),([16,12],[12,16]),([17,12],[12,17]),([12],[12]),([19,12],[12,19]),([20,12],[12,20]),([21,12],[12,21]),([18,22,12,12],[12,18,22]),([23,12],[12,23]),([12,24],[12,24]),([25,23],[25]),([26],[26]),([27,26],[26,27]),([26],[26]),([28,29,26],[26,28,29]),([30,26],[26,30]),([31,26],[26,31]),([26],[26]),([33,26],[26,33]),([26],[26]),([34,35,26],[26,34,35]),([36,26],[26,36]),([37,26],[26,37]),([32,38,26],[26,32,38]),([26,39],[26,39])])
def spec_IsSorts.B11:List Nat:=[0,1,0,7,15,31,0,64,192,448,1023,2047,4095,8191,16383,8191,65535,131071,262143,8191,532479,1581055,3678207,8388607,16777215,33554431,67108863,134217727,268435455,134217727,1073741823,2147483647,4294967295,134217727,8724152319,134217727,60263759871,128983236607,266422190079,549755813887,1099511627775]
theorem spec_IsSorts.tab11:rtab .any (opsOf Try.f23 11)=spec_IsSorts.T11:=by kernel_rfl
theorem spec_IsSorts.bits11:waitsOk spec_IsSorts.T11.2 spec_IsSorts.B11=true:=by kernel_rfl
set_option maxHeartbeats 8000000 in
set_option maxRecDepth 100000 in
theorem spec_IsSorts.calls (k:Nat) (A0_0:Option Addr) (c0_0:Nat) (l0_0:List ByteArray) (A0_1:Option Addr) (c0_1:Nat) (l0_1:List (S89)) (r:Bool) (w:World) (hr0_0:Kd.C Kd.string w A0_0 l0_0.length l0_0) (hc0_0:l0_0.length≤c0_0) (hr0_1:Kd.C k89 w A0_1 l0_1.length l0_1) (hc0_1:l0_1.length≤c0_1) (h:spec_IsSorts.f k l0_0 l0_1=some r) :
  Calls Try.prog 23 #[.agg #[.slice A0_0 l0_0.length c0_0,.slice A0_1 l0_1.length c0_1]] w fun e w'=>e=.returned (.bool r)∧Below w.heap.size w w':=by
 have hu33:=Try.underlying33
 have D5:=Aside0.mk hr0_0
 have F2:=Aside0.mk hc0_0
 clear hr0_0 hc0_0
 have C5:=Aside0.mk hr0_1
 have H0:=Aside0.mk hc0_1
 clear hr0_1 hc0_1
 have HB:=Aside0.mk (Below.refl w.heap.size w)
 have H:(if (l0_0.length:Int) < 1 then (spec_IsSorts.j0 k true l0_0 l0_1) else (if (l0_0.length:Int) > 8 then (spec_IsSorts.j0 k true l0_0 l0_1) else (spec_IsSorts.j0 k (decide ((l0_1.length:Int) > 16)) l0_0 l0_1)))=some r:=h
 clear h
 have G9:=Aside0.mk H
 clear H
 go_enter Try.func23,Try.ntmps23
 go_upto_region 1 with (first | ((with_reducible refine gate_dst (N:=1) rfl ?_);(try (refine gate_guard (by rfl) ?_;dsimp only));refine bx 1 rfl #[.slice A0_0 l0_0.length c0_0,.slice A0_1 l0_1.length c0_1] 33 ?_;intro B2 hg w3 hbox hb;have A0:=Aside0.mk (hbox);have M0:=hZ HB hg;have M1:=hZ HB hg;replace HB:=hS HB hb;clear hb hbox hg))
 (try simp only [Act.put,List.setIfInBounds_toArray,List.set_cons_zero,List.set_cons_succ])
 go_cut [23] (fun v23 wc=> ∃ (kq:Nat) (x23_1:Bool),v23=.bool x23_1∧Aside0 (spec_IsSorts.j0 kq x23_1 l0_0 l0_1=some r)∧Aside0 (kq≤k)∧Aside0 (wc.heap[B2]? = some (.cells #[(.slice A0_0 l0_0.length c0_0),(.slice A0_1 l0_1.length c0_1)] 33 (0,0)))∧Aside0 (Below w.heap.size w wc))
 case first=>
  have H:=G9.out
  clear G9
  by_cases c4:(l0_0.length:Int) < 1
  ·rw [if_pos c4] at H
   have E6:=decide_eq_true c4
   have H5:decide (l0_0.length < 1)=true:=decide_eq_true (by omega)
   clear c4
   (first | rw [E6] | (simp only [i64_w,i32_w];rw [E6]) | skip)
   have H':=Aside0.mk H
   clear H
   obtain ⟨K8,K9,L0,L1⟩:=cf2 A0
   go_wp2
   go_meet
   case rel=>exact ⟨_,(true),spec_IsSorts.a4,H',⟨by first | omega | exact Nat.le_refl _⟩,⟨vB A0⟩,⟨hV HB⟩⟩
  rw [if_neg c4] at H
  have E6:=decide_eq_false c4
  have H5:decide (l0_0.length < 1)=false:=decide_eq_false (by omega)
  clear c4
  (first | rw [E6] | (simp only [i64_w,i32_w];rw [E6]) | skip)
  by_cases c6:(l0_0.length:Int) > 8
  rotate_left
  ·rw [if_neg c6] at H
   have H6:=decide_eq_false c6
   have H7:decide (8 < l0_0.length)=false:=decide_eq_false (by omega)
   clear c6
   have H':=Aside0.mk H
   clear H
   obtain ⟨L2,L3,L4,L5⟩:=cf2 A0
   go_wp2
   go_meet
   case rel=>exact ⟨_,(decide ((l0_1.length:Int) > 16)),spec_IsSorts.a4,H',⟨by first | omega | exact Nat.le_refl _⟩,⟨vB A0⟩,⟨hV HB⟩⟩
  rw [if_pos c6] at H
  have H6:=decide_eq_true c6
  have H7:decide (8 < l0_0.length)=true:=decide_eq_true (by omega)
  clear c6
  have H':=Aside0.mk H
  clear H
  obtain ⟨L6,L7,L8,L9⟩:=cf2 A0
  go_wp2
  go_meet
  case rel=>exact ⟨_,(true),spec_IsSorts.a4,H',⟨by first | omega | exact Nat.le_refl _⟩,⟨vB A0⟩,⟨hV HB⟩⟩
 clear G9
 obtain ⟨kq,x23_1,rfl,HA,HJ1,A0,HB⟩:=hcut
 cases kq with
 | zero=>exact absurd HA.out (by simp [spec_IsSorts.j0])
 | succ kj1=>
  have H:=HA.out
  clear HA
  simp only [spec_IsSorts.j0] at H
  by_cases c9:x23_1=true
  ·subst c9
   rw [if_pos rfl] at H
   obtain rfl:=Option.some.inj H
   go_wp2
   go_ret
   exact ⟨spec_IsSorts.a3,hV HB⟩
  replace c9:=Bool.eq_false_iff.mpr c9
  subst c9
  rw [if_neg (show ¬ (false=true) by decide)] at H
  have H':=Aside0.mk H
  clear H
  go_wp2
  go_loopg [3] kj1 (fun kq v3 w'=> ∃ (x3_2:Int),v3=.int .i64 x3_2∧Aside0 (spec_IsSorts.l0 kq x3_2 l0_0 l0_1=some r)∧Aside0 (kq≤kj1)∧Aside0 (w'.heap[B2]? = some (.cells #[(.slice A0_0 l0_0.length c0_0),(.slice A0_1 l0_1.length c0_1)] 33 (0,0)))∧Aside0 (Below w.heap.size w w'))
  case atStart=>exact ⟨(0),spec_IsSorts.a4,H',⟨Nat.le_refl _⟩,⟨vB A0⟩,⟨hV HB⟩⟩
  clear H'
  try clear c9
  obtain ⟨x3_2,rfl,HA,HK2,A0,HB⟩:=hrel
  cases gk with
  | zero=>exact absurd HA.out (by simp [spec_IsSorts.l0])
  | succ k2=>
   have H:=HA.out
   clear HA
   simp only [spec_IsSorts.l0] at H
   by_cases c10:x3_2 < (l0_0.length:Int)
   ·rw [if_pos c10] at H
    have G0:=decide_eq_true c10
    clear c10
    by_cases c11:0≤x3_2
    rotate_left
    ·rw [if_neg c11] at H
     exact absurd H (by simp)
    rw [if_pos c11] at H
    have M2:=decide_eq_true c11
    clear c11
    replace H:=Option.bind_eq_some_iff.mp H
    obtain ⟨t133,A120,H⟩:=H
    replace H:(if t133=true then (if x3_2≤(l0_0.length:Int) then ((spec_l1Has.f k2 (l0_0.take (x3_2:Int).toNat) (rdOf ByteArray.empty l0_0 x3_2)).bind fun t136=>(if t136=true then (some false) else (spec_IsSorts.l0 k2 (wrap64 (x3_2 + 1)) l0_0 l0_1))) else (none)) else (some false))=some r:=H
    have A12:=Aside0.mk A120
    clear A120
    by_cases c13:t133=true
    ·subst c13
     rw [if_pos rfl] at H
     have M3:=eq_true (dT:0≤x3_2)
     by_cases c15:x3_2≤(l0_0.length:Int)
     rotate_left
     ·rw [if_neg c15] at H
      exact absurd H (by simp)
     rw [if_pos c15] at H
     have M4:=eq_true c15
     have M5:=decide_eq_true c15
     clear c15
     replace H:=Option.bind_eq_some_iff.mp H
     obtain ⟨t136,A160,H⟩:=H
     replace H:(if t136=true then (some false) else (spec_IsSorts.l0 k2 (wrap64 (x3_2 + 1)) l0_0 l0_1))=some r:=H
     have A16:=Aside0.mk A160
     clear A160
     by_cases c17:t136=true
     ·subst c17
      rw [if_pos rfl] at H
      obtain rfl:=Option.some.inj H
      obtain ⟨I0,I1,I2,I3⟩:=cf2 A0
      try go_wp2
      replace A0:=Aside0.mk (blk_drew A0.out)
      replace HB:=Aside0.mk (below_drew1 HB.out)
      have C9:0≤(x3_2:Int):=dT
      have D0:x3_2 < (l0_0.length:Int):=dT
      obtain ⟨B9,e132,A9⟩:=Kd.at_string D5.out x3_2 C9 D0
      have A8:=A9
      cases e132
      replace A9:=xc HB A9
      replace C9:=eq_true C9
      replace D0:=eq_true D0
      have D6:0≤(x3_2:Int):=dT
      have D7:x3_2 < (l0_0.length:Int):=dT
      obtain ⟨F3,e135,C0⟩:=Kd.at_string D5.out x3_2 D6 D7
      have B3:=C0
      obtain rfl:B9=F3:=(by injection e135)
      replace C0:=xc HB C0
      replace D6:=eq_true D6
      replace D7:=eq_true D7
      refine start_ (n:=19) (S:=fun w'=>w'.cell? ⟨B2,0,none⟩=some (.slice (some B9) l0_0.length c0_0)∧w'.cell? ⟨B2,1,none⟩=some (.slice A0_1 l0_1.length c0_1)∧w'.cell? (B9.add (x3_2).toNat)=some (.string (rdOf ByteArray.empty l0_0 x3_2))∧w'.cell? (B9.add (x3_2).toNat)=some (.string (rdOf ByteArray.empty l0_0 x3_2))) (ds:=[]) #[false,false,false,false,false,false,false,false,false,false,false,false,false,false,false,false,false,false,false] spec_IsSorts.a7 rfl rfl ⟨cz0 A0,cz1 A0,((HB.out.cell (World.block_lt_of_cell? w _ A8)).trans A8),((HB.out.cell (World.block_lt_of_cell? w _ B3)).trans B3)⟩ (fun hHeld=> ?_);refine with_tabW spec_IsSorts.tab6 spec_IsSorts.bits6 (fun HT_ HW_=> ?_)
      generalize wr.drew=w19 at A0 HB A9 C0 hHeld ⊢
      refine pureS 0 31 HT_ rfl rfl ?_
      refine pureS 2 33 HT_ rfl rfl ?_
      refine takeS 1 32 HT_ HW_ rfl rfl hHeld ?_ spec_IsSorts.a2
      refine pureS 3 34 HT_ rfl rfl ?_
      refine takeS 4 35 HT_ HW_ rfl rfl hHeld ?_ spec_IsSorts.a2
      refine one_ (i:=5) (N:=some 36) #[true,true,true,true,true,true,false,false,false,false,false,false,false,false,false,false,false,false,false] rfl rfl (one_of HT_.out spec_IsSorts.a7) (by decide) (fun K hK=> ?_)
      refine goes_ Try.func24 spec_IsSorts.a7 rfl #[.string (rdOf ByteArray.empty l0_0 x3_2)] (by rfl) rfl rfl spec_IsSorts.a1 ?_
      with_reducible refine (spec_IsName.calls k2 (rdOf ByteArray.empty l0_0 x3_2) true _ A12.out).mono ?_
      rintro e w' ⟨rfl,⟨nd,rfl⟩⟩
      refine ⟨_,rfl,?_⟩
      obtain ⟨i020,G1,_,hsz20,_⟩:=info_parts info9
      obtain ⟨hcut20,hA20,hC20⟩:=print_take_of (P:=Try.prog) Value.string (⟨#[]⟩:ByteArray) 22 9 .i64 Try.underlying22 G1 hsz20 (some B9) c0_0 l0_0 x3_2 (dT) (dT) F2.out
      have F4:=Aside0.mk (Kd.C_of_reads (h1:=fun _=>rfl) (hA20 _ (Kd.reads_of_C D5.out)))
      have F5:=Aside0.mk hC20
      clear hA20 hC20 G1 hsz20
      refine hK.out _ _ ⟨cz0 A0,cz1 A0,((HB.out.cell (World.block_lt_of_cell? w _ A8)).trans A8),((HB.out.cell (World.block_lt_of_cell? w _ B3)).trans B3)⟩ (fun hHeld=> ?_)
      clear hK K
      refine norm_ (a':=?_) ?_ ?_
      rotate_left
      ·show Act.put _ (some 36) _=_
       simp only [Act.put,List.setIfInBounds_toArray,List.set_cons_zero,List.set_cons_succ,i64_w,i32_w]
       rfl
      refine pureS 6 37 HT_ rfl rfl ?_
      refine pureS 7 38 HT_ rfl rfl ?_
      refine pureS 8 39 HT_ rfl rfl ?_
      refine pureS 10 41 HT_ rfl rfl ?_
      refine pureS 12 43 HT_ rfl rfl ?_
      refine pureS 14 45 HT_ rfl rfl ?_
      refine takeS 9 40 HT_ HW_ rfl rfl hHeld ?_ spec_IsSorts.a2
      refine pureS 11 42 HT_ rfl rfl ?_
      refine takeS 13 44 HT_ HW_ rfl rfl hHeld ?_ spec_IsSorts.a2
      refine pureS 15 46 HT_ rfl rfl ?_
      refine takeS 16 47 HT_ HW_ rfl rfl hHeld ?_ spec_IsSorts.a2
      refine one_ (i:=17) (N:=some 48) #[true,true,true,true,true,true,true,true,true,true,true,true,true,true,true,true,true,true,false] rfl rfl (one_of HT_.out spec_IsSorts.a7) (by decide) (fun K hK=> ?_)
      refine goes_ Try.func48 spec_IsSorts.a7 rfl #[.slice (some B9) (l0_0.take (x3_2:Int).toNat).length c0_0,.string (rdOf ByteArray.empty l0_0 x3_2)] (by rfl) rfl rfl spec_IsSorts.a6 ?_
      with_reducible refine (spec_l1Has.calls k2 _ _ (l0_0.take (x3_2:Int).toNat) (rdOf ByteArray.empty l0_0 x3_2) true _ ?side1 ?side2 A16.out).mono ?_
      (case side1=>repeat (first | exact (Kd.C_below F4.out (hV HB)) | (with_reducible refine Kd.C_alloc ?_ _) | (with_reducible refine Kd.C_drewN ?_ _) | (with_reducible refine Kd.C_drew ?_)))
      (case side2=>exact F5.out)
      rintro e w' ⟨rfl,⟨nd,rfl⟩⟩
      refine ⟨_,rfl,?_⟩
      refine hK.out _ _ ⟨cz0 A0,cz1 A0,((HB.out.cell (World.block_lt_of_cell? w _ A8)).trans A8),((HB.out.cell (World.block_lt_of_cell? w _ B3)).trans B3)⟩ (fun hHeld=> ?_)
      clear hK K
      refine norm_ (a':=?_) ?_ ?_
      rotate_left
      ·show Act.put _ (some 48) _=_
       simp only [Act.put,List.setIfInBounds_toArray,List.set_cons_zero,List.set_cons_succ,i64_w,i32_w]
       rfl
      refine pureS 18 49 HT_ rfl rfl ?_
      refine done_ (done_of HT_.out spec_IsSorts.a7) ?_
      try go_wp2
      go_ret
      exact ⟨spec_IsSorts.a3,hV HB⟩
     ·replace c17:=Bool.eq_false_iff.mpr c17
      subst c17
      rw [if_neg (show ¬ (false=true) by decide)] at H
      have H':=Aside0.mk H
      clear H
      obtain ⟨I4,I5,I6,I7⟩:=cf2 A0
      try go_wp2
      replace A0:=Aside0.mk (blk_drew A0.out)
      replace HB:=Aside0.mk (below_drew1 HB.out)
      have C9:0≤(x3_2:Int):=dT
      have D0:x3_2 < (l0_0.length:Int):=dT
      obtain ⟨B9,e132,A9⟩:=Kd.at_string D5.out x3_2 C9 D0
      have A8:=A9
      cases e132
      replace A9:=xc HB A9
      replace C9:=eq_true C9
      replace D0:=eq_true D0
      have D6:0≤(x3_2:Int):=dT
      have D7:x3_2 < (l0_0.length:Int):=dT
      obtain ⟨F3,e135,C0⟩:=Kd.at_string D5.out x3_2 D6 D7
      have B3:=C0
      obtain rfl:B9=F3:=(by injection e135)
      replace C0:=xc HB C0
      replace D6:=eq_true D6
      replace D7:=eq_true D7
      refine start_ (n:=19) (S:=fun w'=>w'.cell? ⟨B2,0,none⟩=some (.slice (some B9) l0_0.length c0_0)∧w'.cell? ⟨B2,1,none⟩=some (.slice A0_1 l0_1.length c0_1)∧w'.cell? (B9.add (x3_2).toNat)=some (.string (rdOf ByteArray.empty l0_0 x3_2))∧w'.cell? (B9.add (x3_2).toNat)=some (.string (rdOf ByteArray.empty l0_0 x3_2))) (ds:=[]) #[false,false,false,false,false,false,false,false,false,false,false,false,false,false,false,false,false,false,false] spec_IsSorts.a7 rfl rfl ⟨cz0 A0,cz1 A0,((HB.out.cell (World.block_lt_of_cell? w _ A8)).trans A8),((HB.out.cell (World.block_lt_of_cell? w _ B3)).trans B3)⟩ (fun hHeld=> ?_);refine with_tabW spec_IsSorts.tab6 spec_IsSorts.bits6 (fun HT_ HW_=> ?_)
      generalize wr.drew=w22 at A0 HB A9 C0 hHeld ⊢
      refine pureS 0 31 HT_ rfl rfl ?_
      refine pureS 2 33 HT_ rfl rfl ?_
      refine takeS 1 32 HT_ HW_ rfl rfl hHeld ?_ spec_IsSorts.a2
      refine pureS 3 34 HT_ rfl rfl ?_
      refine takeS 4 35 HT_ HW_ rfl rfl hHeld ?_ spec_IsSorts.a2
      refine one_ (i:=5) (N:=some 36) #[true,true,true,true,true,true,false,false,false,false,false,false,false,false,false,false,false,false,false] rfl rfl (one_of HT_.out spec_IsSorts.a7) (by decide) (fun K hK=> ?_)
      refine goes_ Try.func24 spec_IsSorts.a7 rfl #[.string (rdOf ByteArray.empty l0_0 x3_2)] (by rfl) rfl rfl spec_IsSorts.a1 ?_
      with_reducible refine (spec_IsName.calls k2 (rdOf ByteArray.empty l0_0 x3_2) true _ A12.out).mono ?_
      rintro e w' ⟨rfl,⟨nd,rfl⟩⟩
      refine ⟨_,rfl,?_⟩
      obtain ⟨i023,G2,_,hsz23,_⟩:=info_parts info9
      obtain ⟨hcut23,hA23,hC23⟩:=print_take_of (P:=Try.prog) Value.string (⟨#[]⟩:ByteArray) 22 9 .i64 Try.underlying22 G2 hsz23 (some B9) c0_0 l0_0 x3_2 (dT) (dT) F2.out
      have F4:=Aside0.mk (Kd.C_of_reads (h1:=fun _=>rfl) (hA23 _ (Kd.reads_of_C D5.out)))
      have F5:=Aside0.mk hC23
      clear hA23 hC23 G2 hsz23
      refine hK.out _ _ ⟨cz0 A0,cz1 A0,((HB.out.cell (World.block_lt_of_cell? w _ A8)).trans A8),((HB.out.cell (World.block_lt_of_cell? w _ B3)).trans B3)⟩ (fun hHeld=> ?_)
      clear hK K
      refine norm_ (a':=?_) ?_ ?_
      rotate_left
      ·show Act.put _ (some 36) _=_
       simp only [Act.put,List.setIfInBounds_toArray,List.set_cons_zero,List.set_cons_succ,i64_w,i32_w]
       rfl
      refine pureS 6 37 HT_ rfl rfl ?_
      refine pureS 7 38 HT_ rfl rfl ?_
      refine pureS 8 39 HT_ rfl rfl ?_
      refine pureS 10 41 HT_ rfl rfl ?_
      refine pureS 12 43 HT_ rfl rfl ?_
      refine pureS 14 45 HT_ rfl rfl ?_
      refine takeS 9 40 HT_ HW_ rfl rfl hHeld ?_ spec_IsSorts.a2
      refine pureS 11 42 HT_ rfl rfl ?_
      refine takeS 13 44 HT_ HW_ rfl rfl hHeld ?_ spec_IsSorts.a2
      refine pureS 15 46 HT_ rfl rfl ?_
      refine takeS 16 47 HT_ HW_ rfl rfl hHeld ?_ spec_IsSorts.a2
      refine one_ (i:=17) (N:=some 48) #[true,true,true,true,true,true,true,true,true,true,true,true,true,true,true,true,true,true,false] rfl rfl (one_of HT_.out spec_IsSorts.a7) (by decide) (fun K hK=> ?_)
      refine goes_ Try.func48 spec_IsSorts.a7 rfl #[.slice (some B9) (l0_0.take (x3_2:Int).toNat).length c0_0,.string (rdOf ByteArray.empty l0_0 x3_2)] (by rfl) rfl rfl spec_IsSorts.a6 ?_
      with_reducible refine (spec_l1Has.calls k2 _ _ (l0_0.take (x3_2:Int).toNat) (rdOf ByteArray.empty l0_0 x3_2) false _ ?side1 ?side2 A16.out).mono ?_
      (case side1=>repeat (first | exact (Kd.C_below F4.out (hV HB)) | (with_reducible refine Kd.C_alloc ?_ _) | (with_reducible refine Kd.C_drewN ?_ _) | (with_reducible refine Kd.C_drew ?_)))
      (case side2=>exact F5.out)
      rintro e w' ⟨rfl,⟨nd,rfl⟩⟩
      refine ⟨_,rfl,?_⟩
      refine hK.out _ _ ⟨cz0 A0,cz1 A0,((HB.out.cell (World.block_lt_of_cell? w _ A8)).trans A8),((HB.out.cell (World.block_lt_of_cell? w _ B3)).trans B3)⟩ (fun hHeld=> ?_)
      clear hK K
      refine norm_ (a':=?_) ?_ ?_
      rotate_left
      ·show Act.put _ (some 48) _=_
       simp only [Act.put,List.setIfInBounds_toArray,List.set_cons_zero,List.set_cons_succ,i64_w,i32_w]
       rfl
      refine pureS 18 49 HT_ rfl rfl ?_
      refine done_ (done_of HT_.out spec_IsSorts.a7) ?_
      try go_wp2
      go_roundg k2
      case measure=>have:=HJ1.out;have:=HK2.out;omega
      case rel=>exact ⟨(wrap64 (x3_2 + 1)),spec_IsSorts.a4,H',⟨by have:=HJ1.out;have:=HK2.out;omega⟩,⟨vB A0⟩,⟨hV HB⟩⟩
    ·replace c13:=Bool.eq_false_iff.mpr c13
     subst c13
     rw [if_neg (show ¬ (false=true) by decide)] at H
     obtain rfl:=Option.some.inj H
     obtain ⟨I8,I9,J0,J1⟩:=cf2 A0
     try go_wp2
     replace A0:=Aside0.mk (blk_drew A0.out)
     replace HB:=Aside0.mk (below_drew1 HB.out)
     have C9:0≤(x3_2:Int):=dT
     have D0:x3_2 < (l0_0.length:Int):=dT
     obtain ⟨B9,e132,A9⟩:=Kd.at_string D5.out x3_2 C9 D0
     have A8:=A9
     cases e132
     replace A9:=xc HB A9
     replace C9:=eq_true C9
     replace D0:=eq_true D0
     refine start_ (n:=19) (S:=fun w'=>w'.cell? ⟨B2,0,none⟩=some (.slice (some B9) l0_0.length c0_0)∧w'.cell? ⟨B2,1,none⟩=some (.slice A0_1 l0_1.length c0_1)∧w'.cell? (B9.add (x3_2).toNat)=some (.string (rdOf ByteArray.empty l0_0 x3_2))) (ds:=[]) #[false,false,false,false,false,false,false,false,false,false,false,false,false,false,false,false,false,false,false] spec_IsSorts.a7 rfl rfl ⟨cz0 A0,cz1 A0,((HB.out.cell (World.block_lt_of_cell? w _ A8)).trans A8)⟩ (fun hHeld=> ?_);refine with_tabW spec_IsSorts.tab6 spec_IsSorts.bits6 (fun HT_ HW_=> ?_)
     generalize wr.drew=w25 at A0 HB A9 hHeld ⊢
     refine pureS 0 31 HT_ rfl rfl ?_
     refine pureS 2 33 HT_ rfl rfl ?_
     refine takeS 1 32 HT_ HW_ rfl rfl hHeld ?_ (by rintro w' ⟨s0,s1,s2⟩;go_simp;with_reducible rfl)
     refine pureS 3 34 HT_ rfl rfl ?_
     refine takeS 4 35 HT_ HW_ rfl rfl hHeld ?_ (by rintro w' ⟨s0,s1,s2⟩;go_simp;with_reducible rfl)
     refine one_ (i:=5) (N:=some 36) #[true,true,true,true,true,true,false,false,false,false,false,false,false,false,false,false,false,false,false] rfl rfl (one_of HT_.out spec_IsSorts.a7) (by decide) (fun K hK=> ?_)
     refine goes_ Try.func24 spec_IsSorts.a7 rfl #[.string (rdOf ByteArray.empty l0_0 x3_2)] (by rfl) rfl rfl spec_IsSorts.a1 ?_
     with_reducible refine (spec_IsName.calls k2 (rdOf ByteArray.empty l0_0 x3_2) false _ A12.out).mono ?_
     rintro e w' ⟨rfl,⟨nd,rfl⟩⟩
     refine ⟨_,rfl,?_⟩
     refine hK.out _ _ ⟨cz0 A0,cz1 A0,((HB.out.cell (World.block_lt_of_cell? w _ A8)).trans A8)⟩ (fun hHeld=> ?_)
     clear hK K
     refine norm_ (a':=?_) ?_ ?_
     rotate_left
     ·show Act.put _ (some 36) _=_
      simp only [Act.put,List.setIfInBounds_toArray,List.set_cons_zero,List.set_cons_succ,i64_w,i32_w]
      rfl
     refine pureS 6 37 HT_ rfl rfl ?_
     refine pureS 7 38 HT_ rfl rfl ?_
     refine undS 8 39 HT_ rfl rfl ?_
     refine undS 9 40 HT_ rfl rfl ?_
     refine undS 10 41 HT_ rfl rfl ?_
     refine undS 11 42 HT_ rfl rfl ?_
     refine undS 12 43 HT_ rfl rfl ?_
     refine undS 13 44 HT_ rfl rfl ?_
     refine undS 14 45 HT_ rfl rfl ?_
     refine undS 15 46 HT_ rfl rfl ?_
     refine undS 16 47 HT_ rfl rfl ?_
     refine undS 17 48 HT_ rfl rfl ?_
     refine pureS 18 49 HT_ rfl rfl ?_
     refine done_ (done_of HT_.out spec_IsSorts.a7) ?_
     try go_wp2
     go_ret
     exact ⟨spec_IsSorts.a3,hV HB⟩
   ·rw [if_neg c10] at H
    have G0:=decide_eq_false c10
    clear c10
    have H':=Aside0.mk H
    clear H
    obtain ⟨G4,G5,G6,G7⟩:=cf2 A0
    go_wp2
    go_loopg [4] k2 (fun kq v4 w'=> ∃ (x4_3:Int),v4=.int .i64 x4_3∧Aside0 (spec_IsSorts.l1 kq x4_3 l0_0 l0_1=some r)∧Aside0 (kq≤k2)∧Aside0 (w'.heap[B2]? = some (.cells #[(.slice A0_0 l0_0.length c0_0),(.slice A0_1 l0_1.length c0_1)] 33 (0,0)))∧Aside0 (Below w.heap.size w w'))
    case atStart=>exact ⟨(0),spec_IsSorts.a4,H',⟨Nat.le_refl _⟩,⟨vB A0⟩,⟨hV HB⟩⟩
    clear H'
    try clear c10
    try clear G0
    try clear G4
    try clear G6
    try clear G5
    try clear G7
    obtain ⟨x4_3,rfl,HA,HK3,A0,HB⟩:=hrel
    cases gk with
    | zero=>exact absurd HA.out (by simp [spec_IsSorts.l1])
    | succ k3=>
     have H:=HA.out
     clear HA
     simp only [spec_IsSorts.l1] at H
     by_cases c27:x4_3 < (l0_1.length:Int)
     ·rw [if_pos c27] at H
      have F6:=decide_eq_true c27
      clear c27
      by_cases c28:0≤x4_3
      rotate_left
      ·rw [if_neg c28] at H
       exact absurd H (by simp)
      rw [if_pos c28] at H
      have M6:=decide_eq_true c28
      clear c28
      replace H:=Option.bind_eq_some_iff.mp H
      obtain ⟨t138,A290,H⟩:=H
      replace H:(if t138=true then ((spec_l1In.f ((rd_T89 l0_1 x4_3).f1) 0 (wrap64 ((l0_0.length:Int) - 1))).bind fun t140=>(if t140=true then (if ((rd_T89 l0_1 x4_3).f0)=((rd_T89 l0_1 x4_3).f1) then (some false) else (spec_IsSorts.l1 k3 (wrap64 (x4_3 + 1)) l0_0 l0_1)) else (some false))) else (some false))=some r:=H
      have A29:=Aside0.mk A290
      clear A290
      by_cases c30:t138=true
      ·subst c30
       rw [if_pos rfl] at H
       replace H:=Option.bind_eq_some_iff.mp H
       obtain ⟨t140,A310,H⟩:=H
       replace H:(if t140=true then (if ((rd_T89 l0_1 x4_3).f0)=((rd_T89 l0_1 x4_3).f1) then (some false) else (spec_IsSorts.l1 k3 (wrap64 (x4_3 + 1)) l0_0 l0_1)) else (some false))=some r:=H
       have A31:=Aside0.mk A310
       clear A310
       by_cases c32:t140=true
       ·subst c32
        rw [if_pos rfl] at H
        by_cases c33:((rd_T89 l0_1 x4_3).f0)=((rd_T89 l0_1 x4_3).f1)
        ·rw [if_pos c33] at H
         have H1:(((rd_T89 l0_1 x4_3).f0) == ((rd_T89 l0_1 x4_3).f1))=true:=beq_iff_eq.mpr c33
         have H2:(((rd_T89 l0_1 x4_3).f0) != ((rd_T89 l0_1 x4_3).f1))=false:=bne_eq_false_iff_eq.mpr c33
         clear c33
         obtain rfl:=Option.some.inj H
         obtain ⟨J2,J3,J4,J5⟩:=cf2 A0
         try go_wp2
         replace A0:=Aside0.mk (blk_drew A0.out)
         replace HB:=Aside0.mk (below_drew1 HB.out)
         have C6:0≤(x4_3:Int):=dT
         have C7:x4_3 < (l0_1.length:Int):=dT
         obtain ⟨A1,e137,A6,A7⟩:=at_T89 C5.out x4_3 C6 C7
         have A2:=A7
         have A3:=A6
         cases e137
         replace A6:=xc HB A6
         replace A7:=xc HB A7
         replace C6:=eq_true C6
         replace C7:=eq_true C7
         have D1:0≤(x4_3:Int):=dT
         have D2:x4_3 < (l0_1.length:Int):=dT
         obtain ⟨E4,e139,B0,B1⟩:=at_T89 C5.out x4_3 D1 D2
         have A4:=B1
         have A5:=B0
         obtain rfl:A1=E4:=(by injection e139)
         replace B0:=xc HB B0
         replace B1:=xc HB B1
         replace D1:=eq_true D1
         replace D2:=eq_true D2
         have D8:0≤(x4_3:Int):=dT
         have D9:x4_3 < (l0_1.length:Int):=dT
         obtain ⟨F7,e141,C1,C2⟩:=at_T89 C5.out x4_3 D8 D9
         have B4:=C2
         have B5:=C1
         obtain rfl:A1=F7:=(by injection e141)
         replace C1:=xc HB C1
         replace C2:=xc HB C2
         replace D8:=eq_true D8
         replace D9:=eq_true D9
         have E0:0≤(x4_3:Int):=dT
         have E1:x4_3 < (l0_1.length:Int):=dT
         obtain ⟨F8,e142,C3,C4⟩:=at_T89 C5.out x4_3 E0 E1
         have B7:=C4
         have B8:=C3
         obtain rfl:A1=F8:=(by injection e142)
         replace C3:=xc HB C3
         replace C4:=xc HB C4
         replace E0:=eq_true E0
         replace E1:=eq_true E1
         refine start_ (n:=41) (S:=fun w'=>w'.cell? ⟨B2,0,none⟩=some (.slice A0_0 l0_0.length c0_0)∧w'.cell? ⟨B2,1,none⟩=some (.slice (some A1) l0_1.length c0_1)∧w'.cell? (A1.add ((x4_3).toNat * 2))=some (.int .i64 ((rd_T89 l0_1 x4_3).f0))∧w'.cell? ⟨(A1.add ((x4_3).toNat * 2)).block,(A1.add ((x4_3).toNat * 2)).off + 1,none⟩=some (.int .i64 ((rd_T89 l0_1 x4_3).f1))∧w'.cell? (A1.add ((x4_3).toNat * 2))=some (.int .i64 ((rd_T89 l0_1 x4_3).f0))∧w'.cell? ⟨(A1.add ((x4_3).toNat * 2)).block,(A1.add ((x4_3).toNat * 2)).off + 1,none⟩=some (.int .i64 ((rd_T89 l0_1 x4_3).f1))∧w'.cell? (A1.add ((x4_3).toNat * 2))=some (.int .i64 ((rd_T89 l0_1 x4_3).f0))∧w'.cell? ⟨(A1.add ((x4_3).toNat * 2)).block,(A1.add ((x4_3).toNat * 2)).off + 1,none⟩=some (.int .i64 ((rd_T89 l0_1 x4_3).f1))∧w'.cell? (A1.add ((x4_3).toNat * 2))=some (.int .i64 ((rd_T89 l0_1 x4_3).f0))∧w'.cell? ⟨(A1.add ((x4_3).toNat * 2)).block,(A1.add ((x4_3).toNat * 2)).off + 1,none⟩=some (.int .i64 ((rd_T89 l0_1 x4_3).f1))) (ds:=[]) #[false,false,false,false,false,false,false,false,false,false,false,false,false,false,false,false,false,false,false,false,false,false,false,false,false,false,false,false,false,false,false,false,false,false,false,false,false,false,false,false,false] spec_IsSorts.a7 rfl rfl ⟨cz0 A0,cz1 A0,((HB.out.cell (World.block_lt_of_cell? w _ A3)).trans A3),((HB.out.cell (World.block_lt_of_cell? w _ A2)).trans A2),((HB.out.cell (World.block_lt_of_cell? w _ A5)).trans A5),((HB.out.cell (World.block_lt_of_cell? w _ A4)).trans A4),((HB.out.cell (World.block_lt_of_cell? w _ B5)).trans B5),((HB.out.cell (World.block_lt_of_cell? w _ B4)).trans B4),((HB.out.cell (World.block_lt_of_cell? w _ B8)).trans B8),((HB.out.cell (World.block_lt_of_cell? w _ B7)).trans B7)⟩ (fun hHeld=> ?_);refine with_tabW spec_IsSorts.tab11 spec_IsSorts.bits11 (fun HT_ HW_=> ?_)
         generalize wr.drew=w35 at A0 HB A6 A7 B0 B1 C1 C2 C3 C4 hHeld ⊢
         refine pureS 0 57 HT_ rfl rfl ?_
         refine pureS 2 59 HT_ rfl rfl ?_
         refine pureS 6 63 HT_ rfl rfl ?_
         refine takeS 1 58 HT_ HW_ rfl rfl hHeld ?_ spec_IsSorts.a0
         refine pureS 3 60 HT_ rfl rfl ?_
         refine pureS 4 61 HT_ rfl rfl ?_
         refine takeS 5 62 HT_ HW_ rfl rfl hHeld ?_ spec_IsSorts.a0
         refine takeS 7 64 HT_ HW_ rfl rfl hHeld ?_ spec_IsSorts.a0
         refine pureS 8 65 HT_ rfl rfl ?_
         refine pureS 9 66 HT_ rfl rfl ?_
         refine one_ (i:=10) (N:=some 67) #[true,true,true,true,true,true,true,true,true,true,true,false,false,false,false,false,false,false,false,false,false,false,false,false,false,false,false,false,false,false,false,false,false,false,false,false,false,false,false,false,false] rfl rfl (one_of HT_.out spec_IsSorts.a7) (by decide) (fun K hK=> ?_)
         refine goes_ Try.func35 spec_IsSorts.a7 rfl #[.int .i64 ((rd_T89 l0_1 x4_3).f0),.int .i64 0,.int .i64 (wrap64 ((l0_0.length:Int) - 1))] (by rfl) rfl rfl spec_IsSorts.a1 ?_
         with_reducible refine (spec_l1In.calls ((rd_T89 l0_1 x4_3).f0) 0 (wrap64 ((l0_0.length:Int) - 1)) true _ A29.out).mono ?_
         rintro e w' ⟨rfl,⟨nd,rfl⟩⟩
         refine ⟨_,rfl,?_⟩
         refine hK.out _ _ ⟨cz0 A0,cz1 A0,((HB.out.cell (World.block_lt_of_cell? w _ A3)).trans A3),((HB.out.cell (World.block_lt_of_cell? w _ A2)).trans A2),((HB.out.cell (World.block_lt_of_cell? w _ A5)).trans A5),((HB.out.cell (World.block_lt_of_cell? w _ A4)).trans A4),((HB.out.cell (World.block_lt_of_cell? w _ B5)).trans B5),((HB.out.cell (World.block_lt_of_cell? w _ B4)).trans B4),((HB.out.cell (World.block_lt_of_cell? w _ B8)).trans B8),((HB.out.cell (World.block_lt_of_cell? w _ B7)).trans B7)⟩ (fun hHeld=> ?_)
         clear hK K
         refine norm_ (a':=?_) ?_ ?_
         rotate_left
         ·show Act.put _ (some 67) _=_
          simp only [Act.put,List.setIfInBounds_toArray,List.set_cons_zero,List.set_cons_succ,i64_w,i32_w]
          rfl
         refine pureS 11 68 HT_ rfl rfl ?_
         refine pureS 12 69 HT_ rfl rfl ?_
         refine pureS 13 70 HT_ rfl rfl ?_
         refine pureS 15 72 HT_ rfl rfl ?_
         refine pureS 19 76 HT_ rfl rfl ?_
         refine takeS 14 71 HT_ HW_ rfl rfl hHeld ?_ spec_IsSorts.a0
         refine pureS 16 73 HT_ rfl rfl ?_
         refine pureS 17 74 HT_ rfl rfl ?_
         refine takeS 18 75 HT_ HW_ rfl rfl hHeld ?_ spec_IsSorts.a0
         refine takeS 20 77 HT_ HW_ rfl rfl hHeld ?_ spec_IsSorts.a0
         refine pureS 21 78 HT_ rfl rfl ?_
         refine pureS 22 79 HT_ rfl rfl ?_
         refine one_ (i:=23) (N:=some 80) #[true,true,true,true,true,true,true,true,true,true,true,true,true,true,true,true,true,true,true,true,true,true,true,true,false,false,false,false,false,false,false,false,false,false,false,false,false,false,false,false,false] rfl rfl (one_of HT_.out spec_IsSorts.a7) (by decide) (fun K hK=> ?_)
         refine goes_ Try.func35 spec_IsSorts.a7 rfl #[.int .i64 ((rd_T89 l0_1 x4_3).f1),.int .i64 0,.int .i64 (wrap64 ((l0_0.length:Int) - 1))] (by rfl) rfl rfl spec_IsSorts.a1 ?_
         with_reducible refine (spec_l1In.calls ((rd_T89 l0_1 x4_3).f1) 0 (wrap64 ((l0_0.length:Int) - 1)) true _ A31.out).mono ?_
         rintro e w' ⟨rfl,⟨nd,rfl⟩⟩
         refine ⟨_,rfl,?_⟩
         refine hK.out _ _ ⟨cz0 A0,cz1 A0,((HB.out.cell (World.block_lt_of_cell? w _ A3)).trans A3),((HB.out.cell (World.block_lt_of_cell? w _ A2)).trans A2),((HB.out.cell (World.block_lt_of_cell? w _ A5)).trans A5),((HB.out.cell (World.block_lt_of_cell? w _ A4)).trans A4),((HB.out.cell (World.block_lt_of_cell? w _ B5)).trans B5),((HB.out.cell (World.block_lt_of_cell? w _ B4)).trans B4),((HB.out.cell (World.block_lt_of_cell? w _ B8)).trans B8),((HB.out.cell (World.block_lt_of_cell? w _ B7)).trans B7)⟩ (fun hHeld=> ?_)
         clear hK K
         refine norm_ (a':=?_) ?_ ?_
         rotate_left
         ·show Act.put _ (some 80) _=_
          simp only [Act.put,List.setIfInBounds_toArray,List.set_cons_zero,List.set_cons_succ,i64_w,i32_w]
          rfl
         refine pureS 24 81 HT_ rfl rfl ?_
         refine pureS 25 82 HT_ rfl rfl ?_
         refine pureS 26 83 HT_ rfl rfl ?_
         refine pureS 27 84 HT_ rfl rfl ?_
         refine pureS 29 86 HT_ rfl rfl ?_
         refine pureS 33 90 HT_ rfl rfl ?_
         refine pureS 35 92 HT_ rfl rfl ?_
         refine takeS 28 85 HT_ HW_ rfl rfl hHeld ?_ spec_IsSorts.a0
         refine pureS 30 87 HT_ rfl rfl ?_
         refine pureS 31 88 HT_ rfl rfl ?_
         refine takeS 32 89 HT_ HW_ rfl rfl hHeld ?_ spec_IsSorts.a0
         refine takeS 34 91 HT_ HW_ rfl rfl hHeld ?_ spec_IsSorts.a0
         refine pureS 36 93 HT_ rfl rfl ?_
         refine pureS 37 94 HT_ rfl rfl ?_
         refine takeS 38 95 HT_ HW_ rfl rfl hHeld ?_ spec_IsSorts.a0
         refine pureS 39 96 HT_ rfl rfl ?_
         refine pureS 40 97 HT_ rfl rfl ?_
         refine done_ (done_of HT_.out spec_IsSorts.a7) ?_
         try go_wp2
         go_ret
         exact ⟨spec_IsSorts.a3,hV HB⟩
        ·rw [if_neg c33] at H
         have H1:(((rd_T89 l0_1 x4_3).f0) == ((rd_T89 l0_1 x4_3).f1))=false:=beq_eq_false_iff_ne.mpr c33
         have H2:(((rd_T89 l0_1 x4_3).f0) != ((rd_T89 l0_1 x4_3).f1))=true:=bne_iff_ne.mpr c33
         have H':=Aside0.mk H
         clear H
         obtain ⟨J6,J7,J8,J9⟩:=cf2 A0
         try go_wp2
         replace A0:=Aside0.mk (blk_drew A0.out)
         replace HB:=Aside0.mk (below_drew1 HB.out)
         have C6:0≤(x4_3:Int):=dT
         have C7:x4_3 < (l0_1.length:Int):=dT
         obtain ⟨A1,e137,A6,A7⟩:=at_T89 C5.out x4_3 C6 C7
         have A2:=A7
         have A3:=A6
         cases e137
         replace A6:=xc HB A6
         replace A7:=xc HB A7
         replace C6:=eq_true C6
         replace C7:=eq_true C7
         have D1:0≤(x4_3:Int):=dT
         have D2:x4_3 < (l0_1.length:Int):=dT
         obtain ⟨E4,e139,B0,B1⟩:=at_T89 C5.out x4_3 D1 D2
         have A4:=B1
         have A5:=B0
         obtain rfl:A1=E4:=(by injection e139)
         replace B0:=xc HB B0
         replace B1:=xc HB B1
         replace D1:=eq_true D1
         replace D2:=eq_true D2
         have D8:0≤(x4_3:Int):=dT
         have D9:x4_3 < (l0_1.length:Int):=dT
         obtain ⟨F7,e141,C1,C2⟩:=at_T89 C5.out x4_3 D8 D9
         have B4:=C2
         have B5:=C1
         obtain rfl:A1=F7:=(by injection e141)
         replace C1:=xc HB C1
         replace C2:=xc HB C2
         replace D8:=eq_true D8
         replace D9:=eq_true D9
         have E0:0≤(x4_3:Int):=dT
         have E1:x4_3 < (l0_1.length:Int):=dT
         obtain ⟨F8,e142,C3,C4⟩:=at_T89 C5.out x4_3 E0 E1
         have B7:=C4
         have B8:=C3
         obtain rfl:A1=F8:=(by injection e142)
         replace C3:=xc HB C3
         replace C4:=xc HB C4
         replace E0:=eq_true E0
         replace E1:=eq_true E1
         refine start_ (n:=41) (S:=fun w'=>w'.cell? ⟨B2,0,none⟩=some (.slice A0_0 l0_0.length c0_0)∧w'.cell? ⟨B2,1,none⟩=some (.slice (some A1) l0_1.length c0_1)∧w'.cell? (A1.add ((x4_3).toNat * 2))=some (.int .i64 ((rd_T89 l0_1 x4_3).f0))∧w'.cell? ⟨(A1.add ((x4_3).toNat * 2)).block,(A1.add ((x4_3).toNat * 2)).off + 1,none⟩=some (.int .i64 ((rd_T89 l0_1 x4_3).f1))∧w'.cell? (A1.add ((x4_3).toNat * 2))=some (.int .i64 ((rd_T89 l0_1 x4_3).f0))∧w'.cell? ⟨(A1.add ((x4_3).toNat * 2)).block,(A1.add ((x4_3).toNat * 2)).off + 1,none⟩=some (.int .i64 ((rd_T89 l0_1 x4_3).f1))∧w'.cell? (A1.add ((x4_3).toNat * 2))=some (.int .i64 ((rd_T89 l0_1 x4_3).f0))∧w'.cell? ⟨(A1.add ((x4_3).toNat * 2)).block,(A1.add ((x4_3).toNat * 2)).off + 1,none⟩=some (.int .i64 ((rd_T89 l0_1 x4_3).f1))∧w'.cell? (A1.add ((x4_3).toNat * 2))=some (.int .i64 ((rd_T89 l0_1 x4_3).f0))∧w'.cell? ⟨(A1.add ((x4_3).toNat * 2)).block,(A1.add ((x4_3).toNat * 2)).off + 1,none⟩=some (.int .i64 ((rd_T89 l0_1 x4_3).f1))) (ds:=[]) #[false,false,false,false,false,false,false,false,false,false,false,false,false,false,false,false,false,false,false,false,false,false,false,false,false,false,false,false,false,false,false,false,false,false,false,false,false,false,false,false,false] spec_IsSorts.a7 rfl rfl ⟨cz0 A0,cz1 A0,((HB.out.cell (World.block_lt_of_cell? w _ A3)).trans A3),((HB.out.cell (World.block_lt_of_cell? w _ A2)).trans A2),((HB.out.cell (World.block_lt_of_cell? w _ A5)).trans A5),((HB.out.cell (World.block_lt_of_cell? w _ A4)).trans A4),((HB.out.cell (World.block_lt_of_cell? w _ B5)).trans B5),((HB.out.cell (World.block_lt_of_cell? w _ B4)).trans B4),((HB.out.cell (World.block_lt_of_cell? w _ B8)).trans B8),((HB.out.cell (World.block_lt_of_cell? w _ B7)).trans B7)⟩ (fun hHeld=> ?_);refine with_tabW spec_IsSorts.tab11 spec_IsSorts.bits11 (fun HT_ HW_=> ?_)
         generalize wr.drew=w37 at A0 HB A6 A7 B0 B1 C1 C2 C3 C4 hHeld ⊢
         refine pureS 0 57 HT_ rfl rfl ?_
         refine pureS 2 59 HT_ rfl rfl ?_
         refine pureS 6 63 HT_ rfl rfl ?_
         refine takeS 1 58 HT_ HW_ rfl rfl hHeld ?_ spec_IsSorts.a0
         refine pureS 3 60 HT_ rfl rfl ?_
         refine pureS 4 61 HT_ rfl rfl ?_
         refine takeS 5 62 HT_ HW_ rfl rfl hHeld ?_ spec_IsSorts.a0
         refine takeS 7 64 HT_ HW_ rfl rfl hHeld ?_ spec_IsSorts.a0
         refine pureS 8 65 HT_ rfl rfl ?_
         refine pureS 9 66 HT_ rfl rfl ?_
         refine one_ (i:=10) (N:=some 67) #[true,true,true,true,true,true,true,true,true,true,true,false,false,false,false,false,false,false,false,false,false,false,false,false,false,false,false,false,false,false,false,false,false,false,false,false,false,false,false,false,false] rfl rfl (one_of HT_.out spec_IsSorts.a7) (by decide) (fun K hK=> ?_)
         refine goes_ Try.func35 spec_IsSorts.a7 rfl #[.int .i64 ((rd_T89 l0_1 x4_3).f0),.int .i64 0,.int .i64 (wrap64 ((l0_0.length:Int) - 1))] (by rfl) rfl rfl spec_IsSorts.a1 ?_
         with_reducible refine (spec_l1In.calls ((rd_T89 l0_1 x4_3).f0) 0 (wrap64 ((l0_0.length:Int) - 1)) true _ A29.out).mono ?_
         rintro e w' ⟨rfl,⟨nd,rfl⟩⟩
         refine ⟨_,rfl,?_⟩
         refine hK.out _ _ ⟨cz0 A0,cz1 A0,((HB.out.cell (World.block_lt_of_cell? w _ A3)).trans A3),((HB.out.cell (World.block_lt_of_cell? w _ A2)).trans A2),((HB.out.cell (World.block_lt_of_cell? w _ A5)).trans A5),((HB.out.cell (World.block_lt_of_cell? w _ A4)).trans A4),((HB.out.cell (World.block_lt_of_cell? w _ B5)).trans B5),((HB.out.cell (World.block_lt_of_cell? w _ B4)).trans B4),((HB.out.cell (World.block_lt_of_cell? w _ B8)).trans B8),((HB.out.cell (World.block_lt_of_cell? w _ B7)).trans B7)⟩ (fun hHeld=> ?_)
         clear hK K
         refine norm_ (a':=?_) ?_ ?_
         rotate_left
         ·show Act.put _ (some 67) _=_
          simp only [Act.put,List.setIfInBounds_toArray,List.set_cons_zero,List.set_cons_succ,i64_w,i32_w]
          rfl
         refine pureS 11 68 HT_ rfl rfl ?_
         refine pureS 12 69 HT_ rfl rfl ?_
         refine pureS 13 70 HT_ rfl rfl ?_
         refine pureS 15 72 HT_ rfl rfl ?_
         refine pureS 19 76 HT_ rfl rfl ?_
         refine takeS 14 71 HT_ HW_ rfl rfl hHeld ?_ spec_IsSorts.a0
         refine pureS 16 73 HT_ rfl rfl ?_
         refine pureS 17 74 HT_ rfl rfl ?_
         refine takeS 18 75 HT_ HW_ rfl rfl hHeld ?_ spec_IsSorts.a0
         refine takeS 20 77 HT_ HW_ rfl rfl hHeld ?_ spec_IsSorts.a0
         refine pureS 21 78 HT_ rfl rfl ?_
         refine pureS 22 79 HT_ rfl rfl ?_
         refine one_ (i:=23) (N:=some 80) #[true,true,true,true,true,true,true,true,true,true,true,true,true,true,true,true,true,true,true,true,true,true,true,true,false,false,false,false,false,false,false,false,false,false,false,false,false,false,false,false,false] rfl rfl (one_of HT_.out spec_IsSorts.a7) (by decide) (fun K hK=> ?_)
         refine goes_ Try.func35 spec_IsSorts.a7 rfl #[.int .i64 ((rd_T89 l0_1 x4_3).f1),.int .i64 0,.int .i64 (wrap64 ((l0_0.length:Int) - 1))] (by rfl) rfl rfl spec_IsSorts.a1 ?_
         with_reducible refine (spec_l1In.calls ((rd_T89 l0_1 x4_3).f1) 0 (wrap64 ((l0_0.length:Int) - 1)) true _ A31.out).mono ?_
         rintro e w' ⟨rfl,⟨nd,rfl⟩⟩
         refine ⟨_,rfl,?_⟩
         refine hK.out _ _ ⟨cz0 A0,cz1 A0,((HB.out.cell (World.block_lt_of_cell? w _ A3)).trans A3),((HB.out.cell (World.block_lt_of_cell? w _ A2)).trans A2),((HB.out.cell (World.block_lt_of_cell? w _ A5)).trans A5),((HB.out.cell (World.block_lt_of_cell? w _ A4)).trans A4),((HB.out.cell (World.block_lt_of_cell? w _ B5)).trans B5),((HB.out.cell (World.block_lt_of_cell? w _ B4)).trans B4),((HB.out.cell (World.block_lt_of_cell? w _ B8)).trans B8),((HB.out.cell (World.block_lt_of_cell? w _ B7)).trans B7)⟩ (fun hHeld=> ?_)
         clear hK K
         refine norm_ (a':=?_) ?_ ?_
         rotate_left
         ·show Act.put _ (some 80) _=_
          simp only [Act.put,List.setIfInBounds_toArray,List.set_cons_zero,List.set_cons_succ,i64_w,i32_w]
          rfl
         refine pureS 24 81 HT_ rfl rfl ?_
         refine pureS 25 82 HT_ rfl rfl ?_
         refine pureS 26 83 HT_ rfl rfl ?_
         refine pureS 27 84 HT_ rfl rfl ?_
         refine pureS 29 86 HT_ rfl rfl ?_
         refine pureS 33 90 HT_ rfl rfl ?_
         refine pureS 35 92 HT_ rfl rfl ?_
         refine takeS 28 85 HT_ HW_ rfl rfl hHeld ?_ spec_IsSorts.a0
         refine pureS 30 87 HT_ rfl rfl ?_
         refine pureS 31 88 HT_ rfl rfl ?_
         refine takeS 32 89 HT_ HW_ rfl rfl hHeld ?_ spec_IsSorts.a0
         refine takeS 34 91 HT_ HW_ rfl rfl hHeld ?_ spec_IsSorts.a0
         refine pureS 36 93 HT_ rfl rfl ?_
         refine pureS 37 94 HT_ rfl rfl ?_
         refine takeS 38 95 HT_ HW_ rfl rfl hHeld ?_ spec_IsSorts.a0
         refine pureS 39 96 HT_ rfl rfl ?_
         refine pureS 40 97 HT_ rfl rfl ?_
         refine done_ (done_of HT_.out spec_IsSorts.a7) ?_
         try go_wp2
         go_roundg k3
         case measure=>have:=HJ1.out;have:=HK2.out;have:=HK3.out;omega
         case rel=>exact ⟨(wrap64 (x4_3 + 1)),spec_IsSorts.a4,H',⟨by have:=HJ1.out;have:=HK2.out;have:=HK3.out;omega⟩,⟨vB A0⟩,⟨hV HB⟩⟩
       ·replace c32:=Bool.eq_false_iff.mpr c32
        subst c32
        rw [if_neg (show ¬ (false=true) by decide)] at H
        obtain rfl:=Option.some.inj H
        obtain ⟨K0,K1,K2,K3⟩:=cf2 A0
        try go_wp2
        replace A0:=Aside0.mk (blk_drew A0.out)
        replace HB:=Aside0.mk (below_drew1 HB.out)
        have C6:0≤(x4_3:Int):=dT
        have C7:x4_3 < (l0_1.length:Int):=dT
        obtain ⟨A1,e137,A6,A7⟩:=at_T89 C5.out x4_3 C6 C7
        have A2:=A7
        have A3:=A6
        cases e137
        replace A6:=xc HB A6
        replace A7:=xc HB A7
        replace C6:=eq_true C6
        replace C7:=eq_true C7
        have D1:0≤(x4_3:Int):=dT
        have D2:x4_3 < (l0_1.length:Int):=dT
        obtain ⟨E4,e139,B0,B1⟩:=at_T89 C5.out x4_3 D1 D2
        have A4:=B1
        have A5:=B0
        obtain rfl:A1=E4:=(by injection e139)
        replace B0:=xc HB B0
        replace B1:=xc HB B1
        replace D1:=eq_true D1
        replace D2:=eq_true D2
        refine start_ (n:=41) (S:=fun w'=>w'.cell? ⟨B2,0,none⟩=some (.slice A0_0 l0_0.length c0_0)∧w'.cell? ⟨B2,1,none⟩=some (.slice (some A1) l0_1.length c0_1)∧w'.cell? (A1.add ((x4_3).toNat * 2))=some (.int .i64 ((rd_T89 l0_1 x4_3).f0))∧w'.cell? ⟨(A1.add ((x4_3).toNat * 2)).block,(A1.add ((x4_3).toNat * 2)).off + 1,none⟩=some (.int .i64 ((rd_T89 l0_1 x4_3).f1))∧w'.cell? (A1.add ((x4_3).toNat * 2))=some (.int .i64 ((rd_T89 l0_1 x4_3).f0))∧w'.cell? ⟨(A1.add ((x4_3).toNat * 2)).block,(A1.add ((x4_3).toNat * 2)).off + 1,none⟩=some (.int .i64 ((rd_T89 l0_1 x4_3).f1))) (ds:=[]) #[false,false,false,false,false,false,false,false,false,false,false,false,false,false,false,false,false,false,false,false,false,false,false,false,false,false,false,false,false,false,false,false,false,false,false,false,false,false,false,false,false] spec_IsSorts.a7 rfl rfl ⟨cz0 A0,cz1 A0,((HB.out.cell (World.block_lt_of_cell? w _ A3)).trans A3),((HB.out.cell (World.block_lt_of_cell? w _ A2)).trans A2),((HB.out.cell (World.block_lt_of_cell? w _ A5)).trans A5),((HB.out.cell (World.block_lt_of_cell? w _ A4)).trans A4)⟩ (fun hHeld=> ?_);refine with_tabW spec_IsSorts.tab11 spec_IsSorts.bits11 (fun HT_ HW_=> ?_)
        generalize wr.drew=w39 at A0 HB A6 A7 B0 B1 hHeld ⊢
        refine pureS 0 57 HT_ rfl rfl ?_
        refine pureS 2 59 HT_ rfl rfl ?_
        refine pureS 6 63 HT_ rfl rfl ?_
        refine takeS 1 58 HT_ HW_ rfl rfl hHeld ?_ spec_IsSorts.a5
        refine pureS 3 60 HT_ rfl rfl ?_
        refine pureS 4 61 HT_ rfl rfl ?_
        refine takeS 5 62 HT_ HW_ rfl rfl hHeld ?_ spec_IsSorts.a5
        refine takeS 7 64 HT_ HW_ rfl rfl hHeld ?_ spec_IsSorts.a5
        refine pureS 8 65 HT_ rfl rfl ?_
        refine pureS 9 66 HT_ rfl rfl ?_
        refine one_ (i:=10) (N:=some 67) #[true,true,true,true,true,true,true,true,true,true,true,false,false,false,false,false,false,false,false,false,false,false,false,false,false,false,false,false,false,false,false,false,false,false,false,false,false,false,false,false,false] rfl rfl (one_of HT_.out spec_IsSorts.a7) (by decide) (fun K hK=> ?_)
        refine goes_ Try.func35 spec_IsSorts.a7 rfl #[.int .i64 ((rd_T89 l0_1 x4_3).f0),.int .i64 0,.int .i64 (wrap64 ((l0_0.length:Int) - 1))] (by rfl) rfl rfl spec_IsSorts.a1 ?_
        with_reducible refine (spec_l1In.calls ((rd_T89 l0_1 x4_3).f0) 0 (wrap64 ((l0_0.length:Int) - 1)) true _ A29.out).mono ?_
        rintro e w' ⟨rfl,⟨nd,rfl⟩⟩
        refine ⟨_,rfl,?_⟩
        refine hK.out _ _ ⟨cz0 A0,cz1 A0,((HB.out.cell (World.block_lt_of_cell? w _ A3)).trans A3),((HB.out.cell (World.block_lt_of_cell? w _ A2)).trans A2),((HB.out.cell (World.block_lt_of_cell? w _ A5)).trans A5),((HB.out.cell (World.block_lt_of_cell? w _ A4)).trans A4)⟩ (fun hHeld=> ?_)
        clear hK K
        refine norm_ (a':=?_) ?_ ?_
        rotate_left
        ·show Act.put _ (some 67) _=_
         simp only [Act.put,List.setIfInBounds_toArray,List.set_cons_zero,List.set_cons_succ,i64_w,i32_w]
         rfl
        refine pureS 11 68 HT_ rfl rfl ?_
        refine pureS 12 69 HT_ rfl rfl ?_
        refine pureS 13 70 HT_ rfl rfl ?_
        refine pureS 15 72 HT_ rfl rfl ?_
        refine pureS 19 76 HT_ rfl rfl ?_
        refine takeS 14 71 HT_ HW_ rfl rfl hHeld ?_ spec_IsSorts.a5
        refine pureS 16 73 HT_ rfl rfl ?_
        refine pureS 17 74 HT_ rfl rfl ?_
        refine takeS 18 75 HT_ HW_ rfl rfl hHeld ?_ spec_IsSorts.a5
        refine takeS 20 77 HT_ HW_ rfl rfl hHeld ?_ spec_IsSorts.a5
        refine pureS 21 78 HT_ rfl rfl ?_
        refine pureS 22 79 HT_ rfl rfl ?_
        refine one_ (i:=23) (N:=some 80) #[true,true,true,true,true,true,true,true,true,true,true,true,true,true,true,true,true,true,true,true,true,true,true,true,false,false,false,false,false,false,false,false,false,false,false,false,false,false,false,false,false] rfl rfl (one_of HT_.out spec_IsSorts.a7) (by decide) (fun K hK=> ?_)
        refine goes_ Try.func35 spec_IsSorts.a7 rfl #[.int .i64 ((rd_T89 l0_1 x4_3).f1),.int .i64 0,.int .i64 (wrap64 ((l0_0.length:Int) - 1))] (by rfl) rfl rfl spec_IsSorts.a1 ?_
        with_reducible refine (spec_l1In.calls ((rd_T89 l0_1 x4_3).f1) 0 (wrap64 ((l0_0.length:Int) - 1)) false _ A31.out).mono ?_
        rintro e w' ⟨rfl,⟨nd,rfl⟩⟩
        refine ⟨_,rfl,?_⟩
        refine hK.out _ _ ⟨cz0 A0,cz1 A0,((HB.out.cell (World.block_lt_of_cell? w _ A3)).trans A3),((HB.out.cell (World.block_lt_of_cell? w _ A2)).trans A2),((HB.out.cell (World.block_lt_of_cell? w _ A5)).trans A5),((HB.out.cell (World.block_lt_of_cell? w _ A4)).trans A4)⟩ (fun hHeld=> ?_)
        clear hK K
        refine norm_ (a':=?_) ?_ ?_
        rotate_left
        ·show Act.put _ (some 80) _=_
         simp only [Act.put,List.setIfInBounds_toArray,List.set_cons_zero,List.set_cons_succ,i64_w,i32_w]
         rfl
        refine pureS 24 81 HT_ rfl rfl ?_
        refine pureS 25 82 HT_ rfl rfl ?_
        refine pureS 26 83 HT_ rfl rfl ?_
        refine undS 27 84 HT_ rfl rfl ?_
        refine undS 28 85 HT_ rfl rfl ?_
        refine undS 29 86 HT_ rfl rfl ?_
        refine undS 30 87 HT_ rfl rfl ?_
        refine undS 31 88 HT_ rfl rfl ?_
        refine undS 32 89 HT_ rfl rfl ?_
        refine undS 33 90 HT_ rfl rfl ?_
        refine undS 34 91 HT_ rfl rfl ?_
        refine undS 35 92 HT_ rfl rfl ?_
        refine undS 36 93 HT_ rfl rfl ?_
        refine undS 37 94 HT_ rfl rfl ?_
        refine undS 38 95 HT_ rfl rfl ?_
        refine undS 39 96 HT_ rfl rfl ?_
        refine pureS 40 97 HT_ rfl rfl ?_
        refine done_ (done_of HT_.out spec_IsSorts.a7) ?_
        try go_wp2
        go_ret
        exact ⟨spec_IsSorts.a3,hV HB⟩
      ·replace c30:=Bool.eq_false_iff.mpr c30
       subst c30
       rw [if_neg (show ¬ (false=true) by decide)] at H
       obtain rfl:=Option.some.inj H
       obtain ⟨K4,K5,K6,K7⟩:=cf2 A0
       try go_wp2
       replace A0:=Aside0.mk (blk_drew A0.out)
       replace HB:=Aside0.mk (below_drew1 HB.out)
       have C6:0≤(x4_3:Int):=dT
       have C7:x4_3 < (l0_1.length:Int):=dT
       obtain ⟨A1,e137,A6,A7⟩:=at_T89 C5.out x4_3 C6 C7
       have A2:=A7
       have A3:=A6
       cases e137
       replace A6:=xc HB A6
       replace A7:=xc HB A7
       replace C6:=eq_true C6
       replace C7:=eq_true C7
       refine start_ (n:=41) (S:=fun w'=>w'.cell? ⟨B2,0,none⟩=some (.slice A0_0 l0_0.length c0_0)∧w'.cell? ⟨B2,1,none⟩=some (.slice (some A1) l0_1.length c0_1)∧w'.cell? (A1.add ((x4_3).toNat * 2))=some (.int .i64 ((rd_T89 l0_1 x4_3).f0))∧w'.cell? ⟨(A1.add ((x4_3).toNat * 2)).block,(A1.add ((x4_3).toNat * 2)).off + 1,none⟩=some (.int .i64 ((rd_T89 l0_1 x4_3).f1))) (ds:=[]) #[false,false,false,false,false,false,false,false,false,false,false,false,false,false,false,false,false,false,false,false,false,false,false,false,false,false,false,false,false,false,false,false,false,false,false,false,false,false,false,false,false] spec_IsSorts.a7 rfl rfl ⟨cz0 A0,cz1 A0,((HB.out.cell (World.block_lt_of_cell? w _ A3)).trans A3),((HB.out.cell (World.block_lt_of_cell? w _ A2)).trans A2)⟩ (fun hHeld=> ?_);refine with_tabW spec_IsSorts.tab11 spec_IsSorts.bits11 (fun HT_ HW_=> ?_)
       generalize wr.drew=w41 at A0 HB A6 A7 hHeld ⊢
       refine pureS 0 57 HT_ rfl rfl ?_
       refine pureS 2 59 HT_ rfl rfl ?_
       refine pureS 6 63 HT_ rfl rfl ?_
       refine takeS 1 58 HT_ HW_ rfl rfl hHeld ?_ spec_IsSorts.a2
       refine pureS 3 60 HT_ rfl rfl ?_
       refine pureS 4 61 HT_ rfl rfl ?_
       refine takeS 5 62 HT_ HW_ rfl rfl hHeld ?_ spec_IsSorts.a2
       refine takeS 7 64 HT_ HW_ rfl rfl hHeld ?_ spec_IsSorts.a2
       refine pureS 8 65 HT_ rfl rfl ?_
       refine pureS 9 66 HT_ rfl rfl ?_
       refine one_ (i:=10) (N:=some 67) #[true,true,true,true,true,true,true,true,true,true,true,false,false,false,false,false,false,false,false,false,false,false,false,false,false,false,false,false,false,false,false,false,false,false,false,false,false,false,false,false,false] rfl rfl (one_of HT_.out spec_IsSorts.a7) (by decide) (fun K hK=> ?_)
       refine goes_ Try.func35 spec_IsSorts.a7 rfl #[.int .i64 ((rd_T89 l0_1 x4_3).f0),.int .i64 0,.int .i64 (wrap64 ((l0_0.length:Int) - 1))] (by rfl) rfl rfl spec_IsSorts.a1 ?_
       with_reducible refine (spec_l1In.calls ((rd_T89 l0_1 x4_3).f0) 0 (wrap64 ((l0_0.length:Int) - 1)) false _ A29.out).mono ?_
       rintro e w' ⟨rfl,⟨nd,rfl⟩⟩
       refine ⟨_,rfl,?_⟩
       refine hK.out _ _ ⟨cz0 A0,cz1 A0,((HB.out.cell (World.block_lt_of_cell? w _ A3)).trans A3),((HB.out.cell (World.block_lt_of_cell? w _ A2)).trans A2)⟩ (fun hHeld=> ?_)
       clear hK K
       refine norm_ (a':=?_) ?_ ?_
       rotate_left
       ·show Act.put _ (some 67) _=_
        simp only [Act.put,List.setIfInBounds_toArray,List.set_cons_zero,List.set_cons_succ,i64_w,i32_w]
        rfl
       refine pureS 11 68 HT_ rfl rfl ?_
       refine pureS 12 69 HT_ rfl rfl ?_
       refine undS 13 70 HT_ rfl rfl ?_
       refine undS 14 71 HT_ rfl rfl ?_
       refine undS 15 72 HT_ rfl rfl ?_
       refine undS 16 73 HT_ rfl rfl ?_
       refine undS 17 74 HT_ rfl rfl ?_
       refine undS 18 75 HT_ rfl rfl ?_
       refine undS 19 76 HT_ rfl rfl ?_
       refine undS 20 77 HT_ rfl rfl ?_
       refine undS 21 78 HT_ rfl rfl ?_
       refine undS 22 79 HT_ rfl rfl ?_
       refine undS 23 80 HT_ rfl rfl ?_
       refine undS 24 81 HT_ rfl rfl ?_
       refine pureS 25 82 HT_ rfl rfl ?_
       refine pureS 26 83 HT_ rfl rfl ?_
       refine undS 27 84 HT_ rfl rfl ?_
       refine undS 28 85 HT_ rfl rfl ?_
       refine undS 29 86 HT_ rfl rfl ?_
       refine undS 30 87 HT_ rfl rfl ?_
       refine undS 31 88 HT_ rfl rfl ?_
       refine undS 32 89 HT_ rfl rfl ?_
       refine undS 33 90 HT_ rfl rfl ?_
       refine undS 34 91 HT_ rfl rfl ?_
       refine undS 35 92 HT_ rfl rfl ?_
       refine undS 36 93 HT_ rfl rfl ?_
       refine undS 37 94 HT_ rfl rfl ?_
       refine undS 38 95 HT_ rfl rfl ?_
       refine undS 39 96 HT_ rfl rfl ?_
       refine pureS 40 97 HT_ rfl rfl ?_
       refine done_ (done_of HT_.out spec_IsSorts.a7) ?_
       try go_wp2
       go_ret
       exact ⟨spec_IsSorts.a3,hV HB⟩
     ·rw [if_neg c27] at H
      have F6:=decide_eq_false c27
      clear c27
      replace H:=Option.bind_eq_some_iff.mp H
      obtain ⟨t143,A420,H⟩:=H
      replace H:(spec_IsSorts.l2 k3 t143 0)=some r:=H
      have A42:=Aside0.mk A420
      clear A420
      have H':=Aside0.mk H
      clear H
      obtain ⟨E7,E8,E9,F0⟩:=cf2 A0
      go_wp2_with (first | (refine goK 49 (some 99) rfl Try.func49 #[.agg #[.slice A0_0 l0_0.length c0_0,.slice A0_1 l0_1.length c0_1]] ?_;(with_reducible refine (spec_l3Up.calls k3 _ _ l0_0 _ _ l0_1 t143 _ ?side1 ?side2 ?side3 ?side4 A42.out).mono ?_);(case side1=>exact cB D5 HB);(case side2=>exact F2.out);(case side3=>exact cB C5 HB);(case side4=>exact H0.out);rintro e w44 ⟨v144,rfl,ho0,hb⟩;refine ⟨_,rfl,?_⟩;have H3:=rL ho0 HB;replace A0:=bB A0 hb;replace HB:=hS HB hb;(try clear hb);(try clear hb2);(try clear hk);(try clear hi);(try clear ho0)))
      go_loopg [6] k3 (fun kq v6 w'=> ∃ (x6_4:Int),v6=.int .i64 x6_4∧Aside0 (spec_IsSorts.l2 kq t143 x6_4=some r)∧Aside0 (kq≤k3)∧Aside0 (Kd.R (Kd.int .i64) 3 w' w.heap.size (fun _=>True) v144 t143)∧Aside0 (w'.heap[B2]? = some (.cells #[(.slice A0_0 l0_0.length c0_0),(.slice A0_1 l0_1.length c0_1)] 33 (0,0)))∧Aside0 (Below w.heap.size w w'))
      case atStart=>exact ⟨(0),spec_IsSorts.a4,H',⟨Nat.le_refl _⟩,⟨rV H3⟩,⟨vB A0⟩,⟨hV HB⟩⟩
      clear H'
      try clear c27
      try clear F6
      try clear E7
      try clear E9
      try clear E8
      try clear F0
      obtain ⟨x6_4,rfl,HA,HK4,C8,A0,HB⟩:=hrel
      cases gk with
      | zero=>exact absurd HA.out (by simp [spec_IsSorts.l2])
      | succ k4=>
       have H:=HA.out
       clear HA
       simp only [spec_IsSorts.l2] at H
       by_cases c45:x6_4 < (t143.length:Int)
       rotate_left
       ·rw [if_neg c45] at H
        have G3:=decide_eq_false c45
        clear c45
        obtain rfl:=Option.some.inj H
        obtain ⟨N1,N2,eo56⟩:=Kd.R_slice C8.out
        subst eo56
        go_wp2
        go_ret
        exact ⟨spec_IsSorts.a3,hV HB⟩

       rw [if_pos c45] at H
       have G3:=decide_eq_true c45
       clear c45
       have H':=Aside0.mk H
       clear H
       obtain ⟨H8,H9,eo46⟩:=Kd.R_slice C8.out
       subst eo46
       go_wp2
       go_loopg [7] k4 (fun kq v7 w'=> ∃ (x7_5:Int),v7=.int .i64 x7_5∧Aside0 (spec_IsSorts.l3 kq t143 x6_4 x7_5=some r)∧Aside0 (kq≤k4)∧Aside0 (Kd.R (Kd.int .i64) 3 w' w.heap.size (fun _=>True) (.slice H8 t143.length H9) t143)∧Aside0 (w'.heap[B2]? = some (.cells #[(.slice A0_0 l0_0.length c0_0),(.slice A0_1 l0_1.length c0_1)] 33 (0,0)))∧Aside0 (Below w.heap.size w w'))
       case atStart=>exact ⟨(0),spec_IsSorts.a4,H',⟨Nat.le_refl _⟩,⟨rV C8⟩,⟨vB A0⟩,⟨hV HB⟩⟩
       clear H'
       try clear c27
       try clear F6
       try clear c45
       try clear G3
       try clear E7
       try clear E9
       try clear E8
       try clear F0
       obtain ⟨x7_5,rfl,HA,HK5,C8,A0,HB⟩:=hrel
       cases gk with
       | zero=>exact absurd HA.out (by simp [spec_IsSorts.l3])
       | succ k5=>
        have H:=HA.out
        clear HA
        simp only [spec_IsSorts.l3] at H
        by_cases c47:x7_5 < x6_4
        rotate_left
        ·rw [if_neg c47] at H
         have H4:=decide_eq_false c47
         clear c47
         have H':=Aside0.mk H
         clear H
         go_wp2
         go_roundg k5
         case measure=>have:=HJ1.out;have:=HK2.out;have:=HK3.out;have:=HK4.out;have:=HK5.out;omega
         case rel=>exact ⟨(wrap64 (x6_4 + 1)),spec_IsSorts.a4,H',⟨spec_IsSorts.a8⟩,⟨rV C8⟩,⟨vB A0⟩,⟨hV HB⟩⟩
        rw [if_pos c47] at H
        have H4:=decide_eq_true c47
        clear c47
        by_cases c48:0≤x6_4
        rotate_left
        ·rw [if_neg c48] at H
         exact absurd H (by simp)
        rw [if_pos c48] at H
        have M7:=decide_eq_true c48
        clear c48
        by_cases c49:x6_4 < (t143.length:Int)
        rotate_left
        ·rw [if_neg c49] at H
         exact absurd H (by simp)
        rw [if_pos c49] at H
        have M8:=decide_eq_true c49
        clear c49
        replace H:=Option.bind_eq_some_iff.mp H
        obtain ⟨t147,A500,H⟩:=H
        replace H:(if t147=true then (if 0≤x7_5 then (if x7_5 < (t143.length:Int) then ((spec_l2Has.f (rd t143 x7_5) x6_4).bind fun t149=>(if t149=true then (some false) else (spec_IsSorts.l3 k5 t143 x6_4 (wrap64 (x7_5 + 1))))) else (none)) else (none)) else (spec_IsSorts.l3 k5 t143 x6_4 (wrap64 (x7_5 + 1))))=some r:=H
        have A50:=Aside0.mk A500
        clear A500
        by_cases c51:t147=true
        ·subst c51
         rw [if_pos rfl] at H
         by_cases c52:0≤x7_5
         rotate_left
         ·rw [if_neg c52] at H
          exact absurd H (by simp)
         rw [if_pos c52] at H
         have M9:=decide_eq_true c52
         clear c52
         by_cases c53:x7_5 < (t143.length:Int)
         rotate_left
         ·rw [if_neg c53] at H
          exact absurd H (by simp)
         rw [if_pos c53] at H
         have N0:=decide_eq_true c53
         clear c53
         replace H:=Option.bind_eq_some_iff.mp H
         obtain ⟨t149,A540,H⟩:=H
         replace H:(if t149=true then (some false) else (spec_IsSorts.l3 k5 t143 x6_4 (wrap64 (x7_5 + 1))))=some r:=H
         have A54:=Aside0.mk A540
         clear A540
         by_cases c55:t149=true
         ·subst c55
          rw [if_pos rfl] at H
          obtain rfl:=Option.some.inj H
          have D3:0≤(x6_4:Int):=dT
          have D4:x6_4 < (t143.length:Int):=dT
          obtain ⟨E5,e146,F1⟩:=Kd.at_int (Kd.R_reads' C8.out).2.2 x6_4 D3 D4
          cases e146
          replace D3:=eq_true D3
          replace D4:=eq_true D4
          go_wp2_with (first | (refine goK 50 (some 116) rfl Try.func50 #[.int .i64 (rd t143 x6_4),.int .i64 x7_5] ?_;(with_reducible refine (spec_l2Has.calls (rd t143 x6_4) x7_5 true _ A50.out).mono ?_);rintro e w' ⟨rfl,⟨nd,rfl⟩⟩;refine ⟨_,rfl,?_⟩;have E2:0≤(x7_5:Int):=dT;have E3:x7_5 < (t143.length:Int):=dT;obtain ⟨F9,e148,G8⟩:=Kd.at_int (Kd.R_reads' C8.out).2.2 x7_5 E2 E3;obtain rfl:E5=F9:=(by injection e148);replace E2:=eq_true E2;replace E3:=eq_true E3) | (go_at_call 50;(with_reducible refine (spec_l2Has.calls (rd t143 x7_5) x6_4 true _ A54.out).mono ?_);rintro e w' ⟨rfl,⟨nd,rfl⟩⟩))
          go_ret
          exact ⟨spec_IsSorts.a3,hV HB⟩
         ·replace c55:=Bool.eq_false_iff.mpr c55
          subst c55
          rw [if_neg (show ¬ (false=true) by decide)] at H
          have H':=Aside0.mk H
          clear H
          have D3:0≤(x6_4:Int):=dT
          have D4:x6_4 < (t143.length:Int):=dT
          obtain ⟨E5,e146,F1⟩:=Kd.at_int (Kd.R_reads' C8.out).2.2 x6_4 D3 D4
          cases e146
          replace D3:=eq_true D3
          replace D4:=eq_true D4
          go_wp2_with (first | (refine goK 50 (some 116) rfl Try.func50 #[.int .i64 (rd t143 x6_4),.int .i64 x7_5] ?_;(with_reducible refine (spec_l2Has.calls (rd t143 x6_4) x7_5 true _ A50.out).mono ?_);rintro e w' ⟨rfl,⟨nd,rfl⟩⟩;refine ⟨_,rfl,?_⟩;have E2:0≤(x7_5:Int):=dT;have E3:x7_5 < (t143.length:Int):=dT;obtain ⟨F9,e148,G8⟩:=Kd.at_int (Kd.R_reads' C8.out).2.2 x7_5 E2 E3;obtain rfl:E5=F9:=(by injection e148);replace E2:=eq_true E2;replace E3:=eq_true E3) | (go_at_call 50;(with_reducible refine (spec_l2Has.calls (rd t143 x7_5) x6_4 false _ A54.out).mono ?_);rintro e w' ⟨rfl,⟨nd,rfl⟩⟩))
          go_roundg k5
          case measure=>have:=HJ1.out;have:=HK2.out;have:=HK3.out;have:=HK4.out;have:=HK5.out;omega
          case rel=>exact ⟨(wrap64 (x7_5 + 1)),spec_IsSorts.a4,H',⟨spec_IsSorts.a8⟩,⟨rV C8⟩,⟨vB A0⟩,⟨hV HB⟩⟩
        ·replace c51:=Bool.eq_false_iff.mpr c51
         subst c51
         rw [if_neg (show ¬ (false=true) by decide)] at H
         have H':=Aside0.mk H
         clear H
         have D3:0≤(x6_4:Int):=dT
         have D4:x6_4 < (t143.length:Int):=dT
         obtain ⟨E5,e146,F1⟩:=Kd.at_int (Kd.R_reads' C8.out).2.2 x6_4 D3 D4
         cases e146
         replace D3:=eq_true D3
         replace D4:=eq_true D4
         go_wp2_with (first | (refine goK 50 (some 116) rfl Try.func50 #[.int .i64 (rd t143 x6_4),.int .i64 x7_5] ?_;(with_reducible refine (spec_l2Has.calls (rd t143 x6_4) x7_5 false _ A50.out).mono ?_);rintro e w' ⟨rfl,⟨nd,rfl⟩⟩;refine ⟨_,rfl,?_⟩))
         go_roundg k5
         case measure=>have:=HJ1.out;have:=HK2.out;have:=HK3.out;have:=HK4.out;have:=HK5.out;omega
         case rel=>exact ⟨(wrap64 (x7_5 + 1)),spec_IsSorts.a4,H',⟨spec_IsSorts.a8⟩,⟨rV C8⟩,⟨vB A0⟩,⟨hV HB⟩⟩
end Go.Proofs.Ytpildjbakceicaa.Q

