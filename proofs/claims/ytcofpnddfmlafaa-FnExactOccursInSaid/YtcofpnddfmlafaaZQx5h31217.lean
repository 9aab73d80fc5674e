/- Functions of the program as plain Lean functions,and that the calls come to what they say. -/
import Derived.Test.YtcofpnddfmlafaaZQx0ha0a76
import Derived.Test.YtcofpnddfmlafaaZQx1h0e98e
import Derived.Test.YtcofpnddfmlafaaZQx3hdb5d2
import Derived.Test.YtcofpnddfmlafaaZShorthad1fd
namespace Go.Proofs.Ytcofpnddfmlafaa.Q
open Go.RowKit Go.Proofs.YtcofpnddfmlafaaW.PrintWords Go.Proofs.YtcofpnddfmlafaaW.PrintLast Go.Proofs.YtcofpnddfmlafaaW.PrintMore
attribute [local go_sem] max2_int min2_int max_two min_two max_three min_three max_four min_four   -- for this text's walks alone
set_option linter.unusedVariables false
set_option linter.unusedSimpArgs false

/-! ### spec_l5Same: function 44 -/
def spec_l5Same.f (k:Nat) (a0_0:Int) (a0_1:ByteArray) (a0_2:Int) (l0_3:List (S29)) (a1_0:Int) (a1_1:ByteArray) (a1_2:Int) (l1_3:List (S29)):Option (Bool):=(spec_CompareTerms.f k a0_0 a0_1 a0_2 l0_3 a1_0 a1_1 a1_2 l1_3).bind fun t199=>(some (t199 == 0))
set_option maxHeartbeats 8000000 in
set_option maxRecDepth 100000 in
theorem spec_l5Same.calls (k:Nat) (a0_0:Int) (a0_1:ByteArray) (a0_2:Int) (A0_3:Option Addr) (c0_3:Nat) (l0_3:List (S29)) (a1_0:Int) (a1_1:ByteArray) (a1_2:Int) (A1_3:Option Addr) (c1_3:Nat) (l1_3:List (S29)) (r:Bool) (w:World) (hr0_3:Kd.C k29 w A0_3 l0_3.length l0_3) (hc0_3:l0_3.length≤c0_3) (hr1_3:Kd.C k29 w A1_3 l1_3.length l1_3) (hc1_3:l1_3.length≤c1_3) (h:spec_l5Same.f k a0_0 a0_1 a0_2 l0_3 a1_0 a1_1 a1_2 l1_3=some r) :
  Calls Try.prog 44 #[.agg #[.int .i64 a0_0,.string a0_1,.int .i64 a0_2,.slice A0_3 l0_3.length c0_3],.agg #[.int .i64 a1_0,.string a1_1,.int .i64 a1_2,.slice A1_3 l1_3.length c1_3]] w fun e w'=>e=.returned (.bool r)∧Below w.heap.size w w':=by
 have hu29:=Try.underlying29
 have A5:=Aside0.mk hr0_3
 have A6:=Aside0.mk hc0_3
 clear hr0_3 hc0_3
 have A7:=Aside0.mk hr1_3
 have A8:=Aside0.mk hc1_3
 clear hr1_3 hc1_3
 have HB:=Aside0.mk (Below.refl w.heap.size w)
 have H:((spec_CompareTerms.f k a0_0 a0_1 a0_2 l0_3 a1_0 a1_1 a1_2 l1_3).bind fun t199=>(some (t199 == 0)))=some r:=h
 clear h
 replace H:=Option.bind_eq_some_iff.mp H
 obtain ⟨t199,A30,H⟩:=H
 replace H:(some (t199 == 0))=some r:=H
 have A3:=Aside0.mk A30
 clear A30
 obtain rfl:=Option.some.inj H
 go_enter Try.func44,Try.ntmps44
 go_wp2_with (first | (refine bx 2 rfl #[.int .i64 a0_0,.string a0_1,.int .i64 a0_2,.slice A0_3 l0_3.length c0_3] 29 ?_;intro C5 hg w4 hbox hb;have A0:=Aside0.mk (hbox);have C6:=hZ HB hg;have C7:=hZ HB hg;replace HB:=hS HB hb;clear hb hbox hg) | (refine bx 3 rfl #[.int .i64 a1_0,.string a1_1,.int .i64 a1_2,.slice A1_3 l1_3.length c1_3] 29 ?_;intro C8 hg w5 hbox hb;have A1:=Aside0.mk (hbox);have C9:=hZ HB hg;have D0:=hZ HB hg;replace HB:=hS HB hb;have A2:=nL A0 hg;have A4:=nG A0 hg;replace A0:=bB A0 hb;clear hb hbox hg;have D1:=A2.out;have D2:=A4.out;obtain ⟨A9,B0,B1,B2,B3,B4,B5,B6⟩:=cf4 A0;obtain ⟨B7,B8,B9,C0,C1,C2,C3,C4⟩:=cf4 A1) | (refine goK 12 (some 7) rfl Try.func12 #[.agg #[.int .i64 a0_0,.string a0_1,.int .i64 a0_2,.slice A0_3 l0_3.length c0_3],.agg #[.int .i64 a1_0,.string a1_1,.int .i64 a1_2,.slice A1_3 l1_3.length c1_3]] ?_;(with_reducible refine (spec_CompareTerms.calls k a0_0 a0_1 a0_2 _ _ l0_3 a1_0 a1_1 a1_2 _ _ l1_3 t199 _ ?side1 ?side2 ?side3 ?side4 A3.out).mono ?_);(case side1=>exact cB A5 HB);(case side2=>exact A6.out);(case side3=>exact cB A7 HB);(case side4=>exact A8.out);rintro e w9 ⟨rfl,hb⟩;refine ⟨_,rfl,?_⟩;replace A0:=bB A0 hb;replace A1:=bB A1 hb;replace HB:=hS HB hb;(try clear hb);(try clear hb2);(try clear hk);(try clear hi)))
 go_ret
 exact ⟨by first | rfl | (simp [errW_none,errW_some] <;> rfl) | (simp [*,errW_none,errW_some] <;> rfl),hV HB⟩

/-! ### spec_OccursIn: function 16 -/
theorem spec_OccursIn.a0 {P_:Prop} (h_:P_:=by rintro w' ⟨s0,s1,s2,s3,s4,s5,s6,s7,s8,s9,s10,s11⟩;go_simp;with_reducible rfl):P_:=h_
theorem spec_OccursIn.a1 {P_:Prop} (h_:P_:=by first | rfl | (simp [errW_none,errW_some] <;> rfl) | (simp [*,errW_none,errW_some] <;> rfl)):P_:=h_
mutual
def spec_OccursIn.l0:Nat→Int→Int→ByteArray→Int→List (S29)→Int→ByteArray→Int→List (S29)→Option (Bool)
 | 0,_,_,_,_,_,_,_,_,_=>none
 | k + 1,x5,x201000,x201001,x201002,x201003,x202000,x202001,x202002,x202003=>if x5 < (x202003.length:Int) then (if 0≤x5 then ((spec_OccursIn.f k x201000 x201001 x201002 x201003 ((rd_T29 x202003 x5).f0) ((rd_T29 x202003 x5).f1) ((rd_T29 x202003 x5).f2) ((rd_T29 x202003 x5).f3)).bind fun t204=>(if t204=true then (some true) else (spec_OccursIn.l0 k (wrap64 (x5 + 1)) x201000 x201001 x201002 x201003 x202000 x202001 x202002 x202003))) else (none)) else (some false)
def spec_OccursIn.f:Nat→Int→ByteArray→Int→List (S29)→Int→ByteArray→Int→List (S29)→Option (Bool)
 | 0,_,_,_,_,_,_,_,_=>none
 | k + 1,a0_0,a0_1,a0_2,l0_3,a1_0,a1_1,a1_2,l1_3=>(spec_l5Same.f k a0_0 a0_1 a0_2 l0_3 a1_0 a1_1 a1_2 l1_3).bind fun t202=>(if t202=true then (some true) else (spec_OccursIn.l0 k 0 a0_0 a0_1 a0_2 l0_3 a1_0 a1_1 a1_2 l1_3))
end
set_option maxHeartbeats 8000000 in
set_option maxRecDepth 100000 in
theorem spec_OccursIn.calls (k:Nat):∀ (a0_0:Int) (a0_1:ByteArray) (a0_2:Int) (A0_3:Option Addr) (c0_3:Nat) (l0_3:List (S29)) (a1_0:Int) (a1_1:ByteArray) (a1_2:Int) (A1_3:Option Addr) (c1_3:Nat) (l1_3:List (S29)) (r:Bool) (w:World) (hr0_3:Kd.C k29 w A0_3 l0_3.length l0_3) (hc0_3:l0_3.length≤c0_3) (hr1_3:Kd.C k29 w A1_3 l1_3.length l1_3) (hc1_3:l1_3.length≤c1_3) (h:spec_OccursIn.f k a0_0 a0_1 a0_2 l0_3 a1_0 a1_1 a1_2 l1_3=some r),
  Calls Try.prog 16 #[.agg #[.int .i64 a0_0,.string a0_1,.int .i64 a0_2,.slice A0_3 l0_3.length c0_3],.agg #[.int .i64 a1_0,.string a1_1,.int .i64 a1_2,.slice A1_3 l1_3.length c1_3]] w fun e w'=>e=.returned (.bool r)∧Below w.heap.size w w':=by
 induction k using Nat.strongRecOn with
 | _ k ih=>
 intro a0_0 a0_1 a0_2 A0_3 c0_3 l0_3 a1_0 a1_1 a1_2 A1_3 c1_3 l1_3 r w hr0_3 hc0_3 hr1_3 hc1_3 h
 cases k with
 | zero=>exact absurd h (by simp [spec_OccursIn.f])
 | succ k=>
 simp only [spec_OccursIn.f] at h
 have hu29:=Try.underlying29
 have C2:=Aside0.mk hr0_3
 have C3:=Aside0.mk hc0_3
 clear hr0_3 hc0_3
 have C4:=Aside0.mk hr1_3
 have C5:=Aside0.mk hc1_3
 clear hr1_3 hc1_3
 have HB:=Aside0.mk (Below.refl w.heap.size w)
 have H:((spec_l5Same.f k a0_0 a0_1 a0_2 l0_3 a1_0 a1_1 a1_2 l1_3).bind fun t202=>(if t202=true then (some true) else (spec_OccursIn.l0 k 0 a0_0 a0_1 a0_2 l0_3 a1_0 a1_1 a1_2 l1_3)))=some r:=h
 clear h
 replace H:=Option.bind_eq_some_iff.mp H
 obtain ⟨t202,A30,H⟩:=H
 replace H:(if t202=true then (some true) else (spec_OccursIn.l0 k 0 a0_0 a0_1 a0_2 l0_3 a1_0 a1_1 a1_2 l1_3))=some r:=H
 have A3:=Aside0.mk A30
 clear A30
 by_cases c4:t202=true
 ·subst c4
  rw [if_pos rfl] at H
  obtain rfl:=Option.some.inj H
  go_enter Try.func16,Try.ntmps16
  go_wp2_with (first | (refine bx 2 rfl #[.int .i64 a0_0,.string a0_1,.int .i64 a0_2,.slice A0_3 l0_3.length c0_3] 29 ?_;intro B4 hg w5 hbox hb;have A0:=Aside0.mk (hbox);have E2:=hZ HB hg;have E3:=hZ HB hg;replace HB:=hS HB hb;clear hb hbox hg) | (refine bx 3 rfl #[.int .i64 a1_0,.string a1_1,.int .i64 a1_2,.slice A1_3 l1_3.length c1_3] 29 ?_;intro B5 hg w6 hbox hb;have A1:=Aside0.mk (hbox);have E4:=hZ HB hg;have E5:=hZ HB hg;replace HB:=hS HB hb;have B2:=nL A0 hg;have B3:=nG A0 hg;replace A0:=bB A0 hb;clear hb hbox hg;have J6:=B2.out;have J7:=B3.out;obtain ⟨H1,H2,H3,H4,H5,H6,H7,H8⟩:=cf4 A0;obtain ⟨H9,I0,I1,I2,I3,I4,I5,I6⟩:=cf4 A1) | (refine goK 44 (some 8) rfl Try.func44 #[.agg #[.int .i64 a0_0,.string a0_1,.int .i64 a0_2,.slice A0_3 l0_3.length c0_3],.agg #[.int .i64 a1_0,.string a1_1,.int .i64 a1_2,.slice A1_3 l1_3.length c1_3]] ?_;(with_reducible refine (spec_l5Same.calls k a0_0 a0_1 a0_2 _ _ l0_3 a1_0 a1_1 a1_2 _ _ l1_3 true _ ?side1 ?side2 ?side3 ?side4 A3.out).mono ?_);(case side1=>exact cB C2 HB);(case side2=>exact C3.out);(case side3=>exact cB C4 HB);(case side4=>exact C5.out);rintro e w10 ⟨rfl,hb⟩;refine ⟨_,rfl,?_⟩;replace A0:=bB A0 hb;replace A1:=bB A1 hb;replace HB:=hS HB hb;(try clear hb);(try clear hb2);(try clear hk);(try clear hi)))
  go_ret
  exact ⟨spec_OccursIn.a1,hV HB⟩
 replace c4:=Bool.eq_false_iff.mpr c4
 subst c4
 rw [if_neg (show ¬ (false=true) by decide)] at H
 have H':=Aside0.mk H
 clear H
 go_enter Try.func16,Try.ntmps16
 go_wp2_with (first | (refine bx 2 rfl #[.int .i64 a0_0,.string a0_1,.int .i64 a0_2,.slice A0_3 l0_3.length c0_3] 29 ?_;intro B4 hg w11 hbox hb;have A0:=Aside0.mk (hbox);have E2:=hZ HB hg;have E3:=hZ HB hg;replace HB:=hS HB hb;clear hb hbox hg) | (refine bx 3 rfl #[.int .i64 a1_0,.string a1_1,.int .i64 a1_2,.slice A1_3 l1_3.length c1_3] 29 ?_;intro B5 hg w12 hbox hb;have A1:=Aside0.mk (hbox);have E4:=hZ HB hg;have E5:=hZ HB hg;replace HB:=hS HB hb;have B2:=nL A0 hg;have B3:=nG A0 hg;replace A0:=bB A0 hb;clear hb hbox hg;have I7:=B2.out;have I8:=B3.out;obtain ⟨C6,C7,C8,C9,D0,D1,D2,D3⟩:=cf4 A0;obtain ⟨D4,D5,D6,D7,D8,D9,E0,E1⟩:=cf4 A1) | (refine goK 44 (some 8) rfl Try.func44 #[.agg #[.int .i64 a0_0,.string a0_1,.int .i64 a0_2,.slice A0_3 l0_3.length c0_3],.agg #[.int .i64 a1_0,.string a1_1,.int .i64 a1_2,.slice A1_3 l1_3.length c1_3]] ?_;(with_reducible refine (spec_l5Same.calls k a0_0 a0_1 a0_2 _ _ l0_3 a1_0 a1_1 a1_2 _ _ l1_3 false _ ?side1 ?side2 ?side3 ?side4 A3.out).mono ?_);(case side1=>exact cB C2 HB);(case side2=>exact C3.out);(case side3=>exact cB C4 HB);(case side4=>exact C5.out);rintro e w16 ⟨rfl,hb⟩;refine ⟨_,rfl,?_⟩;replace A0:=bB A0 hb;replace A1:=bB A1 hb;replace HB:=hS HB hb;(try clear hb);(try clear hb2);(try clear hk);(try clear hi)))
 go_loopg [5] k (fun kq v5 w'=> ∃ (x5_1:Int),v5=.int .i64 x5_1∧Aside0 (spec_OccursIn.l0 kq x5_1 a0_0 a0_1 a0_2 l0_3 a1_0 a1_1 a1_2 l1_3=some r)∧Aside0 (kq≤k)∧Aside0 (w'.heap[B4]? = some (.cells #[.int .i64 a0_0,.string a0_1,.int .i64 a0_2,(.slice A0_3 l0_3.length c0_3)] 29 (0,0)))∧Aside0 (w'.heap[B5]? = some (.cells #[.int .i64 a1_0,.string a1_1,.int .i64 a1_2,(.slice A1_3 l1_3.length c1_3)] 29 (0,0)))∧Aside0 (Below w.heap.size w w'))
 case atStart=>exact ⟨(0),(by first | rfl | (simp;done) | (simp [*];done)),H',⟨Nat.le_refl _⟩,⟨vB A0⟩,⟨vB A1⟩,⟨hV HB⟩⟩
 clear H'
 try clear c4
 try clear C6
 try clear C8
 try clear D0
 try clear D2
 try clear D4
 try clear D6
 try clear D8
 try clear E0
 try clear C7
 try clear C9
 try clear D1
 try clear D3
 try clear D5
 try clear D7
 try clear D9
 try clear E1
 obtain ⟨x5_1,rfl,HA,HK1,A0,A1,HB⟩:=hrel
 cases gk with
 | zero=>exact absurd HA.out (by simp [spec_OccursIn.l0])
 | succ k1=>
  have H:=HA.out
  clear HA
  simp only [spec_OccursIn.l0] at H
  by_cases c17:x5_1 < (l1_3.length:Int)
  rotate_left
  ·rw [if_neg c17] at H
   have E6:=decide_eq_false c17
   clear c17
   obtain rfl:=Option.some.inj H
   have I9:=B3.out
   have J0:=B2.out
   obtain ⟨E7,E8,E9,F0,F1,F2,F3,F4⟩:=cf4 A1
   go_wp2
   go_ret
   exact ⟨spec_OccursIn.a1,hV HB⟩

  rw [if_pos c17] at H
  have E6:=decide_eq_true c17
  clear c17
  by_cases c18:0≤x5_1
  rotate_left
  ·rw [if_neg c18] at H
   exact absurd H (by simp)
  rw [if_pos c18] at H
  have J1:=decide_eq_true c18
  clear c18
  replace H:=Option.bind_eq_some_iff.mp H
  obtain ⟨t204,A190,H⟩:=H
  replace H:(if t204=true then (some true) else (spec_OccursIn.l0 k1 (wrap64 (x5_1 + 1)) a0_0 a0_1 a0_2 l0_3 a1_0 a1_1 a1_2 l1_3))=some r:=H
  have A19:=Aside0.mk A190
  clear A190
  by_cases c20:t204=true
  ·subst c20
   rw [if_pos rfl] at H
   obtain rfl:=Option.some.inj H
   have J2:=B3.out
   have J3:=B2.out
   obtain ⟨F5,F6,F7,F8,F9,G0,G1,G2⟩:=cf4 A1
   try go_wp2
   replace A0:=Aside0.mk (blk_drew A0.out)
   replace A1:=Aside0.mk (blk_drew A1.out)
   replace HB:=Aside0.mk (below_drew1 HB.out)
   have B9:0≤(x5_1:Int):=dT
   have C0:x5_1 < (l1_3.length:Int):=dT
   obtain ⟨A2,A203_3,c203_3,e203,A4,A5,A6,A7,B6,B7⟩:=at_T29 C4.out x5_1 B9 C0
   have A8:=A7
   have A9:=A6
   have B0:=A5
   have B1:=A4
   cases e203
   replace A4:=xc HB A4
   replace A5:=xc HB A5
   replace A6:=xc HB A6
   replace A7:=xc HB A7
   have B8:=Aside0.mk B7
   have C1:=Aside0.mk B6
   clear B7 B6
   replace B9:=eq_true B9
   replace C0:=eq_true C0
   refine start_ (n:=7) (S:=fun w'=>w'.cell? ⟨B4,0,none⟩=some (.int .i64 a0_0)∧w'.cell? ⟨B4,1,none⟩=some (.string a0_1)∧w'.cell? ⟨B4,2,none⟩=some (.int .i64 a0_2)∧w'.cell? ⟨B4,3,none⟩=some (.slice A0_3 l0_3.length c0_3)∧w'.cell? ⟨B5,0,none⟩=some (.int .i64 a1_0)∧w'.cell? ⟨B5,1,none⟩=some (.string a1_1)∧w'.cell? ⟨B5,2,none⟩=some (.int .i64 a1_2)∧w'.cell? ⟨B5,3,none⟩=some (.slice (some A2) l1_3.length c1_3)∧w'.cell? (A2.add ((x5_1).toNat * 4))=some (.int .i64 ((rd_T29 l1_3 x5_1).f0))∧w'.cell? ⟨(A2.add ((x5_1).toNat * 4)).block,(A2.add ((x5_1).toNat * 4)).off + 1,none⟩=some (.string ((rd_T29 l1_3 x5_1).f1))∧w'.cell? ⟨(A2.add ((x5_1).toNat * 4)).block,(A2.add ((x5_1).toNat * 4)).off + 2,none⟩=some (.int .i64 ((rd_T29 l1_3 x5_1).f2))∧w'.cell? ⟨(A2.add ((x5_1).toNat * 4)).block,(A2.add ((x5_1).toNat * 4)).off + 3,none⟩=some (.slice A203_3 ((rd_T29 l1_3 x5_1).f3).length c203_3)) (ds:=[]) #[false,false,false,false,false,false,false] (by kernel_rfl) rfl rfl ⟨cz0 A0,cz1 A0,cz2 A0,cz3 A0,cz0 A1,cz1 A1,cz2 A1,cz3 A1,((HB.out.cell (World.block_lt_of_cell? w _ B1)).trans B1),((HB.out.cell (World.block_lt_of_cell? w _ B0)).trans B0),((HB.out.cell (World.block_lt_of_cell? w _ A9)).trans A9),((HB.out.cell (World.block_lt_of_cell? w _ A8)).trans A8)⟩ (fun hHeld=> ?_)
   generalize wr.drew=w23 at A0 A1 HB B8 A4 A5 A6 A7 hHeld ⊢
   refine pureK 1 17 rfl rfl ?_
   refine pureK 3 19 rfl rfl ?_
   refine takeK 0 16 rfl rfl hHeld ?_ spec_OccursIn.a0
   refine takeK 2 18 rfl rfl hHeld ?_ spec_OccursIn.a0
   refine pureK 4 20 rfl rfl ?_
   refine takeK 5 21 rfl rfl hHeld ?_ spec_OccursIn.a0
   refine one_ (i:=6) (N:=some 22) #[true,true,true,true,true,true,true] rfl rfl (by kernel_rfl) (by decide) (fun K hK=> ?_)
   refine goes_ Try.func16 (by kernel_rfl) rfl #[.agg #[.int .i64 a0_0,.string a0_1,.int .i64 a0_2,.slice A0_3 l0_3.length c0_3],.agg #[.int .i64 ((rd_T29 l1_3 x5_1).f0),.string ((rd_T29 l1_3 x5_1).f1),.int .i64 ((rd_T29 l1_3 x5_1).f2),.slice A203_3 ((rd_T29 l1_3 x5_1).f3).length c203_3]] (by rfl) rfl rfl (by (try simp only [List.map_toArray,List.map_cons,List.map_nil]);first | done | rfl | (simp only [List.length_drop,List.length_take];rfl)) ?_
   with_reducible refine (ih k1 (by have:=HK1.out;omega) a0_0 a0_1 a0_2 _ _ l0_3 ((rd_T29 l1_3 x5_1).f0) ((rd_T29 l1_3 x5_1).f1) ((rd_T29 l1_3 x5_1).f2) _ _ ((rd_T29 l1_3 x5_1).f3) true _ ?side1 ?side2 ?side3 ?side4 A19.out).mono ?_
   (case side1=>exact cB C2 HB)
   (case side2=>exact C3.out)
   (case side3=>exact cB B8 HB)
   (case side4=>exact C1.out)
   rintro e w24 ⟨rfl,hb⟩
   refine ⟨_,rfl,?_⟩
   replace A0:=bB A0 hb
   replace A1:=bB A1 hb
   replace HB:=hS HB hb
   (try clear hb)
   (try clear hb2)
   (try clear hk)
   (try clear hi)
   refine hK.out _ _ ⟨cz0 A0,cz1 A0,cz2 A0,cz3 A0,cz0 A1,cz1 A1,cz2 A1,cz3 A1,((HB.out.cell (World.block_lt_of_cell? w _ B1)).trans B1),((HB.out.cell (World.block_lt_of_cell? w _ B0)).trans B0),((HB.out.cell (World.block_lt_of_cell? w _ A9)).trans A9),((HB.out.cell (World.block_lt_of_cell? w _ A8)).trans A8)⟩ (fun hHeld=> ?_)
   clear hK K
   refine norm_ (a':=?_) ?_ ?_
   rotate_left
   ·show Act.put _ (some 22) _=_
    simp only [Act.put,List.setIfInBounds_toArray,List.set_cons_zero,List.set_cons_succ,i64_w,i32_w]
    rfl
   refine done_ (by kernel_rfl) ?_
   try go_wp2
   go_ret
   exact ⟨spec_OccursIn.a1,hV HB⟩
  ·replace c20:=Bool.eq_false_iff.mpr c20
   subst c20
   rw [if_neg (show ¬ (false=true) by decide)] at H
   have H':=Aside0.mk H
   clear H
   have J4:=B3.out
   have J5:=B2.out
   obtain ⟨G3,G4,G5,G6,G7,G8,G9,H0⟩:=cf4 A1
   try go_wp2
   replace A0:=Aside0.mk (blk_drew A0.out)
   replace A1:=Aside0.mk (blk_drew A1.out)
   replace HB:=Aside0.mk (below_drew1 HB.out)
   have B9:0≤(x5_1:Int):=dT
   have C0:x5_1 < (l1_3.length:Int):=dT
   obtain ⟨A2,A203_3,c203_3,e203,A4,A5,A6,A7,B6,B7⟩:=at_T29 C4.out x5_1 B9 C0
   have A8:=A7
   have A9:=A6
   have B0:=A5
   have B1:=A4
   cases e203
   replace A4:=xc HB A4
   replace A5:=xc HB A5
   replace A6:=xc HB A6
   replace A7:=xc HB A7
   have B8:=Aside0.mk B7
   have C1:=Aside0.mk B6
   clear B7 B6
   replace B9:=eq_true B9
   replace C0:=eq_true C0
   refine start_ (n:=7) (S:=fun w'=>w'.cell? ⟨B4,0,none⟩=some (.int .i64 a0_0)∧w'.cell? ⟨B4,1,none⟩=some (.string a0_1)∧w'.cell? ⟨B4,2,none⟩=some (.int .i64 a0_2)∧w'.cell? ⟨B4,3,none⟩=some (.slice A0_3 l0_3.length c0_3)∧w'.cell? ⟨B5,0,none⟩=some (.int .i64 a1_0)∧w'.cell? ⟨B5,1,none⟩=some (.string a1_1)∧w'.cell? ⟨B5,2,none⟩=some (.int .i64 a1_2)∧w'.cell? ⟨B5,3,none⟩=some (.slice (some A2) l1_3.length c1_3)∧w'.cell? (A2.add ((x5_1).toNat * 4))=some (.int .i64 ((rd_T29 l1_3 x5_1).f0))∧w'.cell? ⟨(A2.add ((x5_1).toNat * 4)).block,(A2.add ((x5_1).toNat * 4)).off + 1,none⟩=some (.string ((rd_T29 l1_3 x5_1).f1))∧w'.cell? ⟨(A2.add ((x5_1).toNat * 4)).block,(A2.add ((x5_1).toNat * 4)).off + 2,none⟩=some (.int .i64 ((rd_T29 l1_3 x5_1).f2))∧w'.cell? ⟨(A2.add ((x5_1).toNat * 4)).block,(A2.add ((x5_1).toNat * 4)).off + 3,none⟩=some (.slice A203_3 ((rd_T29 l1_3 x5_1).f3).length c203_3)) (ds:=[]) #[false,false,false,false,false,false,false] (by kernel_rfl) rfl rfl ⟨cz0 A0,cz1 A0,cz2 A0,cz3 A0,cz0 A1,cz1 A1,cz2 A1,cz3 A1,((HB.out.cell (World.block_lt_of_cell? w _ B1)).trans B1),((HB.out.cell (World.block_lt_of_cell? w _ B0)).trans B0),((HB.out.cell (World.block_lt_of_cell? w _ A9)).trans A9),((HB.out.cell (World.block_lt_of_cell? w _ A8)).trans A8)⟩ (fun hHeld=> ?_)
   generalize wr.drew=w27 at A0 A1 HB B8 A4 A5 A6 A7 hHeld ⊢
   refine pureK 1 17 rfl rfl ?_
   refine pureK 3 19 rfl rfl ?_
   refine takeK 0 16 rfl rfl hHeld ?_ spec_OccursIn.a0
   refine takeK 2 18 rfl rfl hHeld ?_ spec_OccursIn.a0
   refine pureK 4 20 rfl rfl ?_
   refine takeK 5 21 rfl rfl hHeld ?_ spec_OccursIn.a0
   refine one_ (i:=6) (N:=some 22) #[true,true,true,true,true,true,true] rfl rfl (by kernel_rfl) (by decide) (fun K hK=> ?_)
   refine goes_ Try.func16 (by kernel_rfl) rfl #[.agg #[.int .i64 a0_0,.string a0_1,.int .i64 a0_2,.slice A0_3 l0_3.length c0_3],.agg #[.int .i64 ((rd_T29 l1_3 x5_1).f0),.string ((rd_T29 l1_3 x5_1).f1),.int .i64 ((rd_T29 l1_3 x5_1).f2),.slice A203_3 ((rd_T29 l1_3 x5_1).f3).length c203_3]] (by rfl) rfl rfl (by (try simp only [List.map_toArray,List.map_cons,List.map_nil]);first | done | rfl | (simp only [List.length_drop,List.length_take];rfl)) ?_
   with_reducible refine (ih k1 (by have:=HK1.out;omega) a0_0 a0_1 a0_2 _ _ l0_3 ((rd_T29 l1_3 x5_1).f0) ((rd_T29 l1_3 x5_1).f1) ((rd_T29 l1_3 x5_1).f2) _ _ ((rd_T29 l1_3 x5_1).f3) false _ ?side1 ?side2 ?side3 ?side4 A19.out).mono ?_
   (case side1=>exact cB C2 HB)
   (case side2=>exact C3.out)
   (case side3=>exact cB B8 HB)
   (case side4=>exact C1.out)
   rintro e w28 ⟨rfl,hb⟩
   refine ⟨_,rfl,?_⟩
   replace A0:=bB A0 hb
   replace A1:=bB A1 hb
   replace HB:=hS HB hb
   (try clear hb)
   (try clear hb2)
   (try clear hk)
   (try clear hi)
   refine hK.out _ _ ⟨cz0 A0,cz1 A0,cz2 A0,cz3 A0,cz0 A1,cz1 A1,cz2 A1,cz3 A1,((HB.out.cell (World.block_lt_of_cell? w _ B1)).trans B1),((HB.out.cell (World.block_lt_of_cell? w _ B0)).trans B0),((HB.out.cell (World.block_lt_of_cell? w _ A9)).trans A9),((HB.out.cell (World.block_lt_of_cell? w _ A8)).trans A8)⟩ (fun hHeld=> ?_)
   clear hK K
   refine norm_ (a':=?_) ?_ ?_
   rotate_left
   ·show Act.put _ (some 22) _=_
    simp only [Act.put,List.setIfInBounds_toArray,List.set_cons_zero,List.set_cons_succ,i64_w,i32_w]
    rfl
   refine done_ (by kernel_rfl) ?_
   try go_wp2
   go_roundg k1
   case measure=>have:=HK1.out;omega
   case rel=>exact ⟨(wrap64 (x5_1 + 1)),(by first | rfl | (simp;done) | (simp [*];done)),H',⟨by have:=HK1.out;omega⟩,⟨vB A0⟩,⟨vB A1⟩,⟨hV HB⟩⟩
/-! ### impl_sameTerm: function 45 -/
def impl_sameTerm.f (k:Nat) (a0_0:Int) (a0_1:ByteArray) (a0_2:Int) (l0_3:List (S29)) (a1_0:Int) (a1_1:ByteArray) (a1_2:Int) (l1_3:List (S29)):Option (Bool):=(impl_CompareTerms.f k a0_0 a0_1 a0_2 l0_3 a1_0 a1_1 a1_2 l1_3).bind fun t207=>(some (t207 == 0))
set_option maxHeartbeats 8000000 in
set_option maxRecDepth 100000 in
theorem impl_sameTerm.calls (k:Nat) (a0_0:Int) (a0_1:ByteArray) (a0_2:Int) (A0_3:Option Addr) (c0_3:Nat) (l0_3:List (S29)) (a1_0:Int) (a1_1:ByteArray) (a1_2:Int) (A1_3:Option Addr) (c1_3:Nat) (l1_3:List (S29)) (r:Bool) (w:World) (hr0_3:Kd.C k29 w A0_3 l0_3.length l0_3) (hc0_3:l0_3.length≤c0_3) (hr1_3:Kd.C k29 w A1_3 l1_3.length l1_3) (hc1_3:l1_3.length≤c1_3) (h:impl_sameTerm.f k a0_0 a0_1 a0_2 l0_3 a1_0 a1_1 a1_2 l1_3=some r) :
  Calls Try.prog 45 #[.agg #[.int .i64 a0_0,.string a0_1,.int .i64 a0_2,.slice A0_3 l0_3.length c0_3],.agg #[.int .i64 a1_0,.string a1_1,.int .i64 a1_2,.slice A1_3 l1_3.length c1_3]] w fun e w'=>e=.returned (.bool r)∧Below w.heap.size w w':=by
 have hu29:=Try.underlying29
 have A5:=Aside0.mk hr0_3
 have A6:=Aside0.mk hc0_3
 clear hr0_3 hc0_3
 have A7:=Aside0.mk hr1_3
 have A8:=Aside0.mk hc1_3
 clear hr1_3 hc1_3
 have HB:=Aside0.mk (Below.refl w.heap.size w)
 have H:((impl_CompareTerms.f k a0_0 a0_1 a0_2 l0_3 a1_0 a1_1 a1_2 l1_3).bind fun t207=>(some (t207 == 0)))=some r:=h
 clear h
 replace H:=Option.bind_eq_some_iff.mp H
 obtain ⟨t207,A30,H⟩:=H
 replace H:(some (t207 == 0))=some r:=H
 have A3:=Aside0.mk A30
 clear A30
 obtain rfl:=Option.some.inj H
 go_enter Try.func45,Try.ntmps45
 go_wp2_with (first | (refine bx 2 rfl #[.int .i64 a0_0,.string a0_1,.int .i64 a0_2,.slice A0_3 l0_3.length c0_3] 29 ?_;intro C5 hg w4 hbox hb;have A0:=Aside0.mk (hbox);have C6:=hZ HB hg;have C7:=hZ HB hg;replace HB:=hS HB hb;clear hb hbox hg) | (refine bx 3 rfl #[.int .i64 a1_0,.string a1_1,.int .i64 a1_2,.slice A1_3 l1_3.length c1_3] 29 ?_;intro C8 hg w5 hbox hb;have A1:=Aside0.mk (hbox);have C9:=hZ HB hg;have D0:=hZ HB hg;replace HB:=hS HB hb;have A2:=nL A0 hg;have A4:=nG A0 hg;replace A0:=bB A0 hb;clear hb hbox hg;have D1:=A2.out;have D2:=A4.out;obtain ⟨A9,B0,B1,B2,B3,B4,B5,B6⟩:=cf4 A0;obtain ⟨B7,B8,B9,C0,C1,C2,C3,C4⟩:=cf4 A1) | (refine goK 14 (some 7) rfl Try.func14 #[.agg #[.int .i64 a0_0,.string a0_1,.int .i64 a0_2,.slice A0_3 l0_3.length c0_3],.agg #[.int .i64 a1_0,.string a1_1,.int .i64 a1_2,.slice A1_3 l1_3.length c1_3]] ?_;(with_reducible refine (impl_CompareTerms.calls k a0_0 a0_1 a0_2 _ _ l0_3 a1_0 a1_1 a1_2 _ _ l1_3 t207 _ ?side1 ?side2 ?side3 ?side4 A3.out).mono ?_);(case side1=>exact cB A5 HB);(case side2=>exact A6.out);(case side3=>exact cB A7 HB);(case side4=>exact A8.out);rintro e w9 ⟨rfl,hb⟩;refine ⟨_,rfl,?_⟩;replace A0:=bB A0 hb;replace A1:=bB A1 hb;replace HB:=hS HB hb;(try clear hb);(try clear hb2);(try clear hk);(try clear hi)))
 go_ret
 exact ⟨by first | rfl | (simp [errW_none,errW_some] <;> rfl) | (simp [*,errW_none,errW_some] <;> rfl),hV HB⟩

/-! ### impl_OccursIn: function 17 -/
theorem impl_OccursIn.a0 {P_:Prop} (h_:P_:=by first | rfl | (simp [errW_none,errW_some] <;> rfl) | (simp [*,errW_none,errW_some] <;> rfl)):P_:=h_
mutual
def impl_OccursIn.l0:Nat→List (S29)→Int→Int→Int→ByteArray→Int→List (S29)→Option (Bool)
 | 0,_,_,_,_,_,_,_=>none
 | k + 1,x11,x12,x13,x209000,x209001,x209002,x209003=>if x13 < x12 then (if 0≤x13 then (if x13 < (x11.length:Int) then ((impl_OccursIn.f k x209000 x209001 x209002 x209003 ((rd_T29 x11 x13).f0) ((rd_T29 x11 x13).f1) ((rd_T29 x11 x13).f2) ((rd_T29 x11 x13).f3)).bind fun t213=>(if t213=true then (some true) else (impl_OccursIn.l0 k x11 x12 (wrap64 (x13 + 1)) x209000 x209001 x209002 x209003))) else (none)) else (none)) else (some false)
def impl_OccursIn.f:Nat→Int→ByteArray→Int→List (S29)→Int→ByteArray→Int→List (S29)→Option (Bool)
 | 0,_,_,_,_,_,_,_,_=>none
 | k + 1,a0_0,a0_1,a0_2,l0_3,a1_0,a1_1,a1_2,l1_3=>(impl_sameTerm.f k a0_0 a0_1 a0_2 l0_3 a1_0 a1_1 a1_2 l1_3).bind fun t210=>(if t210=true then (some true) else (impl_OccursIn.l0 k l1_3 (l1_3.length:Int) 0 a0_0 a0_1 a0_2 l0_3))
end
set_option maxHeartbeats 8000000 in
set_option maxRecDepth 100000 in
theorem impl_OccursIn.calls (k:Nat):∀ (a0_0:Int) (a0_1:ByteArray) (a0_2:Int) (A0_3:Option Addr) (c0_3:Nat) (l0_3:List (S29)) (a1_0:Int) (a1_1:ByteArray) (a1_2:Int) (A1_3:Option Addr) (c1_3:Nat) (l1_3:List (S29)) (r:Bool) (w:World) (hr0_3:Kd.C k29 w A0_3 l0_3.length l0_3) (hc0_3:l0_3.length≤c0_3) (hr1_3:Kd.C k29 w A1_3 l1_3.length l1_3) (hc1_3:l1_3.length≤c1_3) (h:impl_OccursIn.f k a0_0 a0_1 a0_2 l0_3 a1_0 a1_1 a1_2 l1_3=some r),
  Calls Try.prog 17 #[.agg #[.int .i64 a0_0,.string a0_1,.int .i64 a0_2,.slice A0_3 l0_3.length c0_3],.agg #[.int .i64 a1_0,.string a1_1,.int .i64 a1_2,.slice A1_3 l1_3.length c1_3]] w fun e w'=>e=.returned (.bool r)∧Below w.heap.size w w':=by
 induction k using Nat.strongRecOn with
 | _ k ih=>
 intro a0_0 a0_1 a0_2 A0_3 c0_3 l0_3 a1_0 a1_1 a1_2 A1_3 c1_3 l1_3 r w hr0_3 hc0_3 hr1_3 hc1_3 h
 cases k with
 | zero=>exact absurd h (by simp [impl_OccursIn.f])
 | succ k=>
 simp only [impl_OccursIn.f] at h
 have hu29:=Try.underlying29
 have C0:=Aside0.mk hr0_3
 have C1:=Aside0.mk hc0_3
 clear hr0_3 hc0_3
 have C2:=Aside0.mk hr1_3
 have C3:=Aside0.mk hc1_3
 clear hr1_3 hc1_3
 have HB:=Aside0.mk (Below.refl w.heap.size w)
 have H:((impl_sameTerm.f k a0_0 a0_1 a0_2 l0_3 a1_0 a1_1 a1_2 l1_3).bind fun t210=>(if t210=true then (some true) else (impl_OccursIn.l0 k l1_3 (l1_3.length:Int) 0 a0_0 a0_1 a0_2 l0_3)))=some r:=h
 clear h
 replace H:=Option.bind_eq_some_iff.mp H
 obtain ⟨t210,A30,H⟩:=H
 replace H:(if t210=true then (some true) else (impl_OccursIn.l0 k l1_3 (l1_3.length:Int) 0 a0_0 a0_1 a0_2 l0_3))=some r:=H
 have A3:=Aside0.mk A30
 clear A30
 by_cases c4:t210=true
 ·subst c4
  rw [if_pos rfl] at H
  obtain rfl:=Option.some.inj H
  go_enter Try.func17,Try.ntmps17
  go_wp2_with (first | (refine bx 2 rfl #[.int .i64 a0_0,.string a0_1,.int .i64 a0_2,.slice A0_3 l0_3.length c0_3] 29 ?_;intro C4 hg w5 hbox hb;have A0:=Aside0.mk (hbox);have F0:=hZ HB hg;have F1:=hZ HB hg;replace HB:=hS HB hb;clear hb hbox hg) | (refine bx 3 rfl #[.int .i64 a1_0,.string a1_1,.int .i64 a1_2,.slice A1_3 l1_3.length c1_3] 29 ?_;intro C5 hg w6 hbox hb;have A1:=Aside0.mk (hbox);have F2:=hZ HB hg;have F3:=hZ HB hg;replace HB:=hS HB hb;have A2:=nL A0 hg;have A4:=nG A0 hg;replace A0:=bB A0 hb;clear hb hbox hg;have M3:=A2.out;have M4:=A4.out;obtain ⟨J1,J2,J3,J4,J5,J6,J7,J8⟩:=cf4 A0;obtain ⟨J9,K0,K1,K2,K3,K4,K5,K6⟩:=cf4 A1) | (refine goK 45 (some 9) rfl Try.func45 #[.agg #[.int .i64 a0_0,.string a0_1,.int .i64 a0_2,.slice A0_3 l0_3.length c0_3],.agg #[.int .i64 a1_0,.string a1_1,.int .i64 a1_2,.slice A1_3 l1_3.length c1_3]] ?_;(with_reducible refine (impl_sameTerm.calls k a0_0 a0_1 a0_2 _ _ l0_3 a1_0 a1_1 a1_2 _ _ l1_3 true _ ?side1 ?side2 ?side3 ?side4 A3.out).mono ?_);(case side1=>exact cB C0 HB);(case side2=>exact C1.out);(case side3=>exact cB C2 HB);(case side4=>exact C3.out);rintro e w10 ⟨rfl,hb⟩;refine ⟨_,rfl,?_⟩;replace A0:=bB A0 hb;replace A1:=bB A1 hb;replace HB:=hS HB hb;(try clear hb);(try clear hb2);(try clear hk);(try clear hi)))
  go_ret
  exact ⟨impl_OccursIn.a0,hV HB⟩
 replace c4:=Bool.eq_false_iff.mpr c4
 subst c4
 rw [if_neg (show ¬ (false=true) by decide)] at H
 have H':=Aside0.mk H
 clear H
 go_enter Try.func17,Try.ntmps17
 go_wp2_with (first | (refine bx 2 rfl #[.int .i64 a0_0,.string a0_1,.int .i64 a0_2,.slice A0_3 l0_3.length c0_3] 29 ?_;intro C4 hg w11 hbox hb;have A0:=Aside0.mk (hbox);have F0:=hZ HB hg;have F1:=hZ HB hg;replace HB:=hS HB hb;clear hb hbox hg) | (refine bx 3 rfl #[.int .i64 a1_0,.string a1_1,.int .i64 a1_2,.slice A1_3 l1_3.length c1_3] 29 ?_;intro C5 hg w12 hbox hb;have A1:=Aside0.mk (hbox);have F2:=hZ HB hg;have F3:=hZ HB hg;replace HB:=hS HB hb;have A2:=nL A0 hg;have A4:=nG A0 hg;replace A0:=bB A0 hb;clear hb hbox hg;have K7:=A2.out;have K8:=A4.out;obtain ⟨C6,C7,C8,C9,D0,D1,D2,D3⟩:=cf4 A0;obtain ⟨D4,D5,D6,D7,D8,D9,E0,E1⟩:=cf4 A1) | (refine goK 45 (some 9) rfl Try.func45 #[.agg #[.int .i64 a0_0,.string a0_1,.int .i64 a0_2,.slice A0_3 l0_3.length c0_3],.agg #[.int .i64 a1_0,.string a1_1,.int .i64 a1_2,.slice A1_3 l1_3.length c1_3]] ?_;(with_reducible refine (impl_sameTerm.calls k a0_0 a0_1 a0_2 _ _ l0_3 a1_0 a1_1 a1_2 _ _ l1_3 false _ ?side1 ?side2 ?side3 ?side4 A3.out).mono ?_);(case side1=>exact cB C0 HB);(case side2=>exact C1.out);(case side3=>exact cB C2 HB);(case side4=>exact C3.out);rintro e w16 ⟨rfl,hb⟩;refine ⟨_,rfl,?_⟩;replace A0:=bB A0 hb;replace A1:=bB A1 hb;replace HB:=hS HB hb;(try clear hb);(try clear hb2);(try clear hk);(try clear hi);obtain ⟨E2,E3,E4,E5,E6,E7,E8,E9⟩:=cf4 A1))
 go_loopg [13] k (fun kq v13 w'=> ∃ (x13_1:Int),v13=.int .i64 x13_1∧Aside0 (impl_OccursIn.l0 kq l1_3 (l1_3.length:Int) x13_1 a0_0 a0_1 a0_2 l0_3=some r)∧Aside0 (kq≤k)∧Aside0 (w'.heap[C4]? = some (.cells #[.int .i64 a0_0,.string a0_1,.int .i64 a0_2,(.slice A0_3 l0_3.length c0_3)] 29 (0,0)))∧Aside0 (w'.heap[C5]? = some (.cells #[.int .i64 a1_0,.string a1_1,.int .i64 a1_2,(.slice A1_3 l1_3.length c1_3)] 29 (0,0)))∧Aside0 (Below w.heap.size w w'))
 case atStart=>exact ⟨(0),(by first | rfl | (simp;done) | (simp [*];done)),H',⟨Nat.le_refl _⟩,⟨vB A0⟩,⟨vB A1⟩,⟨hV HB⟩⟩
 clear H'
 try clear c4
 try clear C6
 try clear C8
 try clear D0
 try clear D2
 try clear D4
 try clear D6
 try clear D8
 try clear E0
 try clear E2
 try clear E4
 try clear E6
 try clear E8
 try clear C7
 try clear C9
 try clear D1
 try clear D3
 try clear D5
 try clear D7
 try clear D9
 try clear E1
 try clear E3
 try clear E5
 try clear E7
 try clear E9
 obtain ⟨x13_1,rfl,HA,HK1,A0,A1,HB⟩:=hrel
 cases gk with
 | zero=>exact absurd HA.out (by simp [impl_OccursIn.l0])
 | succ k1=>
  have H:=HA.out
  clear HA
  simp only [impl_OccursIn.l0] at H
  by_cases c18:x13_1 < (l1_3.length:Int)
  rotate_left
  ·rw [if_neg c18] at H
   have F4:=decide_eq_false c18
   clear c18
   obtain rfl:=Option.some.inj H
   go_wp2
   go_ret
   exact ⟨impl_OccursIn.a0,hV HB⟩

  rw [if_pos c18] at H
  have F4:=decide_eq_true c18
  clear c18
  by_cases c19:0≤x13_1
  rotate_left
  ·rw [if_neg c19] at H
   exact absurd H (by simp)
  rw [if_pos c19] at H
  have K9:=decide_eq_true c19
  clear c19
  by_cases c20:x13_1 < (l1_3.length:Int)
  rotate_left
  ·rw [if_neg c20] at H
   exact absurd H (by simp)
  rw [if_pos c20] at H
  have L0:=decide_eq_true c20
  clear c20
  replace H:=Option.bind_eq_some_iff.mp H
  obtain ⟨t213,A210,H⟩:=H
  replace H:(if t213=true then (some true) else (impl_OccursIn.l0 k1 l1_3 (l1_3.length:Int) (wrap64 (x13_1 + 1)) a0_0 a0_1 a0_2 l0_3))=some r:=H
  have A21:=Aside0.mk A210
  clear A210
  by_cases c22:t213=true
  ·subst c22
   rw [if_pos rfl] at H
   obtain rfl:=Option.some.inj H
   have B6:0≤(x13_1:Int):=dT
   have B7:x13_1 < (l1_3.length:Int):=dT
   obtain ⟨F5,A211_3,c211_3,e211,A5,A6,A7,A8,A9,B0⟩:=at_T29 C2.out x13_1 B6 B7
   cases e211
   replace A5:=xc HB A5
   replace A6:=xc HB A6
   replace A7:=xc HB A7
   replace A8:=xc HB A8
   have B8:=Aside0.mk B0
   have B9:=Aside0.mk A9
   clear B0 A9
   replace B6:=eq_true B6
   replace B7:=eq_true B7
   go_wp2_with (first | (refine bx 6 rfl #[.int .i64 0,.string (⟨#[]⟩:ByteArray),.int .i64 0,.slice none 0 0] 29 ?_;intro F6 hg w23 hbox hb;have B1:=Aside0.mk (hbox);have F7:=hZ HB hg;have F8:=hZ HB hg;replace HB:=hS HB hb;have B2:=nL A0 hg;have B3:=nG A0 hg;replace A0:=bB A0 hb;have B4:=nL A1 hg;have B5:=nG A1 hg;replace A1:=bB A1 hb;clear hb hbox hg;have L1:=B3.out;have L2:=B2.out;have L3:=B5.out;have L4:=B4.out;obtain ⟨F9,G0,G1,G2,G3,G4,G5,G6⟩:=cf4 B1;have L5:=A2.out;have L6:=A4.out;obtain ⟨G7,G8,G9,H0,H1,H2,H3,H4⟩:=cf4 A0) | (refine goK 17 (some 19) rfl Try.func17 #[.agg #[.int .i64 a0_0,.string a0_1,.int .i64 a0_2,.slice A0_3 l0_3.length c0_3],.agg #[.int .i64 ((rd_T29 l1_3 x13_1).f0),.string ((rd_T29 l1_3 x13_1).f1),.int .i64 ((rd_T29 l1_3 x13_1).f2),.slice A211_3 ((rd_T29 l1_3 x13_1).f3).length c211_3]] ?_;(with_reducible refine (ih k1 (by have:=HK1.out;omega) a0_0 a0_1 a0_2 _ _ l0_3 ((rd_T29 l1_3 x13_1).f0) ((rd_T29 l1_3 x13_1).f1) ((rd_T29 l1_3 x13_1).f2) _ _ ((rd_T29 l1_3 x13_1).f3) true _ ?side1 ?side2 ?side3 ?side4 A21.out).mono ?_);(case side1=>exact cV C0 HB);(case side2=>exact C1.out);(case side3=>exact cV B8 HB);(case side4=>exact B9.out);rintro e w29 ⟨rfl,hb⟩;refine ⟨_,rfl,?_⟩;replace A0:=bB A0 hb;replace A1:=bB A1 hb;replace B1:=bP (o:=.cells #[.int .i64 ((rd_T29 l1_3 x13_1).f0),.string ((rd_T29 l1_3 x13_1).f1),.int .i64 ((rd_T29 l1_3 x13_1).f2),.slice A211_3 ((rd_T29 l1_3 x13_1).f3).length c211_3] 29 (0,0)) B1 hb;replace HB:=hS HB hb;(try clear hb);(try clear hb2);(try clear hk);(try clear hi)))
   go_ret
   exact ⟨impl_OccursIn.a0,hV HB⟩
  ·replace c22:=Bool.eq_false_iff.mpr c22
   subst c22
   rw [if_neg (show ¬ (false=true) by decide)] at H
   have H':=Aside0.mk H
   clear H
   have B6:0≤(x13_1:Int):=dT
   have B7:x13_1 < (l1_3.length:Int):=dT
   obtain ⟨F5,A211_3,c211_3,e211,A5,A6,A7,A8,A9,B0⟩:=at_T29 C2.out x13_1 B6 B7
   cases e211
   replace A5:=xc HB A5
   replace A6:=xc HB A6
   replace A7:=xc HB A7
   replace A8:=xc HB A8
   have B8:=Aside0.mk B0
   have B9:=Aside0.mk A9
   clear B0 A9
   replace B6:=eq_true B6
   replace B7:=eq_true B7
   go_wp2_with (first | (refine bx 6 rfl #[.int .i64 0,.string (⟨#[]⟩:ByteArray),.int .i64 0,.slice none 0 0] 29 ?_;intro F6 hg w30 hbox hb;have B1:=Aside0.mk (hbox);have F7:=hZ HB hg;have F8:=hZ HB hg;replace HB:=hS HB hb;have B2:=nL A0 hg;have B3:=nG A0 hg;replace A0:=bB A0 hb;have B4:=nL A1 hg;have B5:=nG A1 hg;replace A1:=bB A1 hb;clear hb hbox hg;have L7:=B3.out;have L8:=B2.out;have L9:=B5.out;have M0:=B4.out;obtain ⟨H5,H6,H7,H8,H9,I0,I1,I2⟩:=cf4 B1;have M1:=A2.out;have M2:=A4.out;obtain ⟨I3,I4,I5,I6,I7,I8,I9,J0⟩:=cf4 A0) | (refine goK 17 (some 19) rfl Try.func17 #[.agg #[.int .i64 a0_0,.string a0_1,.int .i64 a0_2,.slice A0_3 l0_3.length c0_3],.agg #[.int .i64 ((rd_T29 l1_3 x13_1).f0),.string ((rd_T29 l1_3 x13_1).f1),.int .i64 ((rd_T29 l1_3 x13_1).f2),.slice A211_3 ((rd_T29 l1_3 x13_1).f3).length c211_3]] ?_;(with_reducible refine (ih k1 (by have:=HK1.out;omega) a0_0 a0_1 a0_2 _ _ l0_3 ((rd_T29 l1_3 x13_1).f0) ((rd_T29 l1_3 x13_1).f1) ((rd_T29 l1_3 x13_1).f2) _ _ ((rd_T29 l1_3 x13_1).f3) false _ ?side1 ?side2 ?side3 ?side4 A21.out).mono ?_);(case side1=>exact cV C0 HB);(case side2=>exact C1.out);(case side3=>exact cV B8 HB);(case side4=>exact B9.out);rintro e w36 ⟨rfl,hb⟩;refine ⟨_,rfl,?_⟩;replace A0:=bB A0 hb;replace A1:=bB A1 hb;replace B1:=bP (o:=.cells #[.int .i64 ((rd_T29 l1_3 x13_1).f0),.string ((rd_T29 l1_3 x13_1).f1),.int .i64 ((rd_T29 l1_3 x13_1).f2),.slice A211_3 ((rd_T29 l1_3 x13_1).f3).length c211_3] 29 (0,0)) B1 hb;replace HB:=hS HB hb;(try clear hb);(try clear hb2);(try clear hk);(try clear hi)))
   go_roundg k1
   case measure=>have:=HK1.out;omega
   case rel=>exact ⟨(wrap64 (x13_1 + 1)),(by first | rfl | (simp;done) | (simp [*];done)),H',⟨by have:=HK1.out;omega⟩,⟨vB A0⟩,⟨vB A1⟩,⟨hV HB⟩⟩
end Go.Proofs.Ytcofpnddfmlafaa.Q

