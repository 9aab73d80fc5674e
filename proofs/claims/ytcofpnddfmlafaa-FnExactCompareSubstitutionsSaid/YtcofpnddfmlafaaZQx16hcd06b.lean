/- Functions of the program as plain Lean functions,and that the calls come to what they say. -/
import Derived.Test.YtcofpnddfmlafaaZQx0hd86e5
import Derived.Test.YtcofpnddfmlafaaZQx2h610b2
import Derived.Test.YtcofpnddfmlafaaZQx3h773a7
import Derived.Test.YtcofpnddfmlafaaZShorth79069
namespace Go.Proofs.Ytcofpnddfmlafaa.Q
open Go.RowKit Go.Proofs.YtcofpnddfmlafaaW.PrintWords Go.Proofs.YtcofpnddfmlafaaW.PrintLast Go.Proofs.YtcofpnddfmlafaaW.PrintMore
attribute [local go_sem] max2_int min2_int max_two min_two max_three min_three max_four min_four   -- for this text's walks alone
set_option linter.unusedVariables false
set_option linter.unusedSimpArgs false

/-! ### impl_CompareSubstitutions_1: function 61 -/
theorem impl_CompareSubstitutions_1.a0 {P_:Prop} (h_:P_:=by rintro w' ⟨s0,s1,s2,s3,s4,s5,s6,s7,s8,s9,s10,s11,s12,s13,s14,s15⟩;go_simp;with_reducible rfl):P_:=h_
theorem impl_CompareSubstitutions_1.a1 {P_:Prop} (h_:P_:=by (try simp only [List.map_toArray,List.map_cons,List.map_nil]);first | done | rfl | (simp only [List.length_drop,List.length_take];rfl)):P_:=h_
def impl_CompareSubstitutions_1.f (k:Nat) (a0_0:Int) (a0_1:ByteArray) (a0_2:Int) (l0_3:List (S29)) (a0_4:Int) (a0_5:ByteArray) (a0_6:Int) (l0_7:List (S29)) (a1_0:Int) (a1_1:ByteArray) (a1_2:Int) (l1_3:List (S29)) (a1_4:Int) (a1_5:ByteArray) (a1_6:Int) (l1_7:List (S29)):Option (Int):=(impl_CompareTerms.f k a0_0 a0_1 a0_2 l0_3 a1_0 a1_1 a1_2 l1_3).bind fun t720=>((impl_CompareTerms.f k a0_4 a0_5 a0_6 l0_7 a1_4 a1_5 a1_6 l1_7).bind fun t721=>((cmp_Or_int.f k (([t720,t721]:List Int))).bind fun t725=>(some t725)))
def impl_CompareSubstitutions_1.T1:Bool × List (List Nat × List Nat):=(true,[([],[]),([0],[0]),([],[]),([2],[2]),([1,3],[1,3]),([],[]),([5],[5]),([],[]),([7],[7]),([6,8,4],[6,8]),([4,9],[4,9]),([10,9],[10]),([11,11,0,1,2,3,4,5,6,7,8,9,10,11],[11])])
def impl_CompareSubstitutions_1.B1:List Nat:=[0,1,0,4,15,0,32,0,128,511,1023,2047,4095]
theorem impl_CompareSubstitutions_1.tab1:rtab .any (opsOf Try.f61 1)=impl_CompareSubstitutions_1.T1:=by kernel_rfl
theorem impl_CompareSubstitutions_1.bits1:waitsOk impl_CompareSubstitutions_1.T1.2 impl_CompareSubstitutions_1.B1=true:=by kernel_rfl
set_option maxHeartbeats 8000000 in
set_option maxRecDepth 100000 in
theorem impl_CompareSubstitutions_1.calls (k:Nat) (a0_0:Int) (a0_1:ByteArray) (a0_2:Int) (A0_3:Option Addr) (c0_3:Nat) (l0_3:List (S29)) (a0_4:Int) (a0_5:ByteArray) (a0_6:Int) (A0_7:Option Addr) (c0_7:Nat) (l0_7:List (S29)) (a1_0:Int) (a1_1:ByteArray) (a1_2:Int) (A1_3:Option Addr) (c1_3:Nat) (l1_3:List (S29)) (a1_4:Int) (a1_5:ByteArray) (a1_6:Int) (A1_7:Option Addr) (c1_7:Nat) (l1_7:List (S29)) (r:Int) (w:World) (hr0_3:Kd.C k29 w A0_3 l0_3.length l0_3) (hc0_3:l0_3.length≤c0_3) (hr0_7:Kd.C k29 w A0_7 l0_7.length l0_7) (hc0_7:l0_7.length≤c0_7) (hr1_3:Kd.C k29 w A1_3 l1_3.length l1_3) (hc1_3:l1_3.length≤c1_3) (hr1_7:Kd.C k29 w A1_7 l1_7.length l1_7) (hc1_7:l1_7.length≤c1_7) (h:impl_CompareSubstitutions_1.f k a0_0 a0_1 a0_2 l0_3 a0_4 a0_5 a0_6 l0_7 a1_0 a1_1 a1_2 l1_3 a1_4 a1_5 a1_6 l1_7=some r) :
  Calls Try.prog 61 #[.agg #[.int .i64 a0_0,.string a0_1,.int .i64 a0_2,.slice A0_3 l0_3.length c0_3,.int .i64 a0_4,.string a0_5,.int .i64 a0_6,.slice A0_7 l0_7.length c0_7],.agg #[.int .i64 a1_0,.string a1_1,.int .i64 a1_2,.slice A1_3 l1_3.length c1_3,.int .i64 a1_4,.string a1_5,.int .i64 a1_6,.slice A1_7 l1_7.length c1_7]] w fun e w'=>e=.returned (.int .i64 r)∧Below w.heap.size w w':=by
 have hu73:=Try.underlying73
 have hu29:=Try.underlying29
 have A9:=Aside0.mk hr0_3
 have B0:=Aside0.mk hc0_3
 clear hr0_3 hc0_3
 have B2:=Aside0.mk hr0_7
 have B3:=Aside0.mk hc0_7
 clear hr0_7 hc0_7
 have B4:=Aside0.mk hr1_3
 have B5:=Aside0.mk hc1_3
 clear hr1_3 hc1_3
 have B6:=Aside0.mk hr1_7
 have B7:=Aside0.mk hc1_7
 clear hr1_7 hc1_7
 have HB:=Aside0.mk (Below.refl w.heap.size w)
 have H:((impl_CompareTerms.f k a0_0 a0_1 a0_2 l0_3 a1_0 a1_1 a1_2 l1_3).bind fun t720=>((impl_CompareTerms.f k a0_4 a0_5 a0_6 l0_7 a1_4 a1_5 a1_6 l1_7).bind fun t721=>((cmp_Or_int.f k (([t720,t721]:List Int))).bind fun t725=>(some t725))))=some r:=h
 clear h
 replace H:=Option.bind_eq_some_iff.mp H
 obtain ⟨t720,A30,H⟩:=H
 replace H:((impl_CompareTerms.f k a0_4 a0_5 a0_6 l0_7 a1_4 a1_5 a1_6 l1_7).bind fun t721=>((cmp_Or_int.f k (([t720,t721]:List Int))).bind fun t725=>(some t725)))=some r:=H
 have A3:=Aside0.mk A30
 clear A30
 replace H:=Option.bind_eq_some_iff.mp H
 obtain ⟨t721,A40,H⟩:=H
 replace H:((cmp_Or_int.f k (([t720,t721]:List Int))).bind fun t725=>(some t725))=some r:=H
 have A4:=Aside0.mk A40
 clear A40
 obtain ⟨y722,hy722⟩:∃ y_:List Int,y_=(([t720,t721]:List Int)):=⟨_,rfl⟩
 replace H:((cmp_Or_int.f k y722).bind fun t725=>(some t725))=some r:=by first | (rw [hy722];with_reducible exact H) | (have H2_:=(Option.bind_some _ _).symm.trans H;rw [hy722];with_reducible exact H2_) | (have H2_:=(Option.bind_some _ _).symm.trans H;with_reducible exact H2_) | with_reducible exact H | (rw [hy722];exact H) | exact H
 have A8:=Aside0.mk hy722
 clear hy722
 replace H:=Option.bind_eq_some_iff.mp H
 obtain ⟨t725,A50,H⟩:=H
 replace H:(some t725)=some r:=H
 have A5:=Aside0.mk A50
 clear A50
 obtain rfl:=Option.some.inj H
 go_enter Try.func61,Try.ntmps61
 try go_wp2_with (first | (refine bx 2 rfl #[.int .i64 a0_0,.string a0_1,.int .i64 a0_2,.slice A0_3 l0_3.length c0_3,.int .i64 a0_4,.string a0_5,.int .i64 a0_6,.slice A0_7 l0_7.length c0_7] 73 ?_;intro A2 hg w6 hbox hb;have A0:=Aside0.mk (hbox);have C2:=hZ HB hg;have C3:=hZ HB hg;replace HB:=hS HB hb;clear hb hbox hg) | (refine bx 3 rfl #[.int .i64 a1_0,.string a1_1,.int .i64 a1_2,.slice A1_3 l1_3.length c1_3,.int .i64 a1_4,.string a1_5,.int .i64 a1_6,.slice A1_7 l1_7.length c1_7] 73 ?_;intro A6 hg w7 hbox hb;have A1:=Aside0.mk (hbox);have C4:=hZ HB hg;have C5:=hZ HB hg;replace HB:=hS HB hb;have B8:=nL A0 hg;have B9:=nG A0 hg;replace A0:=bB A0 hb;clear hb hbox hg))
 replace A0:=Aside0.mk (blk_drew A0.out)
 replace A1:=Aside0.mk (blk_drew A1.out)
 replace HB:=Aside0.mk (below_drew1 HB.out)
 refine start_ (n:=13) (S:=fun w'=>w'.cell? ⟨A2,0,none⟩=some (.int .i64 a0_0)∧w'.cell? ⟨A2,1,none⟩=some (.string a0_1)∧w'.cell? ⟨A2,2,none⟩=some (.int .i64 a0_2)∧w'.cell? ⟨A2,3,none⟩=some (.slice A0_3 l0_3.length c0_3)∧w'.cell? ⟨A2,4,none⟩=some (.int .i64 a0_4)∧w'.cell? ⟨A2,5,none⟩=some (.string a0_5)∧w'.cell? ⟨A2,6,none⟩=some (.int .i64 a0_6)∧w'.cell? ⟨A2,7,none⟩=some (.slice A0_7 l0_7.length c0_7)∧w'.cell? ⟨A6,0,none⟩=some (.int .i64 a1_0)∧w'.cell? ⟨A6,1,none⟩=some (.string a1_1)∧w'.cell? ⟨A6,2,none⟩=some (.int .i64 a1_2)∧w'.cell? ⟨A6,3,none⟩=some (.slice A1_3 l1_3.length c1_3)∧w'.cell? ⟨A6,4,none⟩=some (.int .i64 a1_4)∧w'.cell? ⟨A6,5,none⟩=some (.string a1_5)∧w'.cell? ⟨A6,6,none⟩=some (.int .i64 a1_6)∧w'.cell? ⟨A6,7,none⟩=some (.slice A1_7 l1_7.length c1_7)) (ds:=[]) #[false,false,false,false,false,false,false,false,false,false,false,false,false] (by kernel_rfl) rfl rfl ⟨cz0 A0,cz1 A0,cz2 A0,cz3 A0,cz4 A0,cz5 A0,cz6 A0,cz7 A0,cz0 A1,cz1 A1,cz2 A1,cz3 A1,cz4 A1,cz5 A1,cz6 A1,cz7 A1⟩ (fun hHeld=> ?_);refine with_tabW impl_CompareSubstitutions_1.tab1 impl_CompareSubstitutions_1.bits1 (fun HT_ HW_=> ?_)
 generalize w7.drew=w8 at A0 A1 HB hHeld ⊢
 refine pureS 0 5 HT_ rfl rfl ?_
 refine pureS 2 7 HT_ rfl rfl ?_
 refine pureS 5 10 HT_ rfl rfl ?_
 refine pureS 7 12 HT_ rfl rfl ?_
 refine takeS 1 6 HT_ HW_ rfl rfl hHeld ?_ impl_CompareSubstitutions_1.a0
 refine takeS 3 8 HT_ HW_ rfl rfl hHeld ?_ impl_CompareSubstitutions_1.a0
 refine takeS 6 11 HT_ HW_ rfl rfl hHeld ?_ impl_CompareSubstitutions_1.a0
 refine takeS 8 13 HT_ HW_ rfl rfl hHeld ?_ impl_CompareSubstitutions_1.a0
 refine one_ (i:=4) (N:=some 9) #[true,true,true,true,true,true,true,true,true,false,false,false,false] rfl rfl (one_of HT_.out (by kernel_rfl)) (by decide) (fun K hK=> ?_)
 refine goes_ Try.func14 (by kernel_rfl) rfl #[.agg #[.int .i64 a0_0,.string a0_1,.int .i64 a0_2,.slice A0_3 l0_3.length c0_3],.agg #[.int .i64 a1_0,.string a1_1,.int .i64 a1_2,.slice A1_3 l1_3.length c1_3]] (by rfl) rfl rfl impl_CompareSubstitutions_1.a1 ?_
 with_reducible refine (impl_CompareTerms.calls k a0_0 a0_1 a0_2 _ _ l0_3 a1_0 a1_1 a1_2 _ _ l1_3 t720 _ ?side1 ?side2 ?side3 ?side4 A3.out).mono ?_
 (case side1=>exact cB A9 HB)
 (case side2=>exact B0.out)
 (case side3=>exact cB B4 HB)
 (case side4=>exact B5.out)
 rintro e w9 ⟨rfl,hb⟩
 refine ⟨_,rfl,?_⟩
 replace A0:=bB A0 hb
 replace A1:=bB A1 hb
 replace HB:=hS HB hb
 (try clear hb)
 (try clear hb2)
 (try clear hk)
 (try clear hi)
 refine hK.out _ _ ⟨cz0 A0,cz1 A0,cz2 A0,cz3 A0,cz4 A0,cz5 A0,cz6 A0,cz7 A0,cz0 A1,cz1 A1,cz2 A1,cz3 A1,cz4 A1,cz5 A1,cz6 A1,cz7 A1⟩ (fun hHeld=> ?_)
 clear hK K
 refine norm_ (a':=?_) ?_ ?_
 rotate_left
 ·show Act.put _ (some 9) _=_
  simp only [Act.put,List.setIfInBounds_toArray,List.set_cons_zero,List.set_cons_succ,i64_w,i32_w]
  rfl
 refine one_ (i:=9) (N:=some 14) #[true,true,true,true,true,true,true,true,true,true,false,false,false] rfl rfl (one_of HT_.out (by kernel_rfl)) (by decide) (fun K hK=> ?_)
 refine goes_ Try.func14 (by kernel_rfl) rfl #[.agg #[.int .i64 a0_4,.string a0_5,.int .i64 a0_6,.slice A0_7 l0_7.length c0_7],.agg #[.int .i64 a1_4,.string a1_5,.int .i64 a1_6,.slice A1_7 l1_7.length c1_7]] (by rfl) rfl rfl impl_CompareSubstitutions_1.a1 ?_
 with_reducible refine (impl_CompareTerms.calls k a0_4 a0_5 a0_6 _ _ l0_7 a1_4 a1_5 a1_6 _ _ l1_7 t721 _ ?side1 ?side2 ?side3 ?side4 A4.out).mono ?_
 (case side1=>exact cB B2 HB)
 (case side2=>exact B3.out)
 (case side3=>exact cB B6 HB)
 (case side4=>exact B7.out)
 rintro e w10 ⟨rfl,hb⟩
 refine ⟨_,rfl,?_⟩
 replace A0:=bB A0 hb
 replace A1:=bB A1 hb
 replace HB:=hS HB hb
 (try clear hb)
 (try clear hb2)
 (try clear hk)
 (try clear hi)
 refine hK.out _ _ ⟨cz0 A0,cz1 A0,cz2 A0,cz3 A0,cz4 A0,cz5 A0,cz6 A0,cz7 A0,cz0 A1,cz1 A1,cz2 A1,cz3 A1,cz4 A1,cz5 A1,cz6 A1,cz7 A1⟩ (fun hHeld=> ?_)
 clear hK K
 refine norm_ (a':=?_) ?_ ?_
 rotate_left
 ·show Act.put _ (some 14) _=_
  simp only [Act.put,List.setIfInBounds_toArray,List.set_cons_zero,List.set_cons_succ,i64_w,i32_w]
  rfl
 refine one_ (i:=10) (N:=some 15) #[true,true,true,true,true,true,true,true,true,true,true,false,false] rfl rfl (one_of HT_.out (by kernel_rfl)) (by decide) (fun K hK=> ?_)
 refine Kd.R_lit_step (Kd.int .i64) _ 3 ?hg (N:=15) ?hd (xs:=([t720,t721]:List Int)) (inner:=[.int .i64 t720,.int .i64 t721]) (ok:=fun _=>True) (okp:=fun _=>True) ?hr ?hp (fun _ hk=>hk) trivial (Below.refl _ _) (Nat.le_refl _) (by simp) ?_;(case hd=>rfl);(case hg=>rfl);(case hr=>first | (go_simp;done) | (go_simp;rfl));(case hp=>exact (Reps.one (show Kd.M (Kd.int .i64) _ _ _ t720 [.int .i64 t720] from rfl) (Reps.one (show Kd.M (Kd.int .i64) _ _ _ t721 [.int .i64 t721] from rfl) (Reps.none _ _))))
 intro v723 w11 ho12 hb hg_ hnew_
 clear hg_ hnew_
 (first | rw [← A8.out] at ho12 | (simp only [Int.reduceToNat] at ho12;rw [← A8.out] at ho12))
 have A7:=rL ho12 HB
 replace A0:=bB A0 hb
 replace A1:=bB A1 hb
 replace HB:=hS HB hb
 clear hb ho12
 obtain ⟨C0,C1,eo13⟩:=Kd.R_slice A7.out
 (first | subst eo13 | (injection eo13 with f1_ f2_ f3_;have f4_:=f1_.symm;have f5_:=f3_.symm;clear f1_ f2_ f3_;subst f4_;subst f5_))
 refine hK.out _ _ ⟨cz0 A0,cz1 A0,cz2 A0,cz3 A0,cz4 A0,cz5 A0,cz6 A0,cz7 A0,cz0 A1,cz1 A1,cz2 A1,cz3 A1,cz4 A1,cz5 A1,cz6 A1,cz7 A1⟩ (fun hHeld=> ?_)
 clear hK K
 refine norm_ (a':=?_) ?_ ?_
 rotate_left
 ·show Act.put _ (some 15) _=_
  simp only [Act.put,List.setIfInBounds_toArray,List.set_cons_zero,List.set_cons_succ,i64_w,i32_w]
  rfl
 refine one_ (i:=11) (N:=some 16) #[true,true,true,true,true,true,true,true,true,true,true,true,false] rfl rfl (one_of HT_.out (by kernel_rfl)) (by decide) (fun K hK=> ?_)
 refine goes_ Try.func40 (by kernel_rfl) rfl #[.slice C0 y722.length C1] (by rfl) rfl rfl impl_CompareSubstitutions_1.a1 ?_
 with_reducible refine (cmp_Or_int.calls k _ _ y722 t725 _ ?side1 ?side2 A5.out).mono ?_
 (case side1=>repeat (first | exact (Kd.R_reads' A7.out).2.2 | (with_reducible refine Kd.C_alloc ?_ _) | (with_reducible refine Kd.C_drewN ?_ _) | (with_reducible refine Kd.C_drew ?_)))
 (case side2=>exact (Kd.R_reads' A7.out).2.1)
 rintro e w' ⟨rfl,⟨nd,rfl⟩⟩
 refine ⟨_,rfl,?_⟩
 refine hK.out _ _ ⟨cz0 A0,cz1 A0,cz2 A0,cz3 A0,cz4 A0,cz5 A0,cz6 A0,cz7 A0,cz0 A1,cz1 A1,cz2 A1,cz3 A1,cz4 A1,cz5 A1,cz6 A1,cz7 A1⟩ (fun hHeld=> ?_)
 clear hK K
 refine norm_ (a':=?_) ?_ ?_
 rotate_left
 ·show Act.put _ (some 16) _=_
  simp only [Act.put,List.setIfInBounds_toArray,List.set_cons_zero,List.set_cons_succ,i64_w,i32_w]
  rfl
 refine pureS 12 4 HT_ rfl rfl ?_
 refine done_ (done_of HT_.out (by kernel_rfl)) ?_
 try go_wp2
 go_ret
 exact ⟨by first | rfl | (simp [errW_none,errW_some] <;> rfl) | (simp [*,errW_none,errW_some] <;> rfl),hV HB⟩

/-! ### impl_Binding: function 60 -/
theorem impl_Binding.a0 {P_:Prop} (h_:P_:=by first | (rw [add_block];exact hn728_0) | (show (Addr.add _ _).block≠_;rw [add_block];exact hn728_0) | exact hn728_0):P_:=h_
theorem impl_Binding.a1 {P_:Prop} (h_:P_:=by first | (rw [add_block];exact hn728_1) | (show (Addr.add _ _).block≠_;rw [add_block];exact hn728_1) | exact hn728_1):P_:=h_
theorem impl_Binding.a2 {P_:Prop} (h_:P_:=by first | (rw [add_block];exact hn728_2) | (show (Addr.add _ _).block≠_;rw [add_block];exact hn728_2) | exact hn728_2):P_:=h_
theorem impl_Binding.a3 {P_:Prop} (h_:P_:=by first | (rw [add_block];exact hn728_3) | (show (Addr.add _ _).block≠_;rw [add_block];exact hn728_3) | exact hn728_3):P_:=h_
theorem impl_Binding.a4 {P_:Prop} (h_:P_:=by first | (rw [add_block];exact hn728_4) | (show (Addr.add _ _).block≠_;rw [add_block];exact hn728_4) | exact hn728_4):P_:=h_
theorem impl_Binding.a5 {P_:Prop} (h_:P_:=by first | (rw [add_block];exact hn728_5) | (show (Addr.add _ _).block≠_;rw [add_block];exact hn728_5) | exact hn728_5):P_:=h_
theorem impl_Binding.a6 {P_:Prop} (h_:P_:=by first | (rw [add_block];exact hn728_6) | (show (Addr.add _ _).block≠_;rw [add_block];exact hn728_6) | exact hn728_6):P_:=h_
theorem impl_Binding.a7 {P_:Prop} (h_:P_:=by first | (rw [add_block];exact hn728_7) | (show (Addr.add _ _).block≠_;rw [add_block];exact hn728_7) | exact hn728_7):P_:=h_
theorem impl_Binding.a8 {P_:Prop} (h_:P_:=by have:=World.block_lt_of_cell? _ _ A3;first | rwa [add_block] at this | exact this):P_:=h_
theorem impl_Binding.a9 {P_:Prop} (h_:P_:=by first | rfl | (simp [errW_none,errW_some] <;> rfl) | (simp [*,errW_none,errW_some] <;> rfl)):P_:=h_
def impl_Binding.l0:Nat→List (S73)→List (S73)→List (S73)→Int→Int→Option (Int)
 | 0,_,_,_,_,_=>none
 | k + 1,x0,x1,x11,x12,x13=>if x13 < x12 then (if 0≤x13 then (if x13 < (x11.length:Int) then (if x13≥(x1.length:Int) then (some 1) else (if x13 < (x1.length:Int) then ((impl_CompareSubstitutions_1.f k ((rd_T73 x11 x13).f0.f0) ((rd_T73 x11 x13).f0.f1) ((rd_T73 x11 x13).f0.f2) ((rd_T73 x11 x13).f0.f3) ((rd_T73 x11 x13).f1.f0) ((rd_T73 x11 x13).f1.f1) ((rd_T73 x11 x13).f1.f2) ((rd_T73 x11 x13).f1.f3) ((rd_T73 x1 x13).f0.f0) ((rd_T73 x1 x13).f0.f1) ((rd_T73 x1 x13).f0.f2) ((rd_T73 x1 x13).f0.f3) ((rd_T73 x1 x13).f1.f0) ((rd_T73 x1 x13).f1.f1) ((rd_T73 x1 x13).f1.f2) ((rd_T73 x1 x13).f1.f3)).bind fun t730=>(if t730=0 then (impl_Binding.l0 k x0 x1 x11 x12 (wrap64 (x13 + 1))) else (some t730))) else (none))) else (none)) else (none)) else (if (x0.length:Int) < (x1.length:Int) then (some (-1)) else (some 0))
def impl_Binding.f (k:Nat) (l0:List (S73)) (l1:List (S73)) (a2:Int):Option (Int):=impl_Binding.l0 k l0 l1 l0 (l0.length:Int) 0
set_option maxHeartbeats 8000000 in
set_option maxRecDepth 100000 in
theorem impl_Binding.calls (k:Nat) (A0:Option Addr) (c0:Nat) (l0:List (S73)) (A1:Option Addr) (c1:Nat) (l1:List (S73)) (a2:Int) (r:Int) (w:World) (hr0:Kd.C k73 w A0 l0.length l0) (hc0:l0.length≤c0) (hr1:Kd.C k73 w A1 l1.length l1) (hc1:l1.length≤c1) (h:impl_Binding.f k l0 l1 a2=some r) :
  Calls Try.prog 60 #[.slice A0 l0.length c0,.slice A1 l1.length c1,.func (.func 61) #[] #[]] w fun e w'=>e=.returned (.int .i64 r)∧Below w.heap.size w w':=by
 have hu73:=Try.underlying73
 have E8:=Aside0.mk hr0
 have R7:=Aside0.mk hc0
 clear hr0 hc0
 have F5:=Aside0.mk hr1
 have R8:=Aside0.mk hc1
 clear hr1 hc1
 have HB:=Aside0.mk (Below.refl w.heap.size w)
 have H:(impl_Binding.l0 k l0 l1 l0 (l0.length:Int) 0)=some r:=h
 clear h
 have H':=Aside0.mk H
 clear H
 go_enter Try.func60,Try.ntmps60
 go_wp2
 go_loopg [13] k (fun kq v13 w'=> ∃ (x13_1:Int),v13=.int .i64 x13_1∧Aside0 (impl_Binding.l0 kq l0 l1 l0 (l0.length:Int) x13_1=some r)∧Aside0 (kq≤k)∧Aside0 (Below w.heap.size w w'))
 case atStart=>exact ⟨(0),(by first | rfl | (simp;done) | (simp [*];done)),H',⟨Nat.le_refl _⟩,⟨hV HB⟩⟩
 clear H'
 try clear c1
 obtain ⟨x13_1,rfl,HA,HK1,HB⟩:=hrel
 cases gk with
 | zero=>exact absurd HA.out (by simp [impl_Binding.l0])
 | succ k1=>
  have H:=HA.out
  clear HA
  simp only [impl_Binding.l0] at H
  by_cases c4:x13_1 < (l0.length:Int)
  ·rw [if_pos c4] at H
   have F6:=decide_eq_true c4
   clear c4
   by_cases c5:0≤x13_1
   rotate_left
   ·rw [if_neg c5] at H
    exact absurd H (by simp)
   rw [if_pos c5] at H
   have R5:=decide_eq_true c5
   clear c5
   by_cases c6:x13_1 < (l0.length:Int)
   rotate_left
   ·rw [if_neg c6] at H
    exact absurd H (by simp)
   rw [if_pos c6] at H
   have R6:=decide_eq_true c6
   clear c6
   by_cases c7:x13_1≥(l1.length:Int)
   ·rw [if_pos c7] at H
    have F7:=decide_eq_true c7
    clear c7
    obtain rfl:=Option.some.inj H
    have C6:0≤(x13_1:Int):=dT
    have C7:x13_1 < (l0.length:Int):=dT
    obtain ⟨E6,A726_3,c726_3,A726_7,c726_7,e726,B4,B5,B6,B7,B8,B9,C0,C1,C2,C3,C4,C5⟩:=at_T73 E8.out x13_1 C6 C7
    cases e726
    replace B4:=xc HB B4
    replace B5:=xc HB B5
    replace B6:=xc HB B6
    replace B7:=xc HB B7
    replace B8:=xc HB B8
    replace B9:=xc HB B9
    replace C0:=xc HB C0
    replace C1:=xc HB C1
    have D5:=Aside0.mk C3
    have D6:=Aside0.mk C2
    clear C3 C2
    have D7:=Aside0.mk C5
    have D8:=Aside0.mk C4
    clear C5 C4
    replace C6:=eq_true C6
    replace C7:=eq_true C7
    go_wp2_with (first | (refine bx 8 rfl #[.int .i64 0,.string (⟨#[]⟩:ByteArray),.int .i64 0,.slice none 0 0,.int .i64 0,.string (⟨#[]⟩:ByteArray),.int .i64 0,.slice none 0 0] 73 ?_;intro A2 hg w8 hbox hb;have B1:=Aside0.mk (hbox);have B2:=hZ HB hg;have E7:=hZ HB hg;replace HB:=hS HB hb;clear hb hbox hg;obtain ⟨P4,P5,P6,P7,P8,P9,Q0,Q1,Q2,Q3,Q4,Q5,Q6,Q7,Q8,Q9⟩:=cf8 B1))
    go_ret
    exact ⟨impl_Binding.a9,hV HB⟩
   ·rw [if_neg c7] at H
    have F7:=decide_eq_false c7
    clear c7
    by_cases c10:x13_1 < (l1.length:Int)
    rotate_left
    ·rw [if_neg c10] at H
     exact absurd H (by simp)
    rw [if_pos c10] at H
    have R0:=decide_eq_true c10
    clear c10
    replace H:=Option.bind_eq_some_iff.mp H
    obtain ⟨t730,A110,H⟩:=H
    replace H:(if t730=0 then (impl_Binding.l0 k1 l0 l1 l0 (l0.length:Int) (wrap64 (x13_1 + 1))) else (some t730))=some r:=H
    have A11:=Aside0.mk A110
    clear A110
    by_cases c12:t730=0
    ·rw [if_pos c12] at H
     have E9:(t730 == 0)=true:=beq_iff_eq.mpr c12
     have F0:(t730 != 0)=false:=bne_eq_false_iff_eq.mpr c12
     clear c12
     have H':=Aside0.mk H
     clear H
     have C6:0≤(x13_1:Int):=dT
     have C7:x13_1 < (l0.length:Int):=dT
     obtain ⟨E6,A726_3,c726_3,A726_7,c726_7,e726,B4,B5,B6,B7,B8,B9,C0,C1,C2,C3,C4,C5⟩:=at_T73 E8.out x13_1 C6 C7
     cases e726
     replace B4:=xc HB B4
     replace B5:=xc HB B5
     replace B6:=xc HB B6
     replace B7:=xc HB B7
     replace B8:=xc HB B8
     replace B9:=xc HB B9
     replace C0:=xc HB C0
     replace C1:=xc HB C1
     have D5:=Aside0.mk C3
     have D6:=Aside0.mk C2
     clear C3 C2
     have D7:=Aside0.mk C5
     have D8:=Aside0.mk C4
     clear C5 C4
     replace C6:=eq_true C6
     replace C7:=eq_true C7
     go_wp2_with (first | (refine bx 8 rfl #[.int .i64 0,.string (⟨#[]⟩:ByteArray),.int .i64 0,.slice none 0 0,.int .i64 0,.string (⟨#[]⟩:ByteArray),.int .i64 0,.slice none 0 0] 73 ?_;intro A2 hg w13 hbox hb;have B1:=Aside0.mk (hbox);have B2:=hZ HB hg;have E7:=hZ HB hg;replace HB:=hS HB hb;clear hb hbox hg;obtain ⟨F8,F9,G0,G1,G2,G3,G4,G5,G6,G7,G8,G9,H0,H1,H2,H3⟩:=cf8 B1;have D9:0≤(x13_1:Int):=dT;have E0:x13_1 < (l1.length:Int):=dT;obtain ⟨B3,A728_3,c728_3,A728_7,c728_7,e728,A3,A4,A5,A6,A7,A8,A9,B0,C8,C9,D0,D1⟩:=at_T73 F5.out x13_1 D9 E0;cases e728;have hn728_0:B3.block≠A2:=Nat.ne_of_lt (Nat.lt_of_lt_of_le impl_Binding.a8 B2.out);have hn728_1:B3.block≠A2:=Nat.ne_of_lt (Nat.lt_of_lt_of_le impl_Binding.a8 B2.out);have hn728_2:B3.block≠A2:=Nat.ne_of_lt (Nat.lt_of_lt_of_le impl_Binding.a8 B2.out);have hn728_3:B3.block≠A2:=Nat.ne_of_lt (Nat.lt_of_lt_of_le impl_Binding.a8 B2.out);have hn728_4:B3.block≠A2:=Nat.ne_of_lt (Nat.lt_of_lt_of_le impl_Binding.a8 B2.out);have hn728_5:B3.block≠A2:=Nat.ne_of_lt (Nat.lt_of_lt_of_le impl_Binding.a8 B2.out);have hn728_6:B3.block≠A2:=Nat.ne_of_lt (Nat.lt_of_lt_of_le impl_Binding.a8 B2.out);have hn728_7:B3.block≠A2:=Nat.ne_of_lt (Nat.lt_of_lt_of_le impl_Binding.a8 B2.out);replace A3:=xc HB A3;replace A4:=xc HB A4;replace A5:=xc HB A5;replace A6:=xc HB A6;replace A7:=xc HB A7;replace A8:=xc HB A8;replace A9:=xc HB A9;replace B0:=xc HB B0;have E2:=Aside0.mk C9;have E3:=Aside0.mk C8;clear C9 C8;have E4:=Aside0.mk D1;have E5:=Aside0.mk D0;clear D1 D0;replace A3:=(cell_far (p:=⟨A2,0,none⟩) impl_Binding.a0 (.int .i64 ((rd_T73 l0 x13_1).f0.f0))).trans A3;replace A4:=(cell_far (p:=⟨A2,0,none⟩) impl_Binding.a0 (.int .i64 ((rd_T73 l0 x13_1).f0.f0))).trans A4;replace A5:=(cell_far (p:=⟨A2,0,none⟩) impl_Binding.a0 (.int .i64 ((rd_T73 l0 x13_1).f0.f0))).trans A5;replace A6:=(cell_far (p:=⟨A2,0,none⟩) impl_Binding.a0 (.int .i64 ((rd_T73 l0 x13_1).f0.f0))).trans A6;replace A7:=(cell_far (p:=⟨A2,0,none⟩) impl_Binding.a0 (.int .i64 ((rd_T73 l0 x13_1).f0.f0))).trans A7;replace A8:=(cell_far (p:=⟨A2,0,none⟩) impl_Binding.a0 (.int .i64 ((rd_T73 l0 x13_1).f0.f0))).trans A8;replace A9:=(cell_far (p:=⟨A2,0,none⟩) impl_Binding.a0 (.int .i64 ((rd_T73 l0 x13_1).f0.f0))).trans A9;replace B0:=(cell_far (p:=⟨A2,0,none⟩) impl_Binding.a0 (.int .i64 ((rd_T73 l0 x13_1).f0.f0))).trans B0;replace A3:=(cell_far (p:=⟨A2,1,none⟩) impl_Binding.a1 (.string ((rd_T73 l0 x13_1).f0.f1))).trans A3;replace A4:=(cell_far (p:=⟨A2,1,none⟩) impl_Binding.a1 (.string ((rd_T73 l0 x13_1).f0.f1))).trans A4;replace A5:=(cell_far (p:=⟨A2,1,none⟩) impl_Binding.a1 (.string ((rd_T73 l0 x13_1).f0.f1))).trans A5;replace A6:=(cell_far (p:=⟨A2,1,none⟩) impl_Binding.a1 (.string ((rd_T73 l0 x13_1).f0.f1))).trans A6;replace A7:=(cell_far (p:=⟨A2,1,none⟩) impl_Binding.a1 (.string ((rd_T73 l0 x13_1).f0.f1))).trans A7;replace A8:=(cell_far (p:=⟨A2,1,none⟩) impl_Binding.a1 (.string ((rd_T73 l0 x13_1).f0.f1))).trans A8;replace A9:=(cell_far (p:=⟨A2,1,none⟩) impl_Binding.a1 (.string ((rd_T73 l0 x13_1).f0.f1))).trans A9;replace B0:=(cell_far (p:=⟨A2,1,none⟩) impl_Binding.a1 (.string ((rd_T73 l0 x13_1).f0.f1))).trans B0;replace A3:=(cell_far (p:=⟨A2,2,none⟩) impl_Binding.a2 (.int .i64 ((rd_T73 l0 x13_1).f0.f2))).trans A3;replace A4:=(cell_far (p:=⟨A2,2,none⟩) impl_Binding.a2 (.int .i64 ((rd_T73 l0 x13_1).f0.f2))).trans A4;replace A5:=(cell_far (p:=⟨A2,2,none⟩) impl_Binding.a2 (.int .i64 ((rd_T73 l0 x13_1).f0.f2))).trans A5;replace A6:=(cell_far (p:=⟨A2,2,none⟩) impl_Binding.a2 (.int .i64 ((rd_T73 l0 x13_1).f0.f2))).trans A6;replace A7:=(cell_far (p:=⟨A2,2,none⟩) impl_Binding.a2 (.int .i64 ((rd_T73 l0 x13_1).f0.f2))).trans A7;replace A8:=(cell_far (p:=⟨A2,2,none⟩) impl_Binding.a2 (.int .i64 ((rd_T73 l0 x13_1).f0.f2))).trans A8;replace A9:=(cell_far (p:=⟨A2,2,none⟩) impl_Binding.a2 (.int .i64 ((rd_T73 l0 x13_1).f0.f2))).trans A9;replace B0:=(cell_far (p:=⟨A2,2,none⟩) impl_Binding.a2 (.int .i64 ((rd_T73 l0 x13_1).f0.f2))).trans B0;replace A3:=(cell_far (p:=⟨A2,3,none⟩) impl_Binding.a3 (.slice A726_3 ((rd_T73 l0 x13_1).f0.f3).length c726_3)).trans A3;replace A4:=(cell_far (p:=⟨A2,3,none⟩) impl_Binding.a3 (.slice A726_3 ((rd_T73 l0 x13_1).f0.f3).length c726_3)).trans A4;replace A5:=(cell_far (p:=⟨A2,3,none⟩) impl_Binding.a3 (.slice A726_3 ((rd_T73 l0 x13_1).f0.f3).length c726_3)).trans A5;replace A6:=(cell_far (p:=⟨A2,3,none⟩) impl_Binding.a3 (.slice A726_3 ((rd_T73 l0 x13_1).f0.f3).length c726_3)).trans A6;replace A7:=(cell_far (p:=⟨A2,3,none⟩) impl_Binding.a3 (.slice A726_3 ((rd_T73 l0 x13_1).f0.f3).length c726_3)).trans A7;replace A8:=(cell_far (p:=⟨A2,3,none⟩) impl_Binding.a3 (.slice A726_3 ((rd_T73 l0 x13_1).f0.f3).length c726_3)).trans A8;replace A9:=(cell_far (p:=⟨A2,3,none⟩) impl_Binding.a3 (.slice A726_3 ((rd_T73 l0 x13_1).f0.f3).length c726_3)).trans A9;replace B0:=(cell_far (p:=⟨A2,3,none⟩) impl_Binding.a3 (.slice A726_3 ((rd_T73 l0 x13_1).f0.f3).length c726_3)).trans B0;replace A3:=(cell_far (p:=⟨A2,4,none⟩) impl_Binding.a4 (.int .i64 ((rd_T73 l0 x13_1).f1.f0))).trans A3;replace A4:=(cell_far (p:=⟨A2,4,none⟩) impl_Binding.a4 (.int .i64 ((rd_T73 l0 x13_1).f1.f0))).trans A4;replace A5:=(cell_far (p:=⟨A2,4,none⟩) impl_Binding.a4 (.int .i64 ((rd_T73 l0 x13_1).f1.f0))).trans A5;replace A6:=(cell_far (p:=⟨A2,4,none⟩) impl_Binding.a4 (.int .i64 ((rd_T73 l0 x13_1).f1.f0))).trans A6;replace A7:=(cell_far (p:=⟨A2,4,none⟩) impl_Binding.a4 (.int .i64 ((rd_T73 l0 x13_1).f1.f0))).trans A7;replace A8:=(cell_far (p:=⟨A2,4,none⟩) impl_Binding.a4 (.int .i64 ((rd_T73 l0 x13_1).f1.f0))).trans A8;replace A9:=(cell_far (p:=⟨A2,4,none⟩) impl_Binding.a4 (.int .i64 ((rd_T73 l0 x13_1).f1.f0))).trans A9;replace B0:=(cell_far (p:=⟨A2,4,none⟩) impl_Binding.a4 (.int .i64 ((rd_T73 l0 x13_1).f1.f0))).trans B0;replace A3:=(cell_far (p:=⟨A2,5,none⟩) impl_Binding.a5 (.string ((rd_T73 l0 x13_1).f1.f1))).trans A3;replace A4:=(cell_far (p:=⟨A2,5,none⟩) impl_Binding.a5 (.string ((rd_T73 l0 x13_1).f1.f1))).trans A4;replace A5:=(cell_far (p:=⟨A2,5,none⟩) impl_Binding.a5 (.string ((rd_T73 l0 x13_1).f1.f1))).trans A5;replace A6:=(cell_far (p:=⟨A2,5,none⟩) impl_Binding.a5 (.string ((rd_T73 l0 x13_1).f1.f1))).trans A6;replace A7:=(cell_far (p:=⟨A2,5,none⟩) impl_Binding.a5 (.string ((rd_T73 l0 x13_1).f1.f1))).trans A7;replace A8:=(cell_far (p:=⟨A2,5,none⟩) impl_Binding.a5 (.string ((rd_T73 l0 x13_1).f1.f1))).trans A8;replace A9:=(cell_far (p:=⟨A2,5,none⟩) impl_Binding.a5 (.string ((rd_T73 l0 x13_1).f1.f1))).trans A9;replace B0:=(cell_far (p:=⟨A2,5,none⟩) impl_Binding.a5 (.string ((rd_T73 l0 x13_1).f1.f1))).trans B0;replace A3:=(cell_far (p:=⟨A2,6,none⟩) impl_Binding.a6 (.int .i64 ((rd_T73 l0 x13_1).f1.f2))).trans A3;replace A4:=(cell_far (p:=⟨A2,6,none⟩) impl_Binding.a6 (.int .i64 ((rd_T73 l0 x13_1).f1.f2))).trans A4;replace A5:=(cell_far (p:=⟨A2,6,none⟩) impl_Binding.a6 (.int .i64 ((rd_T73 l0 x13_1).f1.f2))).trans A5;replace A6:=(cell_far (p:=⟨A2,6,none⟩) impl_Binding.a6 (.int .i64 ((rd_T73 l0 x13_1).f1.f2))).trans A6;replace A7:=(cell_far (p:=⟨A2,6,none⟩) impl_Binding.a6 (.int .i64 ((rd_T73 l0 x13_1).f1.f2))).trans A7;replace A8:=(cell_far (p:=⟨A2,6,none⟩) impl_Binding.a6 (.int .i64 ((rd_T73 l0 x13_1).f1.f2))).trans A8;replace A9:=(cell_far (p:=⟨A2,6,none⟩) impl_Binding.a6 (.int .i64 ((rd_T73 l0 x13_1).f1.f2))).trans A9;replace B0:=(cell_far (p:=⟨A2,6,none⟩) impl_Binding.a6 (.int .i64 ((rd_T73 l0 x13_1).f1.f2))).trans B0;replace A3:=(cell_far (p:=⟨A2,7,none⟩) impl_Binding.a7 (.slice A726_7 ((rd_T73 l0 x13_1).f1.f3).length c726_7)).trans A3;replace A4:=(cell_far (p:=⟨A2,7,none⟩) impl_Binding.a7 (.slice A726_7 ((rd_T73 l0 x13_1).f1.f3).length c726_7)).trans A4;replace A5:=(cell_far (p:=⟨A2,7,none⟩) impl_Binding.a7 (.slice A726_7 ((rd_T73 l0 x13_1).f1.f3).length c726_7)).trans A5;replace A6:=(cell_far (p:=⟨A2,7,none⟩) impl_Binding.a7 (.slice A726_7 ((rd_T73 l0 x13_1).f1.f3).length c726_7)).trans A6;replace A7:=(cell_far (p:=⟨A2,7,none⟩) impl_Binding.a7 (.slice A726_7 ((rd_T73 l0 x13_1).f1.f3).length c726_7)).trans A7;replace A8:=(cell_far (p:=⟨A2,7,none⟩) impl_Binding.a7 (.slice A726_7 ((rd_T73 l0 x13_1).f1.f3).length c726_7)).trans A8;replace A9:=(cell_far (p:=⟨A2,7,none⟩) impl_Binding.a7 (.slice A726_7 ((rd_T73 l0 x13_1).f1.f3).length c726_7)).trans A9;replace B0:=(cell_far (p:=⟨A2,7,none⟩) impl_Binding.a7 (.slice A726_7 ((rd_T73 l0 x13_1).f1.f3).length c726_7)).trans B0;clear hn728_0;clear hn728_1;clear hn728_2;clear hn728_3;clear hn728_4;clear hn728_5;clear hn728_6;clear hn728_7;replace D9:=eq_true D9;replace E0:=eq_true E0) | (refine bx 9 rfl #[.int .i64 0,.string (⟨#[]⟩:ByteArray),.int .i64 0,.slice none 0 0,.int .i64 0,.string (⟨#[]⟩:ByteArray),.int .i64 0,.slice none 0 0] 73 ?_;intro E1 hg w15 hbox hb;have D2:=Aside0.mk (hbox);have F1:=hZ HB hg;have F2:=hZ HB hg;replace HB:=hS HB hb;have D3:=Aside0.mk ((by rw [hg];exact Nat.ne_of_lt (blk_lt (g:=A2) (o:=.cells #[.int .i64 ((rd_T73 l0 x13_1).f0.f0),.string ((rd_T73 l0 x13_1).f0.f1),.int .i64 ((rd_T73 l0 x13_1).f0.f2),.slice A726_3 ((rd_T73 l0 x13_1).f0.f3).length c726_3,.int .i64 ((rd_T73 l0 x13_1).f1.f0),.string ((rd_T73 l0 x13_1).f1.f1),.int .i64 ((rd_T73 l0 x13_1).f1.f2),.slice A726_7 ((rd_T73 l0 x13_1).f1.f3).length c726_7] 73 (0,0)) (vP B1)):A2≠E1));have D4:=Aside0.mk ((by rw [hg];exact Nat.ne_of_gt (blk_lt (g:=A2) (o:=.cells #[.int .i64 ((rd_T73 l0 x13_1).f0.f0),.string ((rd_T73 l0 x13_1).f0.f1),.int .i64 ((rd_T73 l0 x13_1).f0.f2),.slice A726_3 ((rd_T73 l0 x13_1).f0.f3).length c726_3,.int .i64 ((rd_T73 l0 x13_1).f1.f0),.string ((rd_T73 l0 x13_1).f1.f1),.int .i64 ((rd_T73 l0 x13_1).f1.f2),.slice A726_7 ((rd_T73 l0 x13_1).f1.f3).length c726_7] 73 (0,0)) (vP B1)):E1≠A2));replace B1:=bP (o:=.cells #[.int .i64 ((rd_T73 l0 x13_1).f0.f0),.string ((rd_T73 l0 x13_1).f0.f1),.int .i64 ((rd_T73 l0 x13_1).f0.f2),.slice A726_3 ((rd_T73 l0 x13_1).f0.f3).length c726_3,.int .i64 ((rd_T73 l0 x13_1).f1.f0),.string ((rd_T73 l0 x13_1).f1.f1),.int .i64 ((rd_T73 l0 x13_1).f1.f2),.slice A726_7 ((rd_T73 l0 x13_1).f1.f3).length c726_7] 73 (0,0)) B1 hb;clear hb hbox hg;have R1:=D4.out;have R2:=D3.out;obtain ⟨H4,H5,H6,H7,H8,H9,I0,I1,I2,I3,I4,I5,I6,I7,I8,I9⟩:=cf8 D2;obtain ⟨J0,J1,J2,J3,J4,J5,J6,J7,J8,J9,K0,K1,K2,K3,K4,K5⟩:=cf8 B1) | (refine goT 61 (some 29) rfl rfl Try.func61 #[.agg #[.int .i64 ((rd_T73 l0 x13_1).f0.f0),.string ((rd_T73 l0 x13_1).f0.f1),.int .i64 ((rd_T73 l0 x13_1).f0.f2),.slice A726_3 ((rd_T73 l0 x13_1).f0.f3).length c726_3,.int .i64 ((rd_T73 l0 x13_1).f1.f0),.string ((rd_T73 l0 x13_1).f1.f1),.int .i64 ((rd_T73 l0 x13_1).f1.f2),.slice A726_7 ((rd_T73 l0 x13_1).f1.f3).length c726_7],.agg #[.int .i64 ((rd_T73 l1 x13_1).f0.f0),.string ((rd_T73 l1 x13_1).f0.f1),.int .i64 ((rd_T73 l1 x13_1).f0.f2),.slice A728_3 ((rd_T73 l1 x13_1).f0.f3).length c728_3,.int .i64 ((rd_T73 l1 x13_1).f1.f0),.string ((rd_T73 l1 x13_1).f1.f1),.int .i64 ((rd_T73 l1 x13_1).f1.f2),.slice A728_7 ((rd_T73 l1 x13_1).f1.f3).length c728_7]] ?_;(with_reducible refine (impl_CompareSubstitutions_1.calls k1 ((rd_T73 l0 x13_1).f0.f0) ((rd_T73 l0 x13_1).f0.f1) ((rd_T73 l0 x13_1).f0.f2) _ _ ((rd_T73 l0 x13_1).f0.f3) ((rd_T73 l0 x13_1).f1.f0) ((rd_T73 l0 x13_1).f1.f1) ((rd_T73 l0 x13_1).f1.f2) _ _ ((rd_T73 l0 x13_1).f1.f3) ((rd_T73 l1 x13_1).f0.f0) ((rd_T73 l1 x13_1).f0.f1) ((rd_T73 l1 x13_1).f0.f2) _ _ ((rd_T73 l1 x13_1).f0.f3) ((rd_T73 l1 x13_1).f1.f0) ((rd_T73 l1 x13_1).f1.f1) ((rd_T73 l1 x13_1).f1.f2) _ _ ((rd_T73 l1 x13_1).f1.f3) t730 _ ?side1 ?side2 ?side3 ?side4 ?side5 ?side6 ?side7 ?side8 A11.out).mono ?_);(case side1=>exact cV D5 HB);(case side2=>exact D6.out);(case side3=>exact cV D7 HB);(case side4=>exact D8.out);(case side5=>exact cV E2 HB);(case side6=>exact E3.out);(case side7=>exact cV E4 HB);(case side8=>exact E5.out);rintro e w19 ⟨rfl,hb⟩;refine ⟨_,rfl,?_⟩;replace B1:=bB B1 hb;replace D2:=bP (o:=.cells #[.int .i64 ((rd_T73 l1 x13_1).f0.f0),.string ((rd_T73 l1 x13_1).f0.f1),.int .i64 ((rd_T73 l1 x13_1).f0.f2),.slice A728_3 ((rd_T73 l1 x13_1).f0.f3).length c728_3,.int .i64 ((rd_T73 l1 x13_1).f1.f0),.string ((rd_T73 l1 x13_1).f1.f1),.int .i64 ((rd_T73 l1 x13_1).f1.f2),.slice A728_7 ((rd_T73 l1 x13_1).f1.f3).length c728_7] 73 (0,0)) D2 hb;replace HB:=hS HB hb;(try clear hb);(try clear hb2);(try clear hk);(try clear hi)))
     go_roundg k1
     case measure=>have:=HK1.out;omega
     case rel=>exact ⟨(wrap64 (x13_1 + 1)),(by first | rfl | (simp;done) | (simp [*];done)),H',⟨by have:=HK1.out;omega⟩,⟨hV HB⟩⟩
    ·rw [if_neg c12] at H
     have E9:(t730 == 0)=false:=beq_eq_false_iff_ne.mpr c12
     have F0:(t730 != 0)=true:=bne_iff_ne.mpr c12
     obtain rfl:=Option.some.inj H
     have C6:0≤(x13_1:Int):=dT
     have C7:x13_1 < (l0.length:Int):=dT
     obtain ⟨E6,A726_3,c726_3,A726_7,c726_7,e726,B4,B5,B6,B7,B8,B9,C0,C1,C2,C3,C4,C5⟩:=at_T73 E8.out x13_1 C6 C7
     cases e726
     replace B4:=xc HB B4
     replace B5:=xc HB B5
     replace B6:=xc HB B6
     replace B7:=xc HB B7
     replace B8:=xc HB B8
     replace B9:=xc HB B9
     replace C0:=xc HB C0
     replace C1:=xc HB C1
     have D5:=Aside0.mk C3
     have D6:=Aside0.mk C2
     clear C3 C2
     have D7:=Aside0.mk C5
     have D8:=Aside0.mk C4
     clear C5 C4
     replace C6:=eq_true C6
     replace C7:=eq_true C7
     go_wp2_with (first | (refine bx 8 rfl #[.int .i64 0,.string (⟨#[]⟩:ByteArray),.int .i64 0,.slice none 0 0,.int .i64 0,.string (⟨#[]⟩:ByteArray),.int .i64 0,.slice none 0 0] 73 ?_;intro A2 hg w20 hbox hb;have B1:=Aside0.mk (hbox);have B2:=hZ HB hg;have E7:=hZ HB hg;replace HB:=hS HB hb;clear hb hbox hg;obtain ⟨K6,K7,K8,K9,L0,L1,L2,L3,L4,L5,L6,L7,L8,L9,M0,M1⟩:=cf8 B1;have D9:0≤(x13_1:Int):=dT;have E0:x13_1 < (l1.length:Int):=dT;obtain ⟨B3,A728_3,c728_3,A728_7,c728_7,e728,A3,A4,A5,A6,A7,A8,A9,B0,C8,C9,D0,D1⟩:=at_T73 F5.out x13_1 D9 E0;cases e728;have hn728_0:B3.block≠A2:=Nat.ne_of_lt (Nat.lt_of_lt_of_le impl_Binding.a8 B2.out);have hn728_1:B3.block≠A2:=Nat.ne_of_lt (Nat.lt_of_lt_of_le impl_Binding.a8 B2.out);have hn728_2:B3.block≠A2:=Nat.ne_of_lt (Nat.lt_of_lt_of_le impl_Binding.a8 B2.out);have hn728_3:B3.block≠A2:=Nat.ne_of_lt (Nat.lt_of_lt_of_le impl_Binding.a8 B2.out);have hn728_4:B3.block≠A2:=Nat.ne_of_lt (Nat.lt_of_lt_of_le impl_Binding.a8 B2.out);have hn728_5:B3.block≠A2:=Nat.ne_of_lt (Nat.lt_of_lt_of_le impl_Binding.a8 B2.out);have hn728_6:B3.block≠A2:=Nat.ne_of_lt (Nat.lt_of_lt_of_le impl_Binding.a8 B2.out);have hn728_7:B3.block≠A2:=Nat.ne_of_lt (Nat.lt_of_lt_of_le impl_Binding.a8 B2.out);replace A3:=xc HB A3;replace A4:=xc HB A4;replace A5:=xc HB A5;replace A6:=xc HB A6;replace A7:=xc HB A7;replace A8:=xc HB A8;replace A9:=xc HB A9;replace B0:=xc HB B0;have E2:=Aside0.mk C9;have E3:=Aside0.mk C8;clear C9 C8;have E4:=Aside0.mk D1;have E5:=Aside0.mk D0;clear D1 D0;replace A3:=(cell_far (p:=⟨A2,0,none⟩) impl_Binding.a0 (.int .i64 ((rd_T73 l0 x13_1).f0.f0))).trans A3;replace A4:=(cell_far (p:=⟨A2,0,none⟩) impl_Binding.a0 (.int .i64 ((rd_T73 l0 x13_1).f0.f0))).trans A4;replace A5:=(cell_far (p:=⟨A2,0,none⟩) impl_Binding.a0 (.int .i64 ((rd_T73 l0 x13_1).f0.f0))).trans A5;replace A6:=(cell_far (p:=⟨A2,0,none⟩) impl_Binding.a0 (.int .i64 ((rd_T73 l0 x13_1).f0.f0))).trans A6;replace A7:=(cell_far (p:=⟨A2,0,none⟩) impl_Binding.a0 (.int .i64 ((rd_T73 l0 x13_1).f0.f0))).trans A7;replace A8:=(cell_far (p:=⟨A2,0,none⟩) impl_Binding.a0 (.int .i64 ((rd_T73 l0 x13_1).f0.f0))).trans A8;replace A9:=(cell_far (p:=⟨A2,0,none⟩) impl_Binding.a0 (.int .i64 ((rd_T73 l0 x13_1).f0.f0))).trans A9;replace B0:=(cell_far (p:=⟨A2,0,none⟩) impl_Binding.a0 (.int .i64 ((rd_T73 l0 x13_1).f0.f0))).trans B0;replace A3:=(cell_far (p:=⟨A2,1,none⟩) impl_Binding.a1 (.string ((rd_T73 l0 x13_1).f0.f1))).trans A3;replace A4:=(cell_far (p:=⟨A2,1,none⟩) impl_Binding.a1 (.string ((rd_T73 l0 x13_1).f0.f1))).trans A4;replace A5:=(cell_far (p:=⟨A2,1,none⟩) impl_Binding.a1 (.string ((rd_T73 l0 x13_1).f0.f1))).trans A5;replace A6:=(cell_far (p:=⟨A2,1,none⟩) impl_Binding.a1 (.string ((rd_T73 l0 x13_1).f0.f1))).trans A6;replace A7:=(cell_far (p:=⟨A2,1,none⟩) impl_Binding.a1 (.string ((rd_T73 l0 x13_1).f0.f1))).trans A7;replace A8:=(cell_far (p:=⟨A2,1,none⟩) impl_Binding.a1 (.string ((rd_T73 l0 x13_1).f0.f1))).trans A8;replace A9:=(cell_far (p:=⟨A2,1,none⟩) impl_Binding.a1 (.string ((rd_T73 l0 x13_1).f0.f1))).trans A9;replace B0:=(cell_far (p:=⟨A2,1,none⟩) impl_Binding.a1 (.string ((rd_T73 l0 x13_1).f0.f1))).trans B0;replace A3:=(cell_far (p:=⟨A2,2,none⟩) impl_Binding.a2 (.int .i64 ((rd_T73 l0 x13_1).f0.f2))).trans A3;replace A4:=(cell_far (p:=⟨A2,2,none⟩) impl_Binding.a2 (.int .i64 ((rd_T73 l0 x13_1).f0.f2))).trans A4;replace A5:=(cell_far (p:=⟨A2,2,none⟩) impl_Binding.a2 (.int .i64 ((rd_T73 l0 x13_1).f0.f2))).trans A5;replace A6:=(cell_far (p:=⟨A2,2,none⟩) impl_Binding.a2 (.int .i64 ((rd_T73 l0 x13_1).f0.f2))).trans A6;replace A7:=(cell_far (p:=⟨A2,2,none⟩) impl_Binding.a2 (.int .i64 ((rd_T73 l0 x13_1).f0.f2))).trans A7;replace A8:=(cell_far (p:=⟨A2,2,none⟩) impl_Binding.a2 (.int .i64 ((rd_T73 l0 x13_1).f0.f2))).trans A8;replace A9:=(cell_far (p:=⟨A2,2,none⟩) impl_Binding.a2 (.int .i64 ((rd_T73 l0 x13_1).f0.f2))).trans A9;replace B0:=(cell_far (p:=⟨A2,2,none⟩) impl_Binding.a2 (.int .i64 ((rd_T73 l0 x13_1).f0.f2))).trans B0;replace A3:=(cell_far (p:=⟨A2,3,none⟩) impl_Binding.a3 (.slice A726_3 ((rd_T73 l0 x13_1).f0.f3).length c726_3)).trans A3;replace A4:=(cell_far (p:=⟨A2,3,none⟩) impl_Binding.a3 (.slice A726_3 ((rd_T73 l0 x13_1).f0.f3).length c726_3)).trans A4;replace A5:=(cell_far (p:=⟨A2,3,none⟩) impl_Binding.a3 (.slice A726_3 ((rd_T73 l0 x13_1).f0.f3).length c726_3)).trans A5;replace A6:=(cell_far (p:=⟨A2,3,none⟩) impl_Binding.a3 (.slice A726_3 ((rd_T73 l0 x13_1).f0.f3).length c726_3)).trans A6;replace A7:=(cell_far (p:=⟨A2,3,none⟩) impl_Binding.a3 (.slice A726_3 ((rd_T73 l0 x13_1).f0.f3).length c726_3)).trans A7;replace A8:=(cell_far (p:=⟨A2,3,none⟩) impl_Binding.a3 (.slice A726_3 ((rd_T73 l0 x13_1).f0.f3).length c726_3)).trans A8;replace A9:=(cell_far (p:=⟨A2,3,none⟩) impl_Binding.a3 (.slice A726_3 ((rd_T73 l0 x13_1).f0.f3).length c726_3)).trans A9;replace B0:=(cell_far (p:=⟨A2,3,none⟩) impl_Binding.a3 (.slice A726_3 ((rd_T73 l0 x13_1).f0.f3).length c726_3)).trans B0;replace A3:=(cell_far (p:=⟨A2,4,none⟩) impl_Binding.a4 (.int .i64 ((rd_T73 l0 x13_1).f1.f0))).trans A3;replace A4:=(cell_far (p:=⟨A2,4,none⟩) impl_Binding.a4 (.int .i64 ((rd_T73 l0 x13_1).f1.f0))).trans A4;replace A5:=(cell_far (p:=⟨A2,4,none⟩) impl_Binding.a4 (.int .i64 ((rd_T73 l0 x13_1).f1.f0))).trans A5;replace A6:=(cell_far (p:=⟨A2,4,none⟩) impl_Binding.a4 (.int .i64 ((rd_T73 l0 x13_1).f1.f0))).trans A6;replace A7:=(cell_far (p:=⟨A2,4,none⟩) impl_Binding.a4 (.int .i64 ((rd_T73 l0 x13_1).f1.f0))).trans A7;replace A8:=(cell_far (p:=⟨A2,4,none⟩) impl_Binding.a4 (.int .i64 ((rd_T73 l0 x13_1).f1.f0))).trans A8;replace A9:=(cell_far (p:=⟨A2,4,none⟩) impl_Binding.a4 (.int .i64 ((rd_T73 l0 x13_1).f1.f0))).trans A9;replace B0:=(cell_far (p:=⟨A2,4,none⟩) impl_Binding.a4 (.int .i64 ((rd_T73 l0 x13_1).f1.f0))).trans B0;replace A3:=(cell_far (p:=⟨A2,5,none⟩) impl_Binding.a5 (.string ((rd_T73 l0 x13_1).f1.f1))).trans A3;replace A4:=(cell_far (p:=⟨A2,5,none⟩) impl_Binding.a5 (.string ((rd_T73 l0 x13_1).f1.f1))).trans A4;replace A5:=(cell_far (p:=⟨A2,5,none⟩) impl_Binding.a5 (.string ((rd_T73 l0 x13_1).f1.f1))).trans A5;replace A6:=(cell_far (p:=⟨A2,5,none⟩) impl_Binding.a5 (.string ((rd_T73 l0 x13_1).f1.f1))).trans A6;replace A7:=(cell_far (p:=⟨A2,5,none⟩) impl_Binding.a5 (.string ((rd_T73 l0 x13_1).f1.f1))).trans A7;replace A8:=(cell_far (p:=⟨A2,5,none⟩) impl_Binding.a5 (.string ((rd_T73 l0 x13_1).f1.f1))).trans A8;replace A9:=(cell_far (p:=⟨A2,5,none⟩) impl_Binding.a5 (.string ((rd_T73 l0 x13_1).f1.f1))).trans A9;replace B0:=(cell_far (p:=⟨A2,5,none⟩) impl_Binding.a5 (.string ((rd_T73 l0 x13_1).f1.f1))).trans B0;replace A3:=(cell_far (p:=⟨A2,6,none⟩) impl_Binding.a6 (.int .i64 ((rd_T73 l0 x13_1).f1.f2))).trans A3;replace A4:=(cell_far (p:=⟨A2,6,none⟩) impl_Binding.a6 (.int .i64 ((rd_T73 l0 x13_1).f1.f2))).trans A4;replace A5:=(cell_far (p:=⟨A2,6,none⟩) impl_Binding.a6 (.int .i64 ((rd_T73 l0 x13_1).f1.f2))).trans A5;replace A6:=(cell_far (p:=⟨A2,6,none⟩) impl_Binding.a6 (.int .i64 ((rd_T73 l0 x13_1).f1.f2))).trans A6;replace A7:=(cell_far (p:=⟨A2,6,none⟩) impl_Binding.a6 (.int .i64 ((rd_T73 l0 x13_1).f1.f2))).trans A7;replace A8:=(cell_far (p:=⟨A2,6,none⟩) impl_Binding.a6 (.int .i64 ((rd_T73 l0 x13_1).f1.f2))).trans A8;replace A9:=(cell_far (p:=⟨A2,6,none⟩) impl_Binding.a6 (.int .i64 ((rd_T73 l0 x13_1).f1.f2))).trans A9;replace B0:=(cell_far (p:=⟨A2,6,none⟩) impl_Binding.a6 (.int .i64 ((rd_T73 l0 x13_1).f1.f2))).trans B0;replace A3:=(cell_far (p:=⟨A2,7,none⟩) impl_Binding.a7 (.slice A726_7 ((rd_T73 l0 x13_1).f1.f3).length c726_7)).trans A3;replace A4:=(cell_far (p:=⟨A2,7,none⟩) impl_Binding.a7 (.slice A726_7 ((rd_T73 l0 x13_1).f1.f3).length c726_7)).trans A4;replace A5:=(cell_far (p:=⟨A2,7,none⟩) impl_Binding.a7 (.slice A726_7 ((rd_T73 l0 x13_1).f1.f3).length c726_7)).trans A5;replace A6:=(cell_far (p:=⟨A2,7,none⟩) impl_Binding.a7 (.slice A726_7 ((rd_T73 l0 x13_1).f1.f3).length c726_7)).trans A6;replace A7:=(cell_far (p:=⟨A2,7,none⟩) impl_Binding.a7 (.slice A726_7 ((rd_T73 l0 x13_1).f1.f3).length c726_7)).trans A7;replace A8:=(cell_far (p:=⟨A2,7,none⟩) impl_Binding.a7 (.slice A726_7 ((rd_T73 l0 x13_1).f1.f3).length c726_7)).trans A8;replace A9:=(cell_far (p:=⟨A2,7,none⟩) impl_Binding.a7 (.slice A726_7 ((rd_T73 l0 x13_1).f1.f3).length c726_7)).trans A9;replace B0:=(cell_far (p:=⟨A2,7,none⟩) impl_Binding.a7 (.slice A726_7 ((rd_T73 l0 x13_1).f1.f3).length c726_7)).trans B0;clear hn728_0;clear hn728_1;clear hn728_2;clear hn728_3;clear hn728_4;clear hn728_5;clear hn728_6;clear hn728_7;replace D9:=eq_true D9;replace E0:=eq_true E0) | (refine bx 9 rfl #[.int .i64 0,.string (⟨#[]⟩:ByteArray),.int .i64 0,.slice none 0 0,.int .i64 0,.string (⟨#[]⟩:ByteArray),.int .i64 0,.slice none 0 0] 73 ?_;intro E1 hg w22 hbox hb;have D2:=Aside0.mk (hbox);have F1:=hZ HB hg;have F2:=hZ HB hg;replace HB:=hS HB hb;have D3:=Aside0.mk ((by rw [hg];exact Nat.ne_of_lt (blk_lt (g:=A2) (o:=.cells #[.int .i64 ((rd_T73 l0 x13_1).f0.f0),.string ((rd_T73 l0 x13_1).f0.f1),.int .i64 ((rd_T73 l0 x13_1).f0.f2),.slice A726_3 ((rd_T73 l0 x13_1).f0.f3).length c726_3,.int .i64 ((rd_T73 l0 x13_1).f1.f0),.string ((rd_T73 l0 x13_1).f1.f1),.int .i64 ((rd_T73 l0 x13_1).f1.f2),.slice A726_7 ((rd_T73 l0 x13_1).f1.f3).length c726_7] 73 (0,0)) (vP B1)):A2≠E1));have D4:=Aside0.mk ((by rw [hg];exact Nat.ne_of_gt (blk_lt (g:=A2) (o:=.cells #[.int .i64 ((rd_T73 l0 x13_1).f0.f0),.string ((rd_T73 l0 x13_1).f0.f1),.int .i64 ((rd_T73 l0 x13_1).f0.f2),.slice A726_3 ((rd_T73 l0 x13_1).f0.f3).length c726_3,.int .i64 ((rd_T73 l0 x13_1).f1.f0),.string ((rd_T73 l0 x13_1).f1.f1),.int .i64 ((rd_T73 l0 x13_1).f1.f2),.slice A726_7 ((rd_T73 l0 x13_1).f1.f3).length c726_7] 73 (0,0)) (vP B1)):E1≠A2));replace B1:=bP (o:=.cells #[.int .i64 ((rd_T73 l0 x13_1).f0.f0),.string ((rd_T73 l0 x13_1).f0.f1),.int .i64 ((rd_T73 l0 x13_1).f0.f2),.slice A726_3 ((rd_T73 l0 x13_1).f0.f3).length c726_3,.int .i64 ((rd_T73 l0 x13_1).f1.f0),.string ((rd_T73 l0 x13_1).f1.f1),.int .i64 ((rd_T73 l0 x13_1).f1.f2),.slice A726_7 ((rd_T73 l0 x13_1).f1.f3).length c726_7] 73 (0,0)) B1 hb;clear hb hbox hg;have R3:=D4.out;have R4:=D3.out;obtain ⟨M2,M3,M4,M5,M6,M7,M8,M9,N0,N1,N2,N3,N4,N5,N6,N7⟩:=cf8 D2;obtain ⟨N8,N9,O0,O1,O2,O3,O4,O5,O6,O7,O8,O9,P0,P1,P2,P3⟩:=cf8 B1) | (refine goT 61 (some 29) rfl rfl Try.func61 #[.agg #[.int .i64 ((rd_T73 l0 x13_1).f0.f0),.string ((rd_T73 l0 x13_1).f0.f1),.int .i64 ((rd_T73 l0 x13_1).f0.f2),.slice A726_3 ((rd_T73 l0 x13_1).f0.f3).length c726_3,.int .i64 ((rd_T73 l0 x13_1).f1.f0),.string ((rd_T73 l0 x13_1).f1.f1),.int .i64 ((rd_T73 l0 x13_1).f1.f2),.slice A726_7 ((rd_T73 l0 x13_1).f1.f3).length c726_7],.agg #[.int .i64 ((rd_T73 l1 x13_1).f0.f0),.string ((rd_T73 l1 x13_1).f0.f1),.int .i64 ((rd_T73 l1 x13_1).f0.f2),.slice A728_3 ((rd_T73 l1 x13_1).f0.f3).length c728_3,.int .i64 ((rd_T73 l1 x13_1).f1.f0),.string ((rd_T73 l1 x13_1).f1.f1),.int .i64 ((rd_T73 l1 x13_1).f1.f2),.slice A728_7 ((rd_T73 l1 x13_1).f1.f3).length c728_7]] ?_;(with_reducible refine (impl_CompareSubstitutions_1.calls k1 ((rd_T73 l0 x13_1).f0.f0) ((rd_T73 l0 x13_1).f0.f1) ((rd_T73 l0 x13_1).f0.f2) _ _ ((rd_T73 l0 x13_1).f0.f3) ((rd_T73 l0 x13_1).f1.f0) ((rd_T73 l0 x13_1).f1.f1) ((rd_T73 l0 x13_1).f1.f2) _ _ ((rd_T73 l0 x13_1).f1.f3) ((rd_T73 l1 x13_1).f0.f0) ((rd_T73 l1 x13_1).f0.f1) ((rd_T73 l1 x13_1).f0.f2) _ _ ((rd_T73 l1 x13_1).f0.f3) ((rd_T73 l1 x13_1).f1.f0) ((rd_T73 l1 x13_1).f1.f1) ((rd_T73 l1 x13_1).f1.f2) _ _ ((rd_T73 l1 x13_1).f1.f3) t730 _ ?side1 ?side2 ?side3 ?side4 ?side5 ?side6 ?side7 ?side8 A11.out).mono ?_);(case side1=>exact cV D5 HB);(case side2=>exact D6.out);(case side3=>exact cV D7 HB);(case side4=>exact D8.out);(case side5=>exact cV E2 HB);(case side6=>exact E3.out);(case side7=>exact cV E4 HB);(case side8=>exact E5.out);rintro e w26 ⟨rfl,hb⟩;refine ⟨_,rfl,?_⟩;replace B1:=bB B1 hb;replace D2:=bP (o:=.cells #[.int .i64 ((rd_T73 l1 x13_1).f0.f0),.string ((rd_T73 l1 x13_1).f0.f1),.int .i64 ((rd_T73 l1 x13_1).f0.f2),.slice A728_3 ((rd_T73 l1 x13_1).f0.f3).length c728_3,.int .i64 ((rd_T73 l1 x13_1).f1.f0),.string ((rd_T73 l1 x13_1).f1.f1),.int .i64 ((rd_T73 l1 x13_1).f1.f2),.slice A728_7 ((rd_T73 l1 x13_1).f1.f3).length c728_7] 73 (0,0)) D2 hb;replace HB:=hS HB hb;(try clear hb);(try clear hb2);(try clear hk);(try clear hi)))
     go_ret
     exact ⟨impl_Binding.a9,hV HB⟩
  ·rw [if_neg c4] at H
   have F6:=decide_eq_false c4
   clear c4
   by_cases c27:(l0.length:Int) < (l1.length:Int)
   ·rw [if_pos c27] at H
    have F3:=decide_eq_true c27
    have F4:decide (l0.length < l1.length)=true:=decide_eq_true (Int.ofNat_lt.mp c27)
    clear c27
    obtain rfl:=Option.some.inj H
    go_wp2
    go_ret
    exact ⟨impl_Binding.a9,hV HB⟩
   rw [if_neg c27] at H
   have F3:=decide_eq_false c27
   have F4:decide (l0.length < l1.length)=false:=decide_eq_false (fun h=>c27 (Int.ofNat_lt.mpr h))
   clear c27
   obtain rfl:=Option.some.inj H
   go_wp2
   go_ret
   exact ⟨impl_Binding.a9,hV HB⟩

/-! ### impl_CompareSubstitutions: function 38 -/
def impl_CompareSubstitutions.f (k:Nat) (l0:List (S73)) (l1:List (S73)):Option (Int):=(impl_Binding.f k l0 l1 0).bind fun t731=>(some t731)
set_option maxHeartbeats 8000000 in
set_option maxRecDepth 100000 in
theorem impl_CompareSubstitutions.calls (k:Nat) (A0:Option Addr) (c0:Nat) (l0:List (S73)) (A1:Option Addr) (c1:Nat) (l1:List (S73)) (r:Int) (w:World) (hr0:Kd.C k73 w A0 l0.length l0) (hc0:l0.length≤c0) (hr1:Kd.C k73 w A1 l1.length l1) (hc1:l1.length≤c1) (h:impl_CompareSubstitutions.f k l0 l1=some r) :
    Calls Try.prog 38 #[.slice A0 l0.length c0,.slice A1 l1.length c1] w fun e w'=>e=.returned (.int .i64 r)∧Below w.heap.size w w':=by
  have A2:=Aside0.mk hr0
  have A4:=Aside0.mk hc0
  clear hr0 hc0
  have A5:=Aside0.mk hr1
  have A6:=Aside0.mk hc1
  clear hr1 hc1
  have HB:=Aside0.mk (Below.refl w.heap.size w)
  have H:((impl_Binding.f k l0 l1 0).bind fun t731=>(some t731))=some r:=h
  clear h
  replace H:=Option.bind_eq_some_iff.mp H
  obtain ⟨t731,A30,H⟩:=H
  replace H:(some t731)=some r:=H
  have A3:=Aside0.mk A30
  clear A30
  obtain rfl:=Option.some.inj H
  go_enter Try.func38,Try.ntmps38
  go_wp2_with (first | (refine goK 60 (some 7) rfl Try.func60 #[.slice A0 l0.length c0,.slice A1 l1.length c1,.func (.func 61) #[] #[]] ?_;(with_reducible refine (impl_Binding.calls k _ _ l0 _ _ l1 0 t731 _ ?side1 ?side2 ?side3 ?side4 A3.out).mono ?_);(case side1=>repeat (first | exact A2.out | (with_reducible refine Kd.C_alloc ?_ _) | (with_reducible refine Kd.C_drewN ?_ _) | (with_reducible refine Kd.C_drew ?_)));(case side2=>exact A4.out);(case side3=>repeat (first | exact A5.out | (with_reducible refine Kd.C_alloc ?_ _) | (with_reducible refine Kd.C_drewN ?_ _) | (with_reducible refine Kd.C_drew ?_)));(case side4=>exact A6.out);rintro e w4 ⟨rfl,hb⟩;refine ⟨_,rfl,?_⟩;replace HB:=hS HB hb;(try clear hb);(try clear hb2);(try clear hk);(try clear hi)))
  go_ret
  exact ⟨by first | rfl | (simp [errW_none,errW_some] <;> rfl) | (simp [*,errW_none,errW_some] <;> rfl),hV HB⟩

/-! ### laws_eqBinding: function 62 -/
theorem laws_eqBinding.a0 {P_:Prop} (h_:P_:=by first | rfl | (simp [errW_none,errW_some] <;> rfl) | (simp [*,errW_none,errW_some] <;> rfl)):P_:=h_
def laws_eqBinding.f (k:Nat) (a0_0:Int) (a0_1:ByteArray) (a0_2:Int) (l0_3:List (S29)) (a0_4:Int) (a0_5:ByteArray) (a0_6:Int) (l0_7:List (S29)) (a1_0:Int) (a1_1:ByteArray) (a1_2:Int) (l1_3:List (S29)) (a1_4:Int) (a1_5:ByteArray) (a1_6:Int) (l1_7:List (S29)):Option (Bool):=(laws_eqTerm.f k a0_0 a0_1 a0_2 l0_3 a1_0 a1_1 a1_2 l1_3).bind fun t734=>(if t734=true then ((laws_eqTerm.f k a0_4 a0_5 a0_6 l0_7 a1_4 a1_5 a1_6 l1_7).bind fun t735=>(if t735=true then (some true) else (some false))) else (some false))
set_option maxHeartbeats 8000000 in
set_option maxRecDepth 100000 in
theorem laws_eqBinding.calls (k:Nat) (a0_0:Int) (a0_1:ByteArray) (a0_2:Int) (A0_3:Option Addr) (c0_3:Nat) (l0_3:List (S29)) (a0_4:Int) (a0_5:ByteArray) (a0_6:Int) (A0_7:Option Addr) (c0_7:Nat) (l0_7:List (S29)) (a1_0:Int) (a1_1:ByteArray) (a1_2:Int) (A1_3:Option Addr) (c1_3:Nat) (l1_3:List (S29)) (a1_4:Int) (a1_5:ByteArray) (a1_6:Int) (A1_7:Option Addr) (c1_7:Nat) (l1_7:List (S29)) (r:Bool) (w:World) (hr0_3:Kd.C k29 w A0_3 l0_3.length l0_3) (hc0_3:l0_3.length≤c0_3) (hr0_7:Kd.C k29 w A0_7 l0_7.length l0_7) (hc0_7:l0_7.length≤c0_7) (hr1_3:Kd.C k29 w A1_3 l1_3.length l1_3) (hc1_3:l1_3.length≤c1_3) (hr1_7:Kd.C k29 w A1_7 l1_7.length l1_7) (hc1_7:l1_7.length≤c1_7) (h:laws_eqBinding.f k a0_0 a0_1 a0_2 l0_3 a0_4 a0_5 a0_6 l0_7 a1_0 a1_1 a1_2 l1_3 a1_4 a1_5 a1_6 l1_7=some r) :
  Calls Try.prog 62 #[.agg #[.int .i64 a0_0,.string a0_1,.int .i64 a0_2,.slice A0_3 l0_3.length c0_3,.int .i64 a0_4,.string a0_5,.int .i64 a0_6,.slice A0_7 l0_7.length c0_7],.agg #[.int .i64 a1_0,.string a1_1,.int .i64 a1_2,.slice A1_3 l1_3.length c1_3,.int .i64 a1_4,.string a1_5,.int .i64 a1_6,.slice A1_7 l1_7.length c1_7]] w fun e w'=>e=.returned (.bool r)∧Below w.heap.size w w':=by
 have hu73:=Try.underlying73
 have hu29:=Try.underlying29
 have A6:=Aside0.mk hr0_3
 have A7:=Aside0.mk hc0_3
 clear hr0_3 hc0_3
 have B0:=Aside0.mk hr0_7
 have B1:=Aside0.mk hc0_7
 clear hr0_7 hc0_7
 have A8:=Aside0.mk hr1_3
 have A9:=Aside0.mk hc1_3
 clear hr1_3 hc1_3
 have B2:=Aside0.mk hr1_7
 have B3:=Aside0.mk hc1_7
 clear hr1_7 hc1_7
 have HB:=Aside0.mk (Below.refl w.heap.size w)
 have H:((laws_eqTerm.f k a0_0 a0_1 a0_2 l0_3 a1_0 a1_1 a1_2 l1_3).bind fun t734=>(if t734=true then ((laws_eqTerm.f k a0_4 a0_5 a0_6 l0_7 a1_4 a1_5 a1_6 l1_7).bind fun t735=>(if t735=true then (some true) else (some false))) else (some false)))=some r:=h
 clear h
 replace H:=Option.bind_eq_some_iff.mp H
 obtain ⟨t734,A30,H⟩:=H
 replace H:(if t734=true then ((laws_eqTerm.f k a0_4 a0_5 a0_6 l0_7 a1_4 a1_5 a1_6 l1_7).bind fun t735=>(if t735=true then (some true) else (some false))) else (some false))=some r:=H
 have A3:=Aside0.mk A30
 clear A30
 by_cases c4:t734=true
 rotate_left
 ·replace c4:=Bool.eq_false_iff.mpr c4
  subst c4
  rw [if_neg (show ¬ (false=true) by decide)] at H
  obtain rfl:=Option.some.inj H
  go_enter Try.func62,Try.ntmps62
  go_wp2_with (first | (refine bx 2 rfl #[.int .i64 a0_0,.string a0_1,.int .i64 a0_2,.slice A0_3 l0_3.length c0_3,.int .i64 a0_4,.string a0_5,.int .i64 a0_6,.slice A0_7 l0_7.length c0_7] 73 ?_;intro B4 hg w25 hbox hb;have A0:=Aside0.mk (hbox);have B5:=hZ HB hg;have B6:=hZ HB hg;replace HB:=hS HB hb;clear hb hbox hg) | (refine bx 3 rfl #[.int .i64 a1_0,.string a1_1,.int .i64 a1_2,.slice A1_3 l1_3.length c1_3,.int .i64 a1_4,.string a1_5,.int .i64 a1_6,.slice A1_7 l1_7.length c1_7] 73 ?_;intro B7 hg w26 hbox hb;have A1:=Aside0.mk (hbox);have B8:=hZ HB hg;have B9:=hZ HB hg;replace HB:=hS HB hb;have A2:=nL A0 hg;have A4:=nG A0 hg;replace A0:=bB A0 hb;clear hb hbox hg;have S0:=A2.out;have S1:=A4.out;obtain ⟨C0,C1,C2,C3,C4,C5,C6,C7,C8,C9,D0,D1,D2,D3,D4,D5⟩:=cf8 A0;obtain ⟨D6,D7,D8,D9,E0,E1,E2,E3,E4,E5,E6,E7,E8,E9,F0,F1⟩:=cf8 A1) | (refine goK 15 (some 9) rfl Try.func15 #[.agg #[.int .i64 a0_0,.string a0_1,.int .i64 a0_2,.slice A0_3 l0_3.length c0_3],.agg #[.int .i64 a1_0,.string a1_1,.int .i64 a1_2,.slice A1_3 l1_3.length c1_3]] ?_;(with_reducible refine (laws_eqTerm.calls k a0_0 a0_1 a0_2 _ _ l0_3 a1_0 a1_1 a1_2 _ _ l1_3 false _ ?side1 ?side2 ?side3 ?side4 A3.out).mono ?_);(case side1=>exact cB A6 HB);(case side2=>exact A7.out);(case side3=>exact cB A8 HB);(case side4=>exact A9.out);rintro e w30 ⟨rfl,hb⟩;refine ⟨_,rfl,?_⟩;replace A0:=bB A0 hb;replace A1:=bB A1 hb;replace HB:=hS HB hb;(try clear hb);(try clear hb2);(try clear hk);(try clear hi)))
  go_ret
  exact ⟨laws_eqBinding.a0,hV HB⟩

 subst c4
 rw [if_pos rfl] at H
 replace H:=Option.bind_eq_some_iff.mp H
 obtain ⟨t735,A50,H⟩:=H
 replace H:(if t735=true then (some true) else (some false))=some r:=H
 have A5:=Aside0.mk A50
 clear A50
 by_cases c6:t735=true
 ·subst c6
  rw [if_pos rfl] at H
  obtain rfl:=Option.some.inj H
  go_enter Try.func62,Try.ntmps62
  go_wp2_with (first | (refine bx 2 rfl #[.int .i64 a0_0,.string a0_1,.int .i64 a0_2,.slice A0_3 l0_3.length c0_3,.int .i64 a0_4,.string a0_5,.int .i64 a0_6,.slice A0_7 l0_7.length c0_7] 73 ?_;intro B4 hg w7 hbox hb;have A0:=Aside0.mk (hbox);have B5:=hZ HB hg;have B6:=hZ HB hg;replace HB:=hS HB hb;clear hb hbox hg) | (refine bx 3 rfl #[.int .i64 a1_0,.string a1_1,.int .i64 a1_2,.slice A1_3 l1_3.length c1_3,.int .i64 a1_4,.string a1_5,.int .i64 a1_6,.slice A1_7 l1_7.length c1_7] 73 ?_;intro B7 hg w8 hbox hb;have A1:=Aside0.mk (hbox);have B8:=hZ HB hg;have B9:=hZ HB hg;replace HB:=hS HB hb;have A2:=nL A0 hg;have A4:=nG A0 hg;replace A0:=bB A0 hb;clear hb hbox hg;have S4:=A2.out;have S5:=A4.out;obtain ⟨F2,F3,F4,F5,F6,F7,F8,F9,G0,G1,G2,G3,G4,G5,G6,G7⟩:=cf8 A0;obtain ⟨G8,G9,H0,H1,H2,H3,H4,H5,H6,H7,H8,H9,I0,I1,I2,I3⟩:=cf8 A1) | (refine goK 15 (some 9) rfl Try.func15 #[.agg #[.int .i64 a0_0,.string a0_1,.int .i64 a0_2,.slice A0_3 l0_3.length c0_3],.agg #[.int .i64 a1_0,.string a1_1,.int .i64 a1_2,.slice A1_3 l1_3.length c1_3]] ?_;(with_reducible refine (laws_eqTerm.calls k a0_0 a0_1 a0_2 _ _ l0_3 a1_0 a1_1 a1_2 _ _ l1_3 true _ ?side1 ?side2 ?side3 ?side4 A3.out).mono ?_);(case side1=>exact cB A6 HB);(case side2=>exact A7.out);(case side3=>exact cB A8 HB);(case side4=>exact A9.out);rintro e w12 ⟨rfl,hb⟩;refine ⟨_,rfl,?_⟩;replace A0:=bB A0 hb;replace A1:=bB A1 hb;replace HB:=hS HB hb;(try clear hb);(try clear hb2);(try clear hk);(try clear hi);obtain ⟨I4,I5,I6,I7,I8,I9,J0,J1,J2,J3,J4,J5,J6,J7,J8,J9⟩:=cf8 A0;obtain ⟨K0,K1,K2,K3,K4,K5,K6,K7,K8,K9,L0,L1,L2,L3,L4,L5⟩:=cf8 A1) | (refine goK 15 (some 15) rfl Try.func15 #[.agg #[.int .i64 a0_4,.string a0_5,.int .i64 a0_6,.slice A0_7 l0_7.length c0_7],.agg #[.int .i64 a1_4,.string a1_5,.int .i64 a1_6,.slice A1_7 l1_7.length c1_7]] ?_;(with_reducible refine (laws_eqTerm.calls k a0_4 a0_5 a0_6 _ _ l0_7 a1_4 a1_5 a1_6 _ _ l1_7 true _ ?side1 ?side2 ?side3 ?side4 A5.out).mono ?_);(case side1=>exact cB B0 HB);(case side2=>exact B1.out);(case side3=>exact cB B2 HB);(case side4=>exact B3.out);rintro e w15 ⟨rfl,hb⟩;refine ⟨_,rfl,?_⟩;replace A0:=bB A0 hb;replace A1:=bB A1 hb;replace HB:=hS HB hb;(try clear hb);(try clear hb2);(try clear hk);(try clear hi)))
  go_ret
  exact ⟨laws_eqBinding.a0,hV HB⟩
 replace c6:=Bool.eq_false_iff.mpr c6
 subst c6
 rw [if_neg (show ¬ (false=true) by decide)] at H
 obtain rfl:=Option.some.inj H
 go_enter Try.func62,Try.ntmps62
 go_wp2_with (first | (refine bx 2 rfl #[.int .i64 a0_0,.string a0_1,.int .i64 a0_2,.slice A0_3 l0_3.length c0_3,.int .i64 a0_4,.string a0_5,.int .i64 a0_6,.slice A0_7 l0_7.length c0_7] 73 ?_;intro B4 hg w16 hbox hb;have A0:=Aside0.mk (hbox);have B5:=hZ HB hg;have B6:=hZ HB hg;replace HB:=hS HB hb;clear hb hbox hg) | (refine bx 3 rfl #[.int .i64 a1_0,.string a1_1,.int .i64 a1_2,.slice A1_3 l1_3.length c1_3,.int .i64 a1_4,.string a1_5,.int .i64 a1_6,.slice A1_7 l1_7.length c1_7] 73 ?_;intro B7 hg w17 hbox hb;have A1:=Aside0.mk (hbox);have B8:=hZ HB hg;have B9:=hZ HB hg;replace HB:=hS HB hb;have A2:=nL A0 hg;have A4:=nG A0 hg;replace A0:=bB A0 hb;clear hb hbox hg;have S2:=A2.out;have S3:=A4.out;obtain ⟨L6,L7,L8,L9,M0,M1,M2,M3,M4,M5,M6,M7,M8,M9,N0,N1⟩:=cf8 A0;obtain ⟨N2,N3,N4,N5,N6,N7,N8,N9,O0,O1,O2,O3,O4,O5,O6,O7⟩:=cf8 A1) | (refine goK 15 (some 9) rfl Try.func15 #[.agg #[.int .i64 a0_0,.string a0_1,.int .i64 a0_2,.slice A0_3 l0_3.length c0_3],.agg #[.int .i64 a1_0,.string a1_1,.int .i64 a1_2,.slice A1_3 l1_3.length c1_3]] ?_;(with_reducible refine (laws_eqTerm.calls k a0_0 a0_1 a0_2 _ _ l0_3 a1_0 a1_1 a1_2 _ _ l1_3 true _ ?side1 ?side2 ?side3 ?side4 A3.out).mono ?_);(case side1=>exact cB A6 HB);(case side2=>exact A7.out);(case side3=>exact cB A8 HB);(case side4=>exact A9.out);rintro e w21 ⟨rfl,hb⟩;refine ⟨_,rfl,?_⟩;replace A0:=bB A0 hb;replace A1:=bB A1 hb;replace HB:=hS HB hb;(try clear hb);(try clear hb2);(try clear hk);(try clear hi);obtain ⟨O8,O9,P0,P1,P2,P3,P4,P5,P6,P7,P8,P9,Q0,Q1,Q2,Q3⟩:=cf8 A0;obtain ⟨Q4,Q5,Q6,Q7,Q8,Q9,R0,R1,R2,R3,R4,R5,R6,R7,R8,R9⟩:=cf8 A1) | (refine goK 15 (some 15) rfl Try.func15 #[.agg #[.int .i64 a0_4,.string a0_5,.int .i64 a0_6,.slice A0_7 l0_7.length c0_7],.agg #[.int .i64 a1_4,.string a1_5,.int .i64 a1_6,.slice A1_7 l1_7.length c1_7]] ?_;(with_reducible refine (laws_eqTerm.calls k a0_4 a0_5 a0_6 _ _ l0_7 a1_4 a1_5 a1_6 _ _ l1_7 false _ ?side1 ?side2 ?side3 ?side4 A5.out).mono ?_);(case side1=>exact cB B0 HB);(case side2=>exact B1.out);(case side3=>exact cB B2 HB);(case side4=>exact B3.out);rintro e w24 ⟨rfl,hb⟩;refine ⟨_,rfl,?_⟩;replace A0:=bB A0 hb;replace A1:=bB A1 hb;replace HB:=hS HB hb;(try clear hb);(try clear hb2);(try clear hk);(try clear hi)))
 go_ret
 exact ⟨laws_eqBinding.a0,hV HB⟩
/-! ### laws_eqBindingS: function 39 -/
theorem laws_eqBindingS.a0 {P_:Prop} (h_:P_:=by rintro w' ⟨s0,s1,s2,s3,s4,s5,s6,s7,s8,s9,s10,s11,s12,s13,s14,s15⟩;go_simp;with_reducible rfl):P_:=h_
theorem laws_eqBindingS.a1 {P_:Prop} (h_:P_:=by first | rfl | (simp [errW_none,errW_some] <;> rfl) | (simp [*,errW_none,errW_some] <;> rfl)):P_:=h_
def laws_eqBindingS.l0:Nat→List (S73)→List (S73)→Int→Option (Bool)
 | 0,_,_,_=>none
 | k + 1,x0,x1,x5=>if x5 < (x0.length:Int) then (if 0≤x5 then (if x5 < (x1.length:Int) then ((laws_eqBinding.f k ((rd_T73 x0 x5).f0.f0) ((rd_T73 x0 x5).f0.f1) ((rd_T73 x0 x5).f0.f2) ((rd_T73 x0 x5).f0.f3) ((rd_T73 x0 x5).f1.f0) ((rd_T73 x0 x5).f1.f1) ((rd_T73 x0 x5).f1.f2) ((rd_T73 x0 x5).f1.f3) ((rd_T73 x1 x5).f0.f0) ((rd_T73 x1 x5).f0.f1) ((rd_T73 x1 x5).f0.f2) ((rd_T73 x1 x5).f0.f3) ((rd_T73 x1 x5).f1.f0) ((rd_T73 x1 x5).f1.f1) ((rd_T73 x1 x5).f1.f2) ((rd_T73 x1 x5).f1.f3)).bind fun t738=>(if t738=true then (laws_eqBindingS.l0 k x0 x1 (wrap64 (x5 + 1))) else (some false))) else (none)) else (none)) else (some true)
def laws_eqBindingS.f (k:Nat) (l0:List (S73)) (l1:List (S73)):Option (Bool):=if (l0.length:Int)=(l1.length:Int) then (laws_eqBindingS.l0 k l0 l1 0) else (some false)
def laws_eqBindingS.T6:Bool × List (List Nat × List Nat):=(true,[([],[]),([],[]),([0,1],[0,1]),([2],[2]),([],[]),([],[]),([4,5],[4,5]),([6],[6]),([3,7],[3,7]),([8],[8])])
def laws_eqBindingS.B6:List Nat:=[0,0,3,7,0,0,48,112,255,511]
theorem laws_eqBindingS.tab6:rtab .any (opsOf Try.f39 6)=laws_eqBindingS.T6:=by kernel_rfl
theorem laws_eqBindingS.bits6:waitsOk laws_eqBindingS.T6.2 laws_eqBindingS.B6=true:=by kernel_rfl
set_option maxHeartbeats 8000000 in
set_option maxRecDepth 100000 in
theorem laws_eqBindingS.calls (k:Nat) (A0:Option Addr) (c0:Nat) (l0:List (S73)) (A1:Option Addr) (c1:Nat) (l1:List (S73)) (r:Bool) (w:World) (hr0:Kd.C k73 w A0 l0.length l0) (hc0:l0.length≤c0) (hr1:Kd.C k73 w A1 l1.length l1) (hc1:l1.length≤c1) (h:laws_eqBindingS.f k l0 l1=some r) :
  Calls Try.prog 39 #[.slice A0 l0.length c0,.slice A1 l1.length c1] w fun e w'=>e=.returned (.bool r)∧Below w.heap.size w w':=by
 have hu73:=Try.underlying73
 have G1:=Aside0.mk hr0
 have G6:=Aside0.mk hc0
 clear hr0 hc0
 have G2:=Aside0.mk hr1
 have G7:=Aside0.mk hc1
 clear hr1 hc1
 have HB:=Aside0.mk (Below.refl w.heap.size w)
 have H:(if (l0.length:Int)=(l1.length:Int) then (laws_eqBindingS.l0 k l0 l1 0) else (some false))=some r:=h
 clear h
 by_cases c3:(l0.length:Int)=(l1.length:Int)
 rotate_left
 ·rw [if_neg c3] at H
  have F8:((l0.length:Int) == (l1.length:Int))=false:=beq_eq_false_iff_ne.mpr c3
  have F9:((l0.length:Int) != (l1.length:Int))=true:=bne_iff_ne.mpr c3
  have G0:(l0.length == l1.length)=false:=by first | simpa using c3 | (simp at c3 ⊢;omega)
  obtain rfl:=Option.some.inj H
  go_enter Try.func39,Try.ntmps39
  go_wp2
  go_ret
  exact ⟨laws_eqBindingS.a1,hV HB⟩

 rw [if_pos c3] at H
 have F8:((l0.length:Int) == (l1.length:Int))=true:=beq_iff_eq.mpr c3
 have F9:((l0.length:Int) != (l1.length:Int))=false:=bne_eq_false_iff_eq.mpr c3
 have G0:(l0.length == l1.length)=true:=by first | simpa using c3 | (simp at c3 ⊢;omega)
 clear c3
 have H':=Aside0.mk H
 clear H
 go_enter Try.func39,Try.ntmps39
 go_wp2
 go_loopg [5] k (fun kq v5 w'=> ∃ (x5_1:Int),v5=.int .i64 x5_1∧Aside0 (laws_eqBindingS.l0 kq l0 l1 x5_1=some r)∧Aside0 (kq≤k)∧Aside0 (Below w.heap.size w w'))
 case atStart=>exact ⟨(0),(by first | rfl | (simp;done) | (simp [*];done)),H',⟨Nat.le_refl _⟩,⟨hV HB⟩⟩
 clear H'
 try clear c1
 try clear c3
 try clear F8
 try clear F9
 try clear G0
 obtain ⟨x5_1,rfl,HA,HK1,HB⟩:=hrel
 cases gk with
 | zero=>exact absurd HA.out (by simp [laws_eqBindingS.l0])
 | succ k1=>
  have H:=HA.out
  clear HA
  simp only [laws_eqBindingS.l0] at H
  by_cases c4:x5_1 < (l0.length:Int)
  rotate_left
  ·rw [if_neg c4] at H
   have G3:=decide_eq_false c4
   clear c4
   obtain rfl:=Option.some.inj H
   go_wp2
   go_ret
   exact ⟨laws_eqBindingS.a1,hV HB⟩
  rw [if_pos c4] at H
  have G3:=decide_eq_true c4
  clear c4
  by_cases c5:0≤x5_1
  rotate_left
  ·rw [if_neg c5] at H
   exact absurd H (by simp)
  rw [if_pos c5] at H
  have G4:=decide_eq_true c5
  clear c5
  by_cases c6:x5_1 < (l1.length:Int)
  rotate_left
  ·rw [if_neg c6] at H
   exact absurd H (by simp)
  rw [if_pos c6] at H
  have G5:=decide_eq_true c6
  clear c6
  replace H:=Option.bind_eq_some_iff.mp H
  obtain ⟨t738,A70,H⟩:=H
  replace H:(if t738=true then (laws_eqBindingS.l0 k1 l0 l1 (wrap64 (x5_1 + 1))) else (some false))=some r:=H
  have A7:=Aside0.mk A70
  clear A70
  by_cases c8:t738=true
  ·subst c8
   rw [if_pos rfl] at H
   have H':=Aside0.mk H
   clear H
   try go_wp2
   replace HB:=Aside0.mk (below_drew1 HB.out)
   have F0:0≤(x5_1:Int):=dT
   have F1:x5_1 < (l0.length:Int):=dT
   obtain ⟨A2,A736_3,c736_3,A736_7,c736_7,e736,A4,A5,A6,A8,A9,B0,B1,B2,D8,D9,E0,E1⟩:=at_T73 G1.out x5_1 F0 F1
   have B3:=B2
   have B4:=B1
   have B5:=B0
   have B7:=A9
   have B8:=A8
   have B9:=A6
   have C0:=A5
   have C1:=A4
   cases e736
   replace A4:=xc HB A4
   replace A5:=xc HB A5
   replace A6:=xc HB A6
   replace A8:=xc HB A8
   replace A9:=xc HB A9
   replace B0:=xc HB B0
   replace B1:=xc HB B1
   replace B2:=xc HB B2
   have E2:=Aside0.mk D9
   have F4:=Aside0.mk D8
   clear D9 D8
   have E3:=Aside0.mk E1
   have F5:=Aside0.mk E0
   clear E1 E0
   replace F0:=eq_true F0
   replace F1:=eq_true F1
   have F2:0≤(x5_1:Int):=dT
   have F3:x5_1 < (l1.length:Int):=dT
   obtain ⟨A3,A737_3,c737_3,A737_7,c737_7,e737,C2,C3,C4,C5,C6,C7,C8,C9,E4,E5,E6,E7⟩:=at_T73 G2.out x5_1 F2 F3
   have D0:=C9
   have D1:=C8
   have D2:=C7
   have D3:=C6
   have D4:=C5
   have D5:=C4
   have D6:=C3
   have D7:=C2
   cases e737
   replace C2:=xc HB C2
   replace C3:=xc HB C3
   replace C4:=xc HB C4
   replace C5:=xc HB C5
   replace C6:=xc HB C6
   replace C7:=xc HB C7
   replace C8:=xc HB C8
   replace C9:=xc HB C9
   have E8:=Aside0.mk E5
   have F6:=Aside0.mk E4
   clear E5 E4
   have E9:=Aside0.mk E7
   have F7:=Aside0.mk E6
   clear E7 E6
   replace F2:=eq_true F2
   replace F3:=eq_true F3
   refine start_ (n:=10) (S:=fun w'=>w'.cell? (A2.add ((x5_1).toNat * 8))=some (.int .i64 ((rd_T73 l0 x5_1).f0.f0))∧w'.cell? ⟨(A2.add ((x5_1).toNat * 8)).block,(A2.add ((x5_1).toNat * 8)).off + 1,none⟩=some (.string ((rd_T73 l0 x5_1).f0.f1))∧w'.cell? ⟨(A2.add ((x5_1).toNat * 8)).block,(A2.add ((x5_1).toNat * 8)).off + 2,none⟩=some (.int .i64 ((rd_T73 l0 x5_1).f0.f2))∧w'.cell? ⟨(A2.add ((x5_1).toNat * 8)).block,(A2.add ((x5_1).toNat * 8)).off + 3,none⟩=some (.slice A736_3 ((rd_T73 l0 x5_1).f0.f3).length c736_3)∧w'.cell? ⟨(A2.add ((x5_1).toNat * 8)).block,(A2.add ((x5_1).toNat * 8)).off + 4,none⟩=some (.int .i64 ((rd_T73 l0 x5_1).f1.f0))∧w'.cell? ⟨(A2.add ((x5_1).toNat * 8)).block,(A2.add ((x5_1).toNat * 8)).off + 5,none⟩=some (.string ((rd_T73 l0 x5_1).f1.f1))∧w'.cell? ⟨(A2.add ((x5_1).toNat * 8)).block,(A2.add ((x5_1).toNat * 8)).off + 6,none⟩=some (.int .i64 ((rd_T73 l0 x5_1).f1.f2))∧w'.cell? ⟨(A2.add ((x5_1).toNat * 8)).block,(A2.add ((x5_1).toNat * 8)).off + 7,none⟩=some (.slice A736_7 ((rd_T73 l0 x5_1).f1.f3).length c736_7)∧w'.cell? (A3.add ((x5_1).toNat * 8))=some (.int .i64 ((rd_T73 l1 x5_1).f0.f0))∧w'.cell? ⟨(A3.add ((x5_1).toNat * 8)).block,(A3.add ((x5_1).toNat * 8)).off + 1,none⟩=some (.string ((rd_T73 l1 x5_1).f0.f1))∧w'.cell? ⟨(A3.add ((x5_1).toNat * 8)).block,(A3.add ((x5_1).toNat * 8)).off + 2,none⟩=some (.int .i64 ((rd_T73 l1 x5_1).f0.f2))∧w'.cell? ⟨(A3.add ((x5_1).toNat * 8)).block,(A3.add ((x5_1).toNat * 8)).off + 3,none⟩=some (.slice A737_3 ((rd_T73 l1 x5_1).f0.f3).length c737_3)∧w'.cell? ⟨(A3.add ((x5_1).toNat * 8)).block,(A3.add ((x5_1).toNat * 8)).off + 4,none⟩=some (.int .i64 ((rd_T73 l1 x5_1).f1.f0))∧w'.cell? ⟨(A3.add ((x5_1).toNat * 8)).block,(A3.add ((x5_1).toNat * 8)).off + 5,none⟩=some (.string ((rd_T73 l1 x5_1).f1.f1))∧w'.cell? ⟨(A3.add ((x5_1).toNat * 8)).block,(A3.add ((x5_1).toNat * 8)).off + 6,none⟩=some (.int .i64 ((rd_T73 l1 x5_1).f1.f2))∧w'.cell? ⟨(A3.add ((x5_1).toNat * 8)).block,(A3.add ((x5_1).toNat * 8)).off + 7,none⟩=some (.slice A737_7 ((rd_T73 l1 x5_1).f1.f3).length c737_7)) (ds:=[]) #[false,false,false,false,false,false,false,false,false,false] (by kernel_rfl) rfl rfl ⟨((HB.out.cell (World.block_lt_of_cell? w _ C1)).trans C1),((HB.out.cell (World.block_lt_of_cell? w _ C0)).trans C0),((HB.out.cell (World.block_lt_of_cell? w _ B9)).trans B9),((HB.out.cell (World.block_lt_of_cell? w _ B8)).trans B8),((HB.out.cell (World.block_lt_of_cell? w _ B7)).trans B7),((HB.out.cell (World.block_lt_of_cell? w _ B5)).trans B5),((HB.out.cell (World.block_lt_of_cell? w _ B4)).trans B4),((HB.out.cell (World.block_lt_of_cell? w _ B3)).trans B3),((HB.out.cell (World.block_lt_of_cell? w _ D7)).trans D7),((HB.out.cell (World.block_lt_of_cell? w _ D6)).trans D6),((HB.out.cell (World.block_lt_of_cell? w _ D5)).trans D5),((HB.out.cell (World.block_lt_of_cell? w _ D4)).trans D4),((HB.out.cell (World.block_lt_of_cell? w _ D3)).trans D3),((HB.out.cell (World.block_lt_of_cell? w _ D2)).trans D2),((HB.out.cell (World.block_lt_of_cell? w _ D1)).trans D1),((HB.out.cell (World.block_lt_of_cell? w _ D0)).trans D0)⟩ (fun hHeld=> ?_);refine with_tabW laws_eqBindingS.tab6 laws_eqBindingS.bits6 (fun HT_ HW_=> ?_)
   generalize wr.drew=w9 at HB E2 E3 E8 E9 A4 A5 A6 A8 A9 B0 B1 B2 C2 C3 C4 C5 C6 C7 C8 C9 hHeld ⊢
   refine pureS 0 17 HT_ rfl rfl ?_
   refine pureS 1 18 HT_ rfl rfl ?_
   refine pureS 2 19 HT_ rfl rfl ?_
   refine pureS 4 21 HT_ rfl rfl ?_
   refine pureS 5 22 HT_ rfl rfl ?_
   refine pureS 6 23 HT_ rfl rfl ?_
   refine takeS 3 20 HT_ HW_ rfl rfl hHeld ?_ laws_eqBindingS.a0
   refine takeS 7 24 HT_ HW_ rfl rfl hHeld ?_ laws_eqBindingS.a0
   refine one_ (i:=8) (N:=some 25) #[true,true,true,true,true,true,true,true,true,false] rfl rfl (one_of HT_.out (by kernel_rfl)) (by decide) (fun K hK=> ?_)
   refine goes_ Try.func62 (by kernel_rfl) rfl #[.agg #[.int .i64 ((rd_T73 l0 x5_1).f0.f0),.string ((rd_T73 l0 x5_1).f0.f1),.int .i64 ((rd_T73 l0 x5_1).f0.f2),.slice A736_3 ((rd_T73 l0 x5_1).f0.f3).length c736_3,.int .i64 ((rd_T73 l0 x5_1).f1.f0),.string ((rd_T73 l0 x5_1).f1.f1),.int .i64 ((rd_T73 l0 x5_1).f1.f2),.slice A736_7 ((rd_T73 l0 x5_1).f1.f3).length c736_7],.agg #[.int .i64 ((rd_T73 l1 x5_1).f0.f0),.string ((rd_T73 l1 x5_1).f0.f1),.int .i64 ((rd_T73 l1 x5_1).f0.f2),.slice A737_3 ((rd_T73 l1 x5_1).f0.f3).length c737_3,.int .i64 ((rd_T73 l1 x5_1).f1.f0),.string ((rd_T73 l1 x5_1).f1.f1),.int .i64 ((rd_T73 l1 x5_1).f1.f2),.slice A737_7 ((rd_T73 l1 x5_1).f1.f3).length c737_7]] (by rfl) rfl rfl (by (try simp only [List.map_toArray,List.map_cons,List.map_nil]);first | done | rfl | (simp only [List.length_drop,List.length_take];rfl)) ?_
   with_reducible refine (laws_eqBinding.calls k1 ((rd_T73 l0 x5_1).f0.f0) ((rd_T73 l0 x5_1).f0.f1) ((rd_T73 l0 x5_1).f0.f2) _ _ ((rd_T73 l0 x5_1).f0.f3) ((rd_T73 l0 x5_1).f1.f0) ((rd_T73 l0 x5_1).f1.f1) ((rd_T73 l0 x5_1).f1.f2) _ _ ((rd_T73 l0 x5_1).f1.f3) ((rd_T73 l1 x5_1).f0.f0) ((rd_T73 l1 x5_1).f0.f1) ((rd_T73 l1 x5_1).f0.f2) _ _ ((rd_T73 l1 x5_1).f0.f3) ((rd_T73 l1 x5_1).f1.f0) ((rd_T73 l1 x5_1).f1.f1) ((rd_T73 l1 x5_1).f1.f2) _ _ ((rd_T73 l1 x5_1).f1.f3) true _ ?side1 ?side2 ?side3 ?side4 ?side5 ?side6 ?side7 ?side8 A7.out).mono ?_
   (case side1=>exact cB E2 HB)
   (case side2=>exact F4.out)
   (case side3=>exact cB E3 HB)
   (case side4=>exact F5.out)
   (case side5=>exact cB E8 HB)
   (case side6=>exact F6.out)
   (case side7=>exact cB E9 HB)
   (case side8=>exact F7.out)
   rintro e w10 ⟨rfl,hb⟩
   refine ⟨_,rfl,?_⟩
   replace HB:=hS HB hb
   (try clear hb)
   (try clear hb2)
   (try clear hk)
   (try clear hi)
   refine hK.out _ _ ⟨((HB.out.cell (World.block_lt_of_cell? w _ C1)).trans C1),((HB.out.cell (World.block_lt_of_cell? w _ C0)).trans C0),((HB.out.cell (World.block_lt_of_cell? w _ B9)).trans B9),((HB.out.cell (World.block_lt_of_cell? w _ B8)).trans B8),((HB.out.cell (World.block_lt_of_cell? w _ B7)).trans B7),((HB.out.cell (World.block_lt_of_cell? w _ B5)).trans B5),((HB.out.cell (World.block_lt_of_cell? w _ B4)).trans B4),((HB.out.cell (World.block_lt_of_cell? w _ B3)).trans B3),((HB.out.cell (World.block_lt_of_cell? w _ D7)).trans D7),((HB.out.cell (World.block_lt_of_cell? w _ D6)).trans D6),((HB.out.cell (World.block_lt_of_cell? w _ D5)).trans D5),((HB.out.cell (World.block_lt_of_cell? w _ D4)).trans D4),((HB.out.cell (World.block_lt_of_cell? w _ D3)).trans D3),((HB.out.cell (World.block_lt_of_cell? w _ D2)).trans D2),((HB.out.cell (World.block_lt_of_cell? w _ D1)).trans D1),((HB.out.cell (World.block_lt_of_cell? w _ D0)).trans D0)⟩ (fun hHeld=> ?_)
   clear hK K
   refine norm_ (a':=?_) ?_ ?_
   rotate_left
   ·show Act.put _ (some 25) _=_
    simp only [Act.put,List.setIfInBounds_toArray,List.set_cons_zero,List.set_cons_succ,i64_w,i32_w]
    rfl
   refine pureS 9 26 HT_ rfl rfl ?_
   refine done_ (done_of HT_.out (by kernel_rfl)) ?_
   try go_wp2
   go_roundg k1
   case measure=>have:=HK1.out;omega
   case rel=>exact ⟨(wrap64 (x5_1 + 1)),(by first | rfl | (simp;done) | (simp [*];done)),H',⟨by have:=HK1.out;omega⟩,⟨hV HB⟩⟩
  ·replace c8:=Bool.eq_false_iff.mpr c8
   subst c8
   rw [if_neg (show ¬ (false=true) by decide)] at H
   obtain rfl:=Option.some.inj H
   try go_wp2
   replace HB:=Aside0.mk (below_drew1 HB.out)
   have F0:0≤(x5_1:Int):=dT
   have F1:x5_1 < (l0.length:Int):=dT
   obtain ⟨A2,A736_3,c736_3,A736_7,c736_7,e736,A4,A5,A6,A8,A9,B0,B1,B2,D8,D9,E0,E1⟩:=at_T73 G1.out x5_1 F0 F1
   have B3:=B2
   have B4:=B1
   have B5:=B0
   have B7:=A9
   have B8:=A8
   have B9:=A6
   have C0:=A5
   have C1:=A4
   cases e736
   replace A4:=xc HB A4
   replace A5:=xc HB A5
   replace A6:=xc HB A6
   replace A8:=xc HB A8
   replace A9:=xc HB A9
   replace B0:=xc HB B0
   replace B1:=xc HB B1
   replace B2:=xc HB B2
   have E2:=Aside0.mk D9
   have F4:=Aside0.mk D8
   clear D9 D8
   have E3:=Aside0.mk E1
   have F5:=Aside0.mk E0
   clear E1 E0
   replace F0:=eq_true F0
   replace F1:=eq_true F1
   have F2:0≤(x5_1:Int):=dT
   have F3:x5_1 < (l1.length:Int):=dT
   obtain ⟨A3,A737_3,c737_3,A737_7,c737_7,e737,C2,C3,C4,C5,C6,C7,C8,C9,E4,E5,E6,E7⟩:=at_T73 G2.out x5_1 F2 F3
   have D0:=C9
   have D1:=C8
   have D2:=C7
   have D3:=C6
   have D4:=C5
   have D5:=C4
   have D6:=C3
   have D7:=C2
   cases e737
   replace C2:=xc HB C2
   replace C3:=xc HB C3
   replace C4:=xc HB C4
   replace C5:=xc HB C5
   replace C6:=xc HB C6
   replace C7:=xc HB C7
   replace C8:=xc HB C8
   replace C9:=xc HB C9
   have E8:=Aside0.mk E5
   have F6:=Aside0.mk E4
   clear E5 E4
   have E9:=Aside0.mk E7
   have F7:=Aside0.mk E6
   clear E7 E6
   replace F2:=eq_true F2
   replace F3:=eq_true F3
   refine start_ (n:=10) (S:=fun w'=>w'.cell? (A2.add ((x5_1).toNat * 8))=some (.int .i64 ((rd_T73 l0 x5_1).f0.f0))∧w'.cell? ⟨(A2.add ((x5_1).toNat * 8)).block,(A2.add ((x5_1).toNat * 8)).off + 1,none⟩=some (.string ((rd_T73 l0 x5_1).f0.f1))∧w'.cell? ⟨(A2.add ((x5_1).toNat * 8)).block,(A2.add ((x5_1).toNat * 8)).off + 2,none⟩=some (.int .i64 ((rd_T73 l0 x5_1).f0.f2))∧w'.cell? ⟨(A2.add ((x5_1).toNat * 8)).block,(A2.add ((x5_1).toNat * 8)).off + 3,none⟩=some (.slice A736_3 ((rd_T73 l0 x5_1).f0.f3).length c736_3)∧w'.cell? ⟨(A2.add ((x5_1).toNat * 8)).block,(A2.add ((x5_1).toNat * 8)).off + 4,none⟩=some (.int .i64 ((rd_T73 l0 x5_1).f1.f0))∧w'.cell? ⟨(A2.add ((x5_1).toNat * 8)).block,(A2.add ((x5_1).toNat * 8)).off + 5,none⟩=some (.string ((rd_T73 l0 x5_1).f1.f1))∧w'.cell? ⟨(A2.add ((x5_1).toNat * 8)).block,(A2.add ((x5_1).toNat * 8)).off + 6,none⟩=some (.int .i64 ((rd_T73 l0 x5_1).f1.f2))∧w'.cell? ⟨(A2.add ((x5_1).toNat * 8)).block,(A2.add ((x5_1).toNat * 8)).off + 7,none⟩=some (.slice A736_7 ((rd_T73 l0 x5_1).f1.f3).length c736_7)∧w'.cell? (A3.add ((x5_1).toNat * 8))=some (.int .i64 ((rd_T73 l1 x5_1).f0.f0))∧w'.cell? ⟨(A3.add ((x5_1).toNat * 8)).block,(A3.add ((x5_1).toNat * 8)).off + 1,none⟩=some (.string ((rd_T73 l1 x5_1).f0.f1))∧w'.cell? ⟨(A3.add ((x5_1).toNat * 8)).block,(A3.add ((x5_1).toNat * 8)).off + 2,none⟩=some (.int .i64 ((rd_T73 l1 x5_1).f0.f2))∧w'.cell? ⟨(A3.add ((x5_1).toNat * 8)).block,(A3.add ((x5_1).toNat * 8)).off + 3,none⟩=some (.slice A737_3 ((rd_T73 l1 x5_1).f0.f3).length c737_3)∧w'.cell? ⟨(A3.add ((x5_1).toNat * 8)).block,(A3.add ((x5_1).toNat * 8)).off + 4,none⟩=some (.int .i64 ((rd_T73 l1 x5_1).f1.f0))∧w'.cell? ⟨(A3.add ((x5_1).toNat * 8)).block,(A3.add ((x5_1).toNat * 8)).off + 5,none⟩=some (.string ((rd_T73 l1 x5_1).f1.f1))∧w'.cell? ⟨(A3.add ((x5_1).toNat * 8)).block,(A3.add ((x5_1).toNat * 8)).off + 6,none⟩=some (.int .i64 ((rd_T73 l1 x5_1).f1.f2))∧w'.cell? ⟨(A3.add ((x5_1).toNat * 8)).block,(A3.add ((x5_1).toNat * 8)).off + 7,none⟩=some (.slice A737_7 ((rd_T73 l1 x5_1).f1.f3).length c737_7)) (ds:=[]) #[false,false,false,false,false,false,false,false,false,false] (by kernel_rfl) rfl rfl ⟨((HB.out.cell (World.block_lt_of_cell? w _ C1)).trans C1),((HB.out.cell (World.block_lt_of_cell? w _ C0)).trans C0),((HB.out.cell (World.block_lt_of_cell? w _ B9)).trans B9),((HB.out.cell (World.block_lt_of_cell? w _ B8)).trans B8),((HB.out.cell (World.block_lt_of_cell? w _ B7)).trans B7),((HB.out.cell (World.block_lt_of_cell? w _ B5)).trans B5),((HB.out.cell (World.block_lt_of_cell? w _ B4)).trans B4),((HB.out.cell (World.block_lt_of_cell? w _ B3)).trans B3),((HB.out.cell (World.block_lt_of_cell? w _ D7)).trans D7),((HB.out.cell (World.block_lt_of_cell? w _ D6)).trans D6),((HB.out.cell (World.block_lt_of_cell? w _ D5)).trans D5),((HB.out.cell (World.block_lt_of_cell? w _ D4)).trans D4),((HB.out.cell (World.block_lt_of_cell? w _ D3)).trans D3),((HB.out.cell (World.block_lt_of_cell? w _ D2)).trans D2),((HB.out.cell (World.block_lt_of_cell? w _ D1)).trans D1),((HB.out.cell (World.block_lt_of_cell? w _ D0)).trans D0)⟩ (fun hHeld=> ?_);refine with_tabW laws_eqBindingS.tab6 laws_eqBindingS.bits6 (fun HT_ HW_=> ?_)
   generalize wr.drew=w11 at HB E2 E3 E8 E9 A4 A5 A6 A8 A9 B0 B1 B2 C2 C3 C4 C5 C6 C7 C8 C9 hHeld ⊢
   refine pureS 0 17 HT_ rfl rfl ?_
   refine pureS 1 18 HT_ rfl rfl ?_
   refine pureS 2 19 HT_ rfl rfl ?_
   refine pureS 4 21 HT_ rfl rfl ?_
   refine pureS 5 22 HT_ rfl rfl ?_
   refine pureS 6 23 HT_ rfl rfl ?_
   refine takeS 3 20 HT_ HW_ rfl rfl hHeld ?_ laws_eqBindingS.a0
   refine takeS 7 24 HT_ HW_ rfl rfl hHeld ?_ laws_eqBindingS.a0
   refine one_ (i:=8) (N:=some 25) #[true,true,true,true,true,true,true,true,true,false] rfl rfl (one_of HT_.out (by kernel_rfl)) (by decide) (fun K hK=> ?_)
   refine goes_ Try.func62 (by kernel_rfl) rfl #[.agg #[.int .i64 ((rd_T73 l0 x5_1).f0.f0),.string ((rd_T73 l0 x5_1).f0.f1),.int .i64 ((rd_T73 l0 x5_1).f0.f2),.slice A736_3 ((rd_T73 l0 x5_1).f0.f3).length c736_3,.int .i64 ((rd_T73 l0 x5_1).f1.f0),.string ((rd_T73 l0 x5_1).f1.f1),.int .i64 ((rd_T73 l0 x5_1).f1.f2),.slice A736_7 ((rd_T73 l0 x5_1).f1.f3).length c736_7],.agg #[.int .i64 ((rd_T73 l1 x5_1).f0.f0),.string ((rd_T73 l1 x5_1).f0.f1),.int .i64 ((rd_T73 l1 x5_1).f0.f2),.slice A737_3 ((rd_T73 l1 x5_1).f0.f3).length c737_3,.int .i64 ((rd_T73 l1 x5_1).f1.f0),.string ((rd_T73 l1 x5_1).f1.f1),.int .i64 ((rd_T73 l1 x5_1).f1.f2),.slice A737_7 ((rd_T73 l1 x5_1).f1.f3).length c737_7]] (by rfl) rfl rfl (by (try simp only [List.map_toArray,List.map_cons,List.map_nil]);first | done | rfl | (simp only [List.length_drop,List.length_take];rfl)) ?_
   with_reducible refine (laws_eqBinding.calls k1 ((rd_T73 l0 x5_1).f0.f0) ((rd_T73 l0 x5_1).f0.f1) ((rd_T73 l0 x5_1).f0.f2) _ _ ((rd_T73 l0 x5_1).f0.f3) ((rd_T73 l0 x5_1).f1.f0) ((rd_T73 l0 x5_1).f1.f1) ((rd_T73 l0 x5_1).f1.f2) _ _ ((rd_T73 l0 x5_1).f1.f3) ((rd_T73 l1 x5_1).f0.f0) ((rd_T73 l1 x5_1).f0.f1) ((rd_T73 l1 x5_1).f0.f2) _ _ ((rd_T73 l1 x5_1).f0.f3) ((rd_T73 l1 x5_1).f1.f0) ((rd_T73 l1 x5_1).f1.f1) ((rd_T73 l1 x5_1).f1.f2) _ _ ((rd_T73 l1 x5_1).f1.f3) false _ ?side1 ?side2 ?side3 ?side4 ?side5 ?side6 ?side7 ?side8 A7.out).mono ?_
   (case side1=>exact cB E2 HB)
   (case side2=>exact F4.out)
   (case side3=>exact cB E3 HB)
   (case side4=>exact F5.out)
   (case side5=>exact cB E8 HB)
   (case side6=>exact F6.out)
   (case side7=>exact cB E9 HB)
   (case side8=>exact F7.out)
   rintro e w12 ⟨rfl,hb⟩
   refine ⟨_,rfl,?_⟩
   replace HB:=hS HB hb
   (try clear hb)
   (try clear hb2)
   (try clear hk)
   (try clear hi)
   refine hK.out _ _ ⟨((HB.out.cell (World.block_lt_of_cell? w _ C1)).trans C1),((HB.out.cell (World.block_lt_of_cell? w _ C0)).trans C0),((HB.out.cell (World.block_lt_of_cell? w _ B9)).trans B9),((HB.out.cell (World.block_lt_of_cell? w _ B8)).trans B8),((HB.out.cell (World.block_lt_of_cell? w _ B7)).trans B7),((HB.out.cell (World.block_lt_of_cell? w _ B5)).trans B5),((HB.out.cell (World.block_lt_of_cell? w _ B4)).trans B4),((HB.out.cell (World.block_lt_of_cell? w _ B3)).trans B3),((HB.out.cell (World.block_lt_of_cell? w _ D7)).trans D7),((HB.out.cell (World.block_lt_of_cell? w _ D6)).trans D6),((HB.out.cell (World.block_lt_of_cell? w _ D5)).trans D5),((HB.out.cell (World.block_lt_of_cell? w _ D4)).trans D4),((HB.out.cell (World.block_lt_of_cell? w _ D3)).trans D3),((HB.out.cell (World.block_lt_of_cell? w _ D2)).trans D2),((HB.out.cell (World.block_lt_of_cell? w _ D1)).trans D1),((HB.out.cell (World.block_lt_of_cell? w _ D0)).trans D0)⟩ (fun hHeld=> ?_)
   clear hK K
   refine norm_ (a':=?_) ?_ ?_
   rotate_left
   ·show Act.put _ (some 25) _=_
    simp only [Act.put,List.setIfInBounds_toArray,List.set_cons_zero,List.set_cons_succ,i64_w,i32_w]
    rfl
   refine pureS 9 26 HT_ rfl rfl ?_
   refine done_ (done_of HT_.out (by kernel_rfl)) ?_
   try go_wp2
   go_ret
   exact ⟨laws_eqBindingS.a1,hV HB⟩
end Go.Proofs.Ytcofpnddfmlafaa.Q

