/- Functions of the program as plain Lean functions,and that the calls come to what they say. -/
import Derived.Test.YtcofpnddfmlafaaZQx0hd86e5
import Derived.Test.YtcofpnddfmlafaaZQx2h610b2
import Derived.Test.YtcofpnddfmlafaaZFstrCompareh44f23
import Derived.Test.YtcofpnddfmlafaaZShorth79069
namespace Go.Proofs.Ytcofpnddfmlafaa.Q
open Go.RowKit Go.Proofs.YtcofpnddfmlafaaW.PrintWords Go.Proofs.YtcofpnddfmlafaaW.PrintLast Go.Proofs.YtcofpnddfmlafaaW.PrintMore
attribute [local go_sem] max2_int min2_int max_two min_two max_three min_three max_four min_four   -- for this text's walks alone
set_option linter.unusedVariables false
set_option linter.unusedSimpArgs false

theorem impl_CompareTerms.a0 {P_:Prop} (h_:P_:=by (try simp only [List.map_toArray,List.map_cons,List.map_nil]);first | done | rfl | (simp only [List.length_drop,List.length_take];rfl)):P_:=h_
theorem impl_CompareTerms.a1 {P_:Prop} (h_:P_:=by first | (rw [add_block];exact hn132_0) | (show (Addr.add _ _).block≠_;rw [add_block];exact hn132_0) | exact hn132_0):P_:=h_
theorem impl_CompareTerms.a2 {P_:Prop} (h_:P_:=by first | (rw [add_block];exact hn132_1) | (show (Addr.add _ _).block≠_;rw [add_block];exact hn132_1) | exact hn132_1):P_:=h_
theorem impl_CompareTerms.a3 {P_:Prop} (h_:P_:=by first | (rw [add_block];exact hn132_2) | (show (Addr.add _ _).block≠_;rw [add_block];exact hn132_2) | exact hn132_2):P_:=h_
theorem impl_CompareTerms.a4 {P_:Prop} (h_:P_:=by first | (rw [add_block];exact hn132_3) | (show (Addr.add _ _).block≠_;rw [add_block];exact hn132_3) | exact hn132_3):P_:=h_
theorem impl_CompareTerms.a5 {P_:Prop} (h_:P_:=by rintro w' ⟨s0,s1,s2,s3,s4,s5,s6,s7⟩;go_simp;with_reducible rfl):P_:=h_
theorem impl_CompareTerms.a6 {P_:Prop} (h_:P_:=by have:=World.block_lt_of_cell? _ _ B0;first | rwa [add_block] at this | exact this):P_:=h_
theorem impl_CompareTerms.a7 {P_:Prop} (h_:P_:=by first | rfl | (simp [errW_none,errW_some] <;> rfl) | (simp [*,errW_none,errW_some] <;> rfl)):P_:=h_
mutual
def impl_CompareTerms.f:Nat→Int→ByteArray→Int→List (S29)→Int→ByteArray→Int→List (S29)→Option (Int)
 | 0,_,_,_,_,_,_,_,_=>none
 | k + 1,a0_0,a0_1,a0_2,l0_3,a1_0,a1_1,a1_2,l1_3=>(cmp_Compare_int.f a0_0 a1_0).bind fun t137=>((strings_Compare.f a0_1 a1_1).bind fun t138=>((cmp_Compare_int.f a0_2 a1_2).bind fun t139=>((cmp_Or_int.f k (([t137,t138,t139]:List Int))).bind fun t143=>(if t143=0 then ((impl_Term_43.f k l0_3 l1_3 0).bind fun t144=>(some t144)) else (some t143)))))
def impl_Term_43.l0:Nat→List (S29)→List (S29)→List (S29)→Int→Int→Option (Int)
 | 0,_,_,_,_,_=>none
 | k + 1,x0,x1,x11,x12,x13=>if x13 < x12 then (if 0≤x13 then (if x13 < (x11.length:Int) then (if x13≥(x1.length:Int) then (some 1) else (if x13 < (x1.length:Int) then ((impl_CompareTerms.f k ((rd_T29 x11 x13).f0) ((rd_T29 x11 x13).f1) ((rd_T29 x11 x13).f2) ((rd_T29 x11 x13).f3) ((rd_T29 x1 x13).f0) ((rd_T29 x1 x13).f1) ((rd_T29 x1 x13).f2) ((rd_T29 x1 x13).f3)).bind fun t134=>(if t134=0 then (impl_Term_43.l0 k x0 x1 x11 x12 (wrap64 (x13 + 1))) else (some t134))) else (none))) else (none)) else (none)) else (if (x0.length:Int) < (x1.length:Int) then (some (-1)) else (some 0))
def impl_Term_43.f:Nat→List (S29)→List (S29)→Int→Option (Int)
 | 0,_,_,_=>none
 | k + 1,l0,l1,a2=>impl_Term_43.l0 k l0 l1 l0 (l0.length:Int) 0
end
def impl_CompareTerms.Said (k:Nat):Prop:=∀ (a0_0:Int) (a0_1:ByteArray) (a0_2:Int) (A0_3:Option Addr) (c0_3:Nat) (l0_3:List (S29)) (a1_0:Int) (a1_1:ByteArray) (a1_2:Int) (A1_3:Option Addr) (c1_3:Nat) (l1_3:List (S29)) (r:Int) (w:World) (hr0_3:Kd.C k29 w A0_3 l0_3.length l0_3) (hc0_3:l0_3.length≤c0_3) (hr1_3:Kd.C k29 w A1_3 l1_3.length l1_3) (hc1_3:l1_3.length≤c1_3) (_:impl_CompareTerms.f k a0_0 a0_1 a0_2 l0_3 a1_0 a1_1 a1_2 l1_3=some r),
  Calls Try.prog 14 #[.agg #[.int .i64 a0_0,.string a0_1,.int .i64 a0_2,.slice A0_3 l0_3.length c0_3],.agg #[.int .i64 a1_0,.string a1_1,.int .i64 a1_2,.slice A1_3 l1_3.length c1_3]] w fun e w'=>e=.returned (.int .i64 r)∧Below w.heap.size w w'

def impl_Term_43.Said (k:Nat):Prop:=∀ (A0:Option Addr) (c0:Nat) (l0:List (S29)) (A1:Option Addr) (c1:Nat) (l1:List (S29)) (a2:Int) (r:Int) (w:World) (hr0:Kd.C k29 w A0 l0.length l0) (hc0:l0.length≤c0) (hr1:Kd.C k29 w A1 l1.length l1) (hc1:l1.length≤c1) (_:impl_Term_43.f k l0 l1 a2=some r),
  Calls Try.prog 43 #[.slice A0 l0.length c0,.slice A1 l1.length c1,.func (.func 14) #[] #[]] w fun e w'=>e=.returned (.int .i64 r)∧Below w.heap.size w w'

/-! ### impl_CompareTerms: function 14 -/
def impl_CompareTerms.T1:Bool × List (List Nat × List Nat):=(true,[([],[]),([0],[0]),([],[]),([2],[2]),([1,3],[1,3]),([],[]),([5],[5]),([],[]),([7],[7]),([6,8,4],[6,8]),([],[]),([10],[10]),([],[]),([12],[12]),([11,13,9],[11,13]),([4,9,14],[4,9,14]),([15,14],[15]),([16,16,0,1,2,3,4,5,6,7,8,9,10,11,12,13,14,15,16],[16])])
def impl_CompareTerms.B1:List Nat:=[0,1,0,4,15,0,32,0,128,511,0,1024,0,4096,16383,32767,65535,131071]
theorem impl_CompareTerms.tab1:rtab .any (opsOf Try.f14 1)=impl_CompareTerms.T1:=by kernel_rfl
theorem impl_CompareTerms.bits1:waitsOk impl_CompareTerms.T1.2 impl_CompareTerms.B1=true:=by kernel_rfl
set_option maxHeartbeats 8000000 in
set_option maxRecDepth 100000 in
theorem impl_CompareTerms.calls_ (k:Nat) (ih_14:∀ m,m < k→∀ (a0_0:Int) (a0_1:ByteArray) (a0_2:Int) (A0_3:Option Addr) (c0_3:Nat) (l0_3:List (S29)) (a1_0:Int) (a1_1:ByteArray) (a1_2:Int) (A1_3:Option Addr) (c1_3:Nat) (l1_3:List (S29)) (r:Int) (w:World) (hr0_3:Kd.C k29 w A0_3 l0_3.length l0_3) (hc0_3:l0_3.length≤c0_3) (hr1_3:Kd.C k29 w A1_3 l1_3.length l1_3) (hc1_3:l1_3.length≤c1_3) (_:impl_CompareTerms.f m a0_0 a0_1 a0_2 l0_3 a1_0 a1_1 a1_2 l1_3=some r),
  Calls Try.prog 14 #[.agg #[.int .i64 a0_0,.string a0_1,.int .i64 a0_2,.slice A0_3 l0_3.length c0_3],.agg #[.int .i64 a1_0,.string a1_1,.int .i64 a1_2,.slice A1_3 l1_3.length c1_3]] w fun e w'=>e=.returned (.int .i64 r)∧Below w.heap.size w w') (ih_43:∀ m,m < k→∀ (A0:Option Addr) (c0:Nat) (l0:List (S29)) (A1:Option Addr) (c1:Nat) (l1:List (S29)) (a2:Int) (r:Int) (w:World) (hr0:Kd.C k29 w A0 l0.length l0) (hc0:l0.length≤c0) (hr1:Kd.C k29 w A1 l1.length l1) (hc1:l1.length≤c1) (_:impl_Term_43.f m l0 l1 a2=some r),
  Calls Try.prog 43 #[.slice A0 l0.length c0,.slice A1 l1.length c1,.func (.func 14) #[] #[]] w fun e w'=>e=.returned (.int .i64 r)∧Below w.heap.size w w'):∀ (a0_0:Int) (a0_1:ByteArray) (a0_2:Int) (A0_3:Option Addr) (c0_3:Nat) (l0_3:List (S29)) (a1_0:Int) (a1_1:ByteArray) (a1_2:Int) (A1_3:Option Addr) (c1_3:Nat) (l1_3:List (S29)) (r:Int) (w:World) (hr0_3:Kd.C k29 w A0_3 l0_3.length l0_3) (hc0_3:l0_3.length≤c0_3) (hr1_3:Kd.C k29 w A1_3 l1_3.length l1_3) (hc1_3:l1_3.length≤c1_3) (h:impl_CompareTerms.f k a0_0 a0_1 a0_2 l0_3 a1_0 a1_1 a1_2 l1_3=some r),
  Calls Try.prog 14 #[.agg #[.int .i64 a0_0,.string a0_1,.int .i64 a0_2,.slice A0_3 l0_3.length c0_3],.agg #[.int .i64 a1_0,.string a1_1,.int .i64 a1_2,.slice A1_3 l1_3.length c1_3]] w fun e w'=>e=.returned (.int .i64 r)∧Below w.heap.size w w':=by
 intro a0_0 a0_1 a0_2 A0_3 c0_3 l0_3 a1_0 a1_1 a1_2 A1_3 c1_3 l1_3 r w hr0_3 hc0_3 hr1_3 hc1_3 h
 cases k with
 | zero=>exact absurd h (by simp [impl_CompareTerms.f])
 | succ k=>
 simp only [impl_CompareTerms.f] at h
 have hu29:=Try.underlying29
 have F6:=Aside0.mk hr0_3
 have F7:=Aside0.mk hc0_3
 clear hr0_3 hc0_3
 have F8:=Aside0.mk hr1_3
 have F9:=Aside0.mk hc1_3
 clear hr1_3 hc1_3
 have HB:=Aside0.mk (Below.refl w.heap.size w)
 have H:((cmp_Compare_int.f a0_0 a1_0).bind fun t137=>((strings_Compare.f a0_1 a1_1).bind fun t138=>((cmp_Compare_int.f a0_2 a1_2).bind fun t139=>((cmp_Or_int.f k (([t137,t138,t139]:List Int))).bind fun t143=>(if t143=0 then ((impl_Term_43.f k l0_3 l1_3 0).bind fun t144=>(some t144)) else (some t143))))))=some r:=h
 clear h
 replace H:=Option.bind_eq_some_iff.mp H
 obtain ⟨t137,A30,H⟩:=H
 replace H:((strings_Compare.f a0_1 a1_1).bind fun t138=>((cmp_Compare_int.f a0_2 a1_2).bind fun t139=>((cmp_Or_int.f k (([t137,t138,t139]:List Int))).bind fun t143=>(if t143=0 then ((impl_Term_43.f k l0_3 l1_3 0).bind fun t144=>(some t144)) else (some t143)))))=some r:=H
 have A3:=Aside0.mk A30
 clear A30
 replace H:=Option.bind_eq_some_iff.mp H
 obtain ⟨t138,A40,H⟩:=H
 replace H:((cmp_Compare_int.f a0_2 a1_2).bind fun t139=>((cmp_Or_int.f k (([t137,t138,t139]:List Int))).bind fun t143=>(if t143=0 then ((impl_Term_43.f k l0_3 l1_3 0).bind fun t144=>(some t144)) else (some t143))))=some r:=H
 have A4:=Aside0.mk A40
 clear A40
 replace H:=Option.bind_eq_some_iff.mp H
 obtain ⟨t139,A50,H⟩:=H
 replace H:((cmp_Or_int.f k (([t137,t138,t139]:List Int))).bind fun t143=>(if t143=0 then ((impl_Term_43.f k l0_3 l1_3 0).bind fun t144=>(some t144)) else (some t143)))=some r:=H
 have A5:=Aside0.mk A50
 clear A50
 obtain ⟨y140,hy140⟩:∃ y_:List Int,y_=(([t137,t138,t139]:List Int)):=⟨_,rfl⟩
 replace H:((cmp_Or_int.f k y140).bind fun t143=>(if t143=0 then ((impl_Term_43.f k l0_3 l1_3 0).bind fun t144=>(some t144)) else (some t143)))=some r:=by first | (rw [hy140];with_reducible exact H) | (have H2_:=(Option.bind_some _ _).symm.trans H;rw [hy140];with_reducible exact H2_) | (have H2_:=(Option.bind_some _ _).symm.trans H;with_reducible exact H2_) | with_reducible exact H | (rw [hy140];exact H) | exact H
 have E3:=Aside0.mk hy140
 clear hy140
 replace H:=Option.bind_eq_some_iff.mp H
 obtain ⟨t143,A60,H⟩:=H
 replace H:(if t143=0 then ((impl_Term_43.f k l0_3 l1_3 0).bind fun t144=>(some t144)) else (some t143))=some r:=H
 have A6:=Aside0.mk A60
 clear A60
 by_cases c7:t143=0
 ·rw [if_pos c7] at H
  have E4:(t143 == 0)=true:=beq_iff_eq.mpr c7
  have H1:(t143 != 0)=false:=bne_eq_false_iff_eq.mpr c7
  clear c7
  replace H:=Option.bind_eq_some_iff.mp H
  obtain ⟨t144,A80,H⟩:=H
  replace H:(some t144)=some r:=H
  have A8:=Aside0.mk A80
  clear A80
  obtain rfl:=Option.some.inj H
  go_enter Try.func14,Try.ntmps14
  try go_wp2_with (first | (refine bx 2 rfl #[.int .i64 a0_0,.string a0_1,.int .i64 a0_2,.slice A0_3 l0_3.length c0_3] 29 ?_;intro C3 hg w9 hbox hb;have A2:=Aside0.mk (hbox);have G0:=hZ HB hg;have G1:=hZ HB hg;replace HB:=hS HB hb;clear hb hbox hg) | (refine bx 3 rfl #[.int .i64 a1_0,.string a1_1,.int .i64 a1_2,.slice A1_3 l1_3.length c1_3] 29 ?_;intro C4 hg w10 hbox hb;have A7:=Aside0.mk (hbox);have G2:=hZ HB hg;have G3:=hZ HB hg;replace HB:=hS HB hb;have E1:=nL A2 hg;have E2:=nG A2 hg;replace A2:=bB A2 hb;clear hb hbox hg))
  replace A2:=Aside0.mk (blk_drew A2.out)
  replace A7:=Aside0.mk (blk_drew A7.out)
  replace HB:=Aside0.mk (below_drew1 HB.out)
  refine start_ (n:=18) (S:=fun w'=>w'.cell? ⟨C3,0,none⟩=some (.int .i64 a0_0)∧w'.cell? ⟨C3,1,none⟩=some (.string a0_1)∧w'.cell? ⟨C3,2,none⟩=some (.int .i64 a0_2)∧w'.cell? ⟨C3,3,none⟩=some (.slice A0_3 l0_3.length c0_3)∧w'.cell? ⟨C4,0,none⟩=some (.int .i64 a1_0)∧w'.cell? ⟨C4,1,none⟩=some (.string a1_1)∧w'.cell? ⟨C4,2,none⟩=some (.int .i64 a1_2)∧w'.cell? ⟨C4,3,none⟩=some (.slice A1_3 l1_3.length c1_3)) (ds:=[]) #[false,false,false,false,false,false,false,false,false,false,false,false,false,false,false,false,false,false] (by kernel_rfl) rfl rfl ⟨cz0 A2,cz1 A2,cz2 A2,cz3 A2,cz0 A7,cz1 A7,cz2 A7,cz3 A7⟩ (fun hHeld=> ?_);refine with_tabW impl_CompareTerms.tab1 impl_CompareTerms.bits1 (fun HT_ HW_=> ?_)
  generalize w10.drew=w11 at A2 A7 HB hHeld ⊢
  refine pureS 0 6 HT_ rfl rfl ?_
  refine pureS 2 8 HT_ rfl rfl ?_
  refine pureS 5 11 HT_ rfl rfl ?_
  refine pureS 7 13 HT_ rfl rfl ?_
  refine pureS 10 16 HT_ rfl rfl ?_
  refine pureS 12 18 HT_ rfl rfl ?_
  refine takeS 1 7 HT_ HW_ rfl rfl hHeld ?_ impl_CompareTerms.a5
  refine takeS 3 9 HT_ HW_ rfl rfl hHeld ?_ impl_CompareTerms.a5
  refine takeS 6 12 HT_ HW_ rfl rfl hHeld ?_ impl_CompareTerms.a5
  refine takeS 8 14 HT_ HW_ rfl rfl hHeld ?_ impl_CompareTerms.a5
  refine takeS 11 17 HT_ HW_ rfl rfl hHeld ?_ impl_CompareTerms.a5
  refine takeS 13 19 HT_ HW_ rfl rfl hHeld ?_ impl_CompareTerms.a5
  refine one_ (i:=4) (N:=some 10) #[true,true,true,true,true,true,true,true,true,false,true,true,true,true,false,false,false,false] rfl rfl (one_of HT_.out (by kernel_rfl)) (by decide) (fun K hK=> ?_)
  refine goes_ Try.func41 (by kernel_rfl) rfl #[.int .i64 a0_0,.int .i64 a1_0] (by rfl) rfl rfl impl_CompareTerms.a0 ?_
  with_reducible refine (cmp_Compare_int.calls a0_0 a1_0 t137 _ A3.out).mono ?_
  rintro e w' ⟨rfl,⟨nd,rfl⟩⟩
  refine ⟨_,rfl,?_⟩
  refine hK.out _ _ ⟨cz0 A2,cz1 A2,cz2 A2,cz3 A2,cz0 A7,cz1 A7,cz2 A7,cz3 A7⟩ (fun hHeld=> ?_)
  clear hK K
  refine norm_ (a':=?_) ?_ ?_
  rotate_left
  ·show Act.put _ (some 10) _=_
   simp only [Act.put,List.setIfInBounds_toArray,List.set_cons_zero,List.set_cons_succ,i64_w,i32_w]
   rfl
  refine one_ (i:=9) (N:=some 15) #[true,true,true,true,true,true,true,true,true,true,true,true,true,true,false,false,false,false] rfl rfl (one_of HT_.out (by kernel_rfl)) (by decide) (fun K hK=> ?_)
  refine goes_ Try.func42 (by kernel_rfl) rfl #[.string a0_1,.string a1_1] (by rfl) rfl rfl impl_CompareTerms.a0 ?_
  with_reducible refine (strings_Compare.calls a0_1 a1_1 t138 _ A4.out).mono ?_
  rintro e w' ⟨rfl,⟨nd,rfl⟩⟩
  refine ⟨_,rfl,?_⟩
  refine hK.out _ _ ⟨cz0 A2,cz1 A2,cz2 A2,cz3 A2,cz0 A7,cz1 A7,cz2 A7,cz3 A7⟩ (fun hHeld=> ?_)
  clear hK K
  refine norm_ (a':=?_) ?_ ?_
  rotate_left
  ·show Act.put _ (some 15) _=_
   simp only [Act.put,List.setIfInBounds_toArray,List.set_cons_zero,List.set_cons_succ,i64_w,i32_w]
   rfl
  refine one_ (i:=14) (N:=some 20) #[true,true,true,true,true,true,true,true,true,true,true,true,true,true,true,false,false,false] rfl rfl (one_of HT_.out (by kernel_rfl)) (by decide) (fun K hK=> ?_)
  refine goes_ Try.func41 (by kernel_rfl) rfl #[.int .i64 a0_2,.int .i64 a1_2] (by rfl) rfl rfl impl_CompareTerms.a0 ?_
  with_reducible refine (cmp_Compare_int.calls a0_2 a1_2 t139 _ A5.out).mono ?_
  rintro e w' ⟨rfl,⟨nd,rfl⟩⟩
  refine ⟨_,rfl,?_⟩
  refine hK.out _ _ ⟨cz0 A2,cz1 A2,cz2 A2,cz3 A2,cz0 A7,cz1 A7,cz2 A7,cz3 A7⟩ (fun hHeld=> ?_)
  clear hK K
  refine norm_ (a':=?_) ?_ ?_
  rotate_left
  ·show Act.put _ (some 20) _=_
   simp only [Act.put,List.setIfInBounds_toArray,List.set_cons_zero,List.set_cons_succ,i64_w,i32_w]
   rfl
  refine one_ (i:=15) (N:=some 21) #[true,true,true,true,true,true,true,true,true,true,true,true,true,true,true,true,false,false] rfl rfl (one_of HT_.out (by kernel_rfl)) (by decide) (fun K hK=> ?_)
  refine Kd.R_lit_step (Kd.int .i64) _ 3 ?hg (N:=21) ?hd (xs:=([t137,t138,t139]:List Int)) (inner:=[.int .i64 t137,.int .i64 t138,.int .i64 t139]) (ok:=fun _=>True) (okp:=fun _=>True) ?hr ?hp (fun _ hk=>hk) trivial (Below.refl _ _) (Nat.le_refl _) (by simp) ?_;(case hd=>rfl);(case hg=>rfl);(case hr=>first | (go_simp;done) | (go_simp;rfl));(case hp=>exact (Reps.one (show Kd.M (Kd.int .i64) _ _ _ t137 [.int .i64 t137] from rfl) (Reps.one (show Kd.M (Kd.int .i64) _ _ _ t138 [.int .i64 t138] from rfl) (Reps.one (show Kd.M (Kd.int .i64) _ _ _ t139 [.int .i64 t139] from rfl) (Reps.none _ _)))))
  intro v141 w12 ho13 hb hg_ hnew_
  clear hg_ hnew_
  (first | rw [← E3.out] at ho13 | (simp only [Int.reduceToNat] at ho13;rw [← E3.out] at ho13))
  have C5:=rL ho13 HB
  replace A2:=bB A2 hb
  replace A7:=bB A7 hb
  replace HB:=hS HB hb
  clear hb ho13
  obtain ⟨H2,H3,eo14⟩:=Kd.R_slice C5.out
  (first | subst eo14 | (injection eo14 with f1_ f2_ f3_;have f4_:=f1_.symm;have f5_:=f3_.symm;clear f1_ f2_ f3_;subst f4_;subst f5_))
  refine hK.out _ _ ⟨cz0 A2,cz1 A2,cz2 A2,cz3 A2,cz0 A7,cz1 A7,cz2 A7,cz3 A7⟩ (fun hHeld=> ?_)
  clear hK K
  refine norm_ (a':=?_) ?_ ?_
  rotate_left
  ·show Act.put _ (some 21) _=_
   simp only [Act.put,List.setIfInBounds_toArray,List.set_cons_zero,List.set_cons_succ,i64_w,i32_w]
   rfl
  refine one_ (i:=16) (N:=some 22) #[true,true,true,true,true,true,true,true,true,true,true,true,true,true,true,true,true,false] rfl rfl (one_of HT_.out (by kernel_rfl)) (by decide) (fun K hK=> ?_)
  refine goes_ Try.func40 (by kernel_rfl) rfl #[.slice H2 y140.length H3] (by rfl) rfl rfl impl_CompareTerms.a0 ?_
  with_reducible refine (cmp_Or_int.calls k _ _ y140 t143 _ ?side1 ?side2 A6.out).mono ?_
  (case side1=>repeat (first | exact (Kd.R_reads' C5.out).2.2 | (with_reducible refine Kd.C_alloc ?_ _) | (with_reducible refine Kd.C_drewN ?_ _) | (with_reducible refine Kd.C_drew ?_)))
  (case side2=>exact (Kd.R_reads' C5.out).2.1)
  rintro e w' ⟨rfl,⟨nd,rfl⟩⟩
  refine ⟨_,rfl,?_⟩
  refine hK.out _ _ ⟨cz0 A2,cz1 A2,cz2 A2,cz3 A2,cz0 A7,cz1 A7,cz2 A7,cz3 A7⟩ (fun hHeld=> ?_)
  clear hK K
  refine norm_ (a':=?_) ?_ ?_
  rotate_left
  ·show Act.put _ (some 22) _=_
   simp only [Act.put,List.setIfInBounds_toArray,List.set_cons_zero,List.set_cons_succ,i64_w,i32_w]
   rfl
  refine pureS 17 5 HT_ rfl rfl ?_
  refine done_ (done_of HT_.out (by kernel_rfl)) ?_
  have N3:=E1.out
  have N4:=E2.out
  obtain ⟨H7,H8,H9,I0,I1,I2,I3,I4⟩:=cf4 A2
  obtain ⟨E7,E8,E9,F0,F1,F2,F3,F4⟩:=cf4 A7
  try go_wp2_with (first | (refine goK 43 (some 30) rfl Try.func43 #[.slice A0_3 l0_3.length c0_3,.slice A1_3 l1_3.length c1_3,.func (.func 14) #[] #[]] ?_;(with_reducible refine (ih_43 k (by omega) _ _ l0_3 _ _ l1_3 0 t144 _ ?side1 ?side2 ?side3 ?side4 A8.out).mono ?_);(case side1=>repeat (first | exact (Kd.C_below F6.out (hV HB)) | (with_reducible refine Kd.C_alloc ?_ _) | (with_reducible refine Kd.C_drewN ?_ _) | (with_reducible refine Kd.C_drew ?_)));(case side2=>exact F7.out);(case side3=>repeat (first | exact (Kd.C_below F8.out (hV HB)) | (with_reducible refine Kd.C_alloc ?_ _) | (with_reducible refine Kd.C_drewN ?_ _) | (with_reducible refine Kd.C_drew ?_)));(case side4=>exact F9.out);rintro e w18 ⟨rfl,hb⟩;refine ⟨_,rfl,?_⟩;replace C5:=rB C5 hb;replace A2:=bB A2 hb;replace A7:=bB A7 hb;replace HB:=hS HB hb;(try clear hb);(try clear hb2);(try clear hk);(try clear hi)))
  go_ret
  exact ⟨impl_CompareTerms.a7,hV HB⟩
 ·rw [if_neg c7] at H
  have E4:(t143 == 0)=false:=beq_eq_false_iff_ne.mpr c7
  have H1:(t143 != 0)=true:=bne_iff_ne.mpr c7
  obtain rfl:=Option.some.inj H
  go_enter Try.func14,Try.ntmps14
  try go_wp2_with (first | (refine bx 2 rfl #[.int .i64 a0_0,.string a0_1,.int .i64 a0_2,.slice A0_3 l0_3.length c0_3] 29 ?_;intro C3 hg w19 hbox hb;have A2:=Aside0.mk (hbox);have G0:=hZ HB hg;have G1:=hZ HB hg;replace HB:=hS HB hb;clear hb hbox hg) | (refine bx 3 rfl #[.int .i64 a1_0,.string a1_1,.int .i64 a1_2,.slice A1_3 l1_3.length c1_3] 29 ?_;intro C4 hg w20 hbox hb;have A7:=Aside0.mk (hbox);have G2:=hZ HB hg;have G3:=hZ HB hg;replace HB:=hS HB hb;have E1:=nL A2 hg;have E2:=nG A2 hg;replace A2:=bB A2 hb;clear hb hbox hg))
  replace A2:=Aside0.mk (blk_drew A2.out)
  replace A7:=Aside0.mk (blk_drew A7.out)
  replace HB:=Aside0.mk (below_drew1 HB.out)
  refine start_ (n:=18) (S:=fun w'=>w'.cell? ⟨C3,0,none⟩=some (.int .i64 a0_0)∧w'.cell? ⟨C3,1,none⟩=some (.string a0_1)∧w'.cell? ⟨C3,2,none⟩=some (.int .i64 a0_2)∧w'.cell? ⟨C3,3,none⟩=some (.slice A0_3 l0_3.length c0_3)∧w'.cell? ⟨C4,0,none⟩=some (.int .i64 a1_0)∧w'.cell? ⟨C4,1,none⟩=some (.string a1_1)∧w'.cell? ⟨C4,2,none⟩=some (.int .i64 a1_2)∧w'.cell? ⟨C4,3,none⟩=some (.slice A1_3 l1_3.length c1_3)) (ds:=[]) #[false,false,false,false,false,false,false,false,false,false,false,false,false,false,false,false,false,false] (by kernel_rfl) rfl rfl ⟨cz0 A2,cz1 A2,cz2 A2,cz3 A2,cz0 A7,cz1 A7,cz2 A7,cz3 A7⟩ (fun hHeld=> ?_);refine with_tabW impl_CompareTerms.tab1 impl_CompareTerms.bits1 (fun HT_ HW_=> ?_)
  generalize w20.drew=w21 at A2 A7 HB hHeld ⊢
  refine pureS 0 6 HT_ rfl rfl ?_
  refine pureS 2 8 HT_ rfl rfl ?_
  refine pureS 5 11 HT_ rfl rfl ?_
  refine pureS 7 13 HT_ rfl rfl ?_
  refine pureS 10 16 HT_ rfl rfl ?_
  refine pureS 12 18 HT_ rfl rfl ?_
  refine takeS 1 7 HT_ HW_ rfl rfl hHeld ?_ impl_CompareTerms.a5
  refine takeS 3 9 HT_ HW_ rfl rfl hHeld ?_ impl_CompareTerms.a5
  refine takeS 6 12 HT_ HW_ rfl rfl hHeld ?_ impl_CompareTerms.a5
  refine takeS 8 14 HT_ HW_ rfl rfl hHeld ?_ impl_CompareTerms.a5
  refine takeS 11 17 HT_ HW_ rfl rfl hHeld ?_ impl_CompareTerms.a5
  refine takeS 13 19 HT_ HW_ rfl rfl hHeld ?_ impl_CompareTerms.a5
  refine one_ (i:=4) (N:=some 10) #[true,true,true,true,true,true,true,true,true,false,true,true,true,true,false,false,false,false] rfl rfl (one_of HT_.out (by kernel_rfl)) (by decide) (fun K hK=> ?_)
  refine goes_ Try.func41 (by kernel_rfl) rfl #[.int .i64 a0_0,.int .i64 a1_0] (by rfl) rfl rfl impl_CompareTerms.a0 ?_
  with_reducible refine (cmp_Compare_int.calls a0_0 a1_0 t137 _ A3.out).mono ?_
  rintro e w' ⟨rfl,⟨nd,rfl⟩⟩
  refine ⟨_,rfl,?_⟩
  refine hK.out _ _ ⟨cz0 A2,cz1 A2,cz2 A2,cz3 A2,cz0 A7,cz1 A7,cz2 A7,cz3 A7⟩ (fun hHeld=> ?_)
  clear hK K
  refine norm_ (a':=?_) ?_ ?_
  rotate_left
  ·show Act.put _ (some 10) _=_
   simp only [Act.put,List.setIfInBounds_toArray,List.set_cons_zero,List.set_cons_succ,i64_w,i32_w]
   rfl
  refine one_ (i:=9) (N:=some 15) #[true,true,true,true,true,true,true,true,true,true,true,true,true,true,false,false,false,false] rfl rfl (one_of HT_.out (by kernel_rfl)) (by decide) (fun K hK=> ?_)
  refine goes_ Try.func42 (by kernel_rfl) rfl #[.string a0_1,.string a1_1] (by rfl) rfl rfl impl_CompareTerms.a0 ?_
  with_reducible refine (strings_Compare.calls a0_1 a1_1 t138 _ A4.out).mono ?_
  rintro e w' ⟨rfl,⟨nd,rfl⟩⟩
  refine ⟨_,rfl,?_⟩
  refine hK.out _ _ ⟨cz0 A2,cz1 A2,cz2 A2,cz3 A2,cz0 A7,cz1 A7,cz2 A7,cz3 A7⟩ (fun hHeld=> ?_)
  clear hK K
  refine norm_ (a':=?_) ?_ ?_
  rotate_left
  ·show Act.put _ (some 15) _=_
   simp only [Act.put,List.setIfInBounds_toArray,List.set_cons_zero,List.set_cons_succ,i64_w,i32_w]
   rfl
  refine one_ (i:=14) (N:=some 20) #[true,true,true,true,true,true,true,true,true,true,true,true,true,true,true,false,false,false] rfl rfl (one_of HT_.out (by kernel_rfl)) (by decide) (fun K hK=> ?_)
  refine goes_ Try.func41 (by kernel_rfl) rfl #[.int .i64 a0_2,.int .i64 a1_2] (by rfl) rfl rfl impl_CompareTerms.a0 ?_
  with_reducible refine (cmp_Compare_int.calls a0_2 a1_2 t139 _ A5.out).mono ?_
  rintro e w' ⟨rfl,⟨nd,rfl⟩⟩
  refine ⟨_,rfl,?_⟩
  refine hK.out _ _ ⟨cz0 A2,cz1 A2,cz2 A2,cz3 A2,cz0 A7,cz1 A7,cz2 A7,cz3 A7⟩ (fun hHeld=> ?_)
  clear hK K
  refine norm_ (a':=?_) ?_ ?_
  rotate_left
  ·show Act.put _ (some 20) _=_
   simp only [Act.put,List.setIfInBounds_toArray,List.set_cons_zero,List.set_cons_succ,i64_w,i32_w]
   rfl
  refine one_ (i:=15) (N:=some 21) #[true,true,true,true,true,true,true,true,true,true,true,true,true,true,true,true,false,false] rfl rfl (one_of HT_.out (by kernel_rfl)) (by decide) (fun K hK=> ?_)
  refine Kd.R_lit_step (Kd.int .i64) _ 3 ?hg (N:=21) ?hd (xs:=([t137,t138,t139]:List Int)) (inner:=[.int .i64 t137,.int .i64 t138,.int .i64 t139]) (ok:=fun _=>True) (okp:=fun _=>True) ?hr ?hp (fun _ hk=>hk) trivial (Below.refl _ _) (Nat.le_refl _) (by simp) ?_;(case hd=>rfl);(case hg=>rfl);(case hr=>first | (go_simp;done) | (go_simp;rfl));(case hp=>exact (Reps.one (show Kd.M (Kd.int .i64) _ _ _ t137 [.int .i64 t137] from rfl) (Reps.one (show Kd.M (Kd.int .i64) _ _ _ t138 [.int .i64 t138] from rfl) (Reps.one (show Kd.M (Kd.int .i64) _ _ _ t139 [.int .i64 t139] from rfl) (Reps.none _ _)))))
  intro v141 w22 ho23 hb hg_ hnew_
  clear hg_ hnew_
  (first | rw [← E3.out] at ho23 | (simp only [Int.reduceToNat] at ho23;rw [← E3.out] at ho23))
  have C5:=rL ho23 HB
  replace A2:=bB A2 hb
  replace A7:=bB A7 hb
  replace HB:=hS HB hb
  clear hb ho23
  obtain ⟨H4,H5,eo24⟩:=Kd.R_slice C5.out
  (first | subst eo24 | (injection eo24 with f1_ f2_ f3_;have f4_:=f1_.symm;have f5_:=f3_.symm;clear f1_ f2_ f3_;subst f4_;subst f5_))
  refine hK.out _ _ ⟨cz0 A2,cz1 A2,cz2 A2,cz3 A2,cz0 A7,cz1 A7,cz2 A7,cz3 A7⟩ (fun hHeld=> ?_)
  clear hK K
  refine norm_ (a':=?_) ?_ ?_
  rotate_left
  ·show Act.put _ (some 21) _=_
   simp only [Act.put,List.setIfInBounds_toArray,List.set_cons_zero,List.set_cons_succ,i64_w,i32_w]
   rfl
  refine one_ (i:=16) (N:=some 22) #[true,true,true,true,true,true,true,true,true,true,true,true,true,true,true,true,true,false] rfl rfl (one_of HT_.out (by kernel_rfl)) (by decide) (fun K hK=> ?_)
  refine goes_ Try.func40 (by kernel_rfl) rfl #[.slice H4 y140.length H5] (by rfl) rfl rfl impl_CompareTerms.a0 ?_
  with_reducible refine (cmp_Or_int.calls k _ _ y140 t143 _ ?side1 ?side2 A6.out).mono ?_
  (case side1=>repeat (first | exact (Kd.R_reads' C5.out).2.2 | (with_reducible refine Kd.C_alloc ?_ _) | (with_reducible refine Kd.C_drewN ?_ _) | (with_reducible refine Kd.C_drew ?_)))
  (case side2=>exact (Kd.R_reads' C5.out).2.1)
  rintro e w' ⟨rfl,⟨nd,rfl⟩⟩
  refine ⟨_,rfl,?_⟩
  refine hK.out _ _ ⟨cz0 A2,cz1 A2,cz2 A2,cz3 A2,cz0 A7,cz1 A7,cz2 A7,cz3 A7⟩ (fun hHeld=> ?_)
  clear hK K
  refine norm_ (a':=?_) ?_ ?_
  rotate_left
  ·show Act.put _ (some 22) _=_
   simp only [Act.put,List.setIfInBounds_toArray,List.set_cons_zero,List.set_cons_succ,i64_w,i32_w]
   rfl
  refine pureS 17 5 HT_ rfl rfl ?_
  refine done_ (done_of HT_.out (by kernel_rfl)) ?_
  try go_wp2
  go_ret
  exact ⟨impl_CompareTerms.a7,hV HB⟩

/-! ### impl_Term_43: function 43 -/
set_option maxHeartbeats 8000000 in
set_option maxRecDepth 100000 in
theorem impl_Term_43.calls_ (k:Nat) (ih_14:∀ m,m < k→∀ (a0_0:Int) (a0_1:ByteArray) (a0_2:Int) (A0_3:Option Addr) (c0_3:Nat) (l0_3:List (S29)) (a1_0:Int) (a1_1:ByteArray) (a1_2:Int) (A1_3:Option Addr) (c1_3:Nat) (l1_3:List (S29)) (r:Int) (w:World) (hr0_3:Kd.C k29 w A0_3 l0_3.length l0_3) (hc0_3:l0_3.length≤c0_3) (hr1_3:Kd.C k29 w A1_3 l1_3.length l1_3) (hc1_3:l1_3.length≤c1_3) (_:impl_CompareTerms.f m a0_0 a0_1 a0_2 l0_3 a1_0 a1_1 a1_2 l1_3=some r),
  Calls Try.prog 14 #[.agg #[.int .i64 a0_0,.string a0_1,.int .i64 a0_2,.slice A0_3 l0_3.length c0_3],.agg #[.int .i64 a1_0,.string a1_1,.int .i64 a1_2,.slice A1_3 l1_3.length c1_3]] w fun e w'=>e=.returned (.int .i64 r)∧Below w.heap.size w w') (ih_43:∀ m,m < k→∀ (A0:Option Addr) (c0:Nat) (l0:List (S29)) (A1:Option Addr) (c1:Nat) (l1:List (S29)) (a2:Int) (r:Int) (w:World) (hr0:Kd.C k29 w A0 l0.length l0) (hc0:l0.length≤c0) (hr1:Kd.C k29 w A1 l1.length l1) (hc1:l1.length≤c1) (_:impl_Term_43.f m l0 l1 a2=some r),
  Calls Try.prog 43 #[.slice A0 l0.length c0,.slice A1 l1.length c1,.func (.func 14) #[] #[]] w fun e w'=>e=.returned (.int .i64 r)∧Below w.heap.size w w'):∀ (A0:Option Addr) (c0:Nat) (l0:List (S29)) (A1:Option Addr) (c1:Nat) (l1:List (S29)) (a2:Int) (r:Int) (w:World) (hr0:Kd.C k29 w A0 l0.length l0) (hc0:l0.length≤c0) (hr1:Kd.C k29 w A1 l1.length l1) (hc1:l1.length≤c1) (h:impl_Term_43.f k l0 l1 a2=some r),
  Calls Try.prog 43 #[.slice A0 l0.length c0,.slice A1 l1.length c1,.func (.func 14) #[] #[]] w fun e w'=>e=.returned (.int .i64 r)∧Below w.heap.size w w':=by
 intro A0 c0 l0 A1 c1 l1 a2 r w hr0 hc0 hr1 hc1 h
 cases k with
 | zero=>exact absurd h (by simp [impl_Term_43.f])
 | succ k=>
 simp only [impl_Term_43.f] at h
 have hu29:=Try.underlying29
 have F5:=Aside0.mk hr0
 have O2:=Aside0.mk hc0
 clear hr0 hc0
 have H0:=Aside0.mk hr1
 have O3:=Aside0.mk hc1
 clear hr1 hc1
 have HB:=Aside0.mk (Below.refl w.heap.size w)
 have H:(impl_Term_43.l0 k l0 l1 l0 (l0.length:Int) 0)=some r:=h
 clear h
 have H':=Aside0.mk H
 clear H
 go_enter Try.func43,Try.ntmps43
 go_wp2
 go_loopg [13] k (fun kq v13 w'=> ∃ (x13_1:Int),v13=.int .i64 x13_1∧Aside0 (impl_Term_43.l0 kq l0 l1 l0 (l0.length:Int) x13_1=some r)∧Aside0 (kq≤k)∧Aside0 (Below w.heap.size w w'))
 case atStart=>exact ⟨(0),(by first | rfl | (simp;done) | (simp [*];done)),H',⟨Nat.le_refl _⟩,⟨hV HB⟩⟩
 clear H'
 try clear c1
 obtain ⟨x13_1,rfl,HA,HK1,HB⟩:=hrel
 cases gk with
 | zero=>exact absurd HA.out (by simp [impl_Term_43.l0])
 | succ k1=>
  have H:=HA.out
  clear HA
  simp only [impl_Term_43.l0] at H
  by_cases c4:x13_1 < (l0.length:Int)
  ·rw [if_pos c4] at H
   have H6:=decide_eq_true c4
   clear c4
   by_cases c5:0≤x13_1
   rotate_left
   ·rw [if_neg c5] at H
    exact absurd H (by simp)
   rw [if_pos c5] at H
   have O0:=decide_eq_true c5
   clear c5
   by_cases c6:x13_1 < (l0.length:Int)
   rotate_left
   ·rw [if_neg c6] at H
    exact absurd H (by simp)
   rw [if_pos c6] at H
   have O1:=decide_eq_true c6
   clear c6
   by_cases c7:x13_1≥(l1.length:Int)
   ·rw [if_pos c7] at H
    have E4:=decide_eq_true c7
    clear c7
    obtain rfl:=Option.some.inj H
    have C7:0≤(x13_1:Int):=dT
    have C8:x13_1 < (l0.length:Int):=dT
    obtain ⟨E5,A130_3,c130_3,e130,B6,B7,B8,B9,C0,C1⟩:=at_T29 F5.out x13_1 C7 C8
    cases e130
    replace B6:=xc HB B6
    replace B7:=xc HB B7
    replace B8:=xc HB B8
    replace B9:=xc HB B9
    have D4:=Aside0.mk C1
    have D5:=Aside0.mk C0
    clear C1 C0
    replace C7:=eq_true C7
    replace C8:=eq_true C8
    go_wp2_with (first | (refine bx 8 rfl #[.int .i64 0,.string (⟨#[]⟩:ByteArray),.int .i64 0,.slice none 0 0] 29 ?_;intro A9 hg w8 hbox hb;have B5:=Aside0.mk (hbox);have C2:=hZ HB hg;have E6:=hZ HB hg;replace HB:=hS HB hb;clear hb hbox hg;obtain ⟨M5,M6,M7,M8,M9,N0,N1,N2⟩:=cf4 B5))
    go_ret
    exact ⟨impl_CompareTerms.a7,hV HB⟩
   ·rw [if_neg c7] at H
    have E4:=decide_eq_false c7
    clear c7
    by_cases c10:x13_1 < (l1.length:Int)
    rotate_left
    ·rw [if_neg c10] at H
     exact absurd H (by simp)
    rw [if_pos c10] at H
    have N5:=decide_eq_true c10
    clear c10
    replace H:=Option.bind_eq_some_iff.mp H
    obtain ⟨t134,A110,H⟩:=H
    replace H:(if t134=0 then (impl_Term_43.l0 k1 l0 l1 l0 (l0.length:Int) (wrap64 (x13_1 + 1))) else (some t134))=some r:=H
    have A11:=Aside0.mk A110
    clear A110
    by_cases c12:t134=0
    ·rw [if_pos c12] at H
     have G4:(t134 == 0)=true:=beq_iff_eq.mpr c12
     have G5:(t134 != 0)=false:=bne_eq_false_iff_eq.mpr c12
     clear c12
     have H':=Aside0.mk H
     clear H
     have C7:0≤(x13_1:Int):=dT
     have C8:x13_1 < (l0.length:Int):=dT
     obtain ⟨E5,A130_3,c130_3,e130,B6,B7,B8,B9,C0,C1⟩:=at_T29 F5.out x13_1 C7 C8
     cases e130
     replace B6:=xc HB B6
     replace B7:=xc HB B7
     replace B8:=xc HB B8
     replace B9:=xc HB B9
     have D4:=Aside0.mk C1
     have D5:=Aside0.mk C0
     clear C1 C0
     replace C7:=eq_true C7
     replace C8:=eq_true C8
     go_wp2_with (first | (refine bx 8 rfl #[.int .i64 0,.string (⟨#[]⟩:ByteArray),.int .i64 0,.slice none 0 0] 29 ?_;intro A9 hg w13 hbox hb;have B5:=Aside0.mk (hbox);have C2:=hZ HB hg;have E6:=hZ HB hg;replace HB:=hS HB hb;clear hb hbox hg;obtain ⟨I5,I6,I7,I8,I9,J0,J1,J2⟩:=cf4 B5;have D6:0≤(x13_1:Int):=dT;have D7:x13_1 < (l1.length:Int):=dT;obtain ⟨C6,A132_3,c132_3,e132,B0,B2,B3,B4,C9,D0⟩:=at_T29 H0.out x13_1 D6 D7;cases e132;have hn132_0:C6.block≠A9:=Nat.ne_of_lt (Nat.lt_of_lt_of_le impl_CompareTerms.a6 C2.out);have hn132_1:C6.block≠A9:=Nat.ne_of_lt (Nat.lt_of_lt_of_le impl_CompareTerms.a6 C2.out);have hn132_2:C6.block≠A9:=Nat.ne_of_lt (Nat.lt_of_lt_of_le impl_CompareTerms.a6 C2.out);have hn132_3:C6.block≠A9:=Nat.ne_of_lt (Nat.lt_of_lt_of_le impl_CompareTerms.a6 C2.out);replace B0:=xc HB B0;replace B2:=xc HB B2;replace B3:=xc HB B3;replace B4:=xc HB B4;have D9:=Aside0.mk D0;have E0:=Aside0.mk C9;clear D0 C9;replace B0:=(cell_far (p:=⟨A9,0,none⟩) impl_CompareTerms.a1 (.int .i64 ((rd_T29 l0 x13_1).f0))).trans B0;replace B2:=(cell_far (p:=⟨A9,0,none⟩) impl_CompareTerms.a1 (.int .i64 ((rd_T29 l0 x13_1).f0))).trans B2;replace B3:=(cell_far (p:=⟨A9,0,none⟩) impl_CompareTerms.a1 (.int .i64 ((rd_T29 l0 x13_1).f0))).trans B3;replace B4:=(cell_far (p:=⟨A9,0,none⟩) impl_CompareTerms.a1 (.int .i64 ((rd_T29 l0 x13_1).f0))).trans B4;replace B0:=(cell_far (p:=⟨A9,1,none⟩) impl_CompareTerms.a2 (.string ((rd_T29 l0 x13_1).f1))).trans B0;replace B2:=(cell_far (p:=⟨A9,1,none⟩) impl_CompareTerms.a2 (.string ((rd_T29 l0 x13_1).f1))).trans B2;replace B3:=(cell_far (p:=⟨A9,1,none⟩) impl_CompareTerms.a2 (.string ((rd_T29 l0 x13_1).f1))).trans B3;replace B4:=(cell_far (p:=⟨A9,1,none⟩) impl_CompareTerms.a2 (.string ((rd_T29 l0 x13_1).f1))).trans B4;replace B0:=(cell_far (p:=⟨A9,2,none⟩) impl_CompareTerms.a3 (.int .i64 ((rd_T29 l0 x13_1).f2))).trans B0;replace B2:=(cell_far (p:=⟨A9,2,none⟩) impl_CompareTerms.a3 (.int .i64 ((rd_T29 l0 x13_1).f2))).trans B2;replace B3:=(cell_far (p:=⟨A9,2,none⟩) impl_CompareTerms.a3 (.int .i64 ((rd_T29 l0 x13_1).f2))).trans B3;replace B4:=(cell_far (p:=⟨A9,2,none⟩) impl_CompareTerms.a3 (.int .i64 ((rd_T29 l0 x13_1).f2))).trans B4;replace B0:=(cell_far (p:=⟨A9,3,none⟩) impl_CompareTerms.a4 (.slice A130_3 ((rd_T29 l0 x13_1).f3).length c130_3)).trans B0;replace B2:=(cell_far (p:=⟨A9,3,none⟩) impl_CompareTerms.a4 (.slice A130_3 ((rd_T29 l0 x13_1).f3).length c130_3)).trans B2;replace B3:=(cell_far (p:=⟨A9,3,none⟩) impl_CompareTerms.a4 (.slice A130_3 ((rd_T29 l0 x13_1).f3).length c130_3)).trans B3;replace B4:=(cell_far (p:=⟨A9,3,none⟩) impl_CompareTerms.a4 (.slice A130_3 ((rd_T29 l0 x13_1).f3).length c130_3)).trans B4;clear hn132_0;clear hn132_1;clear hn132_2;clear hn132_3;replace D6:=eq_true D6;replace D7:=eq_true D7) | (refine bx 9 rfl #[.int .i64 0,.string (⟨#[]⟩:ByteArray),.int .i64 0,.slice none 0 0] 29 ?_;intro D8 hg w15 hbox hb;have D1:=Aside0.mk (hbox);have G6:=hZ HB hg;have G7:=hZ HB hg;replace HB:=hS HB hb;have D2:=Aside0.mk ((by rw [hg];exact Nat.ne_of_lt (blk_lt (g:=A9) (o:=.cells #[.int .i64 ((rd_T29 l0 x13_1).f0),.string ((rd_T29 l0 x13_1).f1),.int .i64 ((rd_T29 l0 x13_1).f2),.slice A130_3 ((rd_T29 l0 x13_1).f3).length c130_3] 29 (0,0)) (vP B5)):A9≠D8));have D3:=Aside0.mk ((by rw [hg];exact Nat.ne_of_gt (blk_lt (g:=A9) (o:=.cells #[.int .i64 ((rd_T29 l0 x13_1).f0),.string ((rd_T29 l0 x13_1).f1),.int .i64 ((rd_T29 l0 x13_1).f2),.slice A130_3 ((rd_T29 l0 x13_1).f3).length c130_3] 29 (0,0)) (vP B5)):D8≠A9));replace B5:=bP (o:=.cells #[.int .i64 ((rd_T29 l0 x13_1).f0),.string ((rd_T29 l0 x13_1).f1),.int .i64 ((rd_T29 l0 x13_1).f2),.slice A130_3 ((rd_T29 l0 x13_1).f3).length c130_3] 29 (0,0)) B5 hb;clear hb hbox hg;have N6:=D3.out;have N7:=D2.out;obtain ⟨E7,E8,E9,F0,F1,F2,F3,F4⟩:=cf4 D1;obtain ⟨J3,J4,J5,J6,J7,J8,J9,K0⟩:=cf4 B5) | (refine goT 14 (some 29) rfl rfl Try.func14 #[.agg #[.int .i64 ((rd_T29 l0 x13_1).f0),.string ((rd_T29 l0 x13_1).f1),.int .i64 ((rd_T29 l0 x13_1).f2),.slice A130_3 ((rd_T29 l0 x13_1).f3).length c130_3],.agg #[.int .i64 ((rd_T29 l1 x13_1).f0),.string ((rd_T29 l1 x13_1).f1),.int .i64 ((rd_T29 l1 x13_1).f2),.slice A132_3 ((rd_T29 l1 x13_1).f3).length c132_3]] ?_;(with_reducible refine (ih_14 k1 (by have:=HK1.out;omega) ((rd_T29 l0 x13_1).f0) ((rd_T29 l0 x13_1).f1) ((rd_T29 l0 x13_1).f2) _ _ ((rd_T29 l0 x13_1).f3) ((rd_T29 l1 x13_1).f0) ((rd_T29 l1 x13_1).f1) ((rd_T29 l1 x13_1).f2) _ _ ((rd_T29 l1 x13_1).f3) t134 _ ?side1 ?side2 ?side3 ?side4 A11.out).mono ?_);(case side1=>exact cV D4 HB);(case side2=>exact D5.out);(case side3=>exact cV D9 HB);(case side4=>exact E0.out);rintro e w19 ⟨rfl,hb⟩;refine ⟨_,rfl,?_⟩;replace B5:=bB B5 hb;replace D1:=bP (o:=.cells #[.int .i64 ((rd_T29 l1 x13_1).f0),.string ((rd_T29 l1 x13_1).f1),.int .i64 ((rd_T29 l1 x13_1).f2),.slice A132_3 ((rd_T29 l1 x13_1).f3).length c132_3] 29 (0,0)) D1 hb;replace HB:=hS HB hb;(try clear hb);(try clear hb2);(try clear hk);(try clear hi)))
     go_roundg k1
     case measure=>have:=HK1.out;omega
     case rel=>exact ⟨(wrap64 (x13_1 + 1)),(by first | rfl | (simp;done) | (simp [*];done)),H',⟨by have:=HK1.out;omega⟩,⟨hV HB⟩⟩
    ·rw [if_neg c12] at H
     have G4:(t134 == 0)=false:=beq_eq_false_iff_ne.mpr c12
     have G5:(t134 != 0)=true:=bne_iff_ne.mpr c12
     obtain rfl:=Option.some.inj H
     have C7:0≤(x13_1:Int):=dT
     have C8:x13_1 < (l0.length:Int):=dT
     obtain ⟨E5,A130_3,c130_3,e130,B6,B7,B8,B9,C0,C1⟩:=at_T29 F5.out x13_1 C7 C8
     cases e130
     replace B6:=xc HB B6
     replace B7:=xc HB B7
     replace B8:=xc HB B8
     replace B9:=xc HB B9
     have D4:=Aside0.mk C1
     have D5:=Aside0.mk C0
     clear C1 C0
     replace C7:=eq_true C7
     replace C8:=eq_true C8
     go_wp2_with (first | (refine bx 8 rfl #[.int .i64 0,.string (⟨#[]⟩:ByteArray),.int .i64 0,.slice none 0 0] 29 ?_;intro A9 hg w20 hbox hb;have B5:=Aside0.mk (hbox);have C2:=hZ HB hg;have E6:=hZ HB hg;replace HB:=hS HB hb;clear hb hbox hg;obtain ⟨K1,K2,K3,K4,K5,K6,K7,K8⟩:=cf4 B5;have D6:0≤(x13_1:Int):=dT;have D7:x13_1 < (l1.length:Int):=dT;obtain ⟨C6,A132_3,c132_3,e132,B0,B2,B3,B4,C9,D0⟩:=at_T29 H0.out x13_1 D6 D7;cases e132;have hn132_0:C6.block≠A9:=Nat.ne_of_lt (Nat.lt_of_lt_of_le impl_CompareTerms.a6 C2.out);have hn132_1:C6.block≠A9:=Nat.ne_of_lt (Nat.lt_of_lt_of_le impl_CompareTerms.a6 C2.out);have hn132_2:C6.block≠A9:=Nat.ne_of_lt (Nat.lt_of_lt_of_le impl_CompareTerms.a6 C2.out);have hn132_3:C6.block≠A9:=Nat.ne_of_lt (Nat.lt_of_lt_of_le impl_CompareTerms.a6 C2.out);replace B0:=xc HB B0;replace B2:=xc HB B2;replace B3:=xc HB B3;replace B4:=xc HB B4;have D9:=Aside0.mk D0;have E0:=Aside0.mk C9;clear D0 C9;replace B0:=(cell_far (p:=⟨A9,0,none⟩) impl_CompareTerms.a1 (.int .i64 ((rd_T29 l0 x13_1).f0))).trans B0;replace B2:=(cell_far (p:=⟨A9,0,none⟩) impl_CompareTerms.a1 (.int .i64 ((rd_T29 l0 x13_1).f0))).trans B2;replace B3:=(cell_far (p:=⟨A9,0,none⟩) impl_CompareTerms.a1 (.int .i64 ((rd_T29 l0 x13_1).f0))).trans B3;replace B4:=(cell_far (p:=⟨A9,0,none⟩) impl_CompareTerms.a1 (.int .i64 ((rd_T29 l0 x13_1).f0))).trans B4;replace B0:=(cell_far (p:=⟨A9,1,none⟩) impl_CompareTerms.a2 (.string ((rd_T29 l0 x13_1).f1))).trans B0;replace B2:=(cell_far (p:=⟨A9,1,none⟩) impl_CompareTerms.a2 (.string ((rd_T29 l0 x13_1).f1))).trans B2;replace B3:=(cell_far (p:=⟨A9,1,none⟩) impl_CompareTerms.a2 (.string ((rd_T29 l0 x13_1).f1))).trans B3;replace B4:=(cell_far (p:=⟨A9,1,none⟩) impl_CompareTerms.a2 (.string ((rd_T29 l0 x13_1).f1))).trans B4;replace B0:=(cell_far (p:=⟨A9,2,none⟩) impl_CompareTerms.a3 (.int .i64 ((rd_T29 l0 x13_1).f2))).trans B0;replace B2:=(cell_far (p:=⟨A9,2,none⟩) impl_CompareTerms.a3 (.int .i64 ((rd_T29 l0 x13_1).f2))).trans B2;replace B3:=(cell_far (p:=⟨A9,2,none⟩) impl_CompareTerms.a3 (.int .i64 ((rd_T29 l0 x13_1).f2))).trans B3;replace B4:=(cell_far (p:=⟨A9,2,none⟩) impl_CompareTerms.a3 (.int .i64 ((rd_T29 l0 x13_1).f2))).trans B4;replace B0:=(cell_far (p:=⟨A9,3,none⟩) impl_CompareTerms.a4 (.slice A130_3 ((rd_T29 l0 x13_1).f3).length c130_3)).trans B0;replace B2:=(cell_far (p:=⟨A9,3,none⟩) impl_CompareTerms.a4 (.slice A130_3 ((rd_T29 l0 x13_1).f3).length c130_3)).trans B2;replace B3:=(cell_far (p:=⟨A9,3,none⟩) impl_CompareTerms.a4 (.slice A130_3 ((rd_T29 l0 x13_1).f3).length c130_3)).trans B3;replace B4:=(cell_far (p:=⟨A9,3,none⟩) impl_CompareTerms.a4 (.slice A130_3 ((rd_T29 l0 x13_1).f3).length c130_3)).trans B4;clear hn132_0;clear hn132_1;clear hn132_2;clear hn132_3;replace D6:=eq_true D6;replace D7:=eq_true D7) | (refine bx 9 rfl #[.int .i64 0,.string (⟨#[]⟩:ByteArray),.int .i64 0,.slice none 0 0] 29 ?_;intro D8 hg w22 hbox hb;have D1:=Aside0.mk (hbox);have G6:=hZ HB hg;have G7:=hZ HB hg;replace HB:=hS HB hb;have D2:=Aside0.mk ((by rw [hg];exact Nat.ne_of_lt (blk_lt (g:=A9) (o:=.cells #[.int .i64 ((rd_T29 l0 x13_1).f0),.string ((rd_T29 l0 x13_1).f1),.int .i64 ((rd_T29 l0 x13_1).f2),.slice A130_3 ((rd_T29 l0 x13_1).f3).length c130_3] 29 (0,0)) (vP B5)):A9≠D8));have D3:=Aside0.mk ((by rw [hg];exact Nat.ne_of_gt (blk_lt (g:=A9) (o:=.cells #[.int .i64 ((rd_T29 l0 x13_1).f0),.string ((rd_T29 l0 x13_1).f1),.int .i64 ((rd_T29 l0 x13_1).f2),.slice A130_3 ((rd_T29 l0 x13_1).f3).length c130_3] 29 (0,0)) (vP B5)):D8≠A9));replace B5:=bP (o:=.cells #[.int .i64 ((rd_T29 l0 x13_1).f0),.string ((rd_T29 l0 x13_1).f1),.int .i64 ((rd_T29 l0 x13_1).f2),.slice A130_3 ((rd_T29 l0 x13_1).f3).length c130_3] 29 (0,0)) B5 hb;clear hb hbox hg;have N8:=D3.out;have N9:=D2.out;obtain ⟨K9,L0,L1,L2,L3,L4,L5,L6⟩:=cf4 D1;obtain ⟨L7,L8,L9,M0,M1,M2,M3,M4⟩:=cf4 B5) | (refine goT 14 (some 29) rfl rfl Try.func14 #[.agg #[.int .i64 ((rd_T29 l0 x13_1).f0),.string ((rd_T29 l0 x13_1).f1),.int .i64 ((rd_T29 l0 x13_1).f2),.slice A130_3 ((rd_T29 l0 x13_1).f3).length c130_3],.agg #[.int .i64 ((rd_T29 l1 x13_1).f0),.string ((rd_T29 l1 x13_1).f1),.int .i64 ((rd_T29 l1 x13_1).f2),.slice A132_3 ((rd_T29 l1 x13_1).f3).length c132_3]] ?_;(with_reducible refine (ih_14 k1 (by have:=HK1.out;omega) ((rd_T29 l0 x13_1).f0) ((rd_T29 l0 x13_1).f1) ((rd_T29 l0 x13_1).f2) _ _ ((rd_T29 l0 x13_1).f3) ((rd_T29 l1 x13_1).f0) ((rd_T29 l1 x13_1).f1) ((rd_T29 l1 x13_1).f2) _ _ ((rd_T29 l1 x13_1).f3) t134 _ ?side1 ?side2 ?side3 ?side4 A11.out).mono ?_);(case side1=>exact cV D4 HB);(case side2=>exact D5.out);(case side3=>exact cV D9 HB);(case side4=>exact E0.out);rintro e w26 ⟨rfl,hb⟩;refine ⟨_,rfl,?_⟩;replace B5:=bB B5 hb;replace D1:=bP (o:=.cells #[.int .i64 ((rd_T29 l1 x13_1).f0),.string ((rd_T29 l1 x13_1).f1),.int .i64 ((rd_T29 l1 x13_1).f2),.slice A132_3 ((rd_T29 l1 x13_1).f3).length c132_3] 29 (0,0)) D1 hb;replace HB:=hS HB hb;(try clear hb);(try clear hb2);(try clear hk);(try clear hi)))
     go_ret
     exact ⟨impl_CompareTerms.a7,hV HB⟩
  ·rw [if_neg c4] at H
   have H6:=decide_eq_false c4
   clear c4
   by_cases c27:(l0.length:Int) < (l1.length:Int)
   ·rw [if_pos c27] at H
    have G8:=decide_eq_true c27
    have G9:decide (l0.length < l1.length)=true:=decide_eq_true (Int.ofNat_lt.mp c27)
    clear c27
    obtain rfl:=Option.some.inj H
    go_wp2
    go_ret
    exact ⟨impl_CompareTerms.a7,hV HB⟩
   rw [if_neg c27] at H
   have G8:=decide_eq_false c27
   have G9:decide (l0.length < l1.length)=false:=decide_eq_false (fun h=>c27 (Int.ofNat_lt.mpr h))
   clear c27
   obtain rfl:=Option.some.inj H
   go_wp2
   go_ret
   exact ⟨impl_CompareTerms.a7,hV HB⟩

theorem impl_CompareTerms.group.calls (k:Nat):impl_CompareTerms.Said k∧impl_Term_43.Said k:=by
 induction k using Nat.strongRecOn with
 | _ k ih=>
 exact ⟨impl_CompareTerms.calls_ k (fun m hm=>(ih m hm).1) (fun m hm=>(ih m hm).2),impl_Term_43.calls_ k (fun m hm=>(ih m hm).1) (fun m hm=>(ih m hm).2)⟩
theorem impl_CompareTerms.calls (k:Nat):∀ (a0_0:Int) (a0_1:ByteArray) (a0_2:Int) (A0_3:Option Addr) (c0_3:Nat) (l0_3:List (S29)) (a1_0:Int) (a1_1:ByteArray) (a1_2:Int) (A1_3:Option Addr) (c1_3:Nat) (l1_3:List (S29)) (r:Int) (w:World) (hr0_3:Kd.C k29 w A0_3 l0_3.length l0_3) (hc0_3:l0_3.length≤c0_3) (hr1_3:Kd.C k29 w A1_3 l1_3.length l1_3) (hc1_3:l1_3.length≤c1_3) (_:impl_CompareTerms.f k a0_0 a0_1 a0_2 l0_3 a1_0 a1_1 a1_2 l1_3=some r),
  Calls Try.prog 14 #[.agg #[.int .i64 a0_0,.string a0_1,.int .i64 a0_2,.slice A0_3 l0_3.length c0_3],.agg #[.int .i64 a1_0,.string a1_1,.int .i64 a1_2,.slice A1_3 l1_3.length c1_3]] w fun e w'=>e=.returned (.int .i64 r)∧Below w.heap.size w w':=(impl_CompareTerms.group.calls k).1
theorem laws_eqTerm.a0 {P_:Prop} (h_:P_:=by first | rfl | (simp [errW_none,errW_some] <;> rfl) | (simp [*,errW_none,errW_some] <;> rfl)):P_:=h_
theorem laws_eqTerm.a1 {P_:Prop} (h_:P_:=by rintro w' ⟨s0,s1,s2,s3,s4,s5,s6,s7⟩;go_simp;with_reducible rfl):P_:=h_
mutual
def laws_eqTerm.f:Nat→Int→ByteArray→Int→List (S29)→Int→ByteArray→Int→List (S29)→Option (Bool)
 | 0,_,_,_,_,_,_,_,_=>none
 | k + 1,a0_0,a0_1,a0_2,l0_3,a1_0,a1_1,a1_2,l1_3=>if a0_0=a1_0 then (if a0_1.toList=a1_1.toList then (if a0_2=a1_2 then ((laws_eqTermS.f k l0_3 l1_3).bind fun t150=>(if t150=true then (some true) else (some false))) else (some false)) else (some false)) else (some false)
def laws_eqTermS.l0:Nat→List (S29)→List (S29)→Int→Option (Bool)
 | 0,_,_,_=>none
 | k + 1,x0,x1,x5=>if x5 < (x0.length:Int) then (if 0≤x5 then (if x5 < (x1.length:Int) then ((laws_eqTerm.f k ((rd_T29 x0 x5).f0) ((rd_T29 x0 x5).f1) ((rd_T29 x0 x5).f2) ((rd_T29 x0 x5).f3) ((rd_T29 x1 x5).f0) ((rd_T29 x1 x5).f1) ((rd_T29 x1 x5).f2) ((rd_T29 x1 x5).f3)).bind fun t147=>(if t147=true then (laws_eqTermS.l0 k x0 x1 (wrap64 (x5 + 1))) else (some false))) else (none)) else (none)) else (some true)
def laws_eqTermS.f:Nat→List (S29)→List (S29)→Option (Bool)
 | 0,_,_=>none
 | k + 1,l0,l1=>if (l0.length:Int)=(l1.length:Int) then (laws_eqTermS.l0 k l0 l1 0) else (some false)
end
def laws_eqTerm.Said (k:Nat):Prop:=∀ (a0_0:Int) (a0_1:ByteArray) (a0_2:Int) (A0_3:Option Addr) (c0_3:Nat) (l0_3:List (S29)) (a1_0:Int) (a1_1:ByteArray) (a1_2:Int) (A1_3:Option Addr) (c1_3:Nat) (l1_3:List (S29)) (r:Bool) (w:World) (hr0_3:Kd.C k29 w A0_3 l0_3.length l0_3) (hc0_3:l0_3.length≤c0_3) (hr1_3:Kd.C k29 w A1_3 l1_3.length l1_3) (hc1_3:l1_3.length≤c1_3) (_:laws_eqTerm.f k a0_0 a0_1 a0_2 l0_3 a1_0 a1_1 a1_2 l1_3=some r),
  Calls Try.prog 15 #[.agg #[.int .i64 a0_0,.string a0_1,.int .i64 a0_2,.slice A0_3 l0_3.length c0_3],.agg #[.int .i64 a1_0,.string a1_1,.int .i64 a1_2,.slice A1_3 l1_3.length c1_3]] w fun e w'=>e=.returned (.bool r)∧Below w.heap.size w w'

def laws_eqTermS.Said (k:Nat):Prop:=∀ (A0:Option Addr) (c0:Nat) (l0:List (S29)) (A1:Option Addr) (c1:Nat) (l1:List (S29)) (r:Bool) (w:World) (hr0:Kd.C k29 w A0 l0.length l0) (hc0:l0.length≤c0) (hr1:Kd.C k29 w A1 l1.length l1) (hc1:l1.length≤c1) (_:laws_eqTermS.f k l0 l1=some r),
  Calls Try.prog 22 #[.slice A0 l0.length c0,.slice A1 l1.length c1] w fun e w'=>e=.returned (.bool r)∧Below w.heap.size w w'

/-! ### laws_eqTerm: function 15 -/
set_option maxHeartbeats 8000000 in
set_option maxRecDepth 100000 in
theorem laws_eqTerm.calls_ (k:Nat) (ih_15:∀ m,m < k→∀ (a0_0:Int) (a0_1:ByteArray) (a0_2:Int) (A0_3:Option Addr) (c0_3:Nat) (l0_3:List (S29)) (a1_0:Int) (a1_1:ByteArray) (a1_2:Int) (A1_3:Option Addr) (c1_3:Nat) (l1_3:List (S29)) (r:Bool) (w:World) (hr0_3:Kd.C k29 w A0_3 l0_3.length l0_3) (hc0_3:l0_3.length≤c0_3) (hr1_3:Kd.C k29 w A1_3 l1_3.length l1_3) (hc1_3:l1_3.length≤c1_3) (_:laws_eqTerm.f m a0_0 a0_1 a0_2 l0_3 a1_0 a1_1 a1_2 l1_3=some r),
  Calls Try.prog 15 #[.agg #[.int .i64 a0_0,.string a0_1,.int .i64 a0_2,.slice A0_3 l0_3.length c0_3],.agg #[.int .i64 a1_0,.string a1_1,.int .i64 a1_2,.slice A1_3 l1_3.length c1_3]] w fun e w'=>e=.returned (.bool r)∧Below w.heap.size w w') (ih_22:∀ m,m < k→∀ (A0:Option Addr) (c0:Nat) (l0:List (S29)) (A1:Option Addr) (c1:Nat) (l1:List (S29)) (r:Bool) (w:World) (hr0:Kd.C k29 w A0 l0.length l0) (hc0:l0.length≤c0) (hr1:Kd.C k29 w A1 l1.length l1) (hc1:l1.length≤c1) (_:laws_eqTermS.f m l0 l1=some r),
  Calls Try.prog 22 #[.slice A0 l0.length c0,.slice A1 l1.length c1] w fun e w'=>e=.returned (.bool r)∧Below w.heap.size w w'):∀ (a0_0:Int) (a0_1:ByteArray) (a0_2:Int) (A0_3:Option Addr) (c0_3:Nat) (l0_3:List (S29)) (a1_0:Int) (a1_1:ByteArray) (a1_2:Int) (A1_3:Option Addr) (c1_3:Nat) (l1_3:List (S29)) (r:Bool) (w:World) (hr0_3:Kd.C k29 w A0_3 l0_3.length l0_3) (hc0_3:l0_3.length≤c0_3) (hr1_3:Kd.C k29 w A1_3 l1_3.length l1_3) (hc1_3:l1_3.length≤c1_3) (h:laws_eqTerm.f k a0_0 a0_1 a0_2 l0_3 a1_0 a1_1 a1_2 l1_3=some r),
  Calls Try.prog 15 #[.agg #[.int .i64 a0_0,.string a0_1,.int .i64 a0_2,.slice A0_3 l0_3.length c0_3],.agg #[.int .i64 a1_0,.string a1_1,.int .i64 a1_2,.slice A1_3 l1_3.length c1_3]] w fun e w'=>e=.returned (.bool r)∧Below w.heap.size w w':=by
 intro a0_0 a0_1 a0_2 A0_3 c0_3 l0_3 a1_0 a1_1 a1_2 A1_3 c1_3 l1_3 r w hr0_3 hc0_3 hr1_3 hc1_3 h
 cases k with
 | zero=>exact absurd h (by simp [laws_eqTerm.f])
 | succ k=>
 simp only [laws_eqTerm.f] at h
 have hu29:=Try.underlying29
 have E8:=Aside0.mk hr0_3
 have E9:=Aside0.mk hc0_3
 clear hr0_3 hc0_3
 have F0:=Aside0.mk hr1_3
 have F1:=Aside0.mk hc1_3
 clear hr1_3 hc1_3
 have HB:=Aside0.mk (Below.refl w.heap.size w)
 have H:(if a0_0=a1_0 then (if a0_1.toList=a1_1.toList then (if a0_2=a1_2 then ((laws_eqTermS.f k l0_3 l1_3).bind fun t150=>(if t150=true then (some true) else (some false))) else (some false)) else (some false)) else (some false))=some r:=h
 clear h
 by_cases c3:a0_0=a1_0
 rotate_left
 ·rw [if_neg c3] at H
  have E5:(a0_0 == a1_0)=false:=beq_eq_false_iff_ne.mpr c3
  have E6:(a0_0 != a1_0)=true:=bne_iff_ne.mpr c3
  obtain rfl:=Option.some.inj H
  go_enter Try.func15,Try.ntmps15
  go_wp2_with (first | (refine bx 2 rfl #[.int .i64 a0_0,.string a0_1,.int .i64 a0_2,.slice A0_3 l0_3.length c0_3] 29 ?_;intro D9 hg w30 hbox hb;have A2:=Aside0.mk (hbox);have E0:=hZ HB hg;have E1:=hZ HB hg;replace HB:=hS HB hb;clear hb hbox hg) | (refine bx 3 rfl #[.int .i64 a1_0,.string a1_1,.int .i64 a1_2,.slice A1_3 l1_3.length c1_3] 29 ?_;intro E2 hg w31 hbox hb;have A9:=Aside0.mk (hbox);have E3:=hZ HB hg;have E4:=hZ HB hg;replace HB:=hS HB hb;have A3:=nL A2 hg;have A4:=nG A2 hg;replace A2:=bB A2 hb;clear hb hbox hg;have N8:=A3.out;have N9:=A4.out;obtain ⟨F8,F9,G0,G1,G2,G3,G4,G5⟩:=cf4 A2;obtain ⟨G6,G7,G8,G9,H0,H1,H2,H3⟩:=cf4 A9))
  go_ret
  exact ⟨laws_eqTerm.a0,hV HB⟩

 rw [if_pos c3] at H
 have E5:(a0_0 == a1_0)=true:=beq_iff_eq.mpr c3
 have E6:(a0_0 != a1_0)=false:=bne_eq_false_iff_eq.mpr c3
 clear c3
 by_cases c4:a0_1.toList=a1_1.toList
 rotate_left
 ·rw [if_neg c4] at H
  have E7:(a0_1.toList == a1_1.toList)=false:=beq_eq_false_iff_ne.mpr c4
  have F6:(a0_1.toList != a1_1.toList)=true:=bne_iff_ne.mpr c4
  obtain rfl:=Option.some.inj H
  go_enter Try.func15,Try.ntmps15
  go_wp2_with (first | (refine bx 2 rfl #[.int .i64 a0_0,.string a0_1,.int .i64 a0_2,.slice A0_3 l0_3.length c0_3] 29 ?_;intro D9 hg w25 hbox hb;have A2:=Aside0.mk (hbox);have E0:=hZ HB hg;have E1:=hZ HB hg;replace HB:=hS HB hb;clear hb hbox hg) | (refine bx 3 rfl #[.int .i64 a1_0,.string a1_1,.int .i64 a1_2,.slice A1_3 l1_3.length c1_3] 29 ?_;intro E2 hg w26 hbox hb;have A9:=Aside0.mk (hbox);have E3:=hZ HB hg;have E4:=hZ HB hg;replace HB:=hS HB hb;have A3:=nL A2 hg;have A4:=nG A2 hg;replace A2:=bB A2 hb;clear hb hbox hg;have O0:=A3.out;have O1:=A4.out;obtain ⟨H4,H5,H6,H7,H8,H9,I0,I1⟩:=cf4 A2;obtain ⟨I2,I3,I4,I5,I6,I7,I8,I9⟩:=cf4 A9))
  go_ret
  exact ⟨laws_eqTerm.a0,hV HB⟩
 rw [if_pos c4] at H
 have E7:(a0_1.toList == a1_1.toList)=true:=beq_iff_eq.mpr c4
 have F6:(a0_1.toList != a1_1.toList)=false:=bne_eq_false_iff_eq.mpr c4
 clear c4
 by_cases c5:a0_2=a1_2
 rotate_left
 ·rw [if_neg c5] at H
  have F2:(a0_2 == a1_2)=false:=beq_eq_false_iff_ne.mpr c5
  have F7:(a0_2 != a1_2)=true:=bne_iff_ne.mpr c5
  obtain rfl:=Option.some.inj H
  go_enter Try.func15,Try.ntmps15
  go_wp2_with (first | (refine bx 2 rfl #[.int .i64 a0_0,.string a0_1,.int .i64 a0_2,.slice A0_3 l0_3.length c0_3] 29 ?_;intro D9 hg w20 hbox hb;have A2:=Aside0.mk (hbox);have E0:=hZ HB hg;have E1:=hZ HB hg;replace HB:=hS HB hb;clear hb hbox hg) | (refine bx 3 rfl #[.int .i64 a1_0,.string a1_1,.int .i64 a1_2,.slice A1_3 l1_3.length c1_3] 29 ?_;intro E2 hg w21 hbox hb;have A9:=Aside0.mk (hbox);have E3:=hZ HB hg;have E4:=hZ HB hg;replace HB:=hS HB hb;have A3:=nL A2 hg;have A4:=nG A2 hg;replace A2:=bB A2 hb;clear hb hbox hg;have O2:=A3.out;have O3:=A4.out;obtain ⟨J0,J1,J2,J3,J4,J5,J6,J7⟩:=cf4 A2;obtain ⟨J8,J9,K0,K1,K2,K3,K4,K5⟩:=cf4 A9))
  go_ret
  exact ⟨laws_eqTerm.a0,hV HB⟩
 rw [if_pos c5] at H
 have F2:(a0_2 == a1_2)=true:=beq_iff_eq.mpr c5
 have F7:(a0_2 != a1_2)=false:=bne_eq_false_iff_eq.mpr c5
 clear c5
 replace H:=Option.bind_eq_some_iff.mp H
 obtain ⟨t150,A60,H⟩:=H
 replace H:(if t150=true then (some true) else (some false))=some r:=H
 have A6:=Aside0.mk A60
 clear A60
 by_cases c7:t150=true
 ·subst c7
  rw [if_pos rfl] at H
  obtain rfl:=Option.some.inj H
  go_enter Try.func15,Try.ntmps15
  go_wp2_with (first | (refine bx 2 rfl #[.int .i64 a0_0,.string a0_1,.int .i64 a0_2,.slice A0_3 l0_3.length c0_3] 29 ?_;intro D9 hg w8 hbox hb;have A2:=Aside0.mk (hbox);have E0:=hZ HB hg;have E1:=hZ HB hg;replace HB:=hS HB hb;clear hb hbox hg) | (refine bx 3 rfl #[.int .i64 a1_0,.string a1_1,.int .i64 a1_2,.slice A1_3 l1_3.length c1_3] 29 ?_;intro E2 hg w9 hbox hb;have A9:=Aside0.mk (hbox);have E3:=hZ HB hg;have E4:=hZ HB hg;replace HB:=hS HB hb;have A3:=nL A2 hg;have A4:=nG A2 hg;replace A2:=bB A2 hb;clear hb hbox hg;have O4:=A3.out;have O5:=A4.out;obtain ⟨K6,K7,K8,K9,L0,L1,L2,L3⟩:=cf4 A2;obtain ⟨L4,L5,L6,L7,L8,L9,M0,M1⟩:=cf4 A9) | (refine goK 22 (some 24) rfl Try.func22 #[.slice A0_3 l0_3.length c0_3,.slice A1_3 l1_3.length c1_3] ?_;(with_reducible refine (ih_22 k (by omega) _ _ l0_3 _ _ l1_3 true _ ?side1 ?side2 ?side3 ?side4 A6.out).mono ?_);(case side1=>exact cB E8 HB);(case side2=>exact E9.out);(case side3=>exact cB F0 HB);(case side4=>exact F1.out);rintro e w13 ⟨rfl,hb⟩;refine ⟨_,rfl,?_⟩;replace A2:=bB A2 hb;replace A9:=bB A9 hb;replace HB:=hS HB hb;(try clear hb);(try clear hb2);(try clear hk);(try clear hi)))
  go_ret
  exact ⟨laws_eqTerm.a0,hV HB⟩
 replace c7:=Bool.eq_false_iff.mpr c7
 subst c7
 rw [if_neg (show ¬ (false=true) by decide)] at H
 obtain rfl:=Option.some.inj H
 go_enter Try.func15,Try.ntmps15
 go_wp2_with (first | (refine bx 2 rfl #[.int .i64 a0_0,.string a0_1,.int .i64 a0_2,.slice A0_3 l0_3.length c0_3] 29 ?_;intro D9 hg w14 hbox hb;have A2:=Aside0.mk (hbox);have E0:=hZ HB hg;have E1:=hZ HB hg;replace HB:=hS HB hb;clear hb hbox hg) | (refine bx 3 rfl #[.int .i64 a1_0,.string a1_1,.int .i64 a1_2,.slice A1_3 l1_3.length c1_3] 29 ?_;intro E2 hg w15 hbox hb;have A9:=Aside0.mk (hbox);have E3:=hZ HB hg;have E4:=hZ HB hg;replace HB:=hS HB hb;have A3:=nL A2 hg;have A4:=nG A2 hg;replace A2:=bB A2 hb;clear hb hbox hg;have O6:=A3.out;have O7:=A4.out;obtain ⟨M2,M3,M4,M5,M6,M7,M8,M9⟩:=cf4 A2;obtain ⟨N0,N1,N2,N3,N4,N5,N6,N7⟩:=cf4 A9) | (refine goK 22 (some 24) rfl Try.func22 #[.slice A0_3 l0_3.length c0_3,.slice A1_3 l1_3.length c1_3] ?_;(with_reducible refine (ih_22 k (by omega) _ _ l0_3 _ _ l1_3 false _ ?side1 ?side2 ?side3 ?side4 A6.out).mono ?_);(case side1=>exact cB E8 HB);(case side2=>exact E9.out);(case side3=>exact cB F0 HB);(case side4=>exact F1.out);rintro e w19 ⟨rfl,hb⟩;refine ⟨_,rfl,?_⟩;replace A2:=bB A2 hb;replace A9:=bB A9 hb;replace HB:=hS HB hb;(try clear hb);(try clear hb2);(try clear hk);(try clear hi)))
 go_ret
 exact ⟨laws_eqTerm.a0,hV HB⟩
/-! ### laws_eqTermS: function 22 -/
def laws_eqTermS.T6:Bool × List (List Nat × List Nat):=(true,[([],[]),([],[]),([0,1],[0,1]),([2],[2]),([],[]),([],[]),([4,5],[4,5]),([6],[6]),([3,7],[3,7]),([8],[8])])
def laws_eqTermS.B6:List Nat:=[0,0,3,7,0,0,48,112,255,511]
theorem laws_eqTermS.tab6:rtab .any (opsOf Try.f22 6)=laws_eqTermS.T6:=by kernel_rfl
theorem laws_eqTermS.bits6:waitsOk laws_eqTermS.T6.2 laws_eqTermS.B6=true:=by kernel_rfl
set_option maxHeartbeats 8000000 in
set_option maxRecDepth 100000 in
theorem laws_eqTermS.calls_ (k:Nat) (ih_15:∀ m,m < k→∀ (a0_0:Int) (a0_1:ByteArray) (a0_2:Int) (A0_3:Option Addr) (c0_3:Nat) (l0_3:List (S29)) (a1_0:Int) (a1_1:ByteArray) (a1_2:Int) (A1_3:Option Addr) (c1_3:Nat) (l1_3:List (S29)) (r:Bool) (w:World) (hr0_3:Kd.C k29 w A0_3 l0_3.length l0_3) (hc0_3:l0_3.length≤c0_3) (hr1_3:Kd.C k29 w A1_3 l1_3.length l1_3) (hc1_3:l1_3.length≤c1_3) (_:laws_eqTerm.f m a0_0 a0_1 a0_2 l0_3 a1_0 a1_1 a1_2 l1_3=some r),
  Calls Try.prog 15 #[.agg #[.int .i64 a0_0,.string a0_1,.int .i64 a0_2,.slice A0_3 l0_3.length c0_3],.agg #[.int .i64 a1_0,.string a1_1,.int .i64 a1_2,.slice A1_3 l1_3.length c1_3]] w fun e w'=>e=.returned (.bool r)∧Below w.heap.size w w') (ih_22:∀ m,m < k→∀ (A0:Option Addr) (c0:Nat) (l0:List (S29)) (A1:Option Addr) (c1:Nat) (l1:List (S29)) (r:Bool) (w:World) (hr0:Kd.C k29 w A0 l0.length l0) (hc0:l0.length≤c0) (hr1:Kd.C k29 w A1 l1.length l1) (hc1:l1.length≤c1) (_:laws_eqTermS.f m l0 l1=some r),
  Calls Try.prog 22 #[.slice A0 l0.length c0,.slice A1 l1.length c1] w fun e w'=>e=.returned (.bool r)∧Below w.heap.size w w'):∀ (A0:Option Addr) (c0:Nat) (l0:List (S29)) (A1:Option Addr) (c1:Nat) (l1:List (S29)) (r:Bool) (w:World) (hr0:Kd.C k29 w A0 l0.length l0) (hc0:l0.length≤c0) (hr1:Kd.C k29 w A1 l1.length l1) (hc1:l1.length≤c1) (h:laws_eqTermS.f k l0 l1=some r),
  Calls Try.prog 22 #[.slice A0 l0.length c0,.slice A1 l1.length c1] w fun e w'=>e=.returned (.bool r)∧Below w.heap.size w w':=by
 intro A0 c0 l0 A1 c1 l1 r w hr0 hc0 hr1 hc1 h
 cases k with
 | zero=>exact absurd h (by simp [laws_eqTermS.f])
 | succ k=>
 simp only [laws_eqTermS.f] at h
 have hu29:=Try.underlying29
 have F4:=Aside0.mk hr0
 have O9:=Aside0.mk hc0
 clear hr0 hc0
 have F5:=Aside0.mk hr1
 have P0:=Aside0.mk hc1
 clear hr1 hc1
 have HB:=Aside0.mk (Below.refl w.heap.size w)
 have H:(if (l0.length:Int)=(l1.length:Int) then (laws_eqTermS.l0 k l0 l1 0) else (some false))=some r:=h
 clear h
 by_cases c3:(l0.length:Int)=(l1.length:Int)
 rotate_left
 ·rw [if_neg c3] at H
  have E5:((l0.length:Int) == (l1.length:Int))=false:=beq_eq_false_iff_ne.mpr c3
  have E6:((l0.length:Int) != (l1.length:Int))=true:=bne_iff_ne.mpr c3
  have F3:(l0.length == l1.length)=false:=by first | simpa using c3 | (simp at c3 ⊢;omega)
  obtain rfl:=Option.some.inj H
  go_enter Try.func22,Try.ntmps22
  go_wp2
  go_ret
  exact ⟨laws_eqTerm.a0,hV HB⟩

 rw [if_pos c3] at H
 have E5:((l0.length:Int) == (l1.length:Int))=true:=beq_iff_eq.mpr c3
 have E6:((l0.length:Int) != (l1.length:Int))=false:=bne_eq_false_iff_eq.mpr c3
 have F3:(l0.length == l1.length)=true:=by first | simpa using c3 | (simp at c3 ⊢;omega)
 clear c3
 have H':=Aside0.mk H
 clear H
 go_enter Try.func22,Try.ntmps22
 go_wp2
 go_loopg [5] k (fun kq v5 w'=> ∃ (x5_1:Int),v5=.int .i64 x5_1∧Aside0 (laws_eqTermS.l0 kq l0 l1 x5_1=some r)∧Aside0 (kq≤k)∧Aside0 (Below w.heap.size w w'))
 case atStart=>exact ⟨(0),(by first | rfl | (simp;done) | (simp [*];done)),H',⟨Nat.le_refl _⟩,⟨hV HB⟩⟩
 clear H'
 try clear c1
 try clear c3
 try clear E5
 try clear E6
 try clear F3
 obtain ⟨x5_1,rfl,HA,HK1,HB⟩:=hrel
 cases gk with
 | zero=>exact absurd HA.out (by simp [laws_eqTermS.l0])
 | succ k1=>
  have H:=HA.out
  clear HA
  simp only [laws_eqTermS.l0] at H
  by_cases c4:x5_1 < (l0.length:Int)
  rotate_left
  ·rw [if_neg c4] at H
   have E7:=decide_eq_false c4
   clear c4
   obtain rfl:=Option.some.inj H
   go_wp2
   go_ret
   exact ⟨laws_eqTerm.a0,hV HB⟩
  rw [if_pos c4] at H
  have E7:=decide_eq_true c4
  clear c4
  by_cases c5:0≤x5_1
  rotate_left
  ·rw [if_neg c5] at H
   exact absurd H (by simp)
  rw [if_pos c5] at H
  have F2:=decide_eq_true c5
  clear c5
  by_cases c6:x5_1 < (l1.length:Int)
  rotate_left
  ·rw [if_neg c6] at H
   exact absurd H (by simp)
  rw [if_pos c6] at H
  have O8:=decide_eq_true c6
  clear c6
  replace H:=Option.bind_eq_some_iff.mp H
  obtain ⟨t147,A70,H⟩:=H
  replace H:(if t147=true then (laws_eqTermS.l0 k1 l0 l1 (wrap64 (x5_1 + 1))) else (some false))=some r:=H
  have A7:=Aside0.mk A70
  clear A70
  by_cases c8:t147=true
  ·subst c8
   rw [if_pos rfl] at H
   have H':=Aside0.mk H
   clear H
   try go_wp2
   replace HB:=Aside0.mk (below_drew1 HB.out)
   have D3:0≤(x5_1:Int):=dT
   have D4:x5_1 < (l0.length:Int):=dT
   obtain ⟨A5,A145_3,c145_3,e145,B0,B1,B2,B3,C7,C8⟩:=at_T29 F4.out x5_1 D3 D4
   have B4:=B3
   have B5:=B2
   have B7:=B1
   have B8:=B0
   cases e145
   replace B0:=xc HB B0
   replace B1:=xc HB B1
   replace B2:=xc HB B2
   replace B3:=xc HB B3
   have C9:=Aside0.mk C8
   have D7:=Aside0.mk C7
   clear C8 C7
   replace D3:=eq_true D3
   replace D4:=eq_true D4
   have D5:0≤(x5_1:Int):=dT
   have D6:x5_1 < (l1.length:Int):=dT
   obtain ⟨A8,A146_3,c146_3,e146,B9,C0,C1,C2,D0,D1⟩:=at_T29 F5.out x5_1 D5 D6
   have C3:=C2
   have C4:=C1
   have C5:=C0
   have C6:=B9
   cases e146
   replace B9:=xc HB B9
   replace C0:=xc HB C0
   replace C1:=xc HB C1
   replace C2:=xc HB C2
   have D2:=Aside0.mk D1
   have D8:=Aside0.mk D0
   clear D1 D0
   replace D5:=eq_true D5
   replace D6:=eq_true D6
   refine start_ (n:=10) (S:=fun w'=>w'.cell? (A5.add ((x5_1).toNat * 4))=some (.int .i64 ((rd_T29 l0 x5_1).f0))∧w'.cell? ⟨(A5.add ((x5_1).toNat * 4)).block,(A5.add ((x5_1).toNat * 4)).off + 1,none⟩=some (.string ((rd_T29 l0 x5_1).f1))∧w'.cell? ⟨(A5.add ((x5_1).toNat * 4)).block,(A5.add ((x5_1).toNat * 4)).off + 2,none⟩=some (.int .i64 ((rd_T29 l0 x5_1).f2))∧w'.cell? ⟨(A5.add ((x5_1).toNat * 4)).block,(A5.add ((x5_1).toNat * 4)).off + 3,none⟩=some (.slice A145_3 ((rd_T29 l0 x5_1).f3).length c145_3)∧w'.cell? (A8.add ((x5_1).toNat * 4))=some (.int .i64 ((rd_T29 l1 x5_1).f0))∧w'.cell? ⟨(A8.add ((x5_1).toNat * 4)).block,(A8.add ((x5_1).toNat * 4)).off + 1,none⟩=some (.string ((rd_T29 l1 x5_1).f1))∧w'.cell? ⟨(A8.add ((x5_1).toNat * 4)).block,(A8.add ((x5_1).toNat * 4)).off + 2,none⟩=some (.int .i64 ((rd_T29 l1 x5_1).f2))∧w'.cell? ⟨(A8.add ((x5_1).toNat * 4)).block,(A8.add ((x5_1).toNat * 4)).off + 3,none⟩=some (.slice A146_3 ((rd_T29 l1 x5_1).f3).length c146_3)) (ds:=[]) #[false,false,false,false,false,false,false,false,false,false] (by kernel_rfl) rfl rfl ⟨((HB.out.cell (World.block_lt_of_cell? w _ B8)).trans B8),((HB.out.cell (World.block_lt_of_cell? w _ B7)).trans B7),((HB.out.cell (World.block_lt_of_cell? w _ B5)).trans B5),((HB.out.cell (World.block_lt_of_cell? w _ B4)).trans B4),((HB.out.cell (World.block_lt_of_cell? w _ C6)).trans C6),((HB.out.cell (World.block_lt_of_cell? w _ C5)).trans C5),((HB.out.cell (World.block_lt_of_cell? w _ C4)).trans C4),((HB.out.cell (World.block_lt_of_cell? w _ C3)).trans C3)⟩ (fun hHeld=> ?_);refine with_tabW laws_eqTermS.tab6 laws_eqTermS.bits6 (fun HT_ HW_=> ?_)
   generalize wr.drew=w9 at HB C9 D2 B0 B1 B2 B3 B9 C0 C1 C2 hHeld ⊢
   refine pureS 0 17 HT_ rfl rfl ?_
   refine pureS 1 18 HT_ rfl rfl ?_
   refine pureS 2 19 HT_ rfl rfl ?_
   refine pureS 4 21 HT_ rfl rfl ?_
   refine pureS 5 22 HT_ rfl rfl ?_
   refine pureS 6 23 HT_ rfl rfl ?_
   refine takeS 3 20 HT_ HW_ rfl rfl hHeld ?_ laws_eqTerm.a1
   refine takeS 7 24 HT_ HW_ rfl rfl hHeld ?_ laws_eqTerm.a1
   refine one_ (i:=8) (N:=some 25) #[true,true,true,true,true,true,true,true,true,false] rfl rfl (one_of HT_.out (by kernel_rfl)) (by decide) (fun K hK=> ?_)
   refine goes_ Try.func15 (by kernel_rfl) rfl #[.agg #[.int .i64 ((rd_T29 l0 x5_1).f0),.string ((rd_T29 l0 x5_1).f1),.int .i64 ((rd_T29 l0 x5_1).f2),.slice A145_3 ((rd_T29 l0 x5_1).f3).length c145_3],.agg #[.int .i64 ((rd_T29 l1 x5_1).f0),.string ((rd_T29 l1 x5_1).f1),.int .i64 ((rd_T29 l1 x5_1).f2),.slice A146_3 ((rd_T29 l1 x5_1).f3).length c146_3]] (by rfl) rfl rfl (by (try simp only [List.map_toArray,List.map_cons,List.map_nil]);first | done | rfl | (simp only [List.length_drop,List.length_take];rfl)) ?_
   with_reducible refine (ih_15 k1 (by have:=HK1.out;omega) ((rd_T29 l0 x5_1).f0) ((rd_T29 l0 x5_1).f1) ((rd_T29 l0 x5_1).f2) _ _ ((rd_T29 l0 x5_1).f3) ((rd_T29 l1 x5_1).f0) ((rd_T29 l1 x5_1).f1) ((rd_T29 l1 x5_1).f2) _ _ ((rd_T29 l1 x5_1).f3) true _ ?side1 ?side2 ?side3 ?side4 A7.out).mono ?_
   (case side1=>exact cB C9 HB)
   (case side2=>exact D7.out)
   (case side3=>exact cB D2 HB)
   (case side4=>exact D8.out)
   rintro e w10 ⟨rfl,hb⟩
   refine ⟨_,rfl,?_⟩
   replace HB:=hS HB hb
   (try clear hb)
   (try clear hb2)
   (try clear hk)
   (try clear hi)
   refine hK.out _ _ ⟨((HB.out.cell (World.block_lt_of_cell? w _ B8)).trans B8),((HB.out.cell (World.block_lt_of_cell? w _ B7)).trans B7),((HB.out.cell (World.block_lt_of_cell? w _ B5)).trans B5),((HB.out.cell (World.block_lt_of_cell? w _ B4)).trans B4),((HB.out.cell (World.block_lt_of_cell? w _ C6)).trans C6),((HB.out.cell (World.block_lt_of_cell? w _ C5)).trans C5),((HB.out.cell (World.block_lt_of_cell? w _ C4)).trans C4),((HB.out.cell (World.block_lt_of_cell? w _ C3)).trans C3)⟩ (fun hHeld=> ?_)
   clear hK K
   refine norm_ (a':=?_) ?_ ?_
   rotate_left
   ·show Act.put _ (some 25) _=_
    simp only [Act.put,List.setIfInBounds_toArray,List.set_cons_zero,List.set_cons_succ,i64_w,i32_w]
    rfl
   refine pureS 9 26 HT_ rfl rfl ?_
   refine done_ (done_of HT_.out (by kernel_rfl)) ?_
   try go_wp2
   go_roundg k1
   case measure=>have:=HK1.out;omega
   case rel=>exact ⟨(wrap64 (x5_1 + 1)),(by first | rfl | (simp;done) | (simp [*];done)),H',⟨by have:=HK1.out;omega⟩,⟨hV HB⟩⟩
  ·replace c8:=Bool.eq_false_iff.mpr c8
   subst c8
   rw [if_neg (show ¬ (false=true) by decide)] at H
   obtain rfl:=Option.some.inj H
   try go_wp2
   replace HB:=Aside0.mk (below_drew1 HB.out)
   have D3:0≤(x5_1:Int):=dT
   have D4:x5_1 < (l0.length:Int):=dT
   obtain ⟨A5,A145_3,c145_3,e145,B0,B1,B2,B3,C7,C8⟩:=at_T29 F4.out x5_1 D3 D4
   have B4:=B3
   have B5:=B2
   have B7:=B1
   have B8:=B0
   cases e145
   replace B0:=xc HB B0
   replace B1:=xc HB B1
   replace B2:=xc HB B2
   replace B3:=xc HB B3
   have C9:=Aside0.mk C8
   have D7:=Aside0.mk C7
   clear C8 C7
   replace D3:=eq_true D3
   replace D4:=eq_true D4
   have D5:0≤(x5_1:Int):=dT
   have D6:x5_1 < (l1.length:Int):=dT
   obtain ⟨A8,A146_3,c146_3,e146,B9,C0,C1,C2,D0,D1⟩:=at_T29 F5.out x5_1 D5 D6
   have C3:=C2
   have C4:=C1
   have C5:=C0
   have C6:=B9
   cases e146
   replace B9:=xc HB B9
   replace C0:=xc HB C0
   replace C1:=xc HB C1
   replace C2:=xc HB C2
   have D2:=Aside0.mk D1
   have D8:=Aside0.mk D0
   clear D1 D0
   replace D5:=eq_true D5
   replace D6:=eq_true D6
   refine start_ (n:=10) (S:=fun w'=>w'.cell? (A5.add ((x5_1).toNat * 4))=some (.int .i64 ((rd_T29 l0 x5_1).f0))∧w'.cell? ⟨(A5.add ((x5_1).toNat * 4)).block,(A5.add ((x5_1).toNat * 4)).off + 1,none⟩=some (.string ((rd_T29 l0 x5_1).f1))∧w'.cell? ⟨(A5.add ((x5_1).toNat * 4)).block,(A5.add ((x5_1).toNat * 4)).off + 2,none⟩=some (.int .i64 ((rd_T29 l0 x5_1).f2))∧w'.cell? ⟨(A5.add ((x5_1).toNat * 4)).block,(A5.add ((x5_1).toNat * 4)).off + 3,none⟩=some (.slice A145_3 ((rd_T29 l0 x5_1).f3).length c145_3)∧w'.cell? (A8.add ((x5_1).toNat * 4))=some (.int .i64 ((rd_T29 l1 x5_1).f0))∧w'.cell? ⟨(A8.add ((x5_1).toNat * 4)).block,(A8.add ((x5_1).toNat * 4)).off + 1,none⟩=some (.string ((rd_T29 l1 x5_1).f1))∧w'.cell? ⟨(A8.add ((x5_1).toNat * 4)).block,(A8.add ((x5_1).toNat * 4)).off + 2,none⟩=some (.int .i64 ((rd_T29 l1 x5_1).f2))∧w'.cell? ⟨(A8.add ((x5_1).toNat * 4)).block,(A8.add ((x5_1).toNat * 4)).off + 3,none⟩=some (.slice A146_3 ((rd_T29 l1 x5_1).f3).length c146_3)) (ds:=[]) #[false,false,false,false,false,false,false,false,false,false] (by kernel_rfl) rfl rfl ⟨((HB.out.cell (World.block_lt_of_cell? w _ B8)).trans B8),((HB.out.cell (World.block_lt_of_cell? w _ B7)).trans B7),((HB.out.cell (World.block_lt_of_cell? w _ B5)).trans B5),((HB.out.cell (World.block_lt_of_cell? w _ B4)).trans B4),((HB.out.cell (World.block_lt_of_cell? w _ C6)).trans C6),((HB.out.cell (World.block_lt_of_cell? w _ C5)).trans C5),((HB.out.cell (World.block_lt_of_cell? w _ C4)).trans C4),((HB.out.cell (World.block_lt_of_cell? w _ C3)).trans C3)⟩ (fun hHeld=> ?_);refine with_tabW laws_eqTermS.tab6 laws_eqTermS.bits6 (fun HT_ HW_=> ?_)
   generalize wr.drew=w11 at HB C9 D2 B0 B1 B2 B3 B9 C0 C1 C2 hHeld ⊢
   refine pureS 0 17 HT_ rfl rfl ?_
   refine pureS 1 18 HT_ rfl rfl ?_
   refine pureS 2 19 HT_ rfl rfl ?_
   refine pureS 4 21 HT_ rfl rfl ?_
   refine pureS 5 22 HT_ rfl rfl ?_
   refine pureS 6 23 HT_ rfl rfl ?_
   refine takeS 3 20 HT_ HW_ rfl rfl hHeld ?_ laws_eqTerm.a1
   refine takeS 7 24 HT_ HW_ rfl rfl hHeld ?_ laws_eqTerm.a1
   refine one_ (i:=8) (N:=some 25) #[true,true,true,true,true,true,true,true,true,false] rfl rfl (one_of HT_.out (by kernel_rfl)) (by decide) (fun K hK=> ?_)
   refine goes_ Try.func15 (by kernel_rfl) rfl #[.agg #[.int .i64 ((rd_T29 l0 x5_1).f0),.string ((rd_T29 l0 x5_1).f1),.int .i64 ((rd_T29 l0 x5_1).f2),.slice A145_3 ((rd_T29 l0 x5_1).f3).length c145_3],.agg #[.int .i64 ((rd_T29 l1 x5_1).f0),.string ((rd_T29 l1 x5_1).f1),.int .i64 ((rd_T29 l1 x5_1).f2),.slice A146_3 ((rd_T29 l1 x5_1).f3).length c146_3]] (by rfl) rfl rfl (by (try simp only [List.map_toArray,List.map_cons,List.map_nil]);first | done | rfl | (simp only [List.length_drop,List.length_take];rfl)) ?_
   with_reducible refine (ih_15 k1 (by have:=HK1.out;omega) ((rd_T29 l0 x5_1).f0) ((rd_T29 l0 x5_1).f1) ((rd_T29 l0 x5_1).f2) _ _ ((rd_T29 l0 x5_1).f3) ((rd_T29 l1 x5_1).f0) ((rd_T29 l1 x5_1).f1) ((rd_T29 l1 x5_1).f2) _ _ ((rd_T29 l1 x5_1).f3) false _ ?side1 ?side2 ?side3 ?side4 A7.out).mono ?_
   (case side1=>exact cB C9 HB)
   (case side2=>exact D7.out)
   (case side3=>exact cB D2 HB)
   (case side4=>exact D8.out)
   rintro e w12 ⟨rfl,hb⟩
   refine ⟨_,rfl,?_⟩
   replace HB:=hS HB hb
   (try clear hb)
   (try clear hb2)
   (try clear hk)
   (try clear hi)
   refine hK.out _ _ ⟨((HB.out.cell (World.block_lt_of_cell? w _ B8)).trans B8),((HB.out.cell (World.block_lt_of_cell? w _ B7)).trans B7),((HB.out.cell (World.block_lt_of_cell? w _ B5)).trans B5),((HB.out.cell (World.block_lt_of_cell? w _ B4)).trans B4),((HB.out.cell (World.block_lt_of_cell? w _ C6)).trans C6),((HB.out.cell (World.block_lt_of_cell? w _ C5)).trans C5),((HB.out.cell (World.block_lt_of_cell? w _ C4)).trans C4),((HB.out.cell (World.block_lt_of_cell? w _ C3)).trans C3)⟩ (fun hHeld=> ?_)
   clear hK K
   refine norm_ (a':=?_) ?_ ?_
   rotate_left
   ·show Act.put _ (some 25) _=_
    simp only [Act.put,List.setIfInBounds_toArray,List.set_cons_zero,List.set_cons_succ,i64_w,i32_w]
    rfl
   refine pureS 9 26 HT_ rfl rfl ?_
   refine done_ (done_of HT_.out (by kernel_rfl)) ?_
   try go_wp2
   go_ret
   exact ⟨laws_eqTerm.a0,hV HB⟩
theorem laws_eqTerm.group.calls (k:Nat):laws_eqTerm.Said k∧laws_eqTermS.Said k:=by
 induction k using Nat.strongRecOn with
 | _ k ih=>
 exact ⟨laws_eqTerm.calls_ k (fun m hm=>(ih m hm).1) (fun m hm=>(ih m hm).2),laws_eqTermS.calls_ k (fun m hm=>(ih m hm).1) (fun m hm=>(ih m hm).2)⟩
theorem laws_eqTerm.calls (k:Nat):∀ (a0_0:Int) (a0_1:ByteArray) (a0_2:Int) (A0_3:Option Addr) (c0_3:Nat) (l0_3:List (S29)) (a1_0:Int) (a1_1:ByteArray) (a1_2:Int) (A1_3:Option Addr) (c1_3:Nat) (l1_3:List (S29)) (r:Bool) (w:World) (hr0_3:Kd.C k29 w A0_3 l0_3.length l0_3) (hc0_3:l0_3.length≤c0_3) (hr1_3:Kd.C k29 w A1_3 l1_3.length l1_3) (hc1_3:l1_3.length≤c1_3) (_:laws_eqTerm.f k a0_0 a0_1 a0_2 l0_3 a1_0 a1_1 a1_2 l1_3=some r),
  Calls Try.prog 15 #[.agg #[.int .i64 a0_0,.string a0_1,.int .i64 a0_2,.slice A0_3 l0_3.length c0_3],.agg #[.int .i64 a1_0,.string a1_1,.int .i64 a1_2,.slice A1_3 l1_3.length c1_3]] w fun e w'=>e=.returned (.bool r)∧Below w.heap.size w w':=(laws_eqTerm.group.calls k).1
end Go.Proofs.Ytcofpnddfmlafaa.Q

