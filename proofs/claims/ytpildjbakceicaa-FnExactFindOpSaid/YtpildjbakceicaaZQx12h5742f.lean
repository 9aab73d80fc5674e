/- Functions of the program as plain Lean functions,and that the calls come to what they say. -/
import Derived.Test.YtpildjbakceicaaZQx0hb61c0
import Derived.Test.YtpildjbakceicaaZQx10h9e436
import Derived.Test.YtpildjbakceicaaZQx11hbd7d1
import Derived.Test.YtpildjbakceicaaZShorth7b252
namespace Go.Proofs.Ytpildjbakceicaa.Q
open Go.RowKit Go.Proofs.YtpildjbakceicaaW.PrintWords Go.Proofs.YtpildjbakceicaaW.PrintLast Go.Proofs.YtpildjbakceicaaW.PrintMore
attribute [local go_sem] max2_int min2_int max_two min_two max_three min_three max_four min_four   -- for this text's walks alone
set_option linter.unusedVariables false
set_option linter.unusedSimpArgs false

/-! ### impl_newOrder: function 29 -/
theorem impl_newOrder.a0 {P_:Prop} (h_:P_:=by first | (simp only [putAll,Act.put,List.setIfInBounds_toArray,List.set_cons_zero,List.set_cons_succ];done) | (simp only [putAll,Act.put,List.setIfInBounds_toArray,List.set_cons_zero,List.set_cons_succ];rfl)):P_:=h_
theorem impl_newOrder.a1 {P_:Prop} (h_:P_:=by (try simp only [List.map_toArray,List.map_cons,List.map_nil]);first | done | rfl | (simp only [List.length_drop,List.length_take];rfl)):P_:=h_
theorem impl_newOrder.a2 {P_:Prop} (h_:P_:=by rintro w' ⟨s0,s1,s2,s3,s4,s5,s6⟩;go_simp;with_reducible rfl):P_:=h_
theorem impl_newOrder.a3 {P_:Prop} (h_:P_:=by first | rfl | (simp;done) | (simp [*];done)):P_:=h_
theorem impl_newOrder.a4 {P_:Prop} (h_:P_:=by first | exact Kd.R_nil _ _ _ _ _ | exact Kd.N_nil _ _ _ _ _ | exact Kd.V_nil _ _ _ _ _ | exact Kd.Q_nil _ _ _ _ _ | exact Kd.S_nil _ _ _ _ _):P_:=h_
theorem impl_newOrder.a5 {P_:Prop} (h_:P_:=by kernel_rfl):P_:=h_
theorem impl_newOrder.a6 {P_:Prop} (h_:P_:=by decide):P_:=h_
mutual
def impl_newOrder.l0:Nat→Int→List Int→Int→Int→List ByteArray→List (S89)→List Int→List Int→List Int→Option (List Int × List Int × List Int × Bool)
 | 0,_,_,_,_,_,_,_,_,_=>none
 | k + 1,x4,x28,x29,x30,x318000,x318001,x330000,x330001,x330002=>if x30 < x29 then (if 0≤x30 then (if x30 < (x28.length:Int) then ((impl_ListOf.f k (rd x28 x30)).bind fun t331=>(impl_newOrder.l1 k x4 x30 x28 x29 x30 t331 (t331.length:Int) 0 x318000 x318001 x330000 x330001 x330002)) else (none)) else (none)) else (impl_newOrder.l2 k x4 0 x318000 x318001 x330000 x330001 x330002)
def impl_newOrder.l1:Nat→Int→Int→List Int→Int→Int→List Int→Int→Int→List ByteArray→List (S89)→List Int→List Int→List Int→Option (List Int × List Int × List Int × Bool)
 | 0,_,_,_,_,_,_,_,_,_,_,_,_,_=>none
 | k + 1,x4,x6,x28,x29,x30,x36,x37,x38,x318000,x318001,x330000,x330001,x330002=>if x38 < x37 then (if 0≤x38 then (if x38 < (x36.length:Int) then (if 0≤(rd x36 x38) then (if (rd x36 x38) < (x330001.length:Int) then (if 0≤x6 then (impl_newOrder.l1 k x4 x6 x28 x29 x30 x36 x37 (wrap64 (x38 + 1)) x318000 x318001 x330000 (x330001.set ((rd x36 x38):Int).toNat (Go.bits .or .i64 (rd x330001 (rd x36 x38)) (shl .i64 1 x6))) x330002) else (none)) else (none)) else (none)) else (none)) else (none)) else (if 0≤x6 then (if x6 < (x330002.length:Int) then (impl_newOrder.l0 k x4 x28 x29 (wrap64 (x30 + 1)) x318000 x318001 x330000 x330001 (x330002.set (x6:Int).toNat x6)) else (none)) else (none))
def impl_newOrder.l2:Nat→Int→Int→List ByteArray→List (S89)→List Int→List Int→List Int→Option (List Int × List Int × List Int × Bool)
 | 0,_,_,_,_,_,_,_=>none
 | k + 1,x61,x62,x318000,x318001,x330000,x330001,x330002=>if x62 < x61 then (impl_newOrder.l3 k x61 x62 x318001 (x318001.length:Int) 0 x318000 x318001 x330000 x330001 x330002) else (some (x330000,x330001,x330002,true))
def impl_newOrder.l3:Nat→Int→Int→List (S89)→Int→Int→List ByteArray→List (S89)→List Int→List Int→List Int→Option (List Int × List Int × List Int × Bool)
 | 0,_,_,_,_,_,_,_,_,_,_=>none
 | k + 1,x61,x62,x65,x66,x67,x318000,x318001,x330000,x330001,x330002=>if x67 < x66 then (if 0≤x67 then (if x67 < (x65.length:Int) then (if 0≤((rd_T89 x65 x67).f0) then (if ((rd_T89 x65 x67).f0) < (x330002.length:Int) then (if 0≤((rd_T89 x65 x67).f1) then (if ((rd_T89 x65 x67).f1) < (x330002.length:Int) then (impl_newOrder.l3 k x61 x62 x65 x66 (wrap64 (x67 + 1)) x318000 x318001 x330000 x330001 ((x330002.set (((rd_T89 x65 x67).f0):Int).toNat (mn (rd x330002 ((rd_T89 x65 x67).f0)) (rd x330002 ((rd_T89 x65 x67).f1)))).set (((rd_T89 x65 x67).f1):Int).toNat (mn (rd x330002 ((rd_T89 x65 x67).f0)) (rd x330002 ((rd_T89 x65 x67).f1))))) else (none)) else (none)) else (none)) else (none)) else (none)) else (none)) else (impl_newOrder.l2 k x61 (wrap64 (x62 + 1)) x318000 x318001 x330000 x330001 x330002)
end
def impl_newOrder.f (k:Nat) (l0_0:List ByteArray) (l0_1:List (S89)):Option (List Int × List Int × List Int × Bool):=(impl_IsSorts.f k l0_0 l0_1).bind fun t319=>(if t319=true then ((impl_sortsAbove.f k l0_0 l0_1).bind fun t320=>(if 0≤(l0_0.length:Int) then (if ((l0_0.length:Int):Int).toNat≤35184372088832 then (impl_newOrder.l0 k (l0_0.length:Int) t320 (t320.length:Int) 0 l0_0 l0_1 t320 (List.replicate ((l0_0.length:Int):Int).toNat 0) (List.replicate ((l0_0.length:Int):Int).toNat 0)) else (none)) else (none))) else (some (([]:List Int),([]:List Int),([]:List Int),false)))
def impl_newOrder.T4:Bool × List (List Nat × List Nat):=(true,[([],[]),([0],[0]),([],[]),([2,2],[2]),([],[]),([4,4],[4]),([1,3,5],[1,3,5]),([],[]),([7,6,1,0,1,2,3,4,5,6,7],[6,7])])
def impl_newOrder.B4:List Nat:=[0,1,0,4,0,16,63,0,255]
theorem impl_newOrder.tab4:rtab .any (opsOf Try.f29 4)=impl_newOrder.T4:=by kernel_rfl
theorem impl_newOrder.bits4:waitsOk impl_newOrder.T4.2 impl_newOrder.B4=true:=by kernel_rfl
def impl_newOrder.T11:Bool × List (List Nat × List Nat):=(true,[([],[]),([0],[0]),([],[]),([],[]),([3],[3]),([],[]),([4,5],[4,5]),([6],[6]),([],[]),([8],[8]),([7,9],[7,9]),([1,2,0,1,2,3,4,5,6,7,8,9,10],[1,2]),([11,10,0,1,2,3,4,5,6,7,8,9,10],[10,11])])
def impl_newOrder.B11:List Nat:=[0,1,0,0,8,0,56,120,0,256,1016,2047,4095]
theorem impl_newOrder.tab11:rtab .any (opsOf Try.f29 11)=impl_newOrder.T11:=by kernel_rfl
theorem impl_newOrder.bits11:waitsOk impl_newOrder.T11.2 impl_newOrder.B11=true:=by kernel_rfl
def impl_newOrder.T20:Bool × List (List Nat × List Nat):=(true,[([],[]),([0],[0]),([],[]),([2],[2]),([1,3],[1,3]),([4],[4]),([],[]),([6],[6]),([],[]),([8],[8]),([7,9],[7,9]),([10],[10]),([5,11],[5,11]),([12,0,1,2,3,4,5,6,7,8,9,10,11,12],[12])])
def impl_newOrder.B20:List Nat:=[0,1,0,4,15,31,0,64,0,256,960,1984,4095,8191]
theorem impl_newOrder.tab20:rtab .any (opsOf Try.f29 20)=impl_newOrder.T20:=by kernel_rfl
theorem impl_newOrder.bits20:waitsOk impl_newOrder.T20.2 impl_newOrder.B20=true:=by kernel_rfl
set_option maxHeartbeats 8000000 in
set_option maxRecDepth 100000 in
theorem impl_newOrder.calls (k:Nat) (A0_0:Option Addr) (c0_0:Nat) (l0_0:List ByteArray) (A0_1:Option Addr) (c0_1:Nat) (l0_1:List (S89)) (r1:List Int) (r2:List Int) (r3:List Int) (r4:Bool) (w:World) (hr0_0:Kd.C Kd.string w A0_0 l0_0.length l0_0) (hc0_0:l0_0.length≤c0_0) (hr0_1:Kd.C k89 w A0_1 l0_1.length l0_1) (hc0_1:l0_1.length≤c0_1) (h:impl_newOrder.f k l0_0 l0_1=some (r1,r2,r3,r4)) :
  Calls Try.prog 29 #[.agg #[.slice A0_0 l0_0.length c0_0,.slice A0_1 l0_1.length c0_1]] w fun e w'=> ∃ v0_ v1_ v2_:Value,e=.returned (.tuple #[.agg #[v0_,v1_,v2_],.bool r4])∧Kd.R (Kd.int .i64) 3 w' w.heap.size (fun k_=>some k_≠(v1_:Value).ownBlock∧some k_≠(v2_:Value).ownBlock) v0_ r1∧Kd.R (Kd.int .i64) 3 w' w.heap.size (fun k_=>some k_≠(v0_:Value).ownBlock∧some k_≠(v2_:Value).ownBlock) v1_ r2∧Kd.R (Kd.int .i64) 3 w' w.heap.size (fun k_=>some k_≠(v0_:Value).ownBlock∧some k_≠(v1_:Value).ownBlock) v2_ r3∧Below w.heap.size w w':=by
 have hu33:=Try.underlying33
 have hu57:=Try.underlying57
 have hu89:=Try.underlying89
 have D3:=Aside0.mk hr0_0
 have D4:=Aside0.mk hc0_0
 clear hr0_0 hc0_0
 have D0:=Aside0.mk hr0_1
 have D5:=Aside0.mk hc0_1
 clear hr0_1 hc0_1
 have HB:=Aside0.mk (Below.refl w.heap.size w)
 have H:((impl_IsSorts.f k l0_0 l0_1).bind fun t319=>(if t319=true then ((impl_sortsAbove.f k l0_0 l0_1).bind fun t320=>(if 0≤(l0_0.length:Int) then (if ((l0_0.length:Int):Int).toNat≤35184372088832 then (impl_newOrder.l0 k (l0_0.length:Int) t320 (t320.length:Int) 0 l0_0 l0_1 t320 (List.replicate ((l0_0.length:Int):Int).toNat 0) (List.replicate ((l0_0.length:Int):Int).toNat 0)) else (none)) else (none))) else (some (([]:List Int),([]:List Int),([]:List Int),false))))=some (r1,r2,r3,r4):=h
 clear h
 replace H:=Option.bind_eq_some_iff.mp H
 obtain ⟨t319,A20,H⟩:=H
 replace H:(if t319=true then ((impl_sortsAbove.f k l0_0 l0_1).bind fun t320=>(if 0≤(l0_0.length:Int) then (if ((l0_0.length:Int):Int).toNat≤35184372088832 then (impl_newOrder.l0 k (l0_0.length:Int) t320 (t320.length:Int) 0 l0_0 l0_1 t320 (List.replicate ((l0_0.length:Int):Int).toNat 0) (List.replicate ((l0_0.length:Int):Int).toNat 0)) else (none)) else (none))) else (some (([]:List Int),([]:List Int),([]:List Int),false)))=some (r1,r2,r3,r4):=H
 have A2:=Aside0.mk A20
 clear A20
 by_cases c3:t319=true
 rotate_left
 ·replace c3:=Bool.eq_false_iff.mpr c3
  subst c3
  rw [if_neg (show ¬ (false=true) by decide)] at H
  simp only [Option.some.injEq,Prod.mk.injEq] at H
  obtain ⟨rfl,rfl,rfl,rfl⟩:=H
  go_enter Try.func29,Try.ntmps29
  go_wp2_with (first | (refine bx 1 rfl #[.slice A0_0 l0_0.length c0_0,.slice A0_1 l0_1.length c0_1] 33 ?_;intro A3 hg w98 hbox hb;have A0:=Aside0.mk (hbox);have M4:=hZ HB hg;have M5:=hZ HB hg;replace HB:=hS HB hb;clear hb hbox hg) | (refine bx 2 rfl #[.slice none 0 0,.slice none 0 0,.slice none 0 0] 57 ?_;intro B8 hg w99 hbox hb;have A1:=Aside0.mk (hbox);have M6:=hZ HB hg;have M7:=hZ HB hg;replace HB:=hS HB hb;have D7:=nL A0 hg;have D8:=nG A0 hg;replace A0:=bB A0 hb;clear hb hbox hg;have V7:=D7.out;have V8:=D8.out;obtain ⟨O7,O8,O9,P0⟩:=cf2 A0) | (refine goK 55 (some 14) rfl Try.func55 #[.agg #[.slice A0_0 l0_0.length c0_0,.slice A0_1 l0_1.length c0_1]] ?_;(with_reducible refine (impl_IsSorts.calls k _ _ l0_0 _ _ l0_1 false _ ?side1 ?side2 ?side3 ?side4 A2.out).mono ?_);(case side1=>exact cB D3 HB);(case side2=>exact D4.out);(case side3=>exact cB D0 HB);(case side4=>exact D5.out);rintro e w102 ⟨rfl,hb⟩;refine ⟨_,rfl,?_⟩;replace A0:=bB A0 hb;replace A1:=bB A1 hb;replace HB:=hS HB hb;(try clear hb);(try clear hb2);(try clear hk);(try clear hi);obtain ⟨P1,P2,P3,P4,P5,P6⟩:=cf3 A1))
  refine bodyPost_ret (results_ct rfl _ _ B8 57 #[.slice none 0 0,.slice none 0 0,.slice none 0 0] (0,0) _ rfl (vP A1) Try.underlying57 rfl impl_newOrder.a5) rfl ?_
  exact ⟨_,_,_,by first | rfl | (simp [errW_none,errW_some] <;> rfl) | (simp [*,errW_none,errW_some] <;> rfl),impl_newOrder.a4,impl_newOrder.a4,impl_newOrder.a4,hV HB⟩

 subst c3
 rw [if_pos rfl] at H
 replace H:=Option.bind_eq_some_iff.mp H
 obtain ⟨t320,A40,H⟩:=H
 replace H:(if 0≤(l0_0.length:Int) then (if ((l0_0.length:Int):Int).toNat≤35184372088832 then (impl_newOrder.l0 k (l0_0.length:Int) t320 (t320.length:Int) 0 l0_0 l0_1 t320 (List.replicate ((l0_0.length:Int):Int).toNat 0) (List.replicate ((l0_0.length:Int):Int).toNat 0)) else (none)) else (none))=some (r1,r2,r3,r4):=H
 have A4:=Aside0.mk A40
 clear A40
 by_cases c5:0≤(l0_0.length:Int)
 rotate_left
 ·rw [if_neg c5] at H
  exact absurd H (by simp)
 rw [if_pos c5] at H
 have b2:=eq_true c5
 have b3:=decide_eq_true c5
 clear c5
 by_cases c6:((l0_0.length:Int):Int).toNat≤35184372088832
 rotate_left
 ·rw [if_neg c6] at H
  exact absurd H (by simp)
 rw [if_pos c6] at H
 have b4:=eq_true c6
 have b5:=decide_eq_true c6
 clear c6
 obtain ⟨y323,hy323⟩:∃ y_:List Int,y_=(List.replicate ((l0_0.length:Int):Int).toNat 0):=⟨_,rfl⟩
 replace H:(impl_newOrder.l0 k (l0_0.length:Int) t320 (t320.length:Int) 0 l0_0 l0_1 t320 y323 (List.replicate ((l0_0.length:Int):Int).toNat 0))=some (r1,r2,r3,r4):=by first | (rw [hy323];with_reducible exact H) | (have H2_:=(Option.bind_some _ _).symm.trans H;rw [hy323];with_reducible exact H2_) | (have H2_:=(Option.bind_some _ _).symm.trans H;with_reducible exact H2_) | with_reducible exact H | (rw [hy323];exact H) | exact H
 have C7:=Aside0.mk hy323
 clear hy323
 obtain ⟨y326,hy326⟩:∃ y_:List Int,y_=(List.replicate ((l0_0.length:Int):Int).toNat 0):=⟨_,rfl⟩
 replace H:(impl_newOrder.l0 k (l0_0.length:Int) t320 (t320.length:Int) 0 l0_0 l0_1 t320 y323 y326)=some (r1,r2,r3,r4):=by first | (rw [hy326];with_reducible exact H) | (have H2_:=(Option.bind_some _ _).symm.trans H;rw [hy326];with_reducible exact H2_) | (have H2_:=(Option.bind_some _ _).symm.trans H;with_reducible exact H2_) | with_reducible exact H | (rw [hy326];exact H) | exact H
 have C8:=Aside0.mk hy326
 clear hy326
 have H':=Aside0.mk H
 clear H
 go_enter Try.func29,Try.ntmps29
 try go_wp2_with (first | (refine bx 1 rfl #[.slice A0_0 l0_0.length c0_0,.slice A0_1 l0_1.length c0_1] 33 ?_;intro A3 hg w7 hbox hb;have A0:=Aside0.mk (hbox);have M4:=hZ HB hg;have M5:=hZ HB hg;replace HB:=hS HB hb;clear hb hbox hg) | (refine bx 2 rfl #[.slice none 0 0,.slice none 0 0,.slice none 0 0] 57 ?_;intro B8 hg w8 hbox hb;have A1:=Aside0.mk (hbox);have M6:=hZ HB hg;have M7:=hZ HB hg;replace HB:=hS HB hb;have D7:=nL A0 hg;have D8:=nG A0 hg;replace A0:=bB A0 hb;clear hb hbox hg;have b6:=D7.out;have b7:=D8.out;obtain ⟨Q5,Q6,Q7,Q8⟩:=cf2 A0) | (refine goK 55 (some 14) rfl Try.func55 #[.agg #[.slice A0_0 l0_0.length c0_0,.slice A0_1 l0_1.length c0_1]] ?_;(with_reducible refine (impl_IsSorts.calls k _ _ l0_0 _ _ l0_1 true _ ?side1 ?side2 ?side3 ?side4 A2.out).mono ?_);(case side1=>exact cB D3 HB);(case side2=>exact D4.out);(case side3=>exact cB D0 HB);(case side4=>exact D5.out);rintro e w11 ⟨rfl,hb⟩;refine ⟨_,rfl,?_⟩;replace A0:=bB A0 hb;replace A1:=bB A1 hb;replace HB:=hS HB hb;(try clear hb);(try clear hb2);(try clear hk);(try clear hi);obtain ⟨Q9,R0,R1,R2⟩:=cf2 A0))
 replace A0:=Aside0.mk (blk_drew A0.out)
 replace A1:=Aside0.mk (blk_drew A1.out)
 replace HB:=Aside0.mk (below_drew1 HB.out)
 refine start_ (n:=9) (S:=fun w'=>w'.cell? ⟨A3,0,none⟩=some (.slice A0_0 l0_0.length c0_0)∧w'.cell? ⟨A3,1,none⟩=some (.slice A0_1 l0_1.length c0_1)) (ds:=[]) #[false,false,false,false,false,false,false,false,false] impl_newOrder.a5 rfl rfl ⟨cz0 A0,cz1 A0⟩ (fun hHeld=> ?_);refine with_tabW impl_newOrder.tab4 impl_newOrder.bits4 (fun HT_ HW_=> ?_)
 generalize w11.drew=w13 at A0 A1 HB hHeld ⊢
 refine pureS 2 22 HT_ rfl rfl ?_
 refine pureS 4 24 HT_ rfl rfl ?_
 refine takeS 0 20 HT_ HW_ rfl rfl hHeld ?_ (by rintro w' ⟨s0,s1⟩;go_simp;with_reducible rfl)
 refine join_ (σ:=Value × Value × Value × Nat) 1 #[true,true,true,true,true,true,true,true,false] (fun s_=> [(21,s_.1),(23,s_.2.1),(25,s_.2.2.1),(5,.pointer (some ⟨s_.2.2.2,0,none⟩)),(26,.agg #[s_.1,s_.2.1,s_.2.2.1])]) (fun s_ w'=>(w'.cell? ⟨A3,0,none⟩=some (.slice A0_0 l0_0.length c0_0)∧w'.cell? ⟨A3,1,none⟩=some (.slice A0_1 l0_1.length c0_1))∧(Kd.R (Kd.int .i64) 3 w' w.heap.size (fun k_=>some k_≠(s_.2.1:Value).ownBlock∧some k_≠(s_.2.2.1:Value).ownBlock) s_.1 t320)∧(Kd.R (Kd.int .i64) 3 w' w.heap.size (fun k_=>some k_≠(s_.1:Value).ownBlock∧some k_≠(s_.2.2.1:Value).ownBlock) s_.2.1 y323)∧(Kd.R (Kd.int .i64) 3 w' w.heap.size (fun k_=>some k_≠(s_.1:Value).ownBlock∧some k_≠(s_.2.1:Value).ownBlock) s_.2.2.1 y326)∧(w'.heap[A3]? = some (.cells #[.slice A0_0 l0_0.length c0_0,.slice A0_1 l0_1.length c0_1] 33 (0,0)))∧(w'.heap[B8]? = some (.cells #[.slice none 0 0,.slice none 0 0,.slice none 0 0] 57 (0,0)))∧(w'.heap[s_.2.2.2]? = some (.cells #[.slice none 0 0,.slice none 0 0,.slice none 0 0] 57 (0,0)))∧(w.heap.size≤s_.2.2.2)∧(w.heap.size≤s_.2.2.2)∧(A3≠s_.2.2.2)∧(s_.2.2.2≠A3)∧(B8≠s_.2.2.2)∧(s_.2.2.2≠B8)∧(Below w.heap.size w w')) ?_ ?_
 rotate_left
 ·intro hJ1_3_5_7
  refine join_ (σ:=Value × Value × Value) 2 #[true,true,true,true,true,true,true,false,false] (fun s_=> [(21,s_.1),(23,s_.2.1),(25,s_.2.2),(26,.agg #[s_.1,s_.2.1,s_.2.2])]) (fun s_ w'=>(w'.cell? ⟨A3,0,none⟩=some (.slice A0_0 l0_0.length c0_0)∧w'.cell? ⟨A3,1,none⟩=some (.slice A0_1 l0_1.length c0_1))∧(Kd.R (Kd.int .i64) 3 w' w.heap.size (fun k_=>some k_≠(s_.2.1:Value).ownBlock∧some k_≠(s_.2.2:Value).ownBlock) s_.1 t320)∧(Kd.R (Kd.int .i64) 3 w' w.heap.size (fun k_=>some k_≠(s_.1:Value).ownBlock∧some k_≠(s_.2.2:Value).ownBlock) s_.2.1 y323)∧(Kd.R (Kd.int .i64) 3 w' w.heap.size (fun k_=>some k_≠(s_.1:Value).ownBlock∧some k_≠(s_.2.1:Value).ownBlock) s_.2.2 y326)∧(w'.heap[A3]? = some (.cells #[.slice A0_0 l0_0.length c0_0,.slice A0_1 l0_1.length c0_1] 33 (0,0)))∧(w'.heap[B8]? = some (.cells #[.slice none 0 0,.slice none 0 0,.slice none 0 0] 57 (0,0)))∧(Below w.heap.size w w')) ?_ ?_
  rotate_left
  ·intro hJ1_3_5
   refine join_ (σ:=Value × Value × Nat) 3 #[true,true,true,true,true,false,false,true,false] (fun s_=> [(21,s_.1),(23,s_.2.1),(5,.pointer (some ⟨s_.2.2,0,none⟩))]) (fun s_ w'=>(w'.cell? ⟨A3,0,none⟩=some (.slice A0_0 l0_0.length c0_0)∧w'.cell? ⟨A3,1,none⟩=some (.slice A0_1 l0_1.length c0_1))∧(Kd.R (Kd.int .i64) 3 w' w.heap.size (fun k_=>some k_≠(s_.2.1:Value).ownBlock) s_.1 t320)∧(Kd.R (Kd.int .i64) 3 w' w.heap.size (fun k_=>some k_≠(s_.1:Value).ownBlock) s_.2.1 y323)∧(w'.heap[A3]? = some (.cells #[.slice A0_0 l0_0.length c0_0,.slice A0_1 l0_1.length c0_1] 33 (0,0)))∧(w'.heap[B8]? = some (.cells #[.slice none 0 0,.slice none 0 0,.slice none 0 0] 57 (0,0)))∧(w'.heap[s_.2.2]? = some (.cells #[.slice none 0 0,.slice none 0 0,.slice none 0 0] 57 (0,0)))∧(w.heap.size≤s_.2.2)∧(w.heap.size≤s_.2.2)∧(A3≠s_.2.2)∧(s_.2.2≠A3)∧(B8≠s_.2.2)∧(s_.2.2≠B8)∧(Below w.heap.size w w')) ?_ ?_
   rotate_left
   ·intro hJ1_3_7
    refine join_ (σ:=Value × Value × Nat) 3 #[true,true,true,false,true,true,false,true,false] (fun s_=> [(21,s_.1),(25,s_.2.1),(5,.pointer (some ⟨s_.2.2,0,none⟩))]) (fun s_ w'=>(w'.cell? ⟨A3,0,none⟩=some (.slice A0_0 l0_0.length c0_0)∧w'.cell? ⟨A3,1,none⟩=some (.slice A0_1 l0_1.length c0_1))∧(Kd.R (Kd.int .i64) 3 w' w.heap.size (fun k_=>some k_≠(s_.2.1:Value).ownBlock) s_.1 t320)∧(Kd.R (Kd.int .i64) 3 w' w.heap.size (fun k_=>some k_≠(s_.1:Value).ownBlock) s_.2.1 y326)∧(w'.heap[A3]? = some (.cells #[.slice A0_0 l0_0.length c0_0,.slice A0_1 l0_1.length c0_1] 33 (0,0)))∧(w'.heap[B8]? = some (.cells #[.slice none 0 0,.slice none 0 0,.slice none 0 0] 57 (0,0)))∧(w'.heap[s_.2.2]? = some (.cells #[.slice none 0 0,.slice none 0 0,.slice none 0 0] 57 (0,0)))∧(w.heap.size≤s_.2.2)∧(w.heap.size≤s_.2.2)∧(A3≠s_.2.2)∧(s_.2.2≠A3)∧(B8≠s_.2.2)∧(s_.2.2≠B8)∧(Below w.heap.size w w')) ?_ ?_
    rotate_left
    ·intro hJ1_5_7
     refine join_ (σ:=Value × Value × Nat) 3 #[true,false,true,true,true,true,false,true,false] (fun s_=> [(23,s_.1),(25,s_.2.1),(5,.pointer (some ⟨s_.2.2,0,none⟩))]) (fun s_ w'=>(w'.cell? ⟨A3,0,none⟩=some (.slice A0_0 l0_0.length c0_0)∧w'.cell? ⟨A3,1,none⟩=some (.slice A0_1 l0_1.length c0_1))∧(Kd.R (Kd.int .i64) 3 w' w.heap.size (fun k_=>some k_≠(s_.2.1:Value).ownBlock) s_.1 y323)∧(Kd.R (Kd.int .i64) 3 w' w.heap.size (fun k_=>some k_≠(s_.1:Value).ownBlock) s_.2.1 y326)∧(w'.heap[A3]? = some (.cells #[.slice A0_0 l0_0.length c0_0,.slice A0_1 l0_1.length c0_1] 33 (0,0)))∧(w'.heap[B8]? = some (.cells #[.slice none 0 0,.slice none 0 0,.slice none 0 0] 57 (0,0)))∧(w'.heap[s_.2.2]? = some (.cells #[.slice none 0 0,.slice none 0 0,.slice none 0 0] 57 (0,0)))∧(w.heap.size≤s_.2.2)∧(w.heap.size≤s_.2.2)∧(A3≠s_.2.2)∧(s_.2.2≠A3)∧(B8≠s_.2.2)∧(s_.2.2≠B8)∧(Below w.heap.size w w')) ?_ ?_
     rotate_left
     ·intro hJ3_5_7
      refine join_ (σ:=Value × Value) 4 #[true,true,true,true,true,false,false,false,false] (fun s_=> [(21,s_.1),(23,s_.2)]) (fun s_ w'=>(w'.cell? ⟨A3,0,none⟩=some (.slice A0_0 l0_0.length c0_0)∧w'.cell? ⟨A3,1,none⟩=some (.slice A0_1 l0_1.length c0_1))∧(Kd.R (Kd.int .i64) 3 w' w.heap.size (fun k_=>some k_≠(s_.2:Value).ownBlock) s_.1 t320)∧(Kd.R (Kd.int .i64) 3 w' w.heap.size (fun k_=>some k_≠(s_.1:Value).ownBlock) s_.2 y323)∧(w'.heap[A3]? = some (.cells #[.slice A0_0 l0_0.length c0_0,.slice A0_1 l0_1.length c0_1] 33 (0,0)))∧(w'.heap[B8]? = some (.cells #[.slice none 0 0,.slice none 0 0,.slice none 0 0] 57 (0,0)))∧(Below w.heap.size w w')) ?_ ?_
      rotate_left
      ·intro hJ1_3
       refine join_ (σ:=Value × Value) 4 #[true,true,true,false,true,true,false,false,false] (fun s_=> [(21,s_.1),(25,s_.2)]) (fun s_ w'=>(w'.cell? ⟨A3,0,none⟩=some (.slice A0_0 l0_0.length c0_0)∧w'.cell? ⟨A3,1,none⟩=some (.slice A0_1 l0_1.length c0_1))∧(Kd.R (Kd.int .i64) 3 w' w.heap.size (fun k_=>some k_≠(s_.2:Value).ownBlock) s_.1 t320)∧(Kd.R (Kd.int .i64) 3 w' w.heap.size (fun k_=>some k_≠(s_.1:Value).ownBlock) s_.2 y326)∧(w'.heap[A3]? = some (.cells #[.slice A0_0 l0_0.length c0_0,.slice A0_1 l0_1.length c0_1] 33 (0,0)))∧(w'.heap[B8]? = some (.cells #[.slice none 0 0,.slice none 0 0,.slice none 0 0] 57 (0,0)))∧(Below w.heap.size w w')) ?_ ?_
       rotate_left
       ·intro hJ1_5
        refine join_ (σ:=Value × Nat) 4 #[true,true,true,false,true,false,false,true,false] (fun s_=> [(21,s_.1),(5,.pointer (some ⟨s_.2,0,none⟩))]) (fun s_ w'=>(w'.cell? ⟨A3,0,none⟩=some (.slice A0_0 l0_0.length c0_0)∧w'.cell? ⟨A3,1,none⟩=some (.slice A0_1 l0_1.length c0_1))∧(Kd.R (Kd.int .i64) 3 w' w.heap.size (fun _=>True) s_.1 t320)∧(w'.heap[A3]? = some (.cells #[.slice A0_0 l0_0.length c0_0,.slice A0_1 l0_1.length c0_1] 33 (0,0)))∧(w'.heap[B8]? = some (.cells #[.slice none 0 0,.slice none 0 0,.slice none 0 0] 57 (0,0)))∧(w'.heap[s_.2]? = some (.cells #[.slice none 0 0,.slice none 0 0,.slice none 0 0] 57 (0,0)))∧(w.heap.size≤s_.2)∧(w.heap.size≤s_.2)∧(A3≠s_.2)∧(s_.2≠A3)∧(B8≠s_.2)∧(s_.2≠B8)∧(Below w.heap.size w w')) ?_ ?_
        rotate_left
        ·intro hJ1_7
         refine join_ (σ:=Value × Value) 4 #[true,false,true,true,true,true,false,false,false] (fun s_=> [(23,s_.1),(25,s_.2)]) (fun s_ w'=>(w'.cell? ⟨A3,0,none⟩=some (.slice A0_0 l0_0.length c0_0)∧w'.cell? ⟨A3,1,none⟩=some (.slice A0_1 l0_1.length c0_1))∧(Kd.R (Kd.int .i64) 3 w' w.heap.size (fun k_=>some k_≠(s_.2:Value).ownBlock) s_.1 y323)∧(Kd.R (Kd.int .i64) 3 w' w.heap.size (fun k_=>some k_≠(s_.1:Value).ownBlock) s_.2 y326)∧(w'.heap[A3]? = some (.cells #[.slice A0_0 l0_0.length c0_0,.slice A0_1 l0_1.length c0_1] 33 (0,0)))∧(w'.heap[B8]? = some (.cells #[.slice none 0 0,.slice none 0 0,.slice none 0 0] 57 (0,0)))∧(Below w.heap.size w w')) ?_ ?_
         rotate_left
         ·intro hJ3_5
          refine join_ (σ:=Value × Nat) 4 #[true,false,true,true,true,false,false,true,false] (fun s_=> [(23,s_.1),(5,.pointer (some ⟨s_.2,0,none⟩))]) (fun s_ w'=>(w'.cell? ⟨A3,0,none⟩=some (.slice A0_0 l0_0.length c0_0)∧w'.cell? ⟨A3,1,none⟩=some (.slice A0_1 l0_1.length c0_1))∧(Kd.R (Kd.int .i64) 3 w' w.heap.size (fun _=>True) s_.1 y323)∧(w'.heap[A3]? = some (.cells #[.slice A0_0 l0_0.length c0_0,.slice A0_1 l0_1.length c0_1] 33 (0,0)))∧(w'.heap[B8]? = some (.cells #[.slice none 0 0,.slice none 0 0,.slice none 0 0] 57 (0,0)))∧(w'.heap[s_.2]? = some (.cells #[.slice none 0 0,.slice none 0 0,.slice none 0 0] 57 (0,0)))∧(w.heap.size≤s_.2)∧(w.heap.size≤s_.2)∧(A3≠s_.2)∧(s_.2≠A3)∧(B8≠s_.2)∧(s_.2≠B8)∧(Below w.heap.size w w')) ?_ ?_
          rotate_left
          ·intro hJ3_7
           refine join_ (σ:=Value × Nat) 4 #[true,false,true,false,true,true,false,true,false] (fun s_=> [(25,s_.1),(5,.pointer (some ⟨s_.2,0,none⟩))]) (fun s_ w'=>(w'.cell? ⟨A3,0,none⟩=some (.slice A0_0 l0_0.length c0_0)∧w'.cell? ⟨A3,1,none⟩=some (.slice A0_1 l0_1.length c0_1))∧(Kd.R (Kd.int .i64) 3 w' w.heap.size (fun _=>True) s_.1 y326)∧(w'.heap[A3]? = some (.cells #[.slice A0_0 l0_0.length c0_0,.slice A0_1 l0_1.length c0_1] 33 (0,0)))∧(w'.heap[B8]? = some (.cells #[.slice none 0 0,.slice none 0 0,.slice none 0 0] 57 (0,0)))∧(w'.heap[s_.2]? = some (.cells #[.slice none 0 0,.slice none 0 0,.slice none 0 0] 57 (0,0)))∧(w.heap.size≤s_.2)∧(w.heap.size≤s_.2)∧(A3≠s_.2)∧(s_.2≠A3)∧(B8≠s_.2)∧(s_.2≠B8)∧(Below w.heap.size w w')) ?_ ?_
           rotate_left
           ·intro hJ5_7
            refine join_ (σ:=Value) 5 #[true,true,true,false,true,false,false,false,false] (fun s_=> [(21,s_)]) (fun s_ w'=>(w'.cell? ⟨A3,0,none⟩=some (.slice A0_0 l0_0.length c0_0)∧w'.cell? ⟨A3,1,none⟩=some (.slice A0_1 l0_1.length c0_1))∧(Kd.R (Kd.int .i64) 3 w' w.heap.size (fun _=>True) s_ t320)∧(w'.heap[A3]? = some (.cells #[.slice A0_0 l0_0.length c0_0,.slice A0_1 l0_1.length c0_1] 33 (0,0)))∧(w'.heap[B8]? = some (.cells #[.slice none 0 0,.slice none 0 0,.slice none 0 0] 57 (0,0)))∧(Below w.heap.size w w')) ?_ ?_
            rotate_left
            ·intro hJ1
             refine join_ (σ:=Value) 5 #[true,false,true,true,true,false,false,false,false] (fun s_=> [(23,s_)]) (fun s_ w'=>(w'.cell? ⟨A3,0,none⟩=some (.slice A0_0 l0_0.length c0_0)∧w'.cell? ⟨A3,1,none⟩=some (.slice A0_1 l0_1.length c0_1))∧(Kd.R (Kd.int .i64) 3 w' w.heap.size (fun _=>True) s_ y323)∧(w'.heap[A3]? = some (.cells #[.slice A0_0 l0_0.length c0_0,.slice A0_1 l0_1.length c0_1] 33 (0,0)))∧(w'.heap[B8]? = some (.cells #[.slice none 0 0,.slice none 0 0,.slice none 0 0] 57 (0,0)))∧(Below w.heap.size w w')) ?_ ?_
             rotate_left
             ·intro hJ3
              refine join_ (σ:=Value) 5 #[true,false,true,false,true,true,false,false,false] (fun s_=> [(25,s_)]) (fun s_ w'=>(w'.cell? ⟨A3,0,none⟩=some (.slice A0_0 l0_0.length c0_0)∧w'.cell? ⟨A3,1,none⟩=some (.slice A0_1 l0_1.length c0_1))∧(Kd.R (Kd.int .i64) 3 w' w.heap.size (fun _=>True) s_ y326)∧(w'.heap[A3]? = some (.cells #[.slice A0_0 l0_0.length c0_0,.slice A0_1 l0_1.length c0_1] 33 (0,0)))∧(w'.heap[B8]? = some (.cells #[.slice none 0 0,.slice none 0 0,.slice none 0 0] 57 (0,0)))∧(Below w.heap.size w w')) ?_ ?_
              rotate_left
              ·intro hJ5
               refine join_ (σ:=Nat) 5 #[true,false,true,false,true,false,false,true,false] (fun s_=> [(5,.pointer (some ⟨s_,0,none⟩))]) (fun s_ w'=>(w'.cell? ⟨A3,0,none⟩=some (.slice A0_0 l0_0.length c0_0)∧w'.cell? ⟨A3,1,none⟩=some (.slice A0_1 l0_1.length c0_1))∧(w'.heap[A3]? = some (.cells #[.slice A0_0 l0_0.length c0_0,.slice A0_1 l0_1.length c0_1] 33 (0,0)))∧(w'.heap[B8]? = some (.cells #[.slice none 0 0,.slice none 0 0,.slice none 0 0] 57 (0,0)))∧(w'.heap[s_]? = some (.cells #[.slice none 0 0,.slice none 0 0,.slice none 0 0] 57 (0,0)))∧(w.heap.size≤s_)∧(w.heap.size≤s_)∧(A3≠s_)∧(s_≠A3)∧(B8≠s_)∧(s_≠B8)∧(Below w.heap.size w w')) ?_ ?_
               rotate_left
               ·intro hJ7
                refine four_ (i:=1) (j:=3) (k:=5) (m:=7) (Ni:=some 21) (Nj:=some 23) (Nk:=some 25) (Nm:=some 5) #[true,true,true,false,true,false,false,false,false] #[true,false,true,true,true,false,false,false,false] #[true,false,true,false,true,true,false,false,false] #[true,false,true,false,true,false,false,true,false] rfl rfl rfl rfl rfl rfl rfl rfl (four_of HT_.out impl_newOrder.a5) impl_newOrder.a6 impl_newOrder.a6 impl_newOrder.a6 impl_newOrder.a6 (fun K hK=> ?_) (fun K hK=> ?_) (fun K hK=> ?_) (fun K hK=> ?_)
                ·skip
                 refine goes_ Try.func56 impl_newOrder.a5 rfl #[.agg #[.slice A0_0 l0_0.length c0_0,.slice A0_1 l0_1.length c0_1]] (by rfl) rfl rfl impl_newOrder.a1 ?_
                 with_reducible refine (impl_sortsAbove.calls k _ _ l0_0 _ _ l0_1 t320 _ ?side1 ?side2 ?side3 ?side4 A4.out).mono ?_
                 (case side1=>exact cB D3 HB)
                 (case side2=>exact D4.out)
                 (case side3=>exact cB D0 HB)
                 (case side4=>exact D5.out)
                 rintro e w14 ⟨v321,rfl,ho0,hb⟩
                 refine ⟨_,rfl,?_⟩
                 have B1:=rL ho0 HB
                 replace A0:=bB A0 hb
                 replace A1:=bB A1 hb
                 replace HB:=hS HB hb
                 (try clear hb)
                 (try clear hb2)
                 (try clear hk)
                 (try clear hi)
                 (try clear ho0)
                 refine hK.out _ _ ⟨cz0 A0,cz1 A0⟩ (fun hHeld=> ?_)
                 clear hK K
                 refine norm_ (a':=?_) ?_ ?_
                 rotate_left
                 ·show Act.put _ (some 21) _=_
                  simp only [Act.put,List.setIfInBounds_toArray,List.set_cons_zero,List.set_cons_succ,i64_w,i32_w]
                  rfl
                 exact norm_ impl_newOrder.a0 (hJ1 (v321) _ ⟨hHeld,(rV B1),(vB A0),(vB A1),(hV HB)⟩)
                ·skip
                 refine Kd.R_make_step (Kd.int .i64) _ 3 (by rfl) (N:=23) rfl 55 _ _ rfl (l0_0.length:Int) rfl rfl Try.underlying55 (.int .i64 0) 8 info3 rfl impl_newOrder.a6 (by omega) 0 (ok:=fun _=>True) (okp:=fun _=>True) rfl (fun _ hk=>hk) trivial (dT) (Nat.le_trans (Nat.mul_le_mul_right _ (dT:(l0_0.length:Int).toNat≤35184372088832)) (by omega)) (Below.refl _ _) (Nat.le_refl _) ?_
                 intro v324 w14 ho15 hb hg_ hnew_
                 clear hg_ hnew_
                 (first | rw [← C7.out] at ho15 | (simp only [Int.reduceToNat] at ho15;rw [← C7.out] at ho15))
                 have B6:=rL ho15 HB
                 replace A0:=bB A0 hb
                 replace A1:=bB A1 hb
                 replace HB:=hS HB hb
                 clear hb ho15
                 refine hK.out _ _ ⟨cz0 A0,cz1 A0⟩ (fun hHeld=> ?_)
                 clear hK K
                 refine norm_ (a':=?_) ?_ ?_
                 rotate_left
                 ·show Act.put _ (some 23) _=_
                  simp only [Act.put,List.setIfInBounds_toArray,List.set_cons_zero,List.set_cons_succ,i64_w,i32_w]
                  rfl
                 exact norm_ impl_newOrder.a0 (hJ3 (v324) _ ⟨hHeld,(rV B6),(vB A0),(vB A1),(hV HB)⟩)
                ·skip
                 refine Kd.R_make_step (Kd.int .i64) _ 3 (by rfl) (N:=25) rfl 55 _ _ rfl (l0_0.length:Int) rfl rfl Try.underlying55 (.int .i64 0) 8 info3 rfl impl_newOrder.a6 (by omega) 0 (ok:=fun _=>True) (okp:=fun _=>True) rfl (fun _ hk=>hk) trivial (dT) (Nat.le_trans (Nat.mul_le_mul_right _ (dT:(l0_0.length:Int).toNat≤35184372088832)) (by omega)) (Below.refl _ _) (Nat.le_refl _) ?_
                 intro v327 w14 ho15 hb hg_ hnew_
                 clear hg_ hnew_
                 (first | rw [← C8.out] at ho15 | (simp only [Int.reduceToNat] at ho15;rw [← C8.out] at ho15))
                 have B7:=rL ho15 HB
                 replace A0:=bB A0 hb
                 replace A1:=bB A1 hb
                 replace HB:=hS HB hb
                 clear hb ho15
                 refine hK.out _ _ ⟨cz0 A0,cz1 A0⟩ (fun hHeld=> ?_)
                 clear hK K
                 refine norm_ (a':=?_) ?_ ?_
                 rotate_left
                 ·show Act.put _ (some 25) _=_
                  simp only [Act.put,List.setIfInBounds_toArray,List.set_cons_zero,List.set_cons_succ,i64_w,i32_w]
                  rfl
                 exact norm_ impl_newOrder.a0 (hJ5 (v327) _ ⟨hHeld,(rV B7),(vB A0),(vB A1),(hV HB)⟩)
                ·skip
                 refine box_step ?hg (N:=5) ?hd (cs:=#[.slice none 0 0,.slice none 0 0,.slice none 0 0]) (t:=57) ?hr ?_;(case hd=>rfl);(case hg=>rfl);(case hr=>first | (go_simp;done) | (go_simp;rfl))
                 intro A6 hg w14 hbox hb
                 have A5:=Aside0.mk (hbox)
                 have C2:=hZ HB hg
                 have C3:=hZ HB hg
                 replace HB:=hS HB hb
                 have A8:=nL A0 hg
                 have B0:=nG A0 hg
                 replace A0:=bB A0 hb
                 have B2:=nL A1 hg
                 have B3:=nG A1 hg
                 replace A1:=bB A1 hb
                 clear hb hbox hg
                 refine hK.out _ _ ⟨cz0 A0,cz1 A0⟩ (fun hHeld=> ?_)
                 clear hK K
                 refine norm_ (a':=?_) ?_ ?_
                 rotate_left
                 ·show Act.put _ (some 5) _=_
                  simp only [Act.put,List.setIfInBounds_toArray,List.set_cons_zero,List.set_cons_succ,i64_w,i32_w]
                  rfl
                 exact norm_ impl_newOrder.a0 (hJ7 (A6) _ ⟨hHeld,(vB A0),(vB A1),(vB A5),C2.out,C3.out,A8.out,B0.out,B2.out,B3.out,(hV HB)⟩)
               ·skip
                rintro A6 w15 ⟨hS_,h0_,h1_,h2_,h3_,h4_,h5_,h6_,h7_,h8_,h9_⟩
                have n0_:Aside0 (w15.heap[A3]? = some (.cells #[.slice A0_0 l0_0.length c0_0,.slice A0_1 l0_1.length c0_1] 33 (0,0))):=⟨h0_⟩
                have n1_:Aside0 (w15.heap[B8]? = some (.cells #[.slice none 0 0,.slice none 0 0,.slice none 0 0] 57 (0,0))):=⟨h1_⟩
                have n2_:Aside0 (w15.heap[A6]? = some (.cells #[.slice none 0 0,.slice none 0 0,.slice none 0 0] 57 (0,0))):=⟨h2_⟩
                have n3_:Aside0 (w.heap.size≤A6):=⟨h3_⟩
                have n4_:Aside0 (w.heap.size≤A6):=⟨h4_⟩
                have n5_:Aside0 (A3≠A6):=⟨h5_⟩
                have n6_:Aside0 (A6≠A3):=⟨h6_⟩
                have n7_:Aside0 (B8≠A6):=⟨h7_⟩
                have n8_:Aside0 (A6≠B8):=⟨h8_⟩
                have n9_:Aside0 (Below w.heap.size w w15):=⟨h9_⟩
                clear A0
                clear A1
                clear HB
                clear h0_ h1_ h2_ h3_ h4_ h5_ h6_ h7_ h8_ h9_
                have A0:=n0_
                have A1:=n1_
                have A5:=n2_
                have C2:=n3_
                have C3:=n4_
                have A8:=n5_
                have B0:=n6_
                have B2:=n7_
                have B3:=n8_
                have HB:=n9_
                clear n0_ n1_ n2_ n3_ n4_ n5_ n6_ n7_ n8_ n9_
                have hHeld:w15.cell? ⟨A3,0,none⟩=some (.slice A0_0 l0_0.length c0_0)∧w15.cell? ⟨A3,1,none⟩=some (.slice A0_1 l0_1.length c0_1):=hS_
                refine norm_ (a':=?_) ?_ ?_
                rotate_left
                ·simp only [putAll,Act.put,List.setIfInBounds_toArray,List.set_cons_zero,List.set_cons_succ]
                 rfl
                refine three_ (i:=1) (j:=3) (k:=5) (Ni:=some 21) (Nj:=some 23) (Nk:=some 25) #[true,true,true,false,true,false,false,true,false] #[true,false,true,true,true,false,false,true,false] #[true,false,true,false,true,true,false,true,false] rfl rfl rfl rfl rfl rfl (three_of HT_.out impl_newOrder.a5) impl_newOrder.a6 impl_newOrder.a6 impl_newOrder.a6 (fun K hK=> ?_) (fun K hK=> ?_) (fun K hK=> ?_)
                ·skip
                 refine goes_ Try.func56 impl_newOrder.a5 rfl #[.agg #[.slice A0_0 l0_0.length c0_0,.slice A0_1 l0_1.length c0_1]] (by rfl) rfl rfl impl_newOrder.a1 ?_
                 with_reducible refine (impl_sortsAbove.calls k _ _ l0_0 _ _ l0_1 t320 _ ?side1 ?side2 ?side3 ?side4 A4.out).mono ?_
                 (case side1=>exact cB D3 HB)
                 (case side2=>exact D4.out)
                 (case side3=>exact cB D0 HB)
                 (case side4=>exact D5.out)
                 rintro e w16 ⟨v321,rfl,ho0,hb⟩
                 refine ⟨_,rfl,?_⟩
                 have B1:=rL ho0 HB
                 replace A0:=bB A0 hb
                 replace A1:=bB A1 hb
                 replace A5:=bB A5 hb
                 replace HB:=hS HB hb
                 (try clear hb)
                 (try clear hb2)
                 (try clear hk)
                 (try clear hi)
                 (try clear ho0)
                 refine hK.out _ _ ⟨cz0 A0,cz1 A0⟩ (fun hHeld=> ?_)
                 clear hK K
                 refine norm_ (a':=?_) ?_ ?_
                 rotate_left
                 ·show Act.put _ (some 21) _=_
                  simp only [Act.put,List.setIfInBounds_toArray,List.set_cons_zero,List.set_cons_succ,i64_w,i32_w]
                  rfl
                 exact norm_ impl_newOrder.a0 (hJ1_7 (v321,A6) _ ⟨hHeld,(rV B1),(vB A0),(vB A1),(vB A5),C2.out,C3.out,A8.out,B0.out,B2.out,B3.out,(hV HB)⟩)
                ·skip
                 refine Kd.R_make_step (Kd.int .i64) _ 3 (by rfl) (N:=23) rfl 55 _ _ rfl (l0_0.length:Int) rfl rfl Try.underlying55 (.int .i64 0) 8 info3 rfl impl_newOrder.a6 (by omega) 0 (ok:=fun _=>True) (okp:=fun _=>True) rfl (fun _ hk=>hk) trivial (dT) (Nat.le_trans (Nat.mul_le_mul_right _ (dT:(l0_0.length:Int).toNat≤35184372088832)) (by omega)) (Below.refl _ _) (Nat.le_refl _) ?_
                 intro v324 w16 ho17 hb hg_ hnew_
                 clear hg_ hnew_
                 (first | rw [← C7.out] at ho17 | (simp only [Int.reduceToNat] at ho17;rw [← C7.out] at ho17))
                 have B6:=rL ho17 HB
                 replace A0:=bB A0 hb
                 replace A1:=bB A1 hb
                 replace A5:=bB A5 hb
                 replace HB:=hS HB hb
                 clear hb ho17
                 refine hK.out _ _ ⟨cz0 A0,cz1 A0⟩ (fun hHeld=> ?_)
                 clear hK K
                 refine norm_ (a':=?_) ?_ ?_
                 rotate_left
                 ·show Act.put _ (some 23) _=_
                  simp only [Act.put,List.setIfInBounds_toArray,List.set_cons_zero,List.set_cons_succ,i64_w,i32_w]
                  rfl
                 exact norm_ impl_newOrder.a0 (hJ3_7 (v324,A6) _ ⟨hHeld,(rV B6),(vB A0),(vB A1),(vB A5),C2.out,C3.out,A8.out,B0.out,B2.out,B3.out,(hV HB)⟩)
                ·skip
                 refine Kd.R_make_step (Kd.int .i64) _ 3 (by rfl) (N:=25) rfl 55 _ _ rfl (l0_0.length:Int) rfl rfl Try.underlying55 (.int .i64 0) 8 info3 rfl impl_newOrder.a6 (by omega) 0 (ok:=fun _=>True) (okp:=fun _=>True) rfl (fun _ hk=>hk) trivial (dT) (Nat.le_trans (Nat.mul_le_mul_right _ (dT:(l0_0.length:Int).toNat≤35184372088832)) (by omega)) (Below.refl _ _) (Nat.le_refl _) ?_
                 intro v327 w16 ho17 hb hg_ hnew_
                 clear hg_ hnew_
                 (first | rw [← C8.out] at ho17 | (simp only [Int.reduceToNat] at ho17;rw [← C8.out] at ho17))
                 have B7:=rL ho17 HB
                 replace A0:=bB A0 hb
                 replace A1:=bB A1 hb
                 replace A5:=bB A5 hb
                 replace HB:=hS HB hb
                 clear hb ho17
                 refine hK.out _ _ ⟨cz0 A0,cz1 A0⟩ (fun hHeld=> ?_)
                 clear hK K
                 refine norm_ (a':=?_) ?_ ?_
                 rotate_left
                 ·show Act.put _ (some 25) _=_
                  simp only [Act.put,List.setIfInBounds_toArray,List.set_cons_zero,List.set_cons_succ,i64_w,i32_w]
                  rfl
                 exact norm_ impl_newOrder.a0 (hJ5_7 (v327,A6) _ ⟨hHeld,(rV B7),(vB A0),(vB A1),(vB A5),C2.out,C3.out,A8.out,B0.out,B2.out,B3.out,(hV HB)⟩)
              ·skip
               rintro v327 w16 ⟨hS_,h0_,h1_,h2_,h3_⟩
               have n0_:Aside0 (Kd.R (Kd.int .i64) 3 w16 w.heap.size (fun _=>True) v327 y326):=⟨h0_⟩
               have n1_:Aside0 (w16.heap[A3]? = some (.cells #[.slice A0_0 l0_0.length c0_0,.slice A0_1 l0_1.length c0_1] 33 (0,0))):=⟨h1_⟩
               have n2_:Aside0 (w16.heap[B8]? = some (.cells #[.slice none 0 0,.slice none 0 0,.slice none 0 0] 57 (0,0))):=⟨h2_⟩
               have n3_:Aside0 (Below w.heap.size w w16):=⟨h3_⟩
               clear A0
               clear A1
               clear HB
               clear h0_ h1_ h2_ h3_
               have B7:=n0_
               have A0:=n1_
               have A1:=n2_
               have HB:=n3_
               clear n0_ n1_ n2_ n3_
               have hHeld:w16.cell? ⟨A3,0,none⟩=some (.slice A0_0 l0_0.length c0_0)∧w16.cell? ⟨A3,1,none⟩=some (.slice A0_1 l0_1.length c0_1):=hS_
               refine norm_ (a':=?_) ?_ ?_
               rotate_left
               ·simp only [putAll,Act.put,List.setIfInBounds_toArray,List.set_cons_zero,List.set_cons_succ]
                rfl
               refine three_ (i:=1) (j:=3) (k:=7) (Ni:=some 21) (Nj:=some 23) (Nk:=some 5) #[true,true,true,false,true,true,false,false,false] #[true,false,true,true,true,true,false,false,false] #[true,false,true,false,true,true,false,true,false] rfl rfl rfl rfl rfl rfl (three_of HT_.out impl_newOrder.a5) impl_newOrder.a6 impl_newOrder.a6 impl_newOrder.a6 (fun K hK=> ?_) (fun K hK=> ?_) (fun K hK=> ?_)
               ·skip
                refine goes_ Try.func56 impl_newOrder.a5 rfl #[.agg #[.slice A0_0 l0_0.length c0_0,.slice A0_1 l0_1.length c0_1]] (by rfl) rfl rfl impl_newOrder.a1 ?_
                with_reducible refine (impl_sortsAbove.calls k _ _ l0_0 _ _ l0_1 t320 _ ?side1 ?side2 ?side3 ?side4 A4.out).mono ?_
                (case side1=>exact cB D3 HB)
                (case side2=>exact D4.out)
                (case side3=>exact cB D0 HB)
                (case side4=>exact D5.out)
                rintro e w17 ⟨v321,rfl,ho0,hb⟩
                refine ⟨_,rfl,?_⟩
                have B1:=rL (rN ho0 B7) HB
                replace B7:=rE B7 ho0 hb
                replace A0:=bB A0 hb
                replace A1:=bB A1 hb
                replace HB:=hS HB hb
                (try clear hb)
                (try clear hb2)
                (try clear hk)
                (try clear hi)
                (try clear ho0)
                refine hK.out _ _ ⟨cz0 A0,cz1 A0⟩ (fun hHeld=> ?_)
                clear hK K
                refine norm_ (a':=?_) ?_ ?_
                rotate_left
                ·show Act.put _ (some 21) _=_
                 simp only [Act.put,List.setIfInBounds_toArray,List.set_cons_zero,List.set_cons_succ,i64_w,i32_w]
                 rfl
                exact norm_ impl_newOrder.a0 (hJ1_5 (v321,v327) _ ⟨hHeld,(rM B1 (fun _ hk=>hk.2)),(rM B7 (fun _ hk=>hk.2)),(vB A0),(vB A1),(hV HB)⟩)
               ·skip
                refine Kd.R_make_step (Kd.int .i64) _ 3 (by rfl) (N:=23) rfl 55 _ _ rfl (l0_0.length:Int) rfl rfl Try.underlying55 (.int .i64 0) 8 info3 rfl impl_newOrder.a6 (by omega) 0 (ok:=fun _=>True) (okp:=fun _=>True) rfl (fun _ hk=>hk) trivial (dT) (Nat.le_trans (Nat.mul_le_mul_right _ (dT:(l0_0.length:Int).toNat≤35184372088832)) (by omega)) (Below.refl _ _) (Nat.le_refl _) ?_
                intro v324 w17 ho18 hb hg_ hnew_
                clear hg_ hnew_
                (first | rw [← C7.out] at ho18 | (simp only [Int.reduceToNat] at ho18;rw [← C7.out] at ho18))
                have B6:=rL (rN ho18 B7) HB
                replace B7:=rE B7 ho18 hb
                replace A0:=bB A0 hb
                replace A1:=bB A1 hb
                replace HB:=hS HB hb
                clear hb ho18
                refine hK.out _ _ ⟨cz0 A0,cz1 A0⟩ (fun hHeld=> ?_)
                clear hK K
                refine norm_ (a':=?_) ?_ ?_
                rotate_left
                ·show Act.put _ (some 23) _=_
                 simp only [Act.put,List.setIfInBounds_toArray,List.set_cons_zero,List.set_cons_succ,i64_w,i32_w]
                 rfl
                exact norm_ impl_newOrder.a0 (hJ3_5 (v324,v327) _ ⟨hHeld,(rM B6 (fun _ hk=>hk.2)),(rM B7 (fun _ hk=>hk.2)),(vB A0),(vB A1),(hV HB)⟩)
               ·skip
                refine box_step ?hg (N:=5) ?hd (cs:=#[.slice none 0 0,.slice none 0 0,.slice none 0 0]) (t:=57) ?hr ?_;(case hd=>rfl);(case hg=>rfl);(case hr=>first | (go_simp;done) | (go_simp;rfl))
                intro A6 hg w17 hbox hb
                replace B7:=rB B7 hb
                have A5:=Aside0.mk (hbox)
                have C2:=hZ HB hg
                have C3:=hZ HB hg
                replace HB:=hS HB hb
                have A8:=nL A0 hg
                have B0:=nG A0 hg
                replace A0:=bB A0 hb
                have B2:=nL A1 hg
                have B3:=nG A1 hg
                replace A1:=bB A1 hb
                clear hb hbox hg
                refine hK.out _ _ ⟨cz0 A0,cz1 A0⟩ (fun hHeld=> ?_)
                clear hK K
                refine norm_ (a':=?_) ?_ ?_
                rotate_left
                ·show Act.put _ (some 5) _=_
                 simp only [Act.put,List.setIfInBounds_toArray,List.set_cons_zero,List.set_cons_succ,i64_w,i32_w]
                 rfl
                exact norm_ impl_newOrder.a0 (hJ5_7 (v327,A6) _ ⟨hHeld,(rV B7),(vB A0),(vB A1),(vB A5),C2.out,C3.out,A8.out,B0.out,B2.out,B3.out,(hV HB)⟩)
             ·skip
              rintro v324 w16 ⟨hS_,h0_,h1_,h2_,h3_⟩
              have n0_:Aside0 (Kd.R (Kd.int .i64) 3 w16 w.heap.size (fun _=>True) v324 y323):=⟨h0_⟩
              have n1_:Aside0 (w16.heap[A3]? = some (.cells #[.slice A0_0 l0_0.length c0_0,.slice A0_1 l0_1.length c0_1] 33 (0,0))):=⟨h1_⟩
              have n2_:Aside0 (w16.heap[B8]? = some (.cells #[.slice none 0 0,.slice none 0 0,.slice none 0 0] 57 (0,0))):=⟨h2_⟩
              have n3_:Aside0 (Below w.heap.size w w16):=⟨h3_⟩
              clear A0
              clear A1
              clear HB
              clear h0_ h1_ h2_ h3_
              have B6:=n0_
              have A0:=n1_
              have A1:=n2_
              have HB:=n3_
              clear n0_ n1_ n2_ n3_
              have hHeld:w16.cell? ⟨A3,0,none⟩=some (.slice A0_0 l0_0.length c0_0)∧w16.cell? ⟨A3,1,none⟩=some (.slice A0_1 l0_1.length c0_1):=hS_
              refine norm_ (a':=?_) ?_ ?_
              rotate_left
              ·simp only [putAll,Act.put,List.setIfInBounds_toArray,List.set_cons_zero,List.set_cons_succ]
               rfl
              refine three_ (i:=1) (j:=5) (k:=7) (Ni:=some 21) (Nj:=some 25) (Nk:=some 5) #[true,true,true,true,true,false,false,false,false] #[true,false,true,true,true,true,false,false,false] #[true,false,true,true,true,false,false,true,false] rfl rfl rfl rfl rfl rfl (three_of HT_.out impl_newOrder.a5) impl_newOrder.a6 impl_newOrder.a6 impl_newOrder.a6 (fun K hK=> ?_) (fun K hK=> ?_) (fun K hK=> ?_)
              ·skip
               refine goes_ Try.func56 impl_newOrder.a5 rfl #[.agg #[.slice A0_0 l0_0.length c0_0,.slice A0_1 l0_1.length c0_1]] (by rfl) rfl rfl impl_newOrder.a1 ?_
               with_reducible refine (impl_sortsAbove.calls k _ _ l0_0 _ _ l0_1 t320 _ ?side1 ?side2 ?side3 ?side4 A4.out).mono ?_
               (case side1=>exact cB D3 HB)
               (case side2=>exact D4.out)
               (case side3=>exact cB D0 HB)
               (case side4=>exact D5.out)
               rintro e w17 ⟨v321,rfl,ho0,hb⟩
               refine ⟨_,rfl,?_⟩
               have B1:=rL (rN ho0 B6) HB
               replace B6:=rE B6 ho0 hb
               replace A0:=bB A0 hb
               replace A1:=bB A1 hb
               replace HB:=hS HB hb
               (try clear hb)
               (try clear hb2)
               (try clear hk)
               (try clear hi)
               (try clear ho0)
               refine hK.out _ _ ⟨cz0 A0,cz1 A0⟩ (fun hHeld=> ?_)
               clear hK K
               refine norm_ (a':=?_) ?_ ?_
               rotate_left
               ·show Act.put _ (some 21) _=_
                simp only [Act.put,List.setIfInBounds_toArray,List.set_cons_zero,List.set_cons_succ,i64_w,i32_w]
                rfl
               exact norm_ impl_newOrder.a0 (hJ1_3 (v321,v324) _ ⟨hHeld,(rM B1 (fun _ hk=>hk.2)),(rM B6 (fun _ hk=>hk.2)),(vB A0),(vB A1),(hV HB)⟩)
              ·skip
               refine Kd.R_make_step (Kd.int .i64) _ 3 (by rfl) (N:=25) rfl 55 _ _ rfl (l0_0.length:Int) rfl rfl Try.underlying55 (.int .i64 0) 8 info3 rfl impl_newOrder.a6 (by omega) 0 (ok:=fun _=>True) (okp:=fun _=>True) rfl (fun _ hk=>hk) trivial (dT) (Nat.le_trans (Nat.mul_le_mul_right _ (dT:(l0_0.length:Int).toNat≤35184372088832)) (by omega)) (Below.refl _ _) (Nat.le_refl _) ?_
               intro v327 w17 ho18 hb hg_ hnew_
               clear hg_ hnew_
               (first | rw [← C8.out] at ho18 | (simp only [Int.reduceToNat] at ho18;rw [← C8.out] at ho18))
               have B7:=rL (rN ho18 B6) HB
               replace B6:=rE B6 ho18 hb
               replace A0:=bB A0 hb
               replace A1:=bB A1 hb
               replace HB:=hS HB hb
               clear hb ho18
               refine hK.out _ _ ⟨cz0 A0,cz1 A0⟩ (fun hHeld=> ?_)
               clear hK K
               refine norm_ (a':=?_) ?_ ?_
               rotate_left
               ·show Act.put _ (some 25) _=_
                simp only [Act.put,List.setIfInBounds_toArray,List.set_cons_zero,List.set_cons_succ,i64_w,i32_w]
                rfl
               exact norm_ impl_newOrder.a0 (hJ3_5 (v324,v327) _ ⟨hHeld,(rM B6 (fun _ hk=>hk.2)),(rM B7 (fun _ hk=>hk.2)),(vB A0),(vB A1),(hV HB)⟩)
              ·skip
               refine box_step ?hg (N:=5) ?hd (cs:=#[.slice none 0 0,.slice none 0 0,.slice none 0 0]) (t:=57) ?hr ?_;(case hd=>rfl);(case hg=>rfl);(case hr=>first | (go_simp;done) | (go_simp;rfl))
               intro A6 hg w17 hbox hb
               replace B6:=rB B6 hb
               have A5:=Aside0.mk (hbox)
               have C2:=hZ HB hg
               have C3:=hZ HB hg
               replace HB:=hS HB hb
               have A8:=nL A0 hg
               have B0:=nG A0 hg
               replace A0:=bB A0 hb
               have B2:=nL A1 hg
               have B3:=nG A1 hg
               replace A1:=bB A1 hb
               clear hb hbox hg
               refine hK.out _ _ ⟨cz0 A0,cz1 A0⟩ (fun hHeld=> ?_)
               clear hK K
               refine norm_ (a':=?_) ?_ ?_
               rotate_left
               ·show Act.put _ (some 5) _=_
                simp only [Act.put,List.setIfInBounds_toArray,List.set_cons_zero,List.set_cons_succ,i64_w,i32_w]
                rfl
               exact norm_ impl_newOrder.a0 (hJ3_7 (v324,A6) _ ⟨hHeld,(rV B6),(vB A0),(vB A1),(vB A5),C2.out,C3.out,A8.out,B0.out,B2.out,B3.out,(hV HB)⟩)
            ·skip
             rintro v321 w15 ⟨hS_,h0_,h1_,h2_,h3_⟩
             have n0_:Aside0 (Kd.R (Kd.int .i64) 3 w15 w.heap.size (fun _=>True) v321 t320):=⟨h0_⟩
             have n1_:Aside0 (w15.heap[A3]? = some (.cells #[.slice A0_0 l0_0.length c0_0,.slice A0_1 l0_1.length c0_1] 33 (0,0))):=⟨h1_⟩
             have n2_:Aside0 (w15.heap[B8]? = some (.cells #[.slice none 0 0,.slice none 0 0,.slice none 0 0] 57 (0,0))):=⟨h2_⟩
             have n3_:Aside0 (Below w.heap.size w w15):=⟨h3_⟩
             clear A0
             clear A1
             clear HB
             clear h0_ h1_ h2_ h3_
             have B1:=n0_
             have A0:=n1_
             have A1:=n2_
             have HB:=n3_
             clear n0_ n1_ n2_ n3_
             have hHeld:w15.cell? ⟨A3,0,none⟩=some (.slice A0_0 l0_0.length c0_0)∧w15.cell? ⟨A3,1,none⟩=some (.slice A0_1 l0_1.length c0_1):=hS_
             refine norm_ (a':=?_) ?_ ?_
             rotate_left
             ·simp only [putAll,Act.put,List.setIfInBounds_toArray,List.set_cons_zero,List.set_cons_succ]
              rfl
             refine three_ (i:=3) (j:=5) (k:=7) (Ni:=some 23) (Nj:=some 25) (Nk:=some 5) #[true,true,true,true,true,false,false,false,false] #[true,true,true,false,true,true,false,false,false] #[true,true,true,false,true,false,false,true,false] rfl rfl rfl rfl rfl rfl (three_of HT_.out impl_newOrder.a5) impl_newOrder.a6 impl_newOrder.a6 impl_newOrder.a6 (fun K hK=> ?_) (fun K hK=> ?_) (fun K hK=> ?_)
             ·skip
              refine Kd.R_make_step (Kd.int .i64) _ 3 (by rfl) (N:=23) rfl 55 _ _ rfl (l0_0.length:Int) rfl rfl Try.underlying55 (.int .i64 0) 8 info3 rfl impl_newOrder.a6 (by omega) 0 (ok:=fun _=>True) (okp:=fun _=>True) rfl (fun _ hk=>hk) trivial (dT) (Nat.le_trans (Nat.mul_le_mul_right _ (dT:(l0_0.length:Int).toNat≤35184372088832)) (by omega)) (Below.refl _ _) (Nat.le_refl _) ?_
              intro v324 w16 ho17 hb hg_ hnew_
              clear hg_ hnew_
              (first | rw [← C7.out] at ho17 | (simp only [Int.reduceToNat] at ho17;rw [← C7.out] at ho17))
              have B6:=rL (rN ho17 B1) HB
              replace B1:=rE B1 ho17 hb
              replace A0:=bB A0 hb
              replace A1:=bB A1 hb
              replace HB:=hS HB hb
              clear hb ho17
              refine hK.out _ _ ⟨cz0 A0,cz1 A0⟩ (fun hHeld=> ?_)
              clear hK K
              refine norm_ (a':=?_) ?_ ?_
              rotate_left
              ·show Act.put _ (some 23) _=_
               simp only [Act.put,List.setIfInBounds_toArray,List.set_cons_zero,List.set_cons_succ,i64_w,i32_w]
               rfl
              exact norm_ impl_newOrder.a0 (hJ1_3 (v321,v324) _ ⟨hHeld,(rM B1 (fun _ hk=>hk.2)),(rM B6 (fun _ hk=>hk.2)),(vB A0),(vB A1),(hV HB)⟩)
             ·skip
              refine Kd.R_make_step (Kd.int .i64) _ 3 (by rfl) (N:=25) rfl 55 _ _ rfl (l0_0.length:Int) rfl rfl Try.underlying55 (.int .i64 0) 8 info3 rfl impl_newOrder.a6 (by omega) 0 (ok:=fun _=>True) (okp:=fun _=>True) rfl (fun _ hk=>hk) trivial (dT) (Nat.le_trans (Nat.mul_le_mul_right _ (dT:(l0_0.length:Int).toNat≤35184372088832)) (by omega)) (Below.refl _ _) (Nat.le_refl _) ?_
              intro v327 w16 ho17 hb hg_ hnew_
              clear hg_ hnew_
              (first | rw [← C8.out] at ho17 | (simp only [Int.reduceToNat] at ho17;rw [← C8.out] at ho17))
              have B7:=rL (rN ho17 B1) HB
              replace B1:=rE B1 ho17 hb
              replace A0:=bB A0 hb
              replace A1:=bB A1 hb
              replace HB:=hS HB hb
              clear hb ho17
              refine hK.out _ _ ⟨cz0 A0,cz1 A0⟩ (fun hHeld=> ?_)
              clear hK K
              refine norm_ (a':=?_) ?_ ?_
              rotate_left
              ·show Act.put _ (some 25) _=_
               simp only [Act.put,List.setIfInBounds_toArray,List.set_cons_zero,List.set_cons_succ,i64_w,i32_w]
               rfl
              exact norm_ impl_newOrder.a0 (hJ1_5 (v321,v327) _ ⟨hHeld,(rM B1 (fun _ hk=>hk.2)),(rM B7 (fun _ hk=>hk.2)),(vB A0),(vB A1),(hV HB)⟩)
             ·skip
              refine box_step ?hg (N:=5) ?hd (cs:=#[.slice none 0 0,.slice none 0 0,.slice none 0 0]) (t:=57) ?hr ?_;(case hd=>rfl);(case hg=>rfl);(case hr=>first | (go_simp;done) | (go_simp;rfl))
              intro A6 hg w16 hbox hb
              replace B1:=rB B1 hb
              have A5:=Aside0.mk (hbox)
              have C2:=hZ HB hg
              have C3:=hZ HB hg
              replace HB:=hS HB hb
              have A8:=nL A0 hg
              have B0:=nG A0 hg
              replace A0:=bB A0 hb
              have B2:=nL A1 hg
              have B3:=nG A1 hg
              replace A1:=bB A1 hb
              clear hb hbox hg
              refine hK.out _ _ ⟨cz0 A0,cz1 A0⟩ (fun hHeld=> ?_)
              clear hK K
              refine norm_ (a':=?_) ?_ ?_
              rotate_left
              ·show Act.put _ (some 5) _=_
               simp only [Act.put,List.setIfInBounds_toArray,List.set_cons_zero,List.set_cons_succ,i64_w,i32_w]
               rfl
              exact norm_ impl_newOrder.a0 (hJ1_7 (v321,A6) _ ⟨hHeld,(rV B1),(vB A0),(vB A1),(vB A5),C2.out,C3.out,A8.out,B0.out,B2.out,B3.out,(hV HB)⟩)
           ·skip
            rintro ⟨v327,A6⟩ w17 ⟨hS_,h0_,h1_,h2_,h3_,h4_,h5_,h6_,h7_,h8_,h9_,h10_⟩
            have n0_:Aside0 (Kd.R (Kd.int .i64) 3 w17 w.heap.size (fun _=>True) v327 y326):=⟨h0_⟩
            have n1_:Aside0 (w17.heap[A3]? = some (.cells #[.slice A0_0 l0_0.length c0_0,.slice A0_1 l0_1.length c0_1] 33 (0,0))):=⟨h1_⟩
            have n2_:Aside0 (w17.heap[B8]? = some (.cells #[.slice none 0 0,.slice none 0 0,.slice none 0 0] 57 (0,0))):=⟨h2_⟩
            have n3_:Aside0 (w17.heap[A6]? = some (.cells #[.slice none 0 0,.slice none 0 0,.slice none 0 0] 57 (0,0))):=⟨h3_⟩
            have n4_:Aside0 (w.heap.size≤A6):=⟨h4_⟩
            have n5_:Aside0 (w.heap.size≤A6):=⟨h5_⟩
            have n6_:Aside0 (A3≠A6):=⟨h6_⟩
            have n7_:Aside0 (A6≠A3):=⟨h7_⟩
            have n8_:Aside0 (B8≠A6):=⟨h8_⟩
            have n9_:Aside0 (A6≠B8):=⟨h9_⟩
            have n10_:Aside0 (Below w.heap.size w w17):=⟨h10_⟩
            clear A0
            clear A1
            clear HB
            clear h0_ h1_ h2_ h3_ h4_ h5_ h6_ h7_ h8_ h9_ h10_
            have B7:=n0_
            have A0:=n1_
            have A1:=n2_
            have A5:=n3_
            have C2:=n4_
            have C3:=n5_
            have A8:=n6_
            have B0:=n7_
            have B2:=n8_
            have B3:=n9_
            have HB:=n10_
            clear n0_ n1_ n2_ n3_ n4_ n5_ n6_ n7_ n8_ n9_ n10_
            have hHeld:w17.cell? ⟨A3,0,none⟩=some (.slice A0_0 l0_0.length c0_0)∧w17.cell? ⟨A3,1,none⟩=some (.slice A0_1 l0_1.length c0_1):=hS_
            refine norm_ (a':=?_) ?_ ?_
            rotate_left
            ·simp only [putAll,Act.put,List.setIfInBounds_toArray,List.set_cons_zero,List.set_cons_succ]
             rfl
            refine two_ (i:=1) (j:=3) (Ni:=some 21) (Nj:=some 23) #[true,true,true,false,true,true,false,true,false] #[true,false,true,true,true,true,false,true,false] rfl rfl rfl rfl (two_of HT_.out impl_newOrder.a5) impl_newOrder.a6 impl_newOrder.a6 (fun K hK=> ?_) (fun K hK=> ?_)
            ·skip
             refine goes_ Try.func56 impl_newOrder.a5 rfl #[.agg #[.slice A0_0 l0_0.length c0_0,.slice A0_1 l0_1.length c0_1]] (by rfl) rfl rfl impl_newOrder.a1 ?_
             with_reducible refine (impl_sortsAbove.calls k _ _ l0_0 _ _ l0_1 t320 _ ?side1 ?side2 ?side3 ?side4 A4.out).mono ?_
             (case side1=>exact cB D3 HB)
             (case side2=>exact D4.out)
             (case side3=>exact cB D0 HB)
             (case side4=>exact D5.out)
             rintro e w18 ⟨v321,rfl,ho0,hb⟩
             refine ⟨_,rfl,?_⟩
             have B1:=rL (rN ho0 B7) HB
             replace B7:=rE B7 ho0 hb
             replace A0:=bB A0 hb
             replace A1:=bB A1 hb
             replace A5:=bB A5 hb
             replace HB:=hS HB hb
             (try clear hb)
             (try clear hb2)
             (try clear hk)
             (try clear hi)
             (try clear ho0)
             refine hK.out _ _ ⟨cz0 A0,cz1 A0⟩ (fun hHeld=> ?_)
             clear hK K
             refine norm_ (a':=?_) ?_ ?_
             rotate_left
             ·show Act.put _ (some 21) _=_
              simp only [Act.put,List.setIfInBounds_toArray,List.set_cons_zero,List.set_cons_succ,i64_w,i32_w]
              rfl
             exact norm_ impl_newOrder.a0 (hJ1_5_7 (v321,v327,A6) _ ⟨hHeld,(rM B1 (fun _ hk=>hk.2)),(rM B7 (fun _ hk=>hk.2)),(vB A0),(vB A1),(vB A5),C2.out,C3.out,A8.out,B0.out,B2.out,B3.out,(hV HB)⟩)
            ·skip
             refine Kd.R_make_step (Kd.int .i64) _ 3 (by rfl) (N:=23) rfl 55 _ _ rfl (l0_0.length:Int) rfl rfl Try.underlying55 (.int .i64 0) 8 info3 rfl impl_newOrder.a6 (by omega) 0 (ok:=fun _=>True) (okp:=fun _=>True) rfl (fun _ hk=>hk) trivial (dT) (Nat.le_trans (Nat.mul_le_mul_right _ (dT:(l0_0.length:Int).toNat≤35184372088832)) (by omega)) (Below.refl _ _) (Nat.le_refl _) ?_
             intro v324 w18 ho19 hb hg_ hnew_
             clear hg_ hnew_
             (first | rw [← C7.out] at ho19 | (simp only [Int.reduceToNat] at ho19;rw [← C7.out] at ho19))
             have B6:=rL (rN ho19 B7) HB
             replace B7:=rE B7 ho19 hb
             replace A0:=bB A0 hb
             replace A1:=bB A1 hb
             replace A5:=bB A5 hb
             replace HB:=hS HB hb
             clear hb ho19
             refine hK.out _ _ ⟨cz0 A0,cz1 A0⟩ (fun hHeld=> ?_)
             clear hK K
             refine norm_ (a':=?_) ?_ ?_
             rotate_left
             ·show Act.put _ (some 23) _=_
              simp only [Act.put,List.setIfInBounds_toArray,List.set_cons_zero,List.set_cons_succ,i64_w,i32_w]
              rfl
             exact norm_ impl_newOrder.a0 (hJ3_5_7 (v324,v327,A6) _ ⟨hHeld,(rM B6 (fun _ hk=>hk.2)),(rM B7 (fun _ hk=>hk.2)),(vB A0),(vB A1),(vB A5),C2.out,C3.out,A8.out,B0.out,B2.out,B3.out,(hV HB)⟩)
          ·skip
           rintro ⟨v324,A6⟩ w17 ⟨hS_,h0_,h1_,h2_,h3_,h4_,h5_,h6_,h7_,h8_,h9_,h10_⟩
           have n0_:Aside0 (Kd.R (Kd.int .i64) 3 w17 w.heap.size (fun _=>True) v324 y323):=⟨h0_⟩
           have n1_:Aside0 (w17.heap[A3]? = some (.cells #[.slice A0_0 l0_0.length c0_0,.slice A0_1 l0_1.length c0_1] 33 (0,0))):=⟨h1_⟩
           have n2_:Aside0 (w17.heap[B8]? = some (.cells #[.slice none 0 0,.slice none 0 0,.slice none 0 0] 57 (0,0))):=⟨h2_⟩
           have n3_:Aside0 (w17.heap[A6]? = some (.cells #[.slice none 0 0,.slice none 0 0,.slice none 0 0] 57 (0,0))):=⟨h3_⟩
           have n4_:Aside0 (w.heap.size≤A6):=⟨h4_⟩
           have n5_:Aside0 (w.heap.size≤A6):=⟨h5_⟩
           have n6_:Aside0 (A3≠A6):=⟨h6_⟩
           have n7_:Aside0 (A6≠A3):=⟨h7_⟩
           have n8_:Aside0 (B8≠A6):=⟨h8_⟩
           have n9_:Aside0 (A6≠B8):=⟨h9_⟩
           have n10_:Aside0 (Below w.heap.size w w17):=⟨h10_⟩
           clear A0
           clear A1
           clear HB
           clear h0_ h1_ h2_ h3_ h4_ h5_ h6_ h7_ h8_ h9_ h10_
           have B6:=n0_
           have A0:=n1_
           have A1:=n2_
           have A5:=n3_
           have C2:=n4_
           have C3:=n5_
           have A8:=n6_
           have B0:=n7_
           have B2:=n8_
           have B3:=n9_
           have HB:=n10_
           clear n0_ n1_ n2_ n3_ n4_ n5_ n6_ n7_ n8_ n9_ n10_
           have hHeld:w17.cell? ⟨A3,0,none⟩=some (.slice A0_0 l0_0.length c0_0)∧w17.cell? ⟨A3,1,none⟩=some (.slice A0_1 l0_1.length c0_1):=hS_
           refine norm_ (a':=?_) ?_ ?_
           rotate_left
           ·simp only [putAll,Act.put,List.setIfInBounds_toArray,List.set_cons_zero,List.set_cons_succ]
            rfl
           refine two_ (i:=1) (j:=5) (Ni:=some 21) (Nj:=some 25) #[true,true,true,true,true,false,false,true,false] #[true,false,true,true,true,true,false,true,false] rfl rfl rfl rfl (two_of HT_.out impl_newOrder.a5) impl_newOrder.a6 impl_newOrder.a6 (fun K hK=> ?_) (fun K hK=> ?_)
           ·skip
            refine goes_ Try.func56 impl_newOrder.a5 rfl #[.agg #[.slice A0_0 l0_0.length c0_0,.slice A0_1 l0_1.length c0_1]] (by rfl) rfl rfl impl_newOrder.a1 ?_
            with_reducible refine (impl_sortsAbove.calls k _ _ l0_0 _ _ l0_1 t320 _ ?side1 ?side2 ?side3 ?side4 A4.out).mono ?_
            (case side1=>exact cB D3 HB)
            (case side2=>exact D4.out)
            (case side3=>exact cB D0 HB)
            (case side4=>exact D5.out)
            rintro e w18 ⟨v321,rfl,ho0,hb⟩
            refine ⟨_,rfl,?_⟩
            have B1:=rL (rN ho0 B6) HB
            replace B6:=rE B6 ho0 hb
            replace A0:=bB A0 hb
            replace A1:=bB A1 hb
            replace A5:=bB A5 hb
            replace HB:=hS HB hb
            (try clear hb)
            (try clear hb2)
            (try clear hk)
            (try clear hi)
            (try clear ho0)
            refine hK.out _ _ ⟨cz0 A0,cz1 A0⟩ (fun hHeld=> ?_)
            clear hK K
            refine norm_ (a':=?_) ?_ ?_
            rotate_left
            ·show Act.put _ (some 21) _=_
             simp only [Act.put,List.setIfInBounds_toArray,List.set_cons_zero,List.set_cons_succ,i64_w,i32_w]
             rfl
            exact norm_ impl_newOrder.a0 (hJ1_3_7 (v321,v324,A6) _ ⟨hHeld,(rM B1 (fun _ hk=>hk.2)),(rM B6 (fun _ hk=>hk.2)),(vB A0),(vB A1),(vB A5),C2.out,C3.out,A8.out,B0.out,B2.out,B3.out,(hV HB)⟩)
           ·skip
            refine Kd.R_make_step (Kd.int .i64) _ 3 (by rfl) (N:=25) rfl 55 _ _ rfl (l0_0.length:Int) rfl rfl Try.underlying55 (.int .i64 0) 8 info3 rfl impl_newOrder.a6 (by omega) 0 (ok:=fun _=>True) (okp:=fun _=>True) rfl (fun _ hk=>hk) trivial (dT) (Nat.le_trans (Nat.mul_le_mul_right _ (dT:(l0_0.length:Int).toNat≤35184372088832)) (by omega)) (Below.refl _ _) (Nat.le_refl _) ?_
            intro v327 w18 ho19 hb hg_ hnew_
            clear hg_ hnew_
            (first | rw [← C8.out] at ho19 | (simp only [Int.reduceToNat] at ho19;rw [← C8.out] at ho19))
            have B7:=rL (rN ho19 B6) HB
            replace B6:=rE B6 ho19 hb
            replace A0:=bB A0 hb
            replace A1:=bB A1 hb
            replace A5:=bB A5 hb
            replace HB:=hS HB hb
            clear hb ho19
            refine hK.out _ _ ⟨cz0 A0,cz1 A0⟩ (fun hHeld=> ?_)
            clear hK K
            refine norm_ (a':=?_) ?_ ?_
            rotate_left
            ·show Act.put _ (some 25) _=_
             simp only [Act.put,List.setIfInBounds_toArray,List.set_cons_zero,List.set_cons_succ,i64_w,i32_w]
             rfl
            exact norm_ impl_newOrder.a0 (hJ3_5_7 (v324,v327,A6) _ ⟨hHeld,(rM B6 (fun _ hk=>hk.2)),(rM B7 (fun _ hk=>hk.2)),(vB A0),(vB A1),(vB A5),C2.out,C3.out,A8.out,B0.out,B2.out,B3.out,(hV HB)⟩)
         ·skip
          rintro ⟨v324,v327⟩ w18 ⟨hS_,h0_,h1_,h2_,h3_,h4_⟩
          have n0_:Aside0 (Kd.R (Kd.int .i64) 3 w18 w.heap.size (fun k_=>some k_≠(v327:Value).ownBlock) v324 y323):=⟨h0_⟩
          have n1_:Aside0 (Kd.R (Kd.int .i64) 3 w18 w.heap.size (fun k_=>some k_≠(v324:Value).ownBlock) v327 y326):=⟨h1_⟩
          have n2_:Aside0 (w18.heap[A3]? = some (.cells #[.slice A0_0 l0_0.length c0_0,.slice A0_1 l0_1.length c0_1] 33 (0,0))):=⟨h2_⟩
          have n3_:Aside0 (w18.heap[B8]? = some (.cells #[.slice none 0 0,.slice none 0 0,.slice none 0 0] 57 (0,0))):=⟨h3_⟩
          have n4_:Aside0 (Below w.heap.size w w18):=⟨h4_⟩
          clear A0
          clear A1
          clear HB
          clear h0_ h1_ h2_ h3_ h4_
          have B6:=n0_
          have B7:=n1_
          have A0:=n2_
          have A1:=n3_
          have HB:=n4_
          clear n0_ n1_ n2_ n3_ n4_
          have hHeld:w18.cell? ⟨A3,0,none⟩=some (.slice A0_0 l0_0.length c0_0)∧w18.cell? ⟨A3,1,none⟩=some (.slice A0_1 l0_1.length c0_1):=hS_
          refine norm_ (a':=?_) ?_ ?_
          rotate_left
          ·simp only [putAll,Act.put,List.setIfInBounds_toArray,List.set_cons_zero,List.set_cons_succ]
           rfl
          refine two_ (i:=1) (j:=7) (Ni:=some 21) (Nj:=some 5) #[true,true,true,true,true,true,false,false,false] #[true,false,true,true,true,true,false,true,false] rfl rfl rfl rfl (two_of HT_.out impl_newOrder.a5) impl_newOrder.a6 impl_newOrder.a6 (fun K hK=> ?_) (fun K hK=> ?_)
          ·skip
           refine goes_ Try.func56 impl_newOrder.a5 rfl #[.agg #[.slice A0_0 l0_0.length c0_0,.slice A0_1 l0_1.length c0_1]] (by rfl) rfl rfl impl_newOrder.a1 ?_
           with_reducible refine (impl_sortsAbove.calls k _ _ l0_0 _ _ l0_1 t320 _ ?side1 ?side2 ?side3 ?side4 A4.out).mono ?_
           (case side1=>exact cB D3 HB)
           (case side2=>exact D4.out)
           (case side3=>exact cB D0 HB)
           (case side4=>exact D5.out)
           rintro e w19 ⟨v321,rfl,ho0,hb⟩
           refine ⟨_,rfl,?_⟩
           have B1:=rL (rN (rN ho0 B6) B7) HB
           replace B6:=rE B6 ho0 hb
           replace B7:=rE B7 ho0 hb
           replace A0:=bB A0 hb
           replace A1:=bB A1 hb
           replace HB:=hS HB hb
           (try clear hb)
           (try clear hb2)
           (try clear hk)
           (try clear hi)
           (try clear ho0)
           obtain ⟨G3,G4,eo20⟩:=Kd.R_slice B7.out
           (first | subst eo20 | (injection eo20 with f1_ f2_ f3_;have f4_:=f1_.symm;have f5_:=f3_.symm;clear f1_ f2_ f3_;subst f4_;subst f5_))
           obtain ⟨D9,E0,eo21⟩:=Kd.R_slice B6.out
           (first | subst eo21 | (injection eo21 with f1_ f2_ f3_;have f4_:=f1_.symm;have f5_:=f3_.symm;clear f1_ f2_ f3_;subst f4_;subst f5_))
           obtain ⟨E1,E2,eo22⟩:=Kd.R_slice B1.out
           (first | subst eo22 | (injection eo22 with f1_ f2_ f3_;have f4_:=f1_.symm;have f5_:=f3_.symm;clear f1_ f2_ f3_;subst f4_;subst f5_))
           refine hK.out _ _ ⟨cz0 A0,cz1 A0⟩ (fun hHeld=> ?_)
           clear hK K
           refine norm_ (a':=?_) ?_ ?_
           rotate_left
           ·show Act.put _ (some 21) _=_
            simp only [Act.put,List.setIfInBounds_toArray,List.set_cons_zero,List.set_cons_succ,i64_w,i32_w]
            rfl
           refine pureS 6 26 HT_ rfl rfl ?_
           exact norm_ impl_newOrder.a0 (hJ1_3_5 (.slice E1 t320.length E2,.slice D9 y323.length E0,.slice G3 y326.length G4) _ ⟨hHeld,(rM B1 (fun _ hk=>⟨hk.1.2,hk.2⟩)),(rM B6 (fun _ hk=>⟨hk.2,hk.1⟩)),(rM B7 (fun _ hk=>⟨hk.2,hk.1⟩)),(vB A0),(vB A1),(hV HB)⟩)
          ·skip
           refine box_step ?hg (N:=5) ?hd (cs:=#[.slice none 0 0,.slice none 0 0,.slice none 0 0]) (t:=57) ?hr ?_;(case hd=>rfl);(case hg=>rfl);(case hr=>first | (go_simp;done) | (go_simp;rfl))
           intro A6 hg w19 hbox hb
           replace B6:=rB B6 hb
           replace B7:=rB B7 hb
           have A5:=Aside0.mk (hbox)
           have C2:=hZ HB hg
           have C3:=hZ HB hg
           replace HB:=hS HB hb
           have A8:=nL A0 hg
           have B0:=nG A0 hg
           replace A0:=bB A0 hb
           have B2:=nL A1 hg
           have B3:=nG A1 hg
           replace A1:=bB A1 hb
           clear hb hbox hg
           refine hK.out _ _ ⟨cz0 A0,cz1 A0⟩ (fun hHeld=> ?_)
           clear hK K
           refine norm_ (a':=?_) ?_ ?_
           rotate_left
           ·show Act.put _ (some 5) _=_
            simp only [Act.put,List.setIfInBounds_toArray,List.set_cons_zero,List.set_cons_succ,i64_w,i32_w]
            rfl
           exact norm_ impl_newOrder.a0 (hJ3_5_7 (v324,v327,A6) _ ⟨hHeld,(rV B6),(rV B7),(vB A0),(vB A1),(vB A5),C2.out,C3.out,A8.out,B0.out,B2.out,B3.out,(hV HB)⟩)
        ·skip
         rintro ⟨v321,A6⟩ w16 ⟨hS_,h0_,h1_,h2_,h3_,h4_,h5_,h6_,h7_,h8_,h9_,h10_⟩
         have n0_:Aside0 (Kd.R (Kd.int .i64) 3 w16 w.heap.size (fun _=>True) v321 t320):=⟨h0_⟩
         have n1_:Aside0 (w16.heap[A3]? = some (.cells #[.slice A0_0 l0_0.length c0_0,.slice A0_1 l0_1.length c0_1] 33 (0,0))):=⟨h1_⟩
         have n2_:Aside0 (w16.heap[B8]? = some (.cells #[.slice none 0 0,.slice none 0 0,.slice none 0 0] 57 (0,0))):=⟨h2_⟩
         have n3_:Aside0 (w16.heap[A6]? = some (.cells #[.slice none 0 0,.slice none 0 0,.slice none 0 0] 57 (0,0))):=⟨h3_⟩
         have n4_:Aside0 (w.heap.size≤A6):=⟨h4_⟩
         have n5_:Aside0 (w.heap.size≤A6):=⟨h5_⟩
         have n6_:Aside0 (A3≠A6):=⟨h6_⟩
         have n7_:Aside0 (A6≠A3):=⟨h7_⟩
         have n8_:Aside0 (B8≠A6):=⟨h8_⟩
         have n9_:Aside0 (A6≠B8):=⟨h9_⟩
         have n10_:Aside0 (Below w.heap.size w w16):=⟨h10_⟩
         clear A0
         clear A1
         clear HB
         clear h0_ h1_ h2_ h3_ h4_ h5_ h6_ h7_ h8_ h9_ h10_
         have B1:=n0_
         have A0:=n1_
         have A1:=n2_
         have A5:=n3_
         have C2:=n4_
         have C3:=n5_
         have A8:=n6_
         have B0:=n7_
         have B2:=n8_
         have B3:=n9_
         have HB:=n10_
         clear n0_ n1_ n2_ n3_ n4_ n5_ n6_ n7_ n8_ n9_ n10_
         have hHeld:w16.cell? ⟨A3,0,none⟩=some (.slice A0_0 l0_0.length c0_0)∧w16.cell? ⟨A3,1,none⟩=some (.slice A0_1 l0_1.length c0_1):=hS_
         refine norm_ (a':=?_) ?_ ?_
         rotate_left
         ·simp only [putAll,Act.put,List.setIfInBounds_toArray,List.set_cons_zero,List.set_cons_succ]
          rfl
         refine two_ (i:=3) (j:=5) (Ni:=some 23) (Nj:=some 25) #[true,true,true,true,true,false,false,true,false] #[true,true,true,false,true,true,false,true,false] rfl rfl rfl rfl (two_of HT_.out impl_newOrder.a5) impl_newOrder.a6 impl_newOrder.a6 (fun K hK=> ?_) (fun K hK=> ?_)
         ·skip
          refine Kd.R_make_step (Kd.int .i64) _ 3 (by rfl) (N:=23) rfl 55 _ _ rfl (l0_0.length:Int) rfl rfl Try.underlying55 (.int .i64 0) 8 info3 rfl impl_newOrder.a6 (by omega) 0 (ok:=fun _=>True) (okp:=fun _=>True) rfl (fun _ hk=>hk) trivial (dT) (Nat.le_trans (Nat.mul_le_mul_right _ (dT:(l0_0.length:Int).toNat≤35184372088832)) (by omega)) (Below.refl _ _) (Nat.le_refl _) ?_
          intro v324 w17 ho18 hb hg_ hnew_
          clear hg_ hnew_
          (first | rw [← C7.out] at ho18 | (simp only [Int.reduceToNat] at ho18;rw [← C7.out] at ho18))
          have B6:=rL (rN ho18 B1) HB
          replace B1:=rE B1 ho18 hb
          replace A0:=bB A0 hb
          replace A1:=bB A1 hb
          replace A5:=bB A5 hb
          replace HB:=hS HB hb
          clear hb ho18
          refine hK.out _ _ ⟨cz0 A0,cz1 A0⟩ (fun hHeld=> ?_)
          clear hK K
          refine norm_ (a':=?_) ?_ ?_
          rotate_left
          ·show Act.put _ (some 23) _=_
           simp only [Act.put,List.setIfInBounds_toArray,List.set_cons_zero,List.set_cons_succ,i64_w,i32_w]
           rfl
          exact norm_ impl_newOrder.a0 (hJ1_3_7 (v321,v324,A6) _ ⟨hHeld,(rM B1 (fun _ hk=>hk.2)),(rM B6 (fun _ hk=>hk.2)),(vB A0),(vB A1),(vB A5),C2.out,C3.out,A8.out,B0.out,B2.out,B3.out,(hV HB)⟩)
         ·skip
          refine Kd.R_make_step (Kd.int .i64) _ 3 (by rfl) (N:=25) rfl 55 _ _ rfl (l0_0.length:Int) rfl rfl Try.underlying55 (.int .i64 0) 8 info3 rfl impl_newOrder.a6 (by omega) 0 (ok:=fun _=>True) (okp:=fun _=>True) rfl (fun _ hk=>hk) trivial (dT) (Nat.le_trans (Nat.mul_le_mul_right _ (dT:(l0_0.length:Int).toNat≤35184372088832)) (by omega)) (Below.refl _ _) (Nat.le_refl _) ?_
          intro v327 w17 ho18 hb hg_ hnew_
          clear hg_ hnew_
          (first | rw [← C8.out] at ho18 | (simp only [Int.reduceToNat] at ho18;rw [← C8.out] at ho18))
          have B7:=rL (rN ho18 B1) HB
          replace B1:=rE B1 ho18 hb
          replace A0:=bB A0 hb
          replace A1:=bB A1 hb
          replace A5:=bB A5 hb
          replace HB:=hS HB hb
          clear hb ho18
          refine hK.out _ _ ⟨cz0 A0,cz1 A0⟩ (fun hHeld=> ?_)
          clear hK K
          refine norm_ (a':=?_) ?_ ?_
          rotate_left
          ·show Act.put _ (some 25) _=_
           simp only [Act.put,List.setIfInBounds_toArray,List.set_cons_zero,List.set_cons_succ,i64_w,i32_w]
           rfl
          exact norm_ impl_newOrder.a0 (hJ1_5_7 (v321,v327,A6) _ ⟨hHeld,(rM B1 (fun _ hk=>hk.2)),(rM B7 (fun _ hk=>hk.2)),(vB A0),(vB A1),(vB A5),C2.out,C3.out,A8.out,B0.out,B2.out,B3.out,(hV HB)⟩)
       ·skip
        rintro ⟨v321,v327⟩ w17 ⟨hS_,h0_,h1_,h2_,h3_,h4_⟩
        have n0_:Aside0 (Kd.R (Kd.int .i64) 3 w17 w.heap.size (fun k_=>some k_≠(v327:Value).ownBlock) v321 t320):=⟨h0_⟩
        have n1_:Aside0 (Kd.R (Kd.int .i64) 3 w17 w.heap.size (fun k_=>some k_≠(v321:Value).ownBlock) v327 y326):=⟨h1_⟩
        have n2_:Aside0 (w17.heap[A3]? = some (.cells #[.slice A0_0 l0_0.length c0_0,.slice A0_1 l0_1.length c0_1] 33 (0,0))):=⟨h2_⟩
        have n3_:Aside0 (w17.heap[B8]? = some (.cells #[.slice none 0 0,.slice none 0 0,.slice none 0 0] 57 (0,0))):=⟨h3_⟩
        have n4_:Aside0 (Below w.heap.size w w17):=⟨h4_⟩
        clear A0
        clear A1
        clear HB
        clear h0_ h1_ h2_ h3_ h4_
        have B1:=n0_
        have B7:=n1_
        have A0:=n2_
        have A1:=n3_
        have HB:=n4_
        clear n0_ n1_ n2_ n3_ n4_
        have hHeld:w17.cell? ⟨A3,0,none⟩=some (.slice A0_0 l0_0.length c0_0)∧w17.cell? ⟨A3,1,none⟩=some (.slice A0_1 l0_1.length c0_1):=hS_
        refine norm_ (a':=?_) ?_ ?_
        rotate_left
        ·simp only [putAll,Act.put,List.setIfInBounds_toArray,List.set_cons_zero,List.set_cons_succ]
         rfl
        refine two_ (i:=3) (j:=7) (Ni:=some 23) (Nj:=some 5) #[true,true,true,true,true,true,false,false,false] #[true,true,true,false,true,true,false,true,false] rfl rfl rfl rfl (two_of HT_.out impl_newOrder.a5) impl_newOrder.a6 impl_newOrder.a6 (fun K hK=> ?_) (fun K hK=> ?_)
        ·skip
         refine Kd.R_make_step (Kd.int .i64) _ 3 (by rfl) (N:=23) rfl 55 _ _ rfl (l0_0.length:Int) rfl rfl Try.underlying55 (.int .i64 0) 8 info3 rfl impl_newOrder.a6 (by omega) 0 (ok:=fun _=>True) (okp:=fun _=>True) rfl (fun _ hk=>hk) trivial (dT) (Nat.le_trans (Nat.mul_le_mul_right _ (dT:(l0_0.length:Int).toNat≤35184372088832)) (by omega)) (Below.refl _ _) (Nat.le_refl _) ?_
         intro v324 w18 ho19 hb hg_ hnew_
         clear hg_ hnew_
         (first | rw [← C7.out] at ho19 | (simp only [Int.reduceToNat] at ho19;rw [← C7.out] at ho19))
         have B6:=rL (rN (rN ho19 B1) B7) HB
         replace B1:=rE B1 ho19 hb
         replace B7:=rE B7 ho19 hb
         replace A0:=bB A0 hb
         replace A1:=bB A1 hb
         replace HB:=hS HB hb
         clear hb ho19
         obtain ⟨G3,G4,eo20⟩:=Kd.R_slice B7.out
         (first | subst eo20 | (injection eo20 with f1_ f2_ f3_;have f4_:=f1_.symm;have f5_:=f3_.symm;clear f1_ f2_ f3_;subst f4_;subst f5_))
         obtain ⟨D9,E0,eo21⟩:=Kd.R_slice B6.out
         (first | subst eo21 | (injection eo21 with f1_ f2_ f3_;have f4_:=f1_.symm;have f5_:=f3_.symm;clear f1_ f2_ f3_;subst f4_;subst f5_))
         obtain ⟨E1,E2,eo22⟩:=Kd.R_slice B1.out
         (first | subst eo22 | (injection eo22 with f1_ f2_ f3_;have f4_:=f1_.symm;have f5_:=f3_.symm;clear f1_ f2_ f3_;subst f4_;subst f5_))
         refine hK.out _ _ ⟨cz0 A0,cz1 A0⟩ (fun hHeld=> ?_)
         clear hK K
         refine norm_ (a':=?_) ?_ ?_
         rotate_left
         ·show Act.put _ (some 23) _=_
          simp only [Act.put,List.setIfInBounds_toArray,List.set_cons_zero,List.set_cons_succ,i64_w,i32_w]
          rfl
         refine pureS 6 26 HT_ rfl rfl ?_
         exact norm_ impl_newOrder.a0 (hJ1_3_5 (.slice E1 t320.length E2,.slice D9 y323.length E0,.slice G3 y326.length G4) _ ⟨hHeld,(rM B1 (fun _ hk=>⟨hk.2,hk.1⟩)),(rM B6 (fun _ hk=>⟨hk.1.2,hk.2⟩)),(rV B7),(vB A0),(vB A1),(hV HB)⟩)
        ·skip
         refine box_step ?hg (N:=5) ?hd (cs:=#[.slice none 0 0,.slice none 0 0,.slice none 0 0]) (t:=57) ?hr ?_;(case hd=>rfl);(case hg=>rfl);(case hr=>first | (go_simp;done) | (go_simp;rfl))
         intro A6 hg w18 hbox hb
         replace B1:=rB B1 hb
         replace B7:=rB B7 hb
         have A5:=Aside0.mk (hbox)
         have C2:=hZ HB hg
         have C3:=hZ HB hg
         replace HB:=hS HB hb
         have A8:=nL A0 hg
         have B0:=nG A0 hg
         replace A0:=bB A0 hb
         have B2:=nL A1 hg
         have B3:=nG A1 hg
         replace A1:=bB A1 hb
         clear hb hbox hg
         refine hK.out _ _ ⟨cz0 A0,cz1 A0⟩ (fun hHeld=> ?_)
         clear hK K
         refine norm_ (a':=?_) ?_ ?_
         rotate_left
         ·show Act.put _ (some 5) _=_
          simp only [Act.put,List.setIfInBounds_toArray,List.set_cons_zero,List.set_cons_succ,i64_w,i32_w]
          rfl
         exact norm_ impl_newOrder.a0 (hJ1_5_7 (v321,v327,A6) _ ⟨hHeld,(rV B1),(rV B7),(vB A0),(vB A1),(vB A5),C2.out,C3.out,A8.out,B0.out,B2.out,B3.out,(hV HB)⟩)
      ·skip
       rintro ⟨v321,v324⟩ w17 ⟨hS_,h0_,h1_,h2_,h3_,h4_⟩
       have n0_:Aside0 (Kd.R (Kd.int .i64) 3 w17 w.heap.size (fun k_=>some k_≠(v324:Value).ownBlock) v321 t320):=⟨h0_⟩
       have n1_:Aside0 (Kd.R (Kd.int .i64) 3 w17 w.heap.size (fun k_=>some k_≠(v321:Value).ownBlock) v324 y323):=⟨h1_⟩
       have n2_:Aside0 (w17.heap[A3]? = some (.cells #[.slice A0_0 l0_0.length c0_0,.slice A0_1 l0_1.length c0_1] 33 (0,0))):=⟨h2_⟩
       have n3_:Aside0 (w17.heap[B8]? = some (.cells #[.slice none 0 0,.slice none 0 0,.slice none 0 0] 57 (0,0))):=⟨h3_⟩
       have n4_:Aside0 (Below w.heap.size w w17):=⟨h4_⟩
       clear A0
       clear A1
       clear HB
       clear h0_ h1_ h2_ h3_ h4_
       have B1:=n0_
       have B6:=n1_
       have A0:=n2_
       have A1:=n3_
       have HB:=n4_
       clear n0_ n1_ n2_ n3_ n4_
       have hHeld:w17.cell? ⟨A3,0,none⟩=some (.slice A0_0 l0_0.length c0_0)∧w17.cell? ⟨A3,1,none⟩=some (.slice A0_1 l0_1.length c0_1):=hS_
       refine norm_ (a':=?_) ?_ ?_
       rotate_left
       ·simp only [putAll,Act.put,List.setIfInBounds_toArray,List.set_cons_zero,List.set_cons_succ]
        rfl
       refine two_ (i:=5) (j:=7) (Ni:=some 25) (Nj:=some 5) #[true,true,true,true,true,true,false,false,false] #[true,true,true,true,true,false,false,true,false] rfl rfl rfl rfl (two_of HT_.out impl_newOrder.a5) impl_newOrder.a6 impl_newOrder.a6 (fun K hK=> ?_) (fun K hK=> ?_)
       ·skip
        refine Kd.R_make_step (Kd.int .i64) _ 3 (by rfl) (N:=25) rfl 55 _ _ rfl (l0_0.length:Int) rfl rfl Try.underlying55 (.int .i64 0) 8 info3 rfl impl_newOrder.a6 (by omega) 0 (ok:=fun _=>True) (okp:=fun _=>True) rfl (fun _ hk=>hk) trivial (dT) (Nat.le_trans (Nat.mul_le_mul_right _ (dT:(l0_0.length:Int).toNat≤35184372088832)) (by omega)) (Below.refl _ _) (Nat.le_refl _) ?_
        intro v327 w18 ho19 hb hg_ hnew_
        clear hg_ hnew_
        (first | rw [← C8.out] at ho19 | (simp only [Int.reduceToNat] at ho19;rw [← C8.out] at ho19))
        have B7:=rL (rN (rN ho19 B1) B6) HB
        replace B1:=rE B1 ho19 hb
        replace B6:=rE B6 ho19 hb
        replace A0:=bB A0 hb
        replace A1:=bB A1 hb
        replace HB:=hS HB hb
        clear hb ho19
        obtain ⟨G3,G4,eo20⟩:=Kd.R_slice B7.out
        (first | subst eo20 | (injection eo20 with f1_ f2_ f3_;have f4_:=f1_.symm;have f5_:=f3_.symm;clear f1_ f2_ f3_;subst f4_;subst f5_))
        obtain ⟨D9,E0,eo21⟩:=Kd.R_slice B6.out
        (first | subst eo21 | (injection eo21 with f1_ f2_ f3_;have f4_:=f1_.symm;have f5_:=f3_.symm;clear f1_ f2_ f3_;subst f4_;subst f5_))
        obtain ⟨E1,E2,eo22⟩:=Kd.R_slice B1.out
        (first | subst eo22 | (injection eo22 with f1_ f2_ f3_;have f4_:=f1_.symm;have f5_:=f3_.symm;clear f1_ f2_ f3_;subst f4_;subst f5_))
        refine hK.out _ _ ⟨cz0 A0,cz1 A0⟩ (fun hHeld=> ?_)
        clear hK K
        refine norm_ (a':=?_) ?_ ?_
        rotate_left
        ·show Act.put _ (some 25) _=_
         simp only [Act.put,List.setIfInBounds_toArray,List.set_cons_zero,List.set_cons_succ,i64_w,i32_w]
         rfl
        refine pureS 6 26 HT_ rfl rfl ?_
        exact norm_ impl_newOrder.a0 (hJ1_3_5 (.slice E1 t320.length E2,.slice D9 y323.length E0,.slice G3 y326.length G4) _ ⟨hHeld,(rV B1),(rV B6),(rM B7 (fun _ hk=>⟨hk.1.2,hk.2⟩)),(vB A0),(vB A1),(hV HB)⟩)
       ·skip
        refine box_step ?hg (N:=5) ?hd (cs:=#[.slice none 0 0,.slice none 0 0,.slice none 0 0]) (t:=57) ?hr ?_;(case hd=>rfl);(case hg=>rfl);(case hr=>first | (go_simp;done) | (go_simp;rfl))
        intro A6 hg w18 hbox hb
        replace B1:=rB B1 hb
        replace B6:=rB B6 hb
        have A5:=Aside0.mk (hbox)
        have C2:=hZ HB hg
        have C3:=hZ HB hg
        replace HB:=hS HB hb
        have A8:=nL A0 hg
        have B0:=nG A0 hg
        replace A0:=bB A0 hb
        have B2:=nL A1 hg
        have B3:=nG A1 hg
        replace A1:=bB A1 hb
        clear hb hbox hg
        refine hK.out _ _ ⟨cz0 A0,cz1 A0⟩ (fun hHeld=> ?_)
        clear hK K
        refine norm_ (a':=?_) ?_ ?_
        rotate_left
        ·show Act.put _ (some 5) _=_
         simp only [Act.put,List.setIfInBounds_toArray,List.set_cons_zero,List.set_cons_succ,i64_w,i32_w]
         rfl
        exact norm_ impl_newOrder.a0 (hJ1_3_7 (v321,v324,A6) _ ⟨hHeld,(rV B1),(rV B6),(vB A0),(vB A1),(vB A5),C2.out,C3.out,A8.out,B0.out,B2.out,B3.out,(hV HB)⟩)
     ·skip
      rintro ⟨v324,v327,A6⟩ w19 ⟨hS_,h0_,h1_,h2_,h3_,h4_,h5_,h6_,h7_,h8_,h9_,h10_,h11_⟩
      have n0_:Aside0 (Kd.R (Kd.int .i64) 3 w19 w.heap.size (fun k_=>some k_≠(v327:Value).ownBlock) v324 y323):=⟨h0_⟩
      have n1_:Aside0 (Kd.R (Kd.int .i64) 3 w19 w.heap.size (fun k_=>some k_≠(v324:Value).ownBlock) v327 y326):=⟨h1_⟩
      have n2_:Aside0 (w19.heap[A3]? = some (.cells #[.slice A0_0 l0_0.length c0_0,.slice A0_1 l0_1.length c0_1] 33 (0,0))):=⟨h2_⟩
      have n3_:Aside0 (w19.heap[B8]? = some (.cells #[.slice none 0 0,.slice none 0 0,.slice none 0 0] 57 (0,0))):=⟨h3_⟩
      have n4_:Aside0 (w19.heap[A6]? = some (.cells #[.slice none 0 0,.slice none 0 0,.slice none 0 0] 57 (0,0))):=⟨h4_⟩
      have n5_:Aside0 (w.heap.size≤A6):=⟨h5_⟩
      have n6_:Aside0 (w.heap.size≤A6):=⟨h6_⟩
      have n7_:Aside0 (A3≠A6):=⟨h7_⟩
      have n8_:Aside0 (A6≠A3):=⟨h8_⟩
      have n9_:Aside0 (B8≠A6):=⟨h9_⟩
      have n10_:Aside0 (A6≠B8):=⟨h10_⟩
      have n11_:Aside0 (Below w.heap.size w w19):=⟨h11_⟩
      clear A0
      clear A1
      clear HB
      clear h0_ h1_ h2_ h3_ h4_ h5_ h6_ h7_ h8_ h9_ h10_ h11_
      have B6:=n0_
      have B7:=n1_
      have A0:=n2_
      have A1:=n3_
      have A5:=n4_
      have C2:=n5_
      have C3:=n6_
      have A8:=n7_
      have B0:=n8_
      have B2:=n9_
      have B3:=n10_
      have HB:=n11_
      clear n0_ n1_ n2_ n3_ n4_ n5_ n6_ n7_ n8_ n9_ n10_ n11_
      have hHeld:w19.cell? ⟨A3,0,none⟩=some (.slice A0_0 l0_0.length c0_0)∧w19.cell? ⟨A3,1,none⟩=some (.slice A0_1 l0_1.length c0_1):=hS_
      refine norm_ (a':=?_) ?_ ?_
      rotate_left
      ·simp only [putAll,Act.put,List.setIfInBounds_toArray,List.set_cons_zero,List.set_cons_succ]
       rfl
      refine one_ (i:=1) (N:=some 21) #[true,true,true,true,true,true,false,true,false] rfl rfl (one_of HT_.out impl_newOrder.a5) impl_newOrder.a6 (fun K hK=> ?_)
      refine goes_ Try.func56 impl_newOrder.a5 rfl #[.agg #[.slice A0_0 l0_0.length c0_0,.slice A0_1 l0_1.length c0_1]] (by rfl) rfl rfl impl_newOrder.a1 ?_
      with_reducible refine (impl_sortsAbove.calls k _ _ l0_0 _ _ l0_1 t320 _ ?side1 ?side2 ?side3 ?side4 A4.out).mono ?_
      (case side1=>exact cB D3 HB)
      (case side2=>exact D4.out)
      (case side3=>exact cB D0 HB)
      (case side4=>exact D5.out)
      rintro e w20 ⟨v321,rfl,ho0,hb⟩
      refine ⟨_,rfl,?_⟩
      have B1:=rL (rN (rN ho0 B6) B7) HB
      replace B6:=rE B6 ho0 hb
      replace B7:=rE B7 ho0 hb
      replace A0:=bB A0 hb
      replace A1:=bB A1 hb
      replace A5:=bB A5 hb
      replace HB:=hS HB hb
      (try clear hb)
      (try clear hb2)
      (try clear hk)
      (try clear hi)
      (try clear ho0)
      obtain ⟨D9,E0,eo21⟩:=Kd.R_slice B7.out
      (first | subst eo21 | (injection eo21 with f1_ f2_ f3_;have f4_:=f1_.symm;have f5_:=f3_.symm;clear f1_ f2_ f3_;subst f4_;subst f5_))
      obtain ⟨E1,E2,eo22⟩:=Kd.R_slice B6.out
      (first | subst eo22 | (injection eo22 with f1_ f2_ f3_;have f4_:=f1_.symm;have f5_:=f3_.symm;clear f1_ f2_ f3_;subst f4_;subst f5_))
      obtain ⟨F6,F7,eo23⟩:=Kd.R_slice B1.out
      (first | subst eo23 | (injection eo23 with f1_ f2_ f3_;have f4_:=f1_.symm;have f5_:=f3_.symm;clear f1_ f2_ f3_;subst f4_;subst f5_))
      refine hK.out _ _ ⟨cz0 A0,cz1 A0⟩ (fun hHeld=> ?_)
      clear hK K
      refine norm_ (a':=?_) ?_ ?_
      rotate_left
      ·show Act.put _ (some 21) _=_
       simp only [Act.put,List.setIfInBounds_toArray,List.set_cons_zero,List.set_cons_succ,i64_w,i32_w]
       rfl
      refine pureS 6 26 HT_ rfl rfl ?_
      exact norm_ impl_newOrder.a0 (hJ1_3_5_7 (.slice F6 t320.length F7,.slice E1 y323.length E2,.slice D9 y326.length E0,A6) _ ⟨hHeld,(rM B1 (fun _ hk=>⟨hk.1.2,hk.2⟩)),(rM B6 (fun _ hk=>⟨hk.2,hk.1⟩)),(rM B7 (fun _ hk=>⟨hk.2,hk.1⟩)),(vB A0),(vB A1),(vB A5),C2.out,C3.out,A8.out,B0.out,B2.out,B3.out,(hV HB)⟩)
    ·skip
     rintro ⟨v321,v327,A6⟩ w18 ⟨hS_,h0_,h1_,h2_,h3_,h4_,h5_,h6_,h7_,h8_,h9_,h10_,h11_⟩
     have n0_:Aside0 (Kd.R (Kd.int .i64) 3 w18 w.heap.size (fun k_=>some k_≠(v327:Value).ownBlock) v321 t320):=⟨h0_⟩
     have n1_:Aside0 (Kd.R (Kd.int .i64) 3 w18 w.heap.size (fun k_=>some k_≠(v321:Value).ownBlock) v327 y326):=⟨h1_⟩
     have n2_:Aside0 (w18.heap[A3]? = some (.cells #[.slice A0_0 l0_0.length c0_0,.slice A0_1 l0_1.length c0_1] 33 (0,0))):=⟨h2_⟩
     have n3_:Aside0 (w18.heap[B8]? = some (.cells #[.slice none 0 0,.slice none 0 0,.slice none 0 0] 57 (0,0))):=⟨h3_⟩
     have n4_:Aside0 (w18.heap[A6]? = some (.cells #[.slice none 0 0,.slice none 0 0,.slice none 0 0] 57 (0,0))):=⟨h4_⟩
     have n5_:Aside0 (w.heap.size≤A6):=⟨h5_⟩
     have n6_:Aside0 (w.heap.size≤A6):=⟨h6_⟩
     have n7_:Aside0 (A3≠A6):=⟨h7_⟩
     have n8_:Aside0 (A6≠A3):=⟨h8_⟩
     have n9_:Aside0 (B8≠A6):=⟨h9_⟩
     have n10_:Aside0 (A6≠B8):=⟨h10_⟩
     have n11_:Aside0 (Below w.heap.size w w18):=⟨h11_⟩
     clear A0
     clear A1
     clear HB
     clear h0_ h1_ h2_ h3_ h4_ h5_ h6_ h7_ h8_ h9_ h10_ h11_
     have B1:=n0_
     have B7:=n1_
     have A0:=n2_
     have A1:=n3_
     have A5:=n4_
     have C2:=n5_
     have C3:=n6_
     have A8:=n7_
     have B0:=n8_
     have B2:=n9_
     have B3:=n10_
     have HB:=n11_
     clear n0_ n1_ n2_ n3_ n4_ n5_ n6_ n7_ n8_ n9_ n10_ n11_
     have hHeld:w18.cell? ⟨A3,0,none⟩=some (.slice A0_0 l0_0.length c0_0)∧w18.cell? ⟨A3,1,none⟩=some (.slice A0_1 l0_1.length c0_1):=hS_
     refine norm_ (a':=?_) ?_ ?_
     rotate_left
     ·simp only [putAll,Act.put,List.setIfInBounds_toArray,List.set_cons_zero,List.set_cons_succ]
      rfl
     refine one_ (i:=3) (N:=some 23) #[true,true,true,true,true,true,false,true,false] rfl rfl (one_of HT_.out impl_newOrder.a5) impl_newOrder.a6 (fun K hK=> ?_)
     refine Kd.R_make_step (Kd.int .i64) _ 3 (by rfl) (N:=23) rfl 55 _ _ rfl (l0_0.length:Int) rfl rfl Try.underlying55 (.int .i64 0) 8 info3 rfl impl_newOrder.a6 (by omega) 0 (ok:=fun _=>True) (okp:=fun _=>True) rfl (fun _ hk=>hk) trivial (dT) (Nat.le_trans (Nat.mul_le_mul_right _ (dT:(l0_0.length:Int).toNat≤35184372088832)) (by omega)) (Below.refl _ _) (Nat.le_refl _) ?_
     intro v324 w19 ho20 hb hg_ hnew_
     clear hg_ hnew_
     (first | rw [← C7.out] at ho20 | (simp only [Int.reduceToNat] at ho20;rw [← C7.out] at ho20))
     have B6:=rL (rN (rN ho20 B1) B7) HB
     replace B1:=rE B1 ho20 hb
     replace B7:=rE B7 ho20 hb
     replace A0:=bB A0 hb
     replace A1:=bB A1 hb
     replace A5:=bB A5 hb
     replace HB:=hS HB hb
     clear hb ho20
     obtain ⟨D9,E0,eo21⟩:=Kd.R_slice B7.out
     (first | subst eo21 | (injection eo21 with f1_ f2_ f3_;have f4_:=f1_.symm;have f5_:=f3_.symm;clear f1_ f2_ f3_;subst f4_;subst f5_))
     obtain ⟨E1,E2,eo22⟩:=Kd.R_slice B6.out
     (first | subst eo22 | (injection eo22 with f1_ f2_ f3_;have f4_:=f1_.symm;have f5_:=f3_.symm;clear f1_ f2_ f3_;subst f4_;subst f5_))
     obtain ⟨F6,F7,eo23⟩:=Kd.R_slice B1.out
     (first | subst eo23 | (injection eo23 with f1_ f2_ f3_;have f4_:=f1_.symm;have f5_:=f3_.symm;clear f1_ f2_ f3_;subst f4_;subst f5_))
     refine hK.out _ _ ⟨cz0 A0,cz1 A0⟩ (fun hHeld=> ?_)
     clear hK K
     refine norm_ (a':=?_) ?_ ?_
     rotate_left
     ·show Act.put _ (some 23) _=_
      simp only [Act.put,List.setIfInBounds_toArray,List.set_cons_zero,List.set_cons_succ,i64_w,i32_w]
      rfl
     refine pureS 6 26 HT_ rfl rfl ?_
     exact norm_ impl_newOrder.a0 (hJ1_3_5_7 (.slice F6 t320.length F7,.slice E1 y323.length E2,.slice D9 y326.length E0,A6) _ ⟨hHeld,(rM B1 (fun _ hk=>⟨hk.2,hk.1⟩)),(rM B6 (fun _ hk=>⟨hk.1.2,hk.2⟩)),(rV B7),(vB A0),(vB A1),(vB A5),C2.out,C3.out,A8.out,B0.out,B2.out,B3.out,(hV HB)⟩)
   ·skip
    rintro ⟨v321,v324,A6⟩ w18 ⟨hS_,h0_,h1_,h2_,h3_,h4_,h5_,h6_,h7_,h8_,h9_,h10_,h11_⟩
    have n0_:Aside0 (Kd.R (Kd.int .i64) 3 w18 w.heap.size (fun k_=>some k_≠(v324:Value).ownBlock) v321 t320):=⟨h0_⟩
    have n1_:Aside0 (Kd.R (Kd.int .i64) 3 w18 w.heap.size (fun k_=>some k_≠(v321:Value).ownBlock) v324 y323):=⟨h1_⟩
    have n2_:Aside0 (w18.heap[A3]? = some (.cells #[.slice A0_0 l0_0.length c0_0,.slice A0_1 l0_1.length c0_1] 33 (0,0))):=⟨h2_⟩
    have n3_:Aside0 (w18.heap[B8]? = some (.cells #[.slice none 0 0,.slice none 0 0,.slice none 0 0] 57 (0,0))):=⟨h3_⟩
    have n4_:Aside0 (w18.heap[A6]? = some (.cells #[.slice none 0 0,.slice none 0 0,.slice none 0 0] 57 (0,0))):=⟨h4_⟩
    have n5_:Aside0 (w.heap.size≤A6):=⟨h5_⟩
    have n6_:Aside0 (w.heap.size≤A6):=⟨h6_⟩
    have n7_:Aside0 (A3≠A6):=⟨h7_⟩
    have n8_:Aside0 (A6≠A3):=⟨h8_⟩
    have n9_:Aside0 (B8≠A6):=⟨h9_⟩
    have n10_:Aside0 (A6≠B8):=⟨h10_⟩
    have n11_:Aside0 (Below w.heap.size w w18):=⟨h11_⟩
    clear A0
    clear A1
    clear HB
    clear h0_ h1_ h2_ h3_ h4_ h5_ h6_ h7_ h8_ h9_ h10_ h11_
    have B1:=n0_
    have B6:=n1_
    have A0:=n2_
    have A1:=n3_
    have A5:=n4_
    have C2:=n5_
    have C3:=n6_
    have A8:=n7_
    have B0:=n8_
    have B2:=n9_
    have B3:=n10_
    have HB:=n11_
    clear n0_ n1_ n2_ n3_ n4_ n5_ n6_ n7_ n8_ n9_ n10_ n11_
    have hHeld:w18.cell? ⟨A3,0,none⟩=some (.slice A0_0 l0_0.length c0_0)∧w18.cell? ⟨A3,1,none⟩=some (.slice A0_1 l0_1.length c0_1):=hS_
    refine norm_ (a':=?_) ?_ ?_
    rotate_left
    ·simp only [putAll,Act.put,List.setIfInBounds_toArray,List.set_cons_zero,List.set_cons_succ]
     rfl
    refine one_ (i:=5) (N:=some 25) #[true,true,true,true,true,true,false,true,false] rfl rfl (one_of HT_.out impl_newOrder.a5) impl_newOrder.a6 (fun K hK=> ?_)
    refine Kd.R_make_step (Kd.int .i64) _ 3 (by rfl) (N:=25) rfl 55 _ _ rfl (l0_0.length:Int) rfl rfl Try.underlying55 (.int .i64 0) 8 info3 rfl impl_newOrder.a6 (by omega) 0 (ok:=fun _=>True) (okp:=fun _=>True) rfl (fun _ hk=>hk) trivial (dT) (Nat.le_trans (Nat.mul_le_mul_right _ (dT:(l0_0.length:Int).toNat≤35184372088832)) (by omega)) (Below.refl _ _) (Nat.le_refl _) ?_
    intro v327 w19 ho20 hb hg_ hnew_
    clear hg_ hnew_
    (first | rw [← C8.out] at ho20 | (simp only [Int.reduceToNat] at ho20;rw [← C8.out] at ho20))
    have B7:=rL (rN (rN ho20 B1) B6) HB
    replace B1:=rE B1 ho20 hb
    replace B6:=rE B6 ho20 hb
    replace A0:=bB A0 hb
    replace A1:=bB A1 hb
    replace A5:=bB A5 hb
    replace HB:=hS HB hb
    clear hb ho20
    obtain ⟨D9,E0,eo21⟩:=Kd.R_slice B7.out
    (first | subst eo21 | (injection eo21 with f1_ f2_ f3_;have f4_:=f1_.symm;have f5_:=f3_.symm;clear f1_ f2_ f3_;subst f4_;subst f5_))
    obtain ⟨E1,E2,eo22⟩:=Kd.R_slice B6.out
    (first | subst eo22 | (injection eo22 with f1_ f2_ f3_;have f4_:=f1_.symm;have f5_:=f3_.symm;clear f1_ f2_ f3_;subst f4_;subst f5_))
    obtain ⟨F6,F7,eo23⟩:=Kd.R_slice B1.out
    (first | subst eo23 | (injection eo23 with f1_ f2_ f3_;have f4_:=f1_.symm;have f5_:=f3_.symm;clear f1_ f2_ f3_;subst f4_;subst f5_))
    refine hK.out _ _ ⟨cz0 A0,cz1 A0⟩ (fun hHeld=> ?_)
    clear hK K
    refine norm_ (a':=?_) ?_ ?_
    rotate_left
    ·show Act.put _ (some 25) _=_
     simp only [Act.put,List.setIfInBounds_toArray,List.set_cons_zero,List.set_cons_succ,i64_w,i32_w]
     rfl
    refine pureS 6 26 HT_ rfl rfl ?_
    exact norm_ impl_newOrder.a0 (hJ1_3_5_7 (.slice F6 t320.length F7,.slice E1 y323.length E2,.slice D9 y326.length E0,A6) _ ⟨hHeld,(rV B1),(rV B6),(rM B7 (fun _ hk=>⟨hk.1.2,hk.2⟩)),(vB A0),(vB A1),(vB A5),C2.out,C3.out,A8.out,B0.out,B2.out,B3.out,(hV HB)⟩)
  ·skip
   rintro ⟨v321,v324,v327⟩ w22 ⟨hS_,h0_,h1_,h2_,h3_,h4_,h5_⟩
   have n0_:Aside0 (Kd.R (Kd.int .i64) 3 w22 w.heap.size (fun k_=>some k_≠(v324:Value).ownBlock∧some k_≠(v327:Value).ownBlock) v321 t320):=⟨h0_⟩
   have n1_:Aside0 (Kd.R (Kd.int .i64) 3 w22 w.heap.size (fun k_=>some k_≠(v321:Value).ownBlock∧some k_≠(v327:Value).ownBlock) v324 y323):=⟨h1_⟩
   have n2_:Aside0 (Kd.R (Kd.int .i64) 3 w22 w.heap.size (fun k_=>some k_≠(v321:Value).ownBlock∧some k_≠(v324:Value).ownBlock) v327 y326):=⟨h2_⟩
   have n3_:Aside0 (w22.heap[A3]? = some (.cells #[.slice A0_0 l0_0.length c0_0,.slice A0_1 l0_1.length c0_1] 33 (0,0))):=⟨h3_⟩
   have n4_:Aside0 (w22.heap[B8]? = some (.cells #[.slice none 0 0,.slice none 0 0,.slice none 0 0] 57 (0,0))):=⟨h4_⟩
   have n5_:Aside0 (Below w.heap.size w w22):=⟨h5_⟩
   clear A0
   clear A1
   clear HB
   clear h0_ h1_ h2_ h3_ h4_ h5_
   have B1:=n0_
   have B6:=n1_
   have B7:=n2_
   have A0:=n3_
   have A1:=n4_
   have HB:=n5_
   clear n0_ n1_ n2_ n3_ n4_ n5_
   have hHeld:w22.cell? ⟨A3,0,none⟩=some (.slice A0_0 l0_0.length c0_0)∧w22.cell? ⟨A3,1,none⟩=some (.slice A0_1 l0_1.length c0_1):=hS_
   obtain ⟨F6,F7,eo23⟩:=Kd.R_slice B7.out
   (first | subst eo23 | (injection eo23 with f1_ f2_ f3_;have f4_:=f1_.symm;have f5_:=f3_.symm;clear f1_ f2_ f3_;subst f4_;subst f5_))
   obtain ⟨I3,I4,eo24⟩:=Kd.R_slice B6.out
   (first | subst eo24 | (injection eo24 with f1_ f2_ f3_;have f4_:=f1_.symm;have f5_:=f3_.symm;clear f1_ f2_ f3_;subst f4_;subst f5_))
   obtain ⟨I5,I6,eo25⟩:=Kd.R_slice B1.out
   (first | subst eo25 | (injection eo25 with f1_ f2_ f3_;have f4_:=f1_.symm;have f5_:=f3_.symm;clear f1_ f2_ f3_;subst f4_;subst f5_))
   refine norm_ (a':=?_) ?_ ?_
   rotate_left
   ·simp only [putAll,Act.put,List.setIfInBounds_toArray,List.set_cons_zero,List.set_cons_succ]
    rfl
   refine one_ (i:=7) (N:=some 5) #[true,true,true,true,true,true,true,true,false] rfl rfl (one_of HT_.out impl_newOrder.a5) impl_newOrder.a6 (fun K hK=> ?_)
   refine box_step ?hg (N:=5) ?hd (cs:=#[.slice none 0 0,.slice none 0 0,.slice none 0 0]) (t:=57) ?hr ?_;(case hd=>rfl);(case hg=>rfl);(case hr=>first | (go_simp;done) | (go_simp;rfl))
   intro A6 hg w26 hbox hb
   replace B1:=rB B1 hb
   replace B6:=rB B6 hb
   replace B7:=rB B7 hb
   have A5:=Aside0.mk (hbox)
   have C2:=hZ HB hg
   have C3:=hZ HB hg
   replace HB:=hS HB hb
   have A8:=nL A0 hg
   have B0:=nG A0 hg
   replace A0:=bB A0 hb
   have B2:=nL A1 hg
   have B3:=nG A1 hg
   replace A1:=bB A1 hb
   clear hb hbox hg
   refine hK.out _ _ ⟨cz0 A0,cz1 A0⟩ (fun hHeld=> ?_)
   clear hK K
   refine norm_ (a':=?_) ?_ ?_
   rotate_left
   ·show Act.put _ (some 5) _=_
    simp only [Act.put,List.setIfInBounds_toArray,List.set_cons_zero,List.set_cons_succ,i64_w,i32_w]
    rfl
   exact norm_ impl_newOrder.a0 (hJ1_3_5_7 (.slice I5 t320.length I6,.slice I3 y323.length I4,.slice F6 y326.length F7,A6) _ ⟨hHeld,(rV B1),(rV B6),(rV B7),(vB A0),(vB A1),(vB A5),C2.out,C3.out,A8.out,B0.out,B2.out,B3.out,(hV HB)⟩)
 rintro ⟨v321,v324,v327,A6⟩ w23 ⟨hS_,h0_,h1_,h2_,h3_,h4_,h5_,h6_,h7_,h8_,h9_,h10_,h11_,h12_⟩
 have n0_:Aside0 (Kd.R (Kd.int .i64) 3 w23 w.heap.size (fun k_=>some k_≠(v324:Value).ownBlock∧some k_≠(v327:Value).ownBlock) v321 t320):=⟨h0_⟩
 have n1_:Aside0 (Kd.R (Kd.int .i64) 3 w23 w.heap.size (fun k_=>some k_≠(v321:Value).ownBlock∧some k_≠(v327:Value).ownBlock) v324 y323):=⟨h1_⟩
 have n2_:Aside0 (Kd.R (Kd.int .i64) 3 w23 w.heap.size (fun k_=>some k_≠(v321:Value).ownBlock∧some k_≠(v324:Value).ownBlock) v327 y326):=⟨h2_⟩
 have n3_:Aside0 (w23.heap[A3]? = some (.cells #[.slice A0_0 l0_0.length c0_0,.slice A0_1 l0_1.length c0_1] 33 (0,0))):=⟨h3_⟩
 have n4_:Aside0 (w23.heap[B8]? = some (.cells #[.slice none 0 0,.slice none 0 0,.slice none 0 0] 57 (0,0))):=⟨h4_⟩
 have n5_:Aside0 (w23.heap[A6]? = some (.cells #[.slice none 0 0,.slice none 0 0,.slice none 0 0] 57 (0,0))):=⟨h5_⟩
 have n6_:Aside0 (w.heap.size≤A6):=⟨h6_⟩
 have n7_:Aside0 (w.heap.size≤A6):=⟨h7_⟩
 have n8_:Aside0 (A3≠A6):=⟨h8_⟩
 have n9_:Aside0 (A6≠A3):=⟨h9_⟩
 have n10_:Aside0 (B8≠A6):=⟨h10_⟩
 have n11_:Aside0 (A6≠B8):=⟨h11_⟩
 have n12_:Aside0 (Below w.heap.size w w23):=⟨h12_⟩
 clear A0
 clear A1
 clear HB
 clear h0_ h1_ h2_ h3_ h4_ h5_ h6_ h7_ h8_ h9_ h10_ h11_ h12_
 have B1:=n0_
 have B6:=n1_
 have B7:=n2_
 have A0:=n3_
 have A1:=n4_
 have A5:=n5_
 have C2:=n6_
 have C3:=n7_
 have A8:=n8_
 have B0:=n9_
 have B2:=n10_
 have B3:=n11_
 have HB:=n12_
 clear n0_ n1_ n2_ n3_ n4_ n5_ n6_ n7_ n8_ n9_ n10_ n11_ n12_
 have hHeld:w23.cell? ⟨A3,0,none⟩=some (.slice A0_0 l0_0.length c0_0)∧w23.cell? ⟨A3,1,none⟩=some (.slice A0_1 l0_1.length c0_1):=hS_
 obtain ⟨I3,I4,eo24⟩:=Kd.R_slice B7.out
 (first | subst eo24 | (injection eo24 with f1_ f2_ f3_;have f4_:=f1_.symm;have f5_:=f3_.symm;clear f1_ f2_ f3_;subst f4_;subst f5_))
 obtain ⟨I5,I6,eo25⟩:=Kd.R_slice B6.out
 (first | subst eo25 | (injection eo25 with f1_ f2_ f3_;have f4_:=f1_.symm;have f5_:=f3_.symm;clear f1_ f2_ f3_;subst f4_;subst f5_))
 obtain ⟨G7,E3,eo26⟩:=Kd.R_slice B1.out
 (first | subst eo26 | (injection eo26 with f1_ f2_ f3_;have f4_:=f1_.symm;have f5_:=f3_.symm;clear f1_ f2_ f3_;subst f4_;subst f5_))
 refine norm_ (a':=?_) ?_ ?_
 rotate_left
 ·simp only [putAll,Act.put,List.setIfInBounds_toArray,List.set_cons_zero,List.set_cons_succ]
  rfl
 refine one_ (i:=8) (N:=none) #[true,true,true,true,true,true,true,true,true] rfl rfl (one_of HT_.out impl_newOrder.a5) impl_newOrder.a6 (fun K hK=> ?_)
 have hs27:w23.cell? ⟨A6,0,none⟩=some (.slice none 0 0):=cz0 A5
 have hfs27:=blk_frozen A5.out 0
 have hns27_0:=A8.out
 have hns27_1:=B2.out
 have hms27_0:=B0.out
 have hms27_1:=B3.out
 have hs28:w23.cell? ⟨A6,1,none⟩=some (.slice none 0 0):=cz1 A5
 have hfs28:=blk_frozen A5.out 1
 have hns28_0:=A8.out
 have hns28_1:=B2.out
 have hms28_0:=B0.out
 have hms28_1:=B3.out
 have hs29:w23.cell? ⟨A6,2,none⟩=some (.slice none 0 0):=cz2 A5
 have hfs29:=blk_frozen A5.out 2
 have hns29_0:=A8.out
 have hns29_1:=B2.out
 have hms29_0:=B0.out
 have hms29_1:=B3.out
 refine skip_ (w1:=?_) (by rfl) rfl ?_ ?_
 rotate_left
 ·go_simp
  rfl
 refine hK.out _ _ ⟨((cell_far (p:=⟨A6,_,none⟩) A8.out _).trans (((cell_far (p:=⟨A6,_,none⟩) A8.out _).trans (((cell_far (p:=⟨A6,_,none⟩) A8.out _).trans (hHeld.1)))))),((cell_far (p:=⟨A6,_,none⟩) A8.out _).trans (((cell_far (p:=⟨A6,_,none⟩) A8.out _).trans (((cell_far (p:=⟨A6,_,none⟩) A8.out _).trans (hHeld.2))))))⟩ (fun hHeld=> ?_)
 clear hK K
 refine done_ (done_of HT_.out impl_newOrder.a5) ?_
 have W5:=B0.out
 have W6:=A8.out
 have W7:=B3.out
 have W8:=B2.out
 obtain ⟨E9,F0,F1,F2,F3,F4⟩:=cf3 A5
 try go_wp2
 go_loopg [30] k (fun kq v30 w'=> ∃ (x28_1:List Int) (x30_1:Int) (x330000_1:List Int) (x330001_1:List Int) (x330002_1:List Int) (u330000:Value) (u330001:Value) (u330002:Value),v30=.int .i64 x30_1∧Aside0 (impl_newOrder.l0 kq (l0_0.length:Int) x28_1 (t320.length:Int) x30_1 l0_0 l0_1 x330000_1 x330001_1 x330002_1=some (r1,r2,r3,r4))∧Aside0 (kq≤k)∧Aside0 (Kd.R (Kd.int .i64) 3 w' w.heap.size (fun k_=>some k_≠(u330001:Value).ownBlock∧some k_≠(u330002:Value).ownBlock) (.slice G7 t320.length E3) x28_1)∧Aside0 (Kd.R (Kd.int .i64) 3 w' w.heap.size (fun k_=>some k_≠(u330001:Value).ownBlock∧some k_≠(u330002:Value).ownBlock) u330000 x330000_1)∧Aside0 (Kd.R (Kd.int .i64) 3 w' w.heap.size (fun k_=>some k_≠((.slice G7 t320.length E3):Value).ownBlock∧some k_≠(u330000:Value).ownBlock∧some k_≠(u330002:Value).ownBlock) u330001 x330001_1)∧Aside0 (Kd.R (Kd.int .i64) 3 w' w.heap.size (fun k_=>some k_≠((.slice G7 t320.length E3):Value).ownBlock∧some k_≠(u330000:Value).ownBlock∧some k_≠(u330001:Value).ownBlock) u330002 x330002_1)∧Aside0 (w'.heap[A3]? = some (.cells #[(.slice A0_0 l0_0.length c0_0),(.slice A0_1 l0_1.length c0_1)] 33 (0,0)))∧Aside0 (w'.heap[B8]? = some (.cells #[(.slice none 0 0),(.slice none 0 0),(.slice none 0 0)] 57 (0,0)))∧Aside0 (w'.heap[A6]? = some (.cells #[u330000,u330001,u330002] 57 (0,0)))∧Aside0 (Below w.heap.size w w'))
 case atStart=>exact ⟨(t320),(0),(t320),(y323),(y326),(.slice G7 t320.length E3),(.slice I5 y323.length I6),(.slice I3 y326.length I4),impl_newOrder.a3,H',⟨Nat.le_refl _⟩,⟨rT B1 A5 (fun _ hk=>⟨hk.1.1,hk.1.2⟩)⟩,⟨rT B1 A5 (fun _ hk=>⟨hk.1.1,hk.1.2⟩)⟩,⟨rT B6 A5 (fun _ hk=>⟨hk.1.1,⟨hk.1.1,hk.1.2⟩⟩)⟩,⟨rT B7 A5 (fun _ hk=>⟨hk.1.1,⟨hk.1.1,hk.1.2⟩⟩)⟩,⟨vB A0⟩,⟨vB A1⟩,⟨vP A5⟩,⟨hV HB⟩⟩
 clear H'
 try clear c3
 try clear c5
 try clear E9
 try clear F1
 try clear F3
 try clear F0
 try clear F2
 try clear F4
 obtain ⟨x28_1,x30_1,x330000_1,x330001_1,x330002_1,u330000,u330001,u330002,rfl,HA,HK1,C6,B9,B5,A7,A0,A1,A5,HB⟩:=hrel
 have A9:=(Kd.R_reads' C6.out).1
 rw [A9] at C6
 (try simp only [A9])
 (try simp only [A9] at A0)
 (try simp only [A9] at A1)
 (try simp only [A9] at A5)
 (try simp only [A9] at B9)
 (try simp only [A9] at B5)
 (try simp only [A9] at A7)
 cases gk with
 | zero=>exact absurd HA.out (by simp [impl_newOrder.l0])
 | succ k1=>
  have H:=HA.out
  clear HA
  simp only [impl_newOrder.l0] at H
  by_cases c33:x30_1 < (t320.length:Int)
  ·rw [if_pos c33] at H
   have F5:=decide_eq_true c33
   (try (have G8:=F5;simp only [A9] at G8))
   clear c33
   by_cases c34:0≤x30_1
   rotate_left
   ·rw [if_neg c34] at H
    exact absurd H (by simp)
   rw [if_pos c34] at H
   have M8:=decide_eq_true c34
   clear c34
   by_cases c35:x30_1 < (x28_1.length:Int)
   rotate_left
   ·rw [if_neg c35] at H
    exact absurd H (by simp)
   rw [if_pos c35] at H
   have K1:=decide_eq_true c35
   (try (have M9:=K1;simp only [A9] at M9))
   clear c35
   replace H:=Option.bind_eq_some_iff.mp H
   obtain ⟨t331,A360,H⟩:=H
   replace H:(impl_newOrder.l1 k1 (l0_0.length:Int) x30_1 x28_1 (t320.length:Int) x30_1 t331 (t331.length:Int) 0 l0_0 l0_1 x330000_1 x330001_1 x330002_1)=some (r1,r2,r3,r4):=H
   have A36:=Aside0.mk A360
   clear A360
   have H':=Aside0.mk H
   clear H
   have G9:0≤(x30_1:Int):=dT
   have H0:x30_1 < (x28_1.length:Int):=dT
   obtain ⟨E6,e330,K3⟩:=Kd.at_int (Kd.R_reads' C6.out).2.2 x30_1 G9 H0
   cases e330
   replace G9:=eq_true G9
   replace H0:=eq_true H0
   go_wp2_with (first | (refine goK 57 (some 36) rfl Try.func57 #[.int .i64 (rd x28_1 x30_1)] ?_;(with_reducible refine (impl_ListOf.calls k1 (rd x28_1 x30_1) t331 _ A36.out).mono ?_);rintro e w37 ⟨v332,rfl,ho0,hb⟩;refine ⟨_,rfl,?_⟩;have K2:=rL (rN (rN (rN (rN ho0 C6) B9) B5) A7) HB;replace C6:=rE C6 ho0 hb;replace B9:=rE B9 ho0 hb;replace B5:=rE B5 ho0 hb;replace A7:=rE A7 ho0 hb;replace A0:=bB A0 hb;replace A1:=bB A1 hb;replace A5:=bB A5 hb;replace HB:=hS HB hb;(try clear hb);(try clear hb2);(try clear hk);(try clear hi);(try clear ho0);obtain ⟨E7,E8,eo38⟩:=Kd.R_slice K2.out;subst eo38))
   go_loopg [38] k1 (fun kq v38 w'=> ∃ (x28_2:List Int) (x36_2:List Int) (x38_2:Int) (x330000_2:List Int) (x330001_2:List Int) (x330002_2:List Int) (u330000:Value) (u330001:Value) (u330002:Value),v38=.int .i64 x38_2∧Aside0 (impl_newOrder.l1 kq (l0_0.length:Int) x30_1 x28_2 (t320.length:Int) x30_1 x36_2 (t331.length:Int) x38_2 l0_0 l0_1 x330000_2 x330001_2 x330002_2=some (r1,r2,r3,r4))∧Aside0 (kq≤k1)∧Aside0 (Kd.R (Kd.int .i64) 3 w' w.heap.size (fun k_=>some k_≠((.slice E7 t331.length E8):Value).ownBlock∧some k_≠(u330001:Value).ownBlock∧some k_≠(u330002:Value).ownBlock) (.slice (some E6) x28_1.length E3) x28_2)∧Aside0 (Kd.R (Kd.int .i64) 3 w' w.heap.size (fun k_=>some k_≠((.slice (some E6) x28_1.length E3):Value).ownBlock∧some k_≠(u330000:Value).ownBlock∧some k_≠(u330001:Value).ownBlock∧some k_≠(u330002:Value).ownBlock) (.slice E7 t331.length E8) x36_2)∧Aside0 (Kd.R (Kd.int .i64) 3 w' w.heap.size (fun k_=>some k_≠((.slice E7 t331.length E8):Value).ownBlock∧some k_≠(u330001:Value).ownBlock∧some k_≠(u330002:Value).ownBlock) u330000 x330000_2)∧Aside0 (Kd.R (Kd.int .i64) 3 w' w.heap.size (fun k_=>some k_≠((.slice (some E6) x28_1.length E3):Value).ownBlock∧some k_≠((.slice E7 t331.length E8):Value).ownBlock∧some k_≠(u330000:Value).ownBlock∧some k_≠(u330002:Value).ownBlock) u330001 x330001_2)∧Aside0 (Kd.R (Kd.int .i64) 3 w' w.heap.size (fun k_=>some k_≠((.slice (some E6) x28_1.length E3):Value).ownBlock∧some k_≠((.slice E7 t331.length E8):Value).ownBlock∧some k_≠(u330000:Value).ownBlock∧some k_≠(u330001:Value).ownBlock) u330002 x330002_2)∧Aside0 (w'.heap[A3]? = some (.cells #[(.slice A0_0 l0_0.length c0_0),(.slice A0_1 l0_1.length c0_1)] 33 (0,0)))∧Aside0 (w'.heap[B8]? = some (.cells #[(.slice none 0 0),(.slice none 0 0),(.slice none 0 0)] 57 (0,0)))∧Aside0 (w'.heap[A6]? = some (.cells #[u330000,u330001,u330002] 57 (0,0)))∧Aside0 (Below w.heap.size w w'))
   case atStart=>exact ⟨(x28_1),(t331),(0),(x330000_1),(x330001_1),(x330002_1),(u330000),(u330001),(u330002),impl_newOrder.a3,H',⟨Nat.le_refl _⟩,⟨by (try simp only [A9]);exact rM C6 (fun _ hk=>⟨hk.2,⟨hk.1.1,hk.1.2⟩⟩)⟩,⟨by (try simp only [A9]);exact rM K2 (fun _ hk=>⟨hk.1.1.1.2,⟨hk.1.1.2,⟨hk.1.2,hk.2⟩⟩⟩)⟩,⟨by (try simp only [A9]);exact rM B9 (fun _ hk=>⟨hk.2,⟨hk.1.1,hk.1.2⟩⟩)⟩,⟨by (try simp only [A9]);exact rM B5 (fun _ hk=>⟨hk.1.1,⟨hk.2,⟨hk.1.2.1,hk.1.2.2⟩⟩⟩)⟩,⟨by (try simp only [A9]);exact rM A7 (fun _ hk=>⟨hk.1.1,⟨hk.2,⟨hk.1.2.1,hk.1.2.2⟩⟩⟩)⟩,⟨by (try simp only [A9]);exact vB A0⟩,⟨by (try simp only [A9]);exact vB A1⟩,⟨by (try simp only [A9]);exact vB A5⟩,⟨hV HB⟩⟩
   clear H'
   try clear c3
   try clear c5
   try clear c33
   try clear F5
   try clear c34
   try clear M8
   try clear c35
   try clear K1
   try clear E9
   try clear F1
   try clear F3
   try clear F0
   try clear F2
   try clear F4
   try clear K3
   try clear G9
   try clear H0
   obtain ⟨x28_2,x36_2,x38_2,x330000_2,x330001_2,x330002_2,u330000,u330001,u330002,rfl,HA,HK2,C6,D6,B9,B5,A7,A0,A1,A5,HB⟩:=hrel
   have C0:=(Kd.R_reads' C6.out).1
   rw [C0] at C6
   (try simp only [C0])
   (try simp only [C0] at A0)
   (try simp only [C0] at A1)
   (try simp only [C0] at A5)
   (try simp only [C0] at D6)
   (try simp only [C0] at B9)
   (try simp only [C0] at B5)
   (try simp only [C0] at A7)
   have C1:=(Kd.R_reads' D6.out).1
   rw [C1] at D6
   (try simp only [C1])
   (try simp only [C1] at A0)
   (try simp only [C1] at A1)
   (try simp only [C1] at A5)
   (try simp only [C1] at C6)
   (try simp only [C1] at B9)
   (try simp only [C1] at B5)
   (try simp only [C1] at A7)
   cases gk with
   | zero=>exact absurd HA.out (by simp [impl_newOrder.l1])
   | succ k2=>
    have H:=HA.out
    clear HA
    simp only [impl_newOrder.l1] at H
    by_cases c39:x38_2 < (t331.length:Int)
    ·rw [if_pos c39] at H
     have H1:=decide_eq_true c39
     (try (have H2:=H1;simp only [A9,C0,C1] at H2))
     clear c39
     by_cases c40:0≤x38_2
     rotate_left
     ·rw [if_neg c40] at H
      exact absurd H (by simp)
     rw [if_pos c40] at H
     have W9:=decide_eq_true c40
     clear c40
     by_cases c41:x38_2 < (x36_2.length:Int)
     rotate_left
     ·rw [if_neg c41] at H
      exact absurd H (by simp)
     rw [if_pos c41] at H
     have N0:=decide_eq_true c41
     (try (have N1:=N0;simp only [A9,C0,C1] at N1))
     clear c41
     by_cases c42:0≤(rd x36_2 x38_2)
     rotate_left
     ·rw [if_neg c42] at H
      exact absurd H (by simp)
     rw [if_pos c42] at H
     have X0:=decide_eq_true c42
     clear c42
     by_cases c43:(rd x36_2 x38_2) < (x330001_2.length:Int)
     rotate_left
     ·rw [if_neg c43] at H
      exact absurd H (by simp)
     rw [if_pos c43] at H
     have N2:=decide_eq_true c43
     (try (have N3:=N2;simp only [A9,C0,C1] at N3))
     clear c43
     by_cases c44:0≤x30_1
     rotate_left
     ·rw [if_neg c44] at H
      exact absurd H (by simp)
     rw [if_pos c44] at H
     have X1:=eq_true c44
     have X2:=decide_eq_true c44
     clear c44
     obtain ⟨ji45,hji45⟩:∃ j_:Int,(shl .i64 1 x30_1)=j_:=⟨_,rfl⟩
     replace H:(impl_newOrder.l1 k2 (l0_0.length:Int) x30_1 x28_2 (t320.length:Int) x30_1 x36_2 (t331.length:Int) (wrap64 (x38_2 + 1)) l0_0 l0_1 x330000_2 (x330001_2.set ((rd x36_2 x38_2):Int).toNat (Go.bits .or .i64 (rd x330001_2 (rd x36_2 x38_2)) (ji45))) x330002_2)=some (r1,r2,r3,r4):=by first | (rw [hji45] at H;exact H) | (simp only [hji45] at H ⊢;exact H)
     have hji45_:(IntKind.i64.wrap (1 * 2 ^ min x30_1.toNat 64))=ji45:=hji45
     have hji45z:x30_1≤64→(IntKind.i64.wrap (1 * 2 ^ x30_1.toNat))=ji45:=shl_small hji45
     have hji45u:(IntKind.i64.wrap (2 ^ min x30_1.toNat 64))=ji45:=by have h_:=hji45_;rw [Int.one_mul] at h_;exact h_
     have hji45v:x30_1≤64→(IntKind.i64.wrap (2 ^ x30_1.toNat))=ji45:=fun hle_=>by have h_:=hji45z hle_;rw [Int.one_mul] at h_;exact h_
     have hji45y:(wrap64 (1 * 2 ^ min x30_1.toNat 64))=ji45:=(i64_w _).symm.trans hji45_
     have hji45x:x30_1≤64→(wrap64 (1 * 2 ^ x30_1.toNat))=ji45:=fun h_=>(i64_w _).symm.trans (hji45z h_)
     obtain ⟨y336,hy336⟩:∃ y_:List Int,y_=(x330001_2.set ((rd x36_2 x38_2):Int).toNat (Go.bits .or .i64 (rd x330001_2 (rd x36_2 x38_2)) (ji45))):=⟨_,rfl⟩
     replace H:(impl_newOrder.l1 k2 (l0_0.length:Int) x30_1 x28_2 (t320.length:Int) x30_1 x36_2 (t331.length:Int) (wrap64 (x38_2 + 1)) l0_0 l0_1 x330000_2 y336 x330002_2)=some (r1,r2,r3,r4):=by first | (rw [hy336];with_reducible exact H) | (have H2_:=(Option.bind_some _ _).symm.trans H;rw [hy336];with_reducible exact H2_) | (have H2_:=(Option.bind_some _ _).symm.trans H;with_reducible exact H2_) | with_reducible exact H | (rw [hy336];exact H) | exact H
     have N4:=Aside0.mk hy336
     clear hy336
     have H':=Aside0.mk H
     clear H
     have I7:0≤(x38_2:Int):=dT
     have I8:x38_2 < (x36_2.length:Int):=dT
     obtain ⟨X3,e334,R3⟩:=Kd.at_int (Kd.R_reads' D6.out).2.2 x38_2 I7 I8
     cases e334
     replace I7:=eq_true I7
     replace I8:=eq_true I8
     try go_wp2
     replace C6:=Aside0.mk (Kd.R_drew C6.out)
     replace D6:=Aside0.mk (Kd.R_drew D6.out)
     replace B9:=Aside0.mk (Kd.R_drew B9.out)
     replace B5:=Aside0.mk (Kd.R_drew B5.out)
     replace A7:=Aside0.mk (Kd.R_drew A7.out)
     replace A0:=Aside0.mk (blk_drew A0.out)
     replace A1:=Aside0.mk (blk_drew A1.out)
     replace A5:=Aside0.mk (blk_drew A5.out)
     replace HB:=Aside0.mk (below_drew1 HB.out)
     obtain ⟨b8,K8,eo48⟩:=Kd.R_slice B5.out
     (first | subst eo48 | (injection eo48 with f1_ f2_ f3_;have f4_:=f1_.symm;have f5_:=f3_.symm;clear f1_ f2_ f3_;subst f4_;subst f5_))
     have I9:0≤((rd x36_2 x38_2):Int):=dT
     have J0:(rd x36_2 x38_2) < (x330001_2.length:Int):=dT
     obtain ⟨X4,e335,F8⟩:=Kd.at_int (Kd.R_reads' B5.out).2.2 (rd x36_2 x38_2) I9 J0
     cases e335
     replace I9:=eq_true I9
     replace J0:=eq_true J0
     have K9:0≤((rd x36_2 x38_2):Int):=dT
     have L0:((rd x36_2 x38_2):Int) < ((x330001_2.length:Int):Int):=dT
     obtain ⟨E4,b9,eo46,L1,gl46,cl46,HG46⟩:=Kd.R_form B5.out (by omega)
     (first | cases eo46 | (injection eo46 with ea_ en_ ec_;(first | subst ea_ | (injection ea_ with ea_;subst ea_));subst ec_;clear en_))
     have c0:=Aside0.mk L1
     have P7:=Aside0.mk HG46
     clear L1 gl46 HG46
     (first | simp only [add_plain] at F8 | skip)
     obtain ⟨L2,L3⟩:=Kd.R_celln 0 B5.out ((rd x36_2 x38_2):Int) K9 L0
     replace K9:=eq_true K9
     replace L0:=eq_true L0
     have J1:=Kd.R_putn B5.out ((rd x36_2 x38_2):Int) (Go.bits .or .i64 (rd x330001_2 (rd x36_2 x38_2)) (ji45))
     rw [← N4.out] at J1
     have L4:=Aside0.mk J1
     clear J1
     refine start_ (n:=13) (S:=fun w'=>w'.cell? ⟨A6,0,none⟩=some (u330000)∧w'.cell? ⟨A6,1,none⟩=some (.slice (some ⟨E4,0,none⟩) x330001_2.length K8)∧w'.cell? ⟨A6,2,none⟩=some (u330002)∧w'.cell? ⟨E4,((rd x36_2 x38_2)).toNat,none⟩=some (.int .i64 (rd x330001_2 (rd x36_2 x38_2)))) (ds:=[12]) #[false,false,false,false,false,false,false,false,false,false,false,false,false] impl_newOrder.a5 rfl rfl ⟨cz0 A5,cz1 A5,cz2 A5,F8⟩ (fun hHeld=> ?_);refine with_tabW impl_newOrder.tab11 impl_newOrder.bits11 (fun HT_ HW_=> ?_)
     generalize wr.drew=w47 at C6 D6 B9 B5 A7 A0 A1 A5 HB P7 L4 L3 F8 L2 hHeld ⊢
     refine pureS 0 42 HT_ rfl rfl ?_
     refine pureS 2 44 HT_ rfl rfl ?_
     refine pureS 3 45 HT_ rfl rfl ?_
     refine pureS 5 47 HT_ rfl rfl ?_
     refine pureS 8 50 HT_ rfl rfl ?_
     refine pureS 9 51 HT_ rfl rfl ?_
     refine takeS 1 43 HT_ HW_ rfl rfl hHeld ?_ (by rintro w' ⟨s0,s1,s2,s3⟩;go_simp;with_reducible rfl)
     refine takeS 4 46 HT_ HW_ rfl rfl hHeld ?_ (by rintro w' ⟨s0,s1,s2,s3⟩;go_simp;with_reducible rfl)
     refine pureS 6 48 HT_ rfl rfl ?_
     refine takeS 7 49 HT_ HW_ rfl rfl hHeld ?_ (by rintro w' ⟨s0,s1,s2,s3⟩;go_simp;with_reducible rfl)
     refine pureS 10 52 HT_ rfl rfl ?_
     refine pureS 11 53 HT_ rfl rfl ?_
     refine last_ (i:=12) (N:=none) #[true,true,true,true,true,true,true,true,true,true,true,true,true] rfl rfl (one_of HT_.out impl_newOrder.a5) impl_newOrder.a6 (fun K hK=> ?_)
     refine skip_ (w1:=?_) (by rfl) rfl ?_ ?_
     rotate_left
     ·go_simp
      rfl
     refine hK.out _ _ ?_
     clear hK K
     refine done_ (done_of HT_.out impl_newOrder.a5) ?_
     try go_wp2
     (try simp only [← C0,← C1])
     go_roundg k2
     case measure=>have:=HK1.out;have:=HK2.out;omega
     case rel=>exact ⟨(x28_2),(x36_2),(wrap64 (x38_2 + 1)),(x330000_2),(y336),(x330002_2),(u330000),(.slice (some ⟨E4,0,none⟩) x330001_2.length K8),(u330002),impl_newOrder.a3,H',⟨by have:=HK1.out;have:=HK2.out;omega⟩,⟨by (try simp only [A9]);(try simp only [C0]);(try simp only [C1]);(with_reducible repeat (first | apply Kd.R_alloc | apply Kd.R_drewN | apply Kd.R_drew));exact Kd.R_mono (Kd.R_far (p:=⟨E4,((rd x36_2 x38_2):Int).toNat,none⟩) (Kd.R_mono C6.out (fun k_ hk=>(⟨hk,fun e_=>hk.2.1 (by rw [e_];rfl)⟩:_∧k_≠E4))) (fun _ hk=>hk.2) (.int .i64 (Go.bits .or .i64 (rd x330001_2 (rd x36_2 x38_2)) (ji45)))) (fun _ hk=>⟨hk.1.1,⟨hk.1.2.1,hk.1.2.2⟩⟩)⟩,⟨by (try simp only [A9]);(try simp only [C0]);(try simp only [C1]);(with_reducible repeat (first | apply Kd.R_alloc | apply Kd.R_drewN | apply Kd.R_drew));exact Kd.R_mono (Kd.R_far (p:=⟨E4,((rd x36_2 x38_2):Int).toNat,none⟩) (Kd.R_mono D6.out (fun k_ hk=>(⟨hk,fun e_=>hk.2.2.1 (by rw [e_];rfl)⟩:_∧k_≠E4))) (fun _ hk=>hk.2) (.int .i64 (Go.bits .or .i64 (rd x330001_2 (rd x36_2 x38_2)) (ji45)))) (fun _ hk=>⟨hk.1.1,⟨hk.1.2.1,⟨hk.1.2.2.1,hk.1.2.2.2⟩⟩⟩)⟩,⟨by (try simp only [A9]);(try simp only [C0]);(try simp only [C1]);(with_reducible repeat (first | apply Kd.R_alloc | apply Kd.R_drewN | apply Kd.R_drew));exact Kd.R_mono (Kd.R_far (p:=⟨E4,((rd x36_2 x38_2):Int).toNat,none⟩) (Kd.R_mono B9.out (fun k_ hk=>(⟨hk,fun e_=>hk.2.1 (by rw [e_];rfl)⟩:_∧k_≠E4))) (fun _ hk=>hk.2) (.int .i64 (Go.bits .or .i64 (rd x330001_2 (rd x36_2 x38_2)) (ji45)))) (fun _ hk=>⟨hk.1.1,⟨hk.1.2.1,hk.1.2.2⟩⟩)⟩,⟨by (try simp only [A9]);(try simp only [C0]);(try simp only [C1]);(with_reducible repeat (first | apply Kd.R_alloc | apply Kd.R_drewN | apply Kd.R_drew));exact L4.out⟩,⟨by (try simp only [A9]);(try simp only [C0]);(try simp only [C1]);(with_reducible repeat (first | apply Kd.R_alloc | apply Kd.R_drewN | apply Kd.R_drew));exact Kd.R_mono (Kd.R_far (p:=⟨E4,((rd x36_2 x38_2):Int).toNat,none⟩) (Kd.R_mono A7.out (fun k_ hk=>(⟨hk,fun e_=>hk.2.2.2 (by rw [e_];rfl)⟩:_∧k_≠E4))) (fun _ hk=>hk.2) (.int .i64 (Go.bits .or .i64 (rd x330001_2 (rd x36_2 x38_2)) (ji45)))) (fun _ hk=>⟨hk.1.1,⟨hk.1.2.1,⟨hk.1.2.2.1,hk.1.2.2.2⟩⟩⟩)⟩,⟨by (try simp only [A9]);(try simp only [C0]);(try simp only [C1]);(with_reducible repeat (first | refine blk_drewN ?_ _ | refine blk_drew ?_ | refine blk_alloc ?_ _));refine blk_far ?_ (by have h_:=Kd.R_ne B5.out A0.out impl_newOrder.a6;intro e_;exact h_ (by rw [e_];rfl)) _;(with_reducible repeat (first | refine blk_drewN ?_ _ | refine blk_drew ?_ | refine blk_alloc ?_ _));exact A0.out⟩,⟨by (try simp only [A9]);(try simp only [C0]);(try simp only [C1]);(with_reducible repeat (first | refine blk_drewN ?_ _ | refine blk_drew ?_ | refine blk_alloc ?_ _));refine blk_far ?_ (by have h_:=Kd.R_ne B5.out A1.out impl_newOrder.a6;intro e_;exact h_ (by rw [e_];rfl)) _;(with_reducible repeat (first | refine blk_drewN ?_ _ | refine blk_drew ?_ | refine blk_alloc ?_ _));exact A1.out⟩,⟨by (try simp only [A9]);(try simp only [C0]);(try simp only [C1]);(with_reducible repeat (first | refine blk_drewN ?_ _ | refine blk_drew ?_ | refine blk_alloc ?_ _));refine blk_far ?_ (by have h_:=Kd.R_ne B5.out A5.out impl_newOrder.a6;intro e_;exact h_ (by rw [e_];rfl)) _;(with_reducible repeat (first | refine blk_drewN ?_ _ | refine blk_drew ?_ | refine blk_alloc ?_ _));exact A5.out⟩,⟨hV HB⟩⟩
    ·rw [if_neg c39] at H
     have H1:=decide_eq_false c39
     (try (have H2:=H1;simp only [A9,C0,C1] at H2))
     clear c39
     by_cases c50:0≤x30_1
     rotate_left
     ·rw [if_neg c50] at H
      exact absurd H (by simp)
     rw [if_pos c50] at H
     have X5:=decide_eq_true c50
     clear c50
     by_cases c51:x30_1 < (x330002_2.length:Int)
     rotate_left
     ·rw [if_neg c51] at H
      exact absurd H (by simp)
     rw [if_pos c51] at H
     have N5:=decide_eq_true c51
     (try (have N6:=N5;simp only [A9,C0,C1] at N6))
     clear c51
     obtain ⟨y337,hy337⟩:∃ y_:List Int,y_=(x330002_2.set (x30_1:Int).toNat x30_1):=⟨_,rfl⟩
     replace H:(impl_newOrder.l0 k2 (l0_0.length:Int) x28_2 (t320.length:Int) (wrap64 (x30_1 + 1)) l0_0 l0_1 x330000_2 x330001_2 y337)=some (r1,r2,r3,r4):=by first | (rw [hy337];with_reducible exact H) | (have H2_:=(Option.bind_some _ _).symm.trans H;rw [hy337];with_reducible exact H2_) | (have H2_:=(Option.bind_some _ _).symm.trans H;with_reducible exact H2_) | with_reducible exact H | (rw [hy337];exact H) | exact H
     have N7:=Aside0.mk hy337
     clear hy337
     have H':=Aside0.mk H
     clear H
     have X6:=B0.out
     have X7:=A8.out
     have X8:=B3.out
     have X9:=B2.out
     obtain ⟨R4,R5,R6,R7,R8,R9⟩:=cf3 A5
     have L5:0≤(x30_1:Int):=dT
     have L6:(x30_1:Int) < ((x330002_2.length:Int):Int):=dT
     obtain ⟨D2,E5,eo52,L7,gl52,cl52,HG52⟩:=Kd.R_form A7.out (by omega)
     (first | cases eo52 | (injection eo52 with ea_ en_ ec_;(first | subst ea_ | (injection ea_ with ea_;subst ea_));subst ec_;clear en_))
     have P8:=Aside0.mk L7
     have c1:=Aside0.mk HG52
     clear L7 gl52 HG52
     obtain ⟨V9,W0⟩:=Kd.R_celln 0 A7.out (x30_1:Int) L5 L6
     replace L5:=eq_true L5
     replace L6:=eq_true L6
     have J2:=Kd.R_putg A7.out (x30_1:Int) x30_1
     go_wp2_with (first | ((with_reducible refine gate_store (t:=3) (p:=59) rfl ?_);refine store_event (t:=3) (p:=59) (v:=?vo_w57) (w1:=(wr.setCell ⟨D2,(x30_1:Int).toNat,none⟩ (.int .i64 x30_1))) ?hg ?ho ?hn ?hr ?_;(case ho=>rfl);(case hg=>rfl);(case hn=>rfl);(case hr=>first | (go_simp;done) | (go_simp;rfl));intro w57 hw;have hg:wr.grownBy w57 (some D2):=(by rw [hw];exact J2.2);have hp_:Kd.R (Kd.int .i64) 3 w57 w.heap.size (fun k_=>some k_≠(.slice (some E6) x28_2.length E3:Value).ownBlock∧some k_≠(.slice E7 x36_2.length E8:Value).ownBlock∧some k_≠(u330000:Value).ownBlock∧some k_≠(u330001:Value).ownBlock) (.slice (some ⟨D2,0,none⟩) x330002_2.length E5) y337:=(by rw [hw,N7.out];exact J2.1);clear J2;replace C6:=Aside0.mk (Kd.R_after (v:=(.slice (some ⟨D2,0,none⟩) x330002_2.length E5)) (v1:=(.slice (some ⟨D2,0,none⟩) x330002_2.length E5)) (ok:=(fun k_=>some k_≠(.slice E7 x36_2.length E8:Value).ownBlock∧some k_≠(u330001:Value).ownBlock)) (rM C6 (fun _ hk=>⟨⟨hk.1,hk.2.1⟩,hk.2.2⟩)) hg (.inl rfl));replace D6:=Aside0.mk (Kd.R_after (v:=(.slice (some ⟨D2,0,none⟩) x330002_2.length E5)) (v1:=(.slice (some ⟨D2,0,none⟩) x330002_2.length E5)) (ok:=(fun k_=>some k_≠(.slice (some E6) x28_2.length E3:Value).ownBlock∧some k_≠(u330000:Value).ownBlock∧some k_≠(u330001:Value).ownBlock)) (rM D6 (fun _ hk=>⟨⟨hk.1,⟨hk.2.1,hk.2.2.1⟩⟩,hk.2.2.2⟩)) hg (.inl rfl));replace B9:=Aside0.mk (Kd.R_after (v:=(.slice (some ⟨D2,0,none⟩) x330002_2.length E5)) (v1:=(.slice (some ⟨D2,0,none⟩) x330002_2.length E5)) (ok:=(fun k_=>some k_≠(.slice E7 x36_2.length E8:Value).ownBlock∧some k_≠(u330001:Value).ownBlock)) (rM B9 (fun _ hk=>⟨⟨hk.1,hk.2.1⟩,hk.2.2⟩)) hg (.inl rfl));replace B5:=Aside0.mk (Kd.R_after (v:=(.slice (some ⟨D2,0,none⟩) x330002_2.length E5)) (v1:=(.slice (some ⟨D2,0,none⟩) x330002_2.length E5)) (ok:=(fun k_=>some k_≠(.slice (some E6) x28_2.length E3:Value).ownBlock∧some k_≠(.slice E7 x36_2.length E8:Value).ownBlock∧some k_≠(u330000:Value).ownBlock)) (rM B5 (fun _ hk=>⟨⟨hk.1,⟨hk.2.1,hk.2.2.1⟩⟩,hk.2.2.2⟩)) hg (.inl rfl));replace A0:=Aside0.mk (blk_grown (g:=A3) (o:=.cells #[.slice A0_0 l0_0.length c0_0,.slice A0_1 l0_1.length c0_1] 33 (0,0)) (vB A0) hg (Kd.R_ne A7.out A0.out impl_newOrder.a6));replace A1:=Aside0.mk (blk_grown (g:=B8) (o:=.cells #[.slice none 0 0,.slice none 0 0,.slice none 0 0] 57 (0,0)) (vB A1) hg (Kd.R_ne A7.out A1.out impl_newOrder.a6));replace A5:=Aside0.mk (blk_grown (g:=A6) (o:=.cells #[u330000,u330001,.slice (some ⟨D2,0,none⟩) x330002_2.length E5] 57 (0,0)) (vB A5) hg (Kd.R_ne A7.out A5.out impl_newOrder.a6));replace A7:=Aside0.mk (hp_);replace HB:=Aside0.mk ((by rw [hw];exact below_set (HB.out) P8.out:Below w.heap.size w w57));clear hg hw hp_))
     (try simp only [← A9,← C0,← C1])
     go_roundg k2
     case measure=>have:=HK1.out;have:=HK2.out;omega
     case rel=>exact ⟨(x28_2),(wrap64 (x30_1 + 1)),(x330000_2),(x330001_2),(y337),(u330000),(u330001),(.slice (some ⟨D2,0,none⟩) x330002_2.length E5),impl_newOrder.a3,H',⟨by have:=HK1.out;have:=HK2.out;omega⟩,⟨by (try simp only [A9]);(try simp only [C0]);(try simp only [C1]);exact rM C6 (fun _ hk=>⟨hk.1.2,hk.2⟩)⟩,⟨by (try simp only [A9]);(try simp only [C0]);(try simp only [C1]);exact rM B9 (fun _ hk=>⟨hk.1.2,hk.2⟩)⟩,⟨by (try simp only [A9]);(try simp only [C0]);(try simp only [C1]);exact rM B5 (fun _ hk=>⟨hk.1.1,⟨hk.1.2.2,hk.2⟩⟩)⟩,⟨by (try simp only [A9]);(try simp only [C0]);(try simp only [C1]);exact rM A7 (fun _ hk=>⟨hk.1,⟨hk.2.2.1,hk.2.2.2⟩⟩)⟩,⟨by (try simp only [A9]);(try simp only [C0]);(try simp only [C1]);exact vB A0⟩,⟨by (try simp only [A9]);(try simp only [C0]);(try simp only [C1]);exact vB A1⟩,⟨by (try simp only [A9]);(try simp only [C0]);(try simp only [C1]);exact vB A5⟩,⟨hV HB⟩⟩
  ·rw [if_neg c33] at H
   have F5:=decide_eq_false c33
   (try (have G8:=F5;simp only [A9] at G8))
   clear c33
   have H':=Aside0.mk H
   clear H
   go_wp2
   go_loopg [62] k1 (fun kq v62 w'=> ∃ (x62_2:Int) (x330000_2:List Int) (x330001_2:List Int) (x330002_2:List Int) (u330000:Value) (u330001:Value) (u330002:Value),v62=.int .i64 x62_2∧Aside0 (impl_newOrder.l2 kq (l0_0.length:Int) x62_2 l0_0 l0_1 x330000_2 x330001_2 x330002_2=some (r1,r2,r3,r4))∧Aside0 (kq≤k1)∧Aside0 (Kd.R (Kd.int .i64) 3 w' w.heap.size (fun k_=>some k_≠(u330001:Value).ownBlock∧some k_≠(u330002:Value).ownBlock) u330000 x330000_2)∧Aside0 (Kd.R (Kd.int .i64) 3 w' w.heap.size (fun k_=>some k_≠(u330000:Value).ownBlock∧some k_≠(u330002:Value).ownBlock) u330001 x330001_2)∧Aside0 (Kd.R (Kd.int .i64) 3 w' w.heap.size (fun k_=>some k_≠(u330000:Value).ownBlock∧some k_≠(u330001:Value).ownBlock) u330002 x330002_2)∧Aside0 (w'.heap[A3]? = some (.cells #[(.slice A0_0 l0_0.length c0_0),(.slice A0_1 l0_1.length c0_1)] 33 (0,0)))∧Aside0 (w'.heap[B8]? = some (.cells #[(.slice none 0 0),(.slice none 0 0),(.slice none 0 0)] 57 (0,0)))∧Aside0 (w'.heap[A6]? = some (.cells #[u330000,u330001,u330002] 57 (0,0)))∧Aside0 (Below w.heap.size w w'))
   case atStart=>exact ⟨(0),(x330000_1),(x330001_1),(x330002_1),(u330000),(u330001),(u330002),impl_newOrder.a3,H',⟨Nat.le_refl _⟩,⟨by (try simp only [A9]);exact rV B9⟩,⟨by (try simp only [A9]);exact rM B5 (fun _ hk=>⟨hk.2.1,hk.2.2⟩)⟩,⟨by (try simp only [A9]);exact rM A7 (fun _ hk=>⟨hk.2.1,hk.2.2⟩)⟩,⟨by (try simp only [A9]);exact vB A0⟩,⟨by (try simp only [A9]);exact vB A1⟩,⟨by (try simp only [A9]);exact vB A5⟩,⟨hV HB⟩⟩
   clear H'
   try clear c3
   try clear c5
   try clear c33
   try clear F5
   try clear E9
   try clear F1
   try clear F3
   try clear F0
   try clear F2
   try clear F4
   obtain ⟨x62_2,x330000_2,x330001_2,x330002_2,u330000,u330001,u330002,rfl,HA,HK2,B9,B5,A7,A0,A1,A5,HB⟩:=hrel
   cases gk with
   | zero=>exact absurd HA.out (by simp [impl_newOrder.l2])
   | succ k2=>
    have H:=HA.out
    clear HA
    simp only [impl_newOrder.l2] at H
    by_cases c58:x62_2 < (l0_0.length:Int)
    ·rw [if_pos c58] at H
     have G1:=decide_eq_true c58
     (try (have H3:=G1;simp only [A9] at H3))
     clear c58
     have H':=Aside0.mk H
     clear H
     have Y0:=D7.out
     have Y1:=D8.out
     have Y2:=A8.out
     have Y3:=B0.out
     obtain ⟨K4,K5,K6,K7⟩:=cf2 A0
     go_wp2
     go_loopg [67] k2 (fun kq v67 w'=> ∃ (x67_3:Int) (x330000_3:List Int) (x330001_3:List Int) (x330002_3:List Int) (u330000:Value) (u330001:Value) (u330002:Value),v67=.int .i64 x67_3∧Aside0 (impl_newOrder.l3 kq (l0_0.length:Int) x62_2 l0_1 (l0_1.length:Int) x67_3 l0_0 l0_1 x330000_3 x330001_3 x330002_3=some (r1,r2,r3,r4))∧Aside0 (kq≤k2)∧Aside0 (Kd.R (Kd.int .i64) 3 w' w.heap.size (fun k_=>some k_≠(u330001:Value).ownBlock∧some k_≠(u330002:Value).ownBlock) u330000 x330000_3)∧Aside0 (Kd.R (Kd.int .i64) 3 w' w.heap.size (fun k_=>some k_≠(u330000:Value).ownBlock∧some k_≠(u330002:Value).ownBlock) u330001 x330001_3)∧Aside0 (Kd.R (Kd.int .i64) 3 w' w.heap.size (fun k_=>some k_≠(u330000:Value).ownBlock∧some k_≠(u330001:Value).ownBlock) u330002 x330002_3)∧Aside0 (w'.heap[A3]? = some (.cells #[(.slice A0_0 l0_0.length c0_0),(.slice A0_1 l0_1.length c0_1)] 33 (0,0)))∧Aside0 (w'.heap[B8]? = some (.cells #[(.slice none 0 0),(.slice none 0 0),(.slice none 0 0)] 57 (0,0)))∧Aside0 (w'.heap[A6]? = some (.cells #[u330000,u330001,u330002] 57 (0,0)))∧Aside0 (Below w.heap.size w w'))
     case atStart=>exact ⟨(0),(x330000_2),(x330001_2),(x330002_2),(u330000),(u330001),(u330002),impl_newOrder.a3,H',⟨Nat.le_refl _⟩,⟨by (try simp only [A9]);exact rV B9⟩,⟨by (try simp only [A9]);exact rV B5⟩,⟨by (try simp only [A9]);exact rV A7⟩,⟨by (try simp only [A9]);exact vB A0⟩,⟨by (try simp only [A9]);exact vB A1⟩,⟨by (try simp only [A9]);exact vB A5⟩,⟨hV HB⟩⟩
     clear H'
     try clear c3
     try clear c5
     try clear c6
     try clear c33
     try clear F5
     try clear c58
     try clear G1
     try clear E9
     try clear F1
     try clear F3
     try clear K4
     try clear K6
     try clear F0
     try clear F2
     try clear F4
     try clear K5
     try clear K7
     obtain ⟨x67_3,x330000_3,x330001_3,x330002_3,u330000,u330001,u330002,rfl,HA,HK3,B9,B5,A7,A0,A1,A5,HB⟩:=hrel
     cases gk with
     | zero=>exact absurd HA.out (by simp [impl_newOrder.l3])
     | succ k3=>
      have H:=HA.out
      clear HA
      simp only [impl_newOrder.l3] at H
      by_cases c62:x67_3 < (l0_1.length:Int)
      rotate_left
      ·rw [if_neg c62] at H
       have H4:=decide_eq_false c62
       (try (have H5:=H4;simp only [A9] at H5))
       clear c62
       have H':=Aside0.mk H
       clear H
       go_wp2
       go_roundg k3
       case measure=>have:=HK1.out;have:=HK2.out;have:=HK3.out;omega
       case rel=>exact ⟨(wrap64 (x62_2 + 1)),(x330000_3),(x330001_3),(x330002_3),(u330000),(u330001),(u330002),impl_newOrder.a3,H',⟨by have:=HK1.out;have:=HK2.out;have:=HK3.out;omega⟩,⟨by (try simp only [A9]);exact rV B9⟩,⟨by (try simp only [A9]);exact rV B5⟩,⟨by (try simp only [A9]);exact rV A7⟩,⟨by (try simp only [A9]);exact vB A0⟩,⟨by (try simp only [A9]);exact vB A1⟩,⟨by (try simp only [A9]);exact vB A5⟩,⟨hV HB⟩⟩
      rw [if_pos c62] at H
      have H4:=decide_eq_true c62
      (try (have H5:=H4;simp only [A9] at H5))
      clear c62
      by_cases c63:0≤x67_3
      rotate_left
      ·rw [if_neg c63] at H
       exact absurd H (by simp)
      rw [if_pos c63] at H
      have Y4:=decide_eq_true c63
      clear c63
      by_cases c64:x67_3 < (l0_1.length:Int)
      rotate_left
      ·rw [if_neg c64] at H
       exact absurd H (by simp)
      rw [if_pos c64] at H
      have N8:=decide_eq_true c64
      (try (have N9:=N8;simp only [A9] at N9))
      clear c64
      by_cases c65:0≤((rd_T89 l0_1 x67_3).f0)
      rotate_left
      ·rw [if_neg c65] at H
       exact absurd H (by simp)
      rw [if_pos c65] at H
      have Y5:=decide_eq_true c65
      clear c65
      by_cases c66:((rd_T89 l0_1 x67_3).f0) < (x330002_3.length:Int)
      rotate_left
      ·rw [if_neg c66] at H
       exact absurd H (by simp)
      rw [if_pos c66] at H
      have O0:=decide_eq_true c66
      (try (have O1:=O0;simp only [A9] at O1))
      clear c66
      by_cases c67:0≤((rd_T89 l0_1 x67_3).f1)
      rotate_left
      ·rw [if_neg c67] at H
       exact absurd H (by simp)
      rw [if_pos c67] at H
      have Y6:=decide_eq_true c67
      clear c67
      by_cases c68:((rd_T89 l0_1 x67_3).f1) < (x330002_3.length:Int)
      rotate_left
      ·rw [if_neg c68] at H
       exact absurd H (by simp)
      rw [if_pos c68] at H
      have O2:=decide_eq_true c68
      (try (have O3:=O2;simp only [A9] at O3))
      clear c68
      obtain ⟨ji69,hji69⟩:∃ j_:Int,(mn (rd x330002_3 ((rd_T89 l0_1 x67_3).f0)) (rd x330002_3 ((rd_T89 l0_1 x67_3).f1)))=j_:=⟨_,rfl⟩
      replace H:(impl_newOrder.l3 k3 (l0_0.length:Int) x62_2 l0_1 (l0_1.length:Int) (wrap64 (x67_3 + 1)) l0_0 l0_1 x330000_3 x330001_3 ((x330002_3.set (((rd_T89 l0_1 x67_3).f0):Int).toNat (ji69)).set (((rd_T89 l0_1 x67_3).f1):Int).toNat (ji69)))=some (r1,r2,r3,r4):=by first | (rw [hji69] at H;exact H) | (simp only [hji69] at H ⊢;exact H)
      have hji69_:(if (rd x330002_3 ((rd_T89 l0_1 x67_3).f1)) < (rd x330002_3 ((rd_T89 l0_1 x67_3).f0)) then (rd x330002_3 ((rd_T89 l0_1 x67_3).f1)) else (rd x330002_3 ((rd_T89 l0_1 x67_3).f0)))=ji69:=hji69
      obtain ⟨y342,hy342⟩:∃ y_:List Int,y_=(x330002_3.set (((rd_T89 l0_1 x67_3).f0):Int).toNat (ji69)):=⟨_,rfl⟩
      replace H:(impl_newOrder.l3 k3 (l0_0.length:Int) x62_2 l0_1 (l0_1.length:Int) (wrap64 (x67_3 + 1)) l0_0 l0_1 x330000_3 x330001_3 (y342.set (((rd_T89 l0_1 x67_3).f1):Int).toNat (ji69)))=some (r1,r2,r3,r4):=by first | (rw [hy342];with_reducible exact H) | (have H2_:=(Option.bind_some _ _).symm.trans H;rw [hy342];with_reducible exact H2_) | (have H2_:=(Option.bind_some _ _).symm.trans H;with_reducible exact H2_) | with_reducible exact H | (rw [hy342];exact H) | exact H
      have O4:=Aside0.mk hy342
      clear hy342
      obtain ⟨y343,hy343⟩:∃ y_:List Int,y_=(y342.set (((rd_T89 l0_1 x67_3).f1):Int).toNat (ji69)):=⟨_,rfl⟩
      replace H:(impl_newOrder.l3 k3 (l0_0.length:Int) x62_2 l0_1 (l0_1.length:Int) (wrap64 (x67_3 + 1)) l0_0 l0_1 x330000_3 x330001_3 y343)=some (r1,r2,r3,r4):=by first | (rw [hy343];with_reducible exact H) | (have H2_:=(Option.bind_some _ _).symm.trans H;rw [hy343];with_reducible exact H2_) | (have H2_:=(Option.bind_some _ _).symm.trans H;with_reducible exact H2_) | with_reducible exact H | (rw [hy343];exact H) | exact H
      have O5:=Aside0.mk hy343
      clear hy343
      have H':=Aside0.mk H
      clear H
      have J3:0≤(x67_3:Int):=dT
      have J4:x67_3 < (l0_1.length:Int):=dT
      obtain ⟨H6,e338,G5,G6⟩:=at_T89 D0.out x67_3 J3 J4
      cases e338
      replace G5:=xc HB G5
      replace G6:=xc HB G6
      replace J3:=eq_true J3
      replace J4:=eq_true J4
      try go_wp2_with (first | (refine bx 11 rfl #[.int .i64 0,.int .i64 0] 89 ?_;intro C4 hg w72 hbox hb;replace B9:=rB B9 hb;replace B5:=rB B5 hb;replace A7:=rB A7 hb;have C5:=Aside0.mk (hbox);have Y7:=hZ HB hg;have Y8:=hZ HB hg;replace HB:=hS HB hb;have H7:=nL A0 hg;have H8:=nG A0 hg;replace A0:=bB A0 hb;have H9:=nL A1 hg;have I0:=nG A1 hg;replace A1:=bB A1 hb;have I1:=nL A5 hg;have I2:=nG A5 hg;replace A5:=bB A5 hb;clear hb hbox hg;have Y9:=H8.out;have Z0:=H7.out;have Z1:=I0.out;have Z2:=H9.out;have Z3:=I2.out;have Z4:=I1.out;obtain ⟨S0,S1,S2,S3⟩:=cf2 C5))
      have n0_:Aside0 (Kd.R (Kd.int .i64) 3 ((w72.setCell ⟨C4,0,none⟩ (.int .i64 ((rd_T89 l0_1 x67_3).f0))).setCell ⟨C4,1,none⟩ (.int .i64 ((rd_T89 l0_1 x67_3).f1))) w.heap.size (fun k_=>some k_≠(u330001:Value).ownBlock∧some k_≠(u330002:Value).ownBlock) u330000 x330000_3):=⟨rT B9 C5 (fun _ hk=>⟨hk.1.1,hk.1.2⟩)⟩
      have n1_:Aside0 (Kd.R (Kd.int .i64) 3 ((w72.setCell ⟨C4,0,none⟩ (.int .i64 ((rd_T89 l0_1 x67_3).f0))).setCell ⟨C4,1,none⟩ (.int .i64 ((rd_T89 l0_1 x67_3).f1))) w.heap.size (fun k_=>some k_≠(u330000:Value).ownBlock∧some k_≠(u330002:Value).ownBlock) u330001 x330001_3):=⟨rT B5 C5 (fun _ hk=>⟨hk.1.1,hk.1.2⟩)⟩
      have n2_:Aside0 (Kd.R (Kd.int .i64) 3 ((w72.setCell ⟨C4,0,none⟩ (.int .i64 ((rd_T89 l0_1 x67_3).f0))).setCell ⟨C4,1,none⟩ (.int .i64 ((rd_T89 l0_1 x67_3).f1))) w.heap.size (fun k_=>some k_≠(u330000:Value).ownBlock∧some k_≠(u330001:Value).ownBlock) u330002 x330002_3):=⟨rT A7 C5 (fun _ hk=>⟨hk.1.1,hk.1.2⟩)⟩
      have n3_:Aside0 (((w72.setCell ⟨C4,0,none⟩ (.int .i64 ((rd_T89 l0_1 x67_3).f0))).setCell ⟨C4,1,none⟩ (.int .i64 ((rd_T89 l0_1 x67_3).f1))).heap[A3]? = some (.cells #[.slice A0_0 l0_0.length c0_0,.slice (some H6) l0_1.length c0_1] 33 (0,0))):=⟨vB A0⟩
      have n4_:Aside0 (((w72.setCell ⟨C4,0,none⟩ (.int .i64 ((rd_T89 l0_1 x67_3).f0))).setCell ⟨C4,1,none⟩ (.int .i64 ((rd_T89 l0_1 x67_3).f1))).heap[B8]? = some (.cells #[.slice none 0 0,.slice none 0 0,.slice none 0 0] 57 (0,0))):=⟨vB A1⟩
      have n5_:Aside0 (((w72.setCell ⟨C4,0,none⟩ (.int .i64 ((rd_T89 l0_1 x67_3).f0))).setCell ⟨C4,1,none⟩ (.int .i64 ((rd_T89 l0_1 x67_3).f1))).heap[A6]? = some (.cells #[u330000,u330001,u330002] 57 (0,0))):=⟨vB A5⟩
      have n6_:Aside0 (((w72.setCell ⟨C4,0,none⟩ (.int .i64 ((rd_T89 l0_1 x67_3).f0))).setCell ⟨C4,1,none⟩ (.int .i64 ((rd_T89 l0_1 x67_3).f1))).heap[C4]? = some (.cells #[.int .i64 ((rd_T89 l0_1 x67_3).f0),.int .i64 ((rd_T89 l0_1 x67_3).f1)] 89 (0,0))):=⟨vP C5⟩
      have n7_:Aside0 (Below w.heap.size w ((w72.setCell ⟨C4,0,none⟩ (.int .i64 ((rd_T89 l0_1 x67_3).f0))).setCell ⟨C4,1,none⟩ (.int .i64 ((rd_T89 l0_1 x67_3).f1)))):=⟨hV HB⟩
      (try clear B9)
      (try clear B5)
      (try clear A7)
      (try clear A0)
      (try clear A1)
      (try clear A5)
      (try clear C5)
      (try clear HB)
      generalize ((w72.setCell ⟨C4,0,none⟩ (.int .i64 ((rd_T89 l0_1 x67_3).f0))).setCell ⟨C4,1,none⟩ (.int .i64 ((rd_T89 l0_1 x67_3).f1)))=w77 at n0_ n1_ n2_ n3_ n4_ n5_ n6_ n7_ ⊢
      have B9:=n0_
      have B5:=n1_
      have A7:=n2_
      have A0:=n3_
      have A1:=n4_
      have A5:=n5_
      have C5:=n6_
      have HB:=n7_
      clear n0_ n1_ n2_ n3_ n4_ n5_ n6_ n7_
      replace B9:=Aside0.mk (Kd.R_drew B9.out)
      replace B5:=Aside0.mk (Kd.R_drew B5.out)
      replace A7:=Aside0.mk (Kd.R_drew A7.out)
      replace A0:=Aside0.mk (blk_drew A0.out)
      replace A1:=Aside0.mk (blk_drew A1.out)
      replace A5:=Aside0.mk (blk_drew A5.out)
      replace C5:=Aside0.mk (blk_drew C5.out)
      replace HB:=Aside0.mk (below_drew1 HB.out)
      obtain ⟨c2,D1,eo79⟩:=Kd.R_slice A7.out
      (first | subst eo79 | (injection eo79 with f1_ f2_ f3_;have f4_:=f1_.symm;have f5_:=f3_.symm;clear f1_ f2_ f3_;subst f4_;subst f5_))
      have J5:0≤(((rd_T89 l0_1 x67_3).f0):Int):=dT
      have J6:((rd_T89 l0_1 x67_3).f0) < (x330002_3.length:Int):=dT
      obtain ⟨G2,e340,F9⟩:=Kd.at_int (Kd.R_reads' A7.out).2.2 ((rd_T89 l0_1 x67_3).f0) J5 J6
      cases e340
      replace J5:=eq_true J5
      replace J6:=eq_true J6
      have J7:0≤(((rd_T89 l0_1 x67_3).f1):Int):=dT
      have J8:((rd_T89 l0_1 x67_3).f1) < (x330002_3.length:Int):=dT
      obtain ⟨O6,e341,G0⟩:=Kd.at_int (Kd.R_reads' A7.out).2.2 ((rd_T89 l0_1 x67_3).f1) J7 J8
      obtain rfl:G2=O6:=(by injection e341)
      replace J7:=eq_true J7
      replace J8:=eq_true J8
      refine start_ (n:=14) (S:=fun w'=>w'.cell? ⟨A6,0,none⟩=some (u330000)∧w'.cell? ⟨A6,1,none⟩=some (u330001)∧w'.cell? ⟨A6,2,none⟩=some (.slice (some G2) x330002_3.length D1)∧w'.cell? ⟨C4,0,none⟩=some (.int .i64 ((rd_T89 l0_1 x67_3).f0))∧w'.cell? ⟨C4,1,none⟩=some (.int .i64 ((rd_T89 l0_1 x67_3).f1))∧w'.cell? (G2.add (((rd_T89 l0_1 x67_3).f0)).toNat)=some (.int .i64 (rd x330002_3 ((rd_T89 l0_1 x67_3).f0)))∧w'.cell? (G2.add (((rd_T89 l0_1 x67_3).f1)).toNat)=some (.int .i64 (rd x330002_3 ((rd_T89 l0_1 x67_3).f1)))) (ds:=[]) #[false,false,false,false,false,false,false,false,false,false,false,false,false,false] impl_newOrder.a5 rfl rfl ⟨cz0 A5,cz1 A5,cz2 A5,cz0 C5,cz1 C5,F9,G0⟩ (fun hHeld=> ?_);refine with_tabW impl_newOrder.tab20 impl_newOrder.bits20 (fun HT_ HW_=> ?_)
      generalize w77.drew=w78 at B9 B5 A7 A0 A1 A5 C5 HB F9 G0 hHeld ⊢
      refine pureS 0 71 HT_ rfl rfl ?_
      refine pureS 2 73 HT_ rfl rfl ?_
      refine pureS 6 77 HT_ rfl rfl ?_
      refine pureS 8 79 HT_ rfl rfl ?_
      refine takeS 1 72 HT_ HW_ rfl rfl hHeld ?_ impl_newOrder.a2
      refine takeS 3 74 HT_ HW_ rfl rfl hHeld ?_ impl_newOrder.a2
      refine pureS 4 75 HT_ rfl rfl ?_
      refine takeS 5 76 HT_ HW_ rfl rfl hHeld ?_ impl_newOrder.a2
      refine takeS 7 78 HT_ HW_ rfl rfl hHeld ?_ impl_newOrder.a2
      refine takeS 9 80 HT_ HW_ rfl rfl hHeld ?_ impl_newOrder.a2
      refine pureS 10 81 HT_ rfl rfl ?_
      refine takeS 11 82 HT_ HW_ rfl rfl hHeld ?_ impl_newOrder.a2
      refine pureS 12 83 HT_ rfl rfl ?_
      refine pureS 13 12 HT_ rfl rfl ?_
      refine done_ (done_of HT_.out impl_newOrder.a5) ?_
      have Z5:=B0.out
      have Z6:=A8.out
      have Z7:=B3.out
      have Z8:=B2.out
      obtain ⟨S4,S5,S6,S7,S8,S9⟩:=cf3 A5
      obtain ⟨T0,T1,T2,T3⟩:=cf2 C5
      have L8:0≤(((rd_T89 l0_1 x67_3).f0):Int):=dT
      have L9:(((rd_T89 l0_1 x67_3).f0):Int) < ((x330002_3.length:Int):Int):=dT
      obtain ⟨C9,c4,eo70,M0,gl70,cl70,HG70⟩:=Kd.R_form A7.out (by omega)
      (first | cases eo70 | (injection eo70 with ea_ en_ ec_;(first | subst ea_ | (injection ea_ with ea_;subst ea_));subst ec_;clear en_))
      have M1:=Aside0.mk M0
      have c7:=Aside0.mk HG70
      clear M0 gl70 HG70
      (first | simp only [add_plain] at F9 | skip)
      (first | simp only [add_plain] at G0 | skip)
      obtain ⟨W1,W2⟩:=Kd.R_celln 0 A7.out (((rd_T89 l0_1 x67_3).f0):Int) L8 L9
      replace L8:=eq_true L8
      replace L9:=eq_true L9
      obtain ⟨hy84_,hz84_⟩:=Kd.R_celln 0 A7.out (((rd_T89 l0_1 x67_3).f0):Int) (dT) (dT)
      have J9:=Kd.R_putg A7.out (((rd_T89 l0_1 x67_3).f0):Int) ji69
      try go_wp2_with (first | ((with_reducible refine gate_store (t:=3) (p:=89) rfl ?_);refine store_event (t:=3) (p:=89) (v:=?vo_w85) (w1:=(w78.setCell ⟨C9,(((rd_T89 l0_1 x67_3).f0):Int).toNat,none⟩ (.int .i64 ji69))) ?hg ?ho ?hn ?hr ?_;(case ho=>rfl);(case hg=>rfl);(case hn=>rfl);(case hr=>first | (go_simp;done) | (go_simp;rfl));intro w85 hw;have hg:w78.grownBy w85 (some C9):=(by rw [hw];exact J9.2);have hp_:Kd.R (Kd.int .i64) 3 w85 w.heap.size (fun k_=>some k_≠(u330000:Value).ownBlock∧some k_≠(u330001:Value).ownBlock) (.slice (some ⟨C9,0,none⟩) x330002_3.length D1) y342:=(by rw [hw,O4.out];exact J9.1);clear J9;replace B9:=Aside0.mk (Kd.R_after (v:=(.slice (some ⟨C9,0,none⟩) x330002_3.length D1)) (v1:=(.slice (some ⟨C9,0,none⟩) x330002_3.length D1)) (ok:=(fun k_=>some k_≠(u330001:Value).ownBlock)) (rV B9) hg (.inl rfl));replace B5:=Aside0.mk (Kd.R_after (v:=(.slice (some ⟨C9,0,none⟩) x330002_3.length D1)) (v1:=(.slice (some ⟨C9,0,none⟩) x330002_3.length D1)) (ok:=(fun k_=>some k_≠(u330000:Value).ownBlock)) (rV B5) hg (.inl rfl));replace A0:=Aside0.mk (blk_grown (g:=A3) (o:=.cells #[.slice A0_0 l0_0.length c0_0,.slice (some H6) l0_1.length c0_1] 33 (0,0)) (vB A0) hg (Kd.R_ne A7.out A0.out impl_newOrder.a6));replace A1:=Aside0.mk (blk_grown (g:=B8) (o:=.cells #[.slice none 0 0,.slice none 0 0,.slice none 0 0] 57 (0,0)) (vB A1) hg (Kd.R_ne A7.out A1.out impl_newOrder.a6));replace A5:=Aside0.mk (blk_grown (g:=A6) (o:=.cells #[u330000,u330001,.slice (some ⟨C9,0,none⟩) x330002_3.length D1] 57 (0,0)) (vB A5) hg (Kd.R_ne A7.out A5.out impl_newOrder.a6));replace C5:=Aside0.mk (blk_grown (g:=C4) (o:=.cells #[.int .i64 ((rd_T89 l0_1 x67_3).f0),.int .i64 ((rd_T89 l0_1 x67_3).f1)] 89 (0,0)) (vB C5) hg (Kd.R_ne A7.out C5.out impl_newOrder.a6));replace A7:=Aside0.mk (hp_);replace HB:=Aside0.mk ((by rw [hw];exact below_set (HB.out) M1.out:Below w.heap.size w w85));clear hg hw hp_;obtain ⟨T5,T6,T7,T8,T9,U0⟩:=cf3 A5;obtain ⟨U1,U2,U3,U4⟩:=cf2 C5;have M2:0≤(((rd_T89 l0_1 x67_3).f1):Int):=dT;have M3:(((rd_T89 l0_1 x67_3).f1):Int) < ((x330002_3.length:Int):Int):=dT;obtain ⟨W3,W4⟩:=Kd.R_celln 0 A7.out (((rd_T89 l0_1 x67_3).f1):Int) M2 M3;replace M2:=eq_true M2;replace M3:=eq_true M3;obtain ⟨hy88_,hz88_⟩:=Kd.R_celln 0 A7.out (((rd_T89 l0_1 x67_3).f1):Int) (dT) (dT);have K0:=Kd.R_putg A7.out (((rd_T89 l0_1 x67_3).f1):Int) ji69) | ((with_reducible refine gate_store (t:=3) (p:=95) rfl ?_);refine store_event (t:=3) (p:=95) (v:=?vo_w89) (w1:=(w85.setCell ⟨C9,(((rd_T89 l0_1 x67_3).f1):Int).toNat,none⟩ (.int .i64 ji69))) ?hg ?ho ?hn ?hr ?_;(case ho=>rfl);(case hg=>rfl);(case hn=>rfl);(case hr=>first | (go_simp;done) | (go_simp;rfl));intro w89 hw;have hg:w85.grownBy w89 (some C9):=(by rw [hw];exact K0.2);have hp_:Kd.R (Kd.int .i64) 3 w89 w.heap.size (fun k_=>some k_≠(u330000:Value).ownBlock∧some k_≠(u330001:Value).ownBlock) (.slice (some ⟨C9,0,none⟩) x330002_3.length D1) y343:=(by rw [hw,O5.out];exact K0.1);clear K0;replace B9:=Aside0.mk (Kd.R_after (v:=(.slice (some ⟨C9,0,none⟩) x330002_3.length D1)) (v1:=(.slice (some ⟨C9,0,none⟩) x330002_3.length D1)) (ok:=(fun k_=>some k_≠(u330001:Value).ownBlock)) (rV B9) hg (.inl rfl));replace B5:=Aside0.mk (Kd.R_after (v:=(.slice (some ⟨C9,0,none⟩) x330002_3.length D1)) (v1:=(.slice (some ⟨C9,0,none⟩) x330002_3.length D1)) (ok:=(fun k_=>some k_≠(u330000:Value).ownBlock)) (rV B5) hg (.inl rfl));replace A0:=Aside0.mk (blk_grown (g:=A3) (o:=.cells #[.slice A0_0 l0_0.length c0_0,.slice (some H6) l0_1.length c0_1] 33 (0,0)) (vB A0) hg (Kd.R_ne A7.out A0.out impl_newOrder.a6));replace A1:=Aside0.mk (blk_grown (g:=B8) (o:=.cells #[.slice none 0 0,.slice none 0 0,.slice none 0 0] 57 (0,0)) (vB A1) hg (Kd.R_ne A7.out A1.out impl_newOrder.a6));replace A5:=Aside0.mk (blk_grown (g:=A6) (o:=.cells #[u330000,u330001,.slice (some ⟨C9,0,none⟩) x330002_3.length D1] 57 (0,0)) (vB A5) hg (Kd.R_ne A7.out A5.out impl_newOrder.a6));replace C5:=Aside0.mk (blk_grown (g:=C4) (o:=.cells #[.int .i64 ((rd_T89 l0_1 x67_3).f0),.int .i64 ((rd_T89 l0_1 x67_3).f1)] 89 (0,0)) (vB C5) hg (Kd.R_ne A7.out C5.out impl_newOrder.a6));replace A7:=Aside0.mk (hp_);replace HB:=Aside0.mk ((by rw [hw];exact below_set (HB.out) M1.out:Below w.heap.size w w89));clear hg hw hp_))
      go_roundg k3
      case measure=>have:=HK1.out;have:=HK2.out;have:=HK3.out;omega
      case rel=>exact ⟨(wrap64 (x67_3 + 1)),(x330000_3),(x330001_3),(y343),(u330000),(u330001),(.slice (some ⟨C9,0,none⟩) x330002_3.length D1),impl_newOrder.a3,H',⟨by have:=HK1.out;have:=HK2.out;have:=HK3.out;omega⟩,⟨by (try simp only [A9]);exact rV B9⟩,⟨by (try simp only [A9]);exact rV B5⟩,⟨by (try simp only [A9]);exact rV A7⟩,⟨by (try simp only [A9]);exact vB A0⟩,⟨by (try simp only [A9]);exact vB A1⟩,⟨by (try simp only [A9]);exact vB A5⟩,⟨hV HB⟩⟩
    ·rw [if_neg c58] at H
     have G1:=decide_eq_false c58
     (try (have H3:=G1;simp only [A9] at H3))
     clear c58
     simp only [Option.some.injEq,Prod.mk.injEq] at H
     obtain ⟨rfl,rfl,rfl,rfl⟩:=H
     have Z9:=B0.out
     have a7:=A8.out
     have a8:=B3.out
     have a9:=B2.out
     obtain ⟨U5,U6,U7,U8,U9,V0⟩:=cf3 A5
     obtain ⟨P9,Q0,eo93⟩:=Kd.R_slice B9.out
     subst eo93
     have b0:=D8.out
     have b1:=D7.out
     obtain ⟨V1,V2,V3,V4,V5,V6⟩:=cf3 A1
     obtain ⟨Q1,Q2,eo96⟩:=Kd.R_slice B5.out
     subst eo96
     obtain ⟨Q3,Q4,eo97⟩:=Kd.R_slice A7.out
     subst eo97
     go_wp2
     refine bodyPost_ret (results_ct rfl _ _ B8 57 #[.slice P9 x330000_2.length Q0,.slice Q1 x330001_2.length Q2,.slice Q3 x330002_2.length Q4] (0,0) _ rfl (vP A1) Try.underlying57 rfl impl_newOrder.a5) rfl ?_
     exact ⟨_,_,_,by first | rfl | (simp [errW_none,errW_some] <;> rfl) | (simp [*,errW_none,errW_some] <;> rfl),rT B9 A1 (fun _ hk=>⟨hk.1.1,hk.1.2⟩),rT B5 A1 (fun _ hk=>⟨hk.1.1,hk.1.2⟩),rT A7 A1 (fun _ hk=>⟨hk.1.1,hk.1.2⟩),hV HB⟩
end Go.Proofs.Ytpildjbakceicaa.Q

