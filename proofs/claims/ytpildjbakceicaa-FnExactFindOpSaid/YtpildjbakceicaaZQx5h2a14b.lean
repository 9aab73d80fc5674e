/- Functions of the program as plain Lean functions,and that the calls come to what they say. -/
import Derived.Test.YtpildjbakceicaaZQx0hb61c0
import Derived.Test.YtpildjbakceicaaZShorth7b252
namespace Go.Proofs.Ytpildjbakceicaa.Q
open Go.RowKit Go.Proofs.YtpildjbakceicaaW.PrintWords Go.Proofs.YtpildjbakceicaaW.PrintLast Go.Proofs.YtpildjbakceicaaW.PrintMore
attribute [local go_sem] max2_int min2_int max_two min_two max_three min_three max_four min_four   -- for this text's walks alone
set_option linter.unusedVariables false
set_option linter.unusedSimpArgs false

/-! ### spec_l1Min: function 68 -/
def spec_l1Min.f (a0:Int) (a1:Int):Option (Int):=if a0 < a1 then (some a0) else (some a1)
set_option maxHeartbeats 8000000 in
set_option maxRecDepth 100000 in
theorem spec_l1Min.calls (a0:Int) (a1:Int) (r:Int) (w:World) (h:spec_l1Min.f a0 a1=some r) :
    Calls Try.prog 68 #[.int .i64 a0,.int .i64 a1] w fun e w'=>e=.returned (.int .i64 r)∧Drawn0 w w':=by
  have H:(if a0 < a1 then (some a0) else (some a1))=some r:=h
  clear h
  by_cases c3:a0 < a1
  · rw [if_pos c3] at H
    have A0:=decide_eq_true c3
    clear c3
    obtain rfl:=Option.some.inj H
    go_enter Try.func68,Try.ntmps68
    go_wp2
    go_ret
    exact ⟨by first | rfl | (simp;done) | (simp [*];done),by repeat (first | exact Drawn0.refl _ | apply Drawn0.step)⟩
  rw [if_neg c3] at H
  have A0:=decide_eq_false c3
  clear c3
  obtain rfl:=Option.some.inj H
  go_enter Try.func68,Try.ntmps68
  go_wp2
  go_ret
  exact ⟨by first | rfl | (simp;done) | (simp [*];done),by repeat (first | exact Drawn0.refl _ | apply Drawn0.step)⟩

/-! ### spec_l3Kinds: function 51 -/
theorem spec_l3Kinds.a0 {P_:Prop} (h_:P_:=by first | rfl | (simp;done) | (simp [*];done)):P_:=h_
mutual
def spec_l3Kinds.l0:Nat→List Int→Int→List ByteArray→List (S89)→Option (List Int)
 | 0,_,_,_,_=>none
 | k + 1,x3,x4,x151000,x151001=>if x4 < (x151000.length:Int) then (if x3.length < 17592186044416 then (spec_l3Kinds.l0 k (x3 ++ [x4]) (wrap64 (x4 + 1)) x151000 x151001) else (none)) else (spec_l3Kinds.l1 k x3 0 x151000 x151001)
def spec_l3Kinds.l1:Nat→List Int→Int→List ByteArray→List (S89)→Option (List Int)
 | 0,_,_,_,_=>none
 | k + 1,x3,x5,x151000,x151001=>if x5 < (x3.length:Int) then (spec_l3Kinds.l2 k x3 x5 0 x151000 x151001) else (some x3)
def spec_l3Kinds.l2:Nat→List Int→Int→Int→List ByteArray→List (S89)→Option (List Int)
 | 0,_,_,_,_,_=>none
 | k + 1,x3,x5,x6,x151000,x151001=>if x6 < (x151001.length:Int) then (if 0≤x6 then (if 0≤((rd_T89 x151001 x6).f0) then (if ((rd_T89 x151001 x6).f0) < (x3.length:Int) then (if 0≤((rd_T89 x151001 x6).f1) then (if ((rd_T89 x151001 x6).f1) < (x3.length:Int) then ((spec_l1Min.f (rd x3 ((rd_T89 x151001 x6).f0)) (rd x3 ((rd_T89 x151001 x6).f1))).bind fun t161=>(spec_l3Kinds.l2 k ((x3.set (((rd_T89 x151001 x6).f0):Int).toNat t161).set (((rd_T89 x151001 x6).f1):Int).toNat t161) x5 (wrap64 (x6 + 1)) x151000 x151001)) else (none)) else (none)) else (none)) else (none)) else (none)) else (spec_l3Kinds.l1 k x3 (wrap64 (x5 + 1)) x151000 x151001)
end
def spec_l3Kinds.f (k:Nat) (l0_0:List ByteArray) (l0_1:List (S89)):Option (List Int):=spec_l3Kinds.l0 k (([]:List Int)) 0 l0_0 l0_1
set_option maxHeartbeats 8000000 in
set_option maxRecDepth 100000 in
theorem spec_l3Kinds.calls (k:Nat) (A0_0:Option Addr) (c0_0:Nat) (l0_0:List ByteArray) (A0_1:Option Addr) (c0_1:Nat) (l0_1:List (S89)) (r:List Int) (w:World) (hr0_0:Kd.C Kd.string w A0_0 l0_0.length l0_0) (hc0_0:l0_0.length≤c0_0) (hr0_1:Kd.C k89 w A0_1 l0_1.length l0_1) (hc0_1:l0_1.length≤c0_1) (h:spec_l3Kinds.f k l0_0 l0_1=some r) :
  Calls Try.prog 51 #[.agg #[.slice A0_0 l0_0.length c0_0,.slice A0_1 l0_1.length c0_1]] w fun e w'=> ∃ v0_:Value,e=.returned (v0_)∧Kd.R (Kd.int .i64) 3 w' w.heap.size (fun _=>True) v0_ r∧Below w.heap.size w w':=by
 have hu33:=Try.underlying33
 have H0:=Aside0.mk hr0_0
 have H1:=Aside0.mk hc0_0
 clear hr0_0 hc0_0
 have D2:=Aside0.mk hr0_1
 have H2:=Aside0.mk hc0_1
 clear hr0_1 hc0_1
 have HB:=Aside0.mk (Below.refl w.heap.size w)
 have H:(spec_l3Kinds.l0 k (([]:List Int)) 0 l0_0 l0_1)=some r:=h
 clear h
 obtain ⟨y151,hy151⟩:∃ y_:List Int,y_=(([]:List Int)):=⟨_,rfl⟩
 replace H:(spec_l3Kinds.l0 k y151 0 l0_0 l0_1)=some r:=by first | (rw [hy151];with_reducible exact H) | (have H2_:=(Option.bind_some _ _).symm.trans H;rw [hy151];with_reducible exact H2_) | (have H2_:=(Option.bind_some _ _).symm.trans H;with_reducible exact H2_) | with_reducible exact H | (rw [hy151];exact H) | exact H
 have A8:=Aside0.mk hy151
 clear hy151
 have H':=Aside0.mk H
 clear H
 go_enter Try.func51,Try.ntmps51
 go_wp2_with (first | (refine bx 1 rfl #[.slice A0_0 l0_0.length c0_0,.slice A0_1 l0_1.length c0_1] 33 ?_;intro A3 hg w2 hbox hb;have A0:=Aside0.mk (hbox);have E6:=hZ HB hg;have E7:=hZ HB hg;replace HB:=hS HB hb;clear hb hbox hg) | ((with_reducible refine gate_dst (N:=10) rfl ?_);refine Kd.R_lit (Kd.int .i64) _ 3 ?hg (N:=10) ?hd (xs:=([]:List Int)) (inner:=[]) (ok:=fun _=>True) (okp:=fun _=>True) ?hr ?hp (fun _ hk=>hk) trivial (Below.refl _ _) (Nat.le_refl _) (by simp) ?_;(case hd=>rfl);(case hg=>rfl);(case hr=>first | (go_simp;done) | (go_simp;rfl));(case hp=>exact (Reps.none _ _));intro v152 w3 ho4 hb hg_ hnew_;clear hg_ hnew_;(first | rw [← A8.out] at ho4 | (simp only [Int.reduceToNat] at ho4;rw [← A8.out] at ho4));have D3:=rL ho4 HB;replace A0:=bB A0 hb;replace HB:=hS HB hb;clear hb ho4))
 repeat (go_quiet (fail);try go_wp2_with (first | (refine bx 1 rfl #[.slice A0_0 l0_0.length c0_0,.slice A0_1 l0_1.length c0_1] 33 ?_;intro A3 hg w2 hbox hb;have A0:=Aside0.mk (hbox);have E6:=hZ HB hg;have E7:=hZ HB hg;replace HB:=hS HB hb;clear hb hbox hg) | ((with_reducible refine gate_dst (N:=10) rfl ?_);refine Kd.R_lit (Kd.int .i64) _ 3 ?hg (N:=10) ?hd (xs:=([]:List Int)) (inner:=[]) (ok:=fun _=>True) (okp:=fun _=>True) ?hr ?hp (fun _ hk=>hk) trivial (Below.refl _ _) (Nat.le_refl _) (by simp) ?_;(case hd=>rfl);(case hg=>rfl);(case hr=>first | (go_simp;done) | (go_simp;rfl));(case hp=>exact (Reps.none _ _));intro v152 w3 ho4 hb hg_ hnew_;clear hg_ hnew_;(first | rw [← A8.out] at ho4 | (simp only [Int.reduceToNat] at ho4;rw [← A8.out] at ho4));have D3:=rL ho4 HB;replace A0:=bB A0 hb;replace HB:=hS HB hb;clear hb ho4)))
 go_loopg [3,4] k (fun kq v3 v4 w'=> ∃ (x3_1:List Int) (x4_1:Int),v4=.int .i64 x4_1∧Aside0 (spec_l3Kinds.l0 kq x3_1 x4_1 l0_0 l0_1=some r)∧Aside0 (kq≤k)∧Aside0 (Kd.R (Kd.int .i64) 3 w' w.heap.size (fun _=>True) v3 x3_1)∧Aside0 (w'.heap[A3]? = some (.cells #[(.slice A0_0 l0_0.length c0_0),(.slice A0_1 l0_1.length c0_1)] 33 (0,0)))∧Aside0 (Below w.heap.size w w'))
 case atStart=>exact ⟨(y151),(0),spec_l3Kinds.a0,H',⟨Nat.le_refl _⟩,⟨rV D3⟩,⟨vB A0⟩,⟨hV HB⟩⟩
 clear H'
 obtain ⟨x3_1,x4_1,rfl,HA,HK1,A1,A0,HB⟩:=hrel
 cases gk with
 | zero=>exact absurd HA.out (by simp [spec_l3Kinds.l0])
 | succ k1=>
  have H:=HA.out
  clear HA
  simp only [spec_l3Kinds.l0] at H
  by_cases c5:x4_1 < (l0_0.length:Int)
  ·rw [if_pos c5] at H
   have C3:=decide_eq_true c5
   clear c5
   by_cases c6:x3_1.length < 17592186044416
   rotate_left
   ·rw [if_neg c6] at H
    exact absurd H (by simp)
   rw [if_pos c6] at H
   have LMc6:=Aside0.mk c6
   clear c6
   obtain ⟨y154,hy154⟩:∃ y_:List Int,y_=(x3_1 ++ [x4_1]):=⟨_,rfl⟩
   replace H:(spec_l3Kinds.l0 k1 y154 (wrap64 (x4_1 + 1)) l0_0 l0_1)=some r:=by first | (rw [hy154];with_reducible exact H) | (have H2_:=(Option.bind_some _ _).symm.trans H;rw [hy154];with_reducible exact H2_) | (have H2_:=(Option.bind_some _ _).symm.trans H;with_reducible exact H2_) | with_reducible exact H | (rw [hy154];exact H) | exact H
   have D4:=Aside0.mk hy154
   clear hy154
   have H':=Aside0.mk H
   clear H
   obtain ⟨G4,G5,G6,G7⟩:=cf2 A0
   go_wp2_with (first | ((with_reducible refine gate_builtin (b:=.append) (xs:=#[.tmp 18,.tmp 20]) rfl ?_);at_builtin;refine Kd.R_append (Kd.int .i64) (w0:=w) w.heap.size rfl (.tmp 18) (.tmp 20) 55 3 (.int .i64 0) 8 rfl Try.underlying55 info3 rfl (by decide) (by omega) u3 x3_1 x4_1 [.int .i64 x4_1] (fun _=>True) (fun _=>False) rfl rfl ?aP (fun _ hk=>hk.elim) ?aF ?aO ?aB ?aS ?aL ?_;(case aP=>exact rfl);(case aB=>exact (hV HB));(case aF=>exact (fun _ _=>trivial));(case aO=>exact (rV A1));(case aS=>exact (below_size (hV HB)));(case aL=>have:=LMc6.out;omega);intro v155 w8 ho hb hg hat;rw [← D4.out] at ho;replace A0:=Aside0.mk (blk_grown (g:=A3) (o:=.cells #[.slice A0_0 l0_0.length c0_0,.slice A0_1 l0_1.length c0_1] 33 (0,0)) (vB A0) hg (Kd.R_ne A1.out A0.out (by decide)));replace HB:=Aside0.mk (hb);have D5:=Aside0.mk (ho);clear A1;clear ho hb hg hat))
   repeat (go_quiet (fail);try go_wp2_with (first | ((with_reducible refine gate_builtin (b:=.append) (xs:=#[.tmp 18,.tmp 20]) rfl ?_);at_builtin;refine Kd.R_append (Kd.int .i64) (w0:=w) w.heap.size rfl (.tmp 18) (.tmp 20) 55 3 (.int .i64 0) 8 rfl Try.underlying55 info3 rfl (by decide) (by omega) u3 x3_1 x4_1 [.int .i64 x4_1] (fun _=>True) (fun _=>False) rfl rfl ?aP (fun _ hk=>hk.elim) ?aF ?aO ?aB ?aS ?aL ?_;(case aP=>exact rfl);(case aB=>exact (hV HB));(case aF=>exact (fun _ _=>trivial));(case aO=>exact (rV A1));(case aS=>exact (below_size (hV HB)));(case aL=>have:=LMc6.out;omega);intro v155 w8 ho hb hg hat;rw [← D4.out] at ho;replace A0:=Aside0.mk (blk_grown (g:=A3) (o:=.cells #[.slice A0_0 l0_0.length c0_0,.slice A0_1 l0_1.length c0_1] 33 (0,0)) (vB A0) hg (Kd.R_ne A1.out A0.out (by decide)));replace HB:=Aside0.mk (hb);have D5:=Aside0.mk (ho);clear A1;clear ho hb hg hat)))
   go_roundg k1
   case measure=>have:=HK1.out;omega
   case rel=>exact ⟨(y154),(wrap64 (x4_1 + 1)),spec_l3Kinds.a0,H',⟨by have:=HK1.out;omega⟩,⟨rV D5⟩,⟨vB A0⟩,⟨hV HB⟩⟩
  ·rw [if_neg c5] at H
   have C3:=decide_eq_false c5
   clear c5
   have H':=Aside0.mk H
   clear H
   obtain ⟨B9,C0,C1,C2⟩:=cf2 A0
   go_wp2
   repeat (go_quiet (fail);try go_wp2)
   go_loopg [5] k1 (fun kq v5 w'=> ∃ (x3_2:List Int) (x5_2:Int),v5=.int .i64 x5_2∧Aside0 (spec_l3Kinds.l1 kq x3_2 x5_2 l0_0 l0_1=some r)∧Aside0 (kq≤k1)∧Aside0 (Kd.R (Kd.int .i64) 3 w' w.heap.size (fun _=>True) u3 x3_2)∧Aside0 (w'.heap[A3]? = some (.cells #[(.slice A0_0 l0_0.length c0_0),(.slice A0_1 l0_1.length c0_1)] 33 (0,0)))∧Aside0 (Below w.heap.size w w'))
   case atStart=>exact ⟨(x3_1),(0),spec_l3Kinds.a0,H',⟨Nat.le_refl _⟩,⟨rV A1⟩,⟨vB A0⟩,⟨hV HB⟩⟩
   clear H'
   try clear c5
   try clear C3
   try clear B9
   try clear C1
   try clear C0
   try clear C2
   obtain ⟨x3_2,x5_2,rfl,HA,HK2,A1,A0,HB⟩:=hrel
   cases gk with
   | zero=>exact absurd HA.out (by simp [spec_l3Kinds.l1])
   | succ k2=>
    have H:=HA.out
    clear HA
    simp only [spec_l3Kinds.l1] at H
    by_cases c10:x5_2 < (x3_2.length:Int)
    rotate_left
    ·rw [if_neg c10] at H
     have D6:=decide_eq_false c10
     clear c10
     obtain rfl:=Option.some.inj H
     obtain ⟨H6,H7,eo27⟩:=Kd.R_slice A1.out
     subst eo27
     go_wp2
     repeat (go_quiet (fail);try go_wp2)
     go_ret
     exact ⟨_,by first | rfl | (simp [errW_none,errW_some] <;> rfl) | (simp [*,errW_none,errW_some] <;> rfl),rV A1,hV HB⟩

    rw [if_pos c10] at H
    have D6:=decide_eq_true c10
    clear c10
    have H':=Aside0.mk H
    clear H
    obtain ⟨F5,A9,eo11⟩:=Kd.R_slice A1.out
    subst eo11
    go_wp2
    repeat (go_quiet (fail);try go_wp2)
    go_loopg [6] k2 (fun kq v6 w'=> ∃ (x3_3:List Int) (x6_3:Int),v6=.int .i64 x6_3∧Aside0 (spec_l3Kinds.l2 kq x3_3 x5_2 x6_3 l0_0 l0_1=some r)∧Aside0 (kq≤k2)∧Aside0 (Kd.R (Kd.int .i64) 3 w' w.heap.size (fun _=>True) (.slice F5 x3_2.length A9) x3_3)∧Aside0 (w'.heap[A3]? = some (.cells #[(.slice A0_0 l0_0.length c0_0),(.slice A0_1 l0_1.length c0_1)] 33 (0,0)))∧Aside0 (Below w.heap.size w w'))
    case atStart=>exact ⟨(x3_2),(0),spec_l3Kinds.a0,H',⟨Nat.le_refl _⟩,⟨rV A1⟩,⟨vB A0⟩,⟨hV HB⟩⟩
    clear H'
    try clear c5
    try clear C3
    try clear c10
    try clear D6
    try clear B9
    try clear C1
    try clear C0
    try clear C2
    obtain ⟨x3_3,x6_3,rfl,HA,HK3,A1,A0,HB⟩:=hrel
    have A2:=(Kd.R_reads' A1.out).1
    rw [A2] at A1
    (try simp only [A2])
    (try simp only [A2] at A0)
    cases gk with
    | zero=>exact absurd HA.out (by simp [spec_l3Kinds.l2])
    | succ k3=>
     have H:=HA.out
     clear HA
     simp only [spec_l3Kinds.l2] at H
     by_cases c12:x6_3 < (l0_1.length:Int)
     ·rw [if_pos c12] at H
      have B6:=decide_eq_true c12
      (try (have B7:=B6;simp only [A2] at B7))
      clear c12
      by_cases c13:0≤x6_3
      rotate_left
      ·rw [if_neg c13] at H
       exact absurd H (by simp)
      rw [if_pos c13] at H
      have H3:=decide_eq_true c13
      clear c13
      by_cases c14:0≤((rd_T89 l0_1 x6_3).f0)
      rotate_left
      ·rw [if_neg c14] at H
       exact absurd H (by simp)
      rw [if_pos c14] at H
      have H4:=decide_eq_true c14
      clear c14
      by_cases c15:((rd_T89 l0_1 x6_3).f0) < (x3_3.length:Int)
      rotate_left
      ·rw [if_neg c15] at H
       exact absurd H (by simp)
      rw [if_pos c15] at H
      have E8:=decide_eq_true c15
      (try (have E9:=E8;simp only [A2] at E9))
      clear c15
      by_cases c16:0≤((rd_T89 l0_1 x6_3).f1)
      rotate_left
      ·rw [if_neg c16] at H
       exact absurd H (by simp)
      rw [if_pos c16] at H
      have H5:=decide_eq_true c16
      clear c16
      by_cases c17:((rd_T89 l0_1 x6_3).f1) < (x3_3.length:Int)
      rotate_left
      ·rw [if_neg c17] at H
       exact absurd H (by simp)
      rw [if_pos c17] at H
      have F0:=decide_eq_true c17
      (try (have F1:=F0;simp only [A2] at F1))
      clear c17
      replace H:=Option.bind_eq_some_iff.mp H
      obtain ⟨t161,A180,H⟩:=H
      replace H:(spec_l3Kinds.l2 k3 ((x3_3.set (((rd_T89 l0_1 x6_3).f0):Int).toNat t161).set (((rd_T89 l0_1 x6_3).f1):Int).toNat t161) x5_2 (wrap64 (x6_3 + 1)) l0_0 l0_1)=some r:=H
      have A18:=Aside0.mk A180
      clear A180
      obtain ⟨y162,hy162⟩:∃ y_:List Int,y_=(x3_3.set (((rd_T89 l0_1 x6_3).f0):Int).toNat t161):=⟨_,rfl⟩
      replace H:(spec_l3Kinds.l2 k3 (y162.set (((rd_T89 l0_1 x6_3).f1):Int).toNat t161) x5_2 (wrap64 (x6_3 + 1)) l0_0 l0_1)=some r:=by first | (rw [hy162];with_reducible exact H) | (have H2_:=(Option.bind_some _ _).symm.trans H;rw [hy162];with_reducible exact H2_) | (have H2_:=(Option.bind_some _ _).symm.trans H;with_reducible exact H2_) | with_reducible exact H | (rw [hy162];exact H) | exact H
      have D7:=Aside0.mk hy162
      clear hy162
      obtain ⟨y163,hy163⟩:∃ y_:List Int,y_=(y162.set (((rd_T89 l0_1 x6_3).f1):Int).toNat t161):=⟨_,rfl⟩
      replace H:(spec_l3Kinds.l2 k3 y163 x5_2 (wrap64 (x6_3 + 1)) l0_0 l0_1)=some r:=by first | (rw [hy163];with_reducible exact H) | (have H2_:=(Option.bind_some _ _).symm.trans H;rw [hy163];with_reducible exact H2_) | (have H2_:=(Option.bind_some _ _).symm.trans H;with_reducible exact H2_) | with_reducible exact H | (rw [hy163];exact H) | exact H
      have D8:=Aside0.mk hy163
      clear hy163
      have H':=Aside0.mk H
      clear H
      obtain ⟨F6,F7,F8,F9⟩:=cf2 A0
      have C4:0≤(x6_3:Int):=dT
      have C5:x6_3 < (l0_1.length:Int):=dT
      obtain ⟨A7,e157,B2,B3⟩:=at_T89 D2.out x6_3 C4 C5
      cases e157
      replace B2:=xc HB B2
      replace B3:=xc HB B3
      replace C4:=eq_true C4
      replace C5:=eq_true C5
      have C6:0≤(x6_3:Int):=dT
      have C7:x6_3 < (l0_1.length:Int):=dT
      obtain ⟨F2,e158,B4,B5⟩:=at_T89 D2.out x6_3 C6 C7
      obtain rfl:A7=F2:=(by injection e158)
      replace B4:=xc HB B4
      replace B5:=xc HB B5
      replace C6:=eq_true C6
      replace C7:=eq_true C7
      have C8:0≤(((rd_T89 l0_1 x6_3).f0):Int):=dT
      have C9:((rd_T89 l0_1 x6_3).f0) < (x3_3.length:Int):=dT
      obtain ⟨F3,e159,D9⟩:=Kd.at_int (Kd.R_reads' A1.out).2.2 ((rd_T89 l0_1 x6_3).f0) C8 C9
      cases e159
      replace C8:=eq_true C8
      replace C9:=eq_true C9
      have D0:0≤(((rd_T89 l0_1 x6_3).f1):Int):=dT
      have D1:((rd_T89 l0_1 x6_3).f1) < (x3_3.length:Int):=dT
      obtain ⟨F4,e160,E0⟩:=Kd.at_int (Kd.R_reads' A1.out).2.2 ((rd_T89 l0_1 x6_3).f1) D0 D1
      obtain rfl:F3=F4:=(by injection e160)
      replace D0:=eq_true D0
      replace D1:=eq_true D1
      have E1:0≤(((rd_T89 l0_1 x6_3).f0):Int):=dT
      have E2:(((rd_T89 l0_1 x6_3).f0):Int) < ((x3_3.length:Int):Int):=dT
      obtain ⟨A4,H8,eo19,E3,gl19,cl19,HG19⟩:=Kd.R_form A1.out (by omega)
      (first | cases eo19 | (injection eo19 with ea_ en_ ec_;(first | subst ea_ | (injection ea_ with ea_;subst ea_));subst ec_;clear en_))
      have B8:=Aside0.mk E3
      have H9:=Aside0.mk HG19
      clear E3 gl19 HG19
      (first | simp only [add_plain] at D9 | skip)
      (first | simp only [add_plain] at E0 | skip)
      obtain ⟨G8,G9⟩:=Kd.R_celln 0 A1.out (((rd_T89 l0_1 x6_3).f0):Int) E1 E2
      replace E1:=eq_true E1
      replace E2:=eq_true E2
      obtain ⟨hy22_,hz22_⟩:=Kd.R_celln 0 A1.out (((rd_T89 l0_1 x6_3).f0):Int) (dT) (dT)
      have A6:=Kd.R_putg A1.out (((rd_T89 l0_1 x6_3).f0):Int) t161
      go_wp2_with (first | (go_at_call 68;(with_reducible refine (spec_l1Min.calls (rd x3_3 ((rd_T89 l0_1 x6_3).f0)) (rd x3_3 ((rd_T89 l0_1 x6_3).f1)) t161 _ A18.out).mono ?_);rintro e w' ⟨rfl,⟨nd,rfl⟩⟩;(try first | exact ⟨rfl,_,World.drewN_drewN _ _ _⟩ | exact ⟨rfl,_,Eq.trans (World.drewN_drewN _ _ _) (congrArg (World.drewN _) (Nat.add_assoc _ _ _))⟩)) | ((with_reducible refine gate_store (t:=3) (p:=59) rfl ?_);(try (rw [drewN_self wr];generalize hq_:World.drewN wr _=wr;have n0_:=Aside0.mk (Kd.R_at hq_ A1.out);have n1_:=Aside0.mk (blk_at hq_ A0.out);have n2_:=Aside0.mk (below_at hq_ HB.out);clear hq_ A1 A0 HB;have A1:=n0_;have A0:=n1_;have HB:=n2_;clear n0_ n1_ n2_;(try (obtain ⟨hy22_,hz22_⟩:=Kd.R_celln 0 A1.out (((rd_T89 l0_1 x6_3).f0):Int) (dT) (dT)));(try (have A6:=Kd.R_putg A1.out (((rd_T89 l0_1 x6_3).f0):Int) t161))));refine store_event (t:=3) (p:=59) (v:=?vo_w23) (w1:=(wr.setCell ⟨A4,(((rd_T89 l0_1 x6_3).f0):Int).toNat,none⟩ (.int .i64 t161))) ?hg ?ho ?hn ?hr ?_;(case ho=>rfl);(case hg=>rfl);(case hn=>rfl);(case hr=>first | (go_simp;done) | (go_simp;rfl));intro w23 hw;have hg:wr.grownBy w23 (some A4):=(by rw [hw];exact A6.2);have hp_:Kd.R (Kd.int .i64) 3 w23 w.heap.size (fun _=>True) (.slice (some ⟨A4,0,none⟩) x3_3.length A9) y162:=(by rw [hw,D7.out];exact A6.1);clear A6;replace A0:=Aside0.mk (blk_grown (g:=A3) (o:=.cells #[.slice A0_0 l0_0.length c0_0,.slice (some A7) l0_1.length c0_1] 33 (0,0)) (vB A0) hg (Kd.R_ne A1.out A0.out (by decide)));replace A1:=Aside0.mk (hp_);replace HB:=Aside0.mk ((by rw [hw];exact below_set (HB.out) B8.out:Below w.heap.size w w23));clear hg hw hp_;have B0:0≤(((rd_T89 l0_1 x6_3).f1):Int):=dT;have B1:(((rd_T89 l0_1 x6_3).f1):Int) < ((x3_3.length:Int):Int):=dT;obtain ⟨E4,E5⟩:=Kd.R_celln 0 A1.out (((rd_T89 l0_1 x6_3).f1):Int) B0 B1;replace B0:=eq_true B0;replace B1:=eq_true B1;obtain ⟨hy24_,hz24_⟩:=Kd.R_celln 0 A1.out (((rd_T89 l0_1 x6_3).f1):Int) (dT) (dT);have A5:=Kd.R_putg A1.out (((rd_T89 l0_1 x6_3).f1):Int) t161) | ((with_reducible refine gate_store (t:=3) (p:=63) rfl ?_);(try (rw [drewN_self w23];generalize hq_:World.drewN w23 _=w23;have n0_:=Aside0.mk (Kd.R_at hq_ A1.out);have n1_:=Aside0.mk (blk_at hq_ A0.out);have n2_:=Aside0.mk (below_at hq_ HB.out);clear hq_ A1 A0 HB;have A1:=n0_;have A0:=n1_;have HB:=n2_;clear n0_ n1_ n2_;(try (obtain ⟨hy24_,hz24_⟩:=Kd.R_celln 0 A1.out (((rd_T89 l0_1 x6_3).f1):Int) (dT) (dT)));(try (have A5:=Kd.R_putg A1.out (((rd_T89 l0_1 x6_3).f1):Int) t161))));refine store_event (t:=3) (p:=63) (v:=?vo_w25) (w1:=(w23.setCell ⟨A4,(((rd_T89 l0_1 x6_3).f1):Int).toNat,none⟩ (.int .i64 t161))) ?hg ?ho ?hn ?hr ?_;(case ho=>rfl);(case hg=>rfl);(case hn=>rfl);(case hr=>first | (go_simp;done) | (go_simp;rfl));intro w25 hw;have hg:w23.grownBy w25 (some A4):=(by rw [hw];exact A5.2);have hp_:Kd.R (Kd.int .i64) 3 w25 w.heap.size (fun _=>True) (.slice (some ⟨A4,0,none⟩) x3_3.length A9) y163:=(by rw [hw,D8.out];exact A5.1);clear A5;replace A0:=Aside0.mk (blk_grown (g:=A3) (o:=.cells #[.slice A0_0 l0_0.length c0_0,.slice (some A7) l0_1.length c0_1] 33 (0,0)) (vB A0) hg (Kd.R_ne A1.out A0.out (by decide)));replace A1:=Aside0.mk (hp_);replace HB:=Aside0.mk ((by rw [hw];exact below_set (HB.out) B8.out:Below w.heap.size w w25));clear hg hw hp_))
      repeat (go_quiet (first | (go_at_call 68;(with_reducible refine (spec_l1Min.calls (rd x3_3 ((rd_T89 l0_1 x6_3).f0)) (rd x3_3 ((rd_T89 l0_1 x6_3).f1)) t161 _ A18.out).mono ?_);rintro e w' ⟨rfl,⟨nd,rfl⟩⟩;(try first | exact ⟨rfl,_,World.drewN_drewN _ _ _⟩ | exact ⟨rfl,_,Eq.trans (World.drewN_drewN _ _ _) (congrArg (World.drewN _) (Nat.add_assoc _ _ _))⟩)));try go_wp2_with (first | (go_at_call 68;(with_reducible refine (spec_l1Min.calls (rd x3_3 ((rd_T89 l0_1 x6_3).f0)) (rd x3_3 ((rd_T89 l0_1 x6_3).f1)) t161 _ A18.out).mono ?_);rintro e w' ⟨rfl,⟨nd,rfl⟩⟩;(try first | exact ⟨rfl,_,World.drewN_drewN _ _ _⟩ | exact ⟨rfl,_,Eq.trans (World.drewN_drewN _ _ _) (congrArg (World.drewN _) (Nat.add_assoc _ _ _))⟩)) | ((with_reducible refine gate_store (t:=3) (p:=59) rfl ?_);(try (rw [drewN_self wr];generalize hq_:World.drewN wr _=wr;have n0_:=Aside0.mk (Kd.R_at hq_ A1.out);have n1_:=Aside0.mk (blk_at hq_ A0.out);have n2_:=Aside0.mk (below_at hq_ HB.out);clear hq_ A1 A0 HB;have A1:=n0_;have A0:=n1_;have HB:=n2_;clear n0_ n1_ n2_;(try (obtain ⟨hy22_,hz22_⟩:=Kd.R_celln 0 A1.out (((rd_T89 l0_1 x6_3).f0):Int) (dT) (dT)));(try (have A6:=Kd.R_putg A1.out (((rd_T89 l0_1 x6_3).f0):Int) t161))));refine store_event (t:=3) (p:=59) (v:=?vo_w23) (w1:=(wr.setCell ⟨A4,(((rd_T89 l0_1 x6_3).f0):Int).toNat,none⟩ (.int .i64 t161))) ?hg ?ho ?hn ?hr ?_;(case ho=>rfl);(case hg=>rfl);(case hn=>rfl);(case hr=>first | (go_simp;done) | (go_simp;rfl));intro w23 hw;have hg:wr.grownBy w23 (some A4):=(by rw [hw];exact A6.2);have hp_:Kd.R (Kd.int .i64) 3 w23 w.heap.size (fun _=>True) (.slice (some ⟨A4,0,none⟩) x3_3.length A9) y162:=(by rw [hw,D7.out];exact A6.1);clear A6;replace A0:=Aside0.mk (blk_grown (g:=A3) (o:=.cells #[.slice A0_0 l0_0.length c0_0,.slice (some A7) l0_1.length c0_1] 33 (0,0)) (vB A0) hg (Kd.R_ne A1.out A0.out (by decide)));replace A1:=Aside0.mk (hp_);replace HB:=Aside0.mk ((by rw [hw];exact below_set (HB.out) B8.out:Below w.heap.size w w23));clear hg hw hp_;have B0:0≤(((rd_T89 l0_1 x6_3).f1):Int):=dT;have B1:(((rd_T89 l0_1 x6_3).f1):Int) < ((x3_3.length:Int):Int):=dT;obtain ⟨E4,E5⟩:=Kd.R_celln 0 A1.out (((rd_T89 l0_1 x6_3).f1):Int) B0 B1;replace B0:=eq_true B0;replace B1:=eq_true B1;obtain ⟨hy24_,hz24_⟩:=Kd.R_celln 0 A1.out (((rd_T89 l0_1 x6_3).f1):Int) (dT) (dT);have A5:=Kd.R_putg A1.out (((rd_T89 l0_1 x6_3).f1):Int) t161) | ((with_reducible refine gate_store (t:=3) (p:=63) rfl ?_);(try (rw [drewN_self w23];generalize hq_:World.drewN w23 _=w23;have n0_:=Aside0.mk (Kd.R_at hq_ A1.out);have n1_:=Aside0.mk (blk_at hq_ A0.out);have n2_:=Aside0.mk (below_at hq_ HB.out);clear hq_ A1 A0 HB;have A1:=n0_;have A0:=n1_;have HB:=n2_;clear n0_ n1_ n2_;(try (obtain ⟨hy24_,hz24_⟩:=Kd.R_celln 0 A1.out (((rd_T89 l0_1 x6_3).f1):Int) (dT) (dT)));(try (have A5:=Kd.R_putg A1.out (((rd_T89 l0_1 x6_3).f1):Int) t161))));refine store_event (t:=3) (p:=63) (v:=?vo_w25) (w1:=(w23.setCell ⟨A4,(((rd_T89 l0_1 x6_3).f1):Int).toNat,none⟩ (.int .i64 t161))) ?hg ?ho ?hn ?hr ?_;(case ho=>rfl);(case hg=>rfl);(case hn=>rfl);(case hr=>first | (go_simp;done) | (go_simp;rfl));intro w25 hw;have hg:w23.grownBy w25 (some A4):=(by rw [hw];exact A5.2);have hp_:Kd.R (Kd.int .i64) 3 w25 w.heap.size (fun _=>True) (.slice (some ⟨A4,0,none⟩) x3_3.length A9) y163:=(by rw [hw,D8.out];exact A5.1);clear A5;replace A0:=Aside0.mk (blk_grown (g:=A3) (o:=.cells #[.slice A0_0 l0_0.length c0_0,.slice (some A7) l0_1.length c0_1] 33 (0,0)) (vB A0) hg (Kd.R_ne A1.out A0.out (by decide)));replace A1:=Aside0.mk (hp_);replace HB:=Aside0.mk ((by rw [hw];exact below_set (HB.out) B8.out:Below w.heap.size w w25));clear hg hw hp_)))
      (try simp only [← A2])
      go_roundg k3
      case measure=>have:=HK1.out;have:=HK2.out;have:=HK3.out;omega
      case rel=>exact ⟨(y163),(wrap64 (x6_3 + 1)),spec_l3Kinds.a0,H',⟨by have:=HK1.out;have:=HK2.out;have:=HK3.out;omega⟩,⟨by (try simp only [A2]);exact rV A1⟩,⟨by (try simp only [A2]);exact vB A0⟩,⟨hV HB⟩⟩
     ·rw [if_neg c12] at H
      have B6:=decide_eq_false c12
      (try (have B7:=B6;simp only [A2] at B7))
      clear c12
      have H':=Aside0.mk H
      clear H
      obtain ⟨G0,G1,G2,G3⟩:=cf2 A0
      go_wp2
      repeat (go_quiet (fail);try go_wp2)
      (try simp only [← A2])
      go_roundg k3
      case measure=>have:=HK1.out;have:=HK2.out;have:=HK3.out;omega
      case rel=>exact ⟨(x3_3),(wrap64 (x5_2 + 1)),spec_l3Kinds.a0,H',⟨by have:=HK1.out;have:=HK2.out;have:=HK3.out;omega⟩,⟨by (try simp only [A2]);exact rV A1⟩,⟨by (try simp only [A2]);exact vB A0⟩,⟨hV HB⟩⟩
end Go.Proofs.Ytpildjbakceicaa.Q

