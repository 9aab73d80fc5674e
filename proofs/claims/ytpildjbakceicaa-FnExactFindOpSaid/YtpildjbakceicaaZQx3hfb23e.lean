/- Functions of the program as plain Lean functions,and that the calls come to what they say. -/
import Derived.Test.YtpildjbakceicaaZQx0hb61c0
import Derived.Test.YtpildjbakceicaaZShorth7b252
namespace Go.Proofs.Ytpildjbakceicaa.Q
open Go.RowKit Go.Proofs.YtpildjbakceicaaW.PrintWords Go.Proofs.YtpildjbakceicaaW.PrintLast Go.Proofs.YtpildjbakceicaaW.PrintMore
attribute [local go_sem] max2_int min2_int max_two min_two max_three min_three max_four min_four   -- for this text's walks alone
set_option linter.unusedVariables false
set_option linter.unusedSimpArgs false

/-! ### spec_l1Has: function 48 -/
theorem spec_l1Has.a0 {P_:Prop} (h_:P_:=by repeat (first | exact Drawn0.refl _ | apply Drawn0.step)):P_:=h_
def spec_l1Has.l0:Nat→List ByteArray→ByteArray→Int→Option (Bool)
 | 0,_,_,_=>none
 | k + 1,x0,x1,x5=>if x5 < (x0.length:Int) then (if 0≤x5 then (if (rdOf ByteArray.empty x0 x5).toList=x1.toList then (some true) else (spec_l1Has.l0 k x0 x1 (wrap64 (x5 + 1)))) else (none)) else (some false)
def spec_l1Has.f (k:Nat) (l0:List ByteArray) (a1:ByteArray):Option (Bool):=spec_l1Has.l0 k l0 a1 0
set_option maxHeartbeats 8000000 in
set_option maxRecDepth 100000 in
theorem spec_l1Has.calls (k:Nat) (A0:Option Addr) (c0:Nat) (l0:List ByteArray) (a1:ByteArray) (r:Bool) (w:World) (hr0:Kd.C Kd.string w A0 l0.length l0) (hc0:l0.length≤c0) (h:spec_l1Has.f k l0 a1=some r) :
  Calls Try.prog 48 #[.slice A0 l0.length c0,.string a1] w fun e w'=>e=.returned (.bool r)∧Drawn0 w w':=by
 have A5:=Aside0.mk hr0
 have B0:=Aside0.mk hc0
 clear hr0 hc0
 have H:(spec_l1Has.l0 k l0 a1 0)=some r:=h
 clear h
 have H':=Aside0.mk H
 clear H
 go_enter Try.func48,Try.ntmps48
 go_wp2
 go_loopg [5] k (fun kq v5 w'=> ∃ (x5_1:Int),v5=.int .i64 x5_1∧Aside0 (spec_l1Has.l0 kq l0 a1 x5_1=some r)∧Aside0 (kq≤k)∧Drawn0 w w')
 case atStart=>exact ⟨(0),(by first | rfl | (simp;done) | (simp [*];done)),H',⟨Nat.le_refl _⟩,spec_l1Has.a0⟩
 clear H'
 obtain ⟨x5_1,rfl,HA,HK1,⟨m1,rfl⟩⟩:=hrel
 cases gk with
 | zero=>exact absurd HA.out (by simp [spec_l1Has.l0])
 | succ k1=>
  have H:=HA.out
  clear HA
  simp only [spec_l1Has.l0] at H
  by_cases c3:x5_1 < (l0.length:Int)
  rotate_left
  ·rw [if_neg c3] at H
   have A6:=decide_eq_false c3
   clear c3
   obtain rfl:=Option.some.inj H
   go_wp2
   go_ret
   exact ⟨by first | rfl | (simp;done) | (simp [*];done),spec_l1Has.a0⟩

  rw [if_pos c3] at H
  have A6:=decide_eq_true c3
  clear c3
  by_cases c4:0≤x5_1
  rotate_left
  ·rw [if_neg c4] at H
   exact absurd H (by simp)
  rw [if_pos c4] at H
  have A9:=decide_eq_true c4
  clear c4
  by_cases c5:(rdOf ByteArray.empty l0 x5_1).toList=a1.toList
  ·rw [if_pos c5] at H
   have A7:((rdOf ByteArray.empty l0 x5_1).toList == a1.toList)=true:=beq_iff_eq.mpr c5
   have A8:((rdOf ByteArray.empty l0 x5_1).toList != a1.toList)=false:=bne_eq_false_iff_eq.mpr c5
   clear c5
   obtain rfl:=Option.some.inj H
   have A1:0≤(x5_1:Int):=dT
   have A2:x5_1 < (l0.length:Int):=dT
   obtain ⟨A4,e116,A3⟩:=Kd.at_string A5.out x5_1 A1 A2
   cases e116
   replace A1:=eq_true A1
   replace A2:=eq_true A2
   go_wp2
   go_ret
   exact ⟨by first | rfl | (simp;done) | (simp [*];done),spec_l1Has.a0⟩
  ·rw [if_neg c5] at H
   have A7:((rdOf ByteArray.empty l0 x5_1).toList == a1.toList)=false:=beq_eq_false_iff_ne.mpr c5
   have A8:((rdOf ByteArray.empty l0 x5_1).toList != a1.toList)=true:=bne_iff_ne.mpr c5
   have H':=Aside0.mk H
   clear H
   have A1:0≤(x5_1:Int):=dT
   have A2:x5_1 < (l0.length:Int):=dT
   obtain ⟨A4,e116,A3⟩:=Kd.at_string A5.out x5_1 A1 A2
   cases e116
   replace A1:=eq_true A1
   replace A2:=eq_true A2
   go_wp2
   go_roundg k1
   case measure=>have:=HK1.out;omega
   case rel=>exact ⟨(wrap64 (x5_1 + 1)),(by first | rfl | (simp;done) | (simp [*];done)),H',⟨by have:=HK1.out;omega⟩,spec_l1Has.a0⟩
/-! ### spec_l2Bit: function 67 -/
def spec_l2Bit.f (a0:Int):Option (Int):=if 0≤(IntKind.u64.wrap (a0)) then (some (shl .i64 1 (IntKind.u64.wrap (a0)))) else (none)
set_option maxHeartbeats 8000000 in
set_option maxRecDepth 100000 in
theorem spec_l2Bit.calls (a0:Int) (r:Int) (w:World) (h:spec_l2Bit.f a0=some r) :
    Calls Try.prog 67 #[.int .i64 a0] w fun e w'=>e=.returned (.int .i64 r)∧Drawn0 w w':=by
  have H:(if 0≤(IntKind.u64.wrap (a0)) then (some (shl .i64 1 (IntKind.u64.wrap (a0)))) else (none))=some r:=h
  clear h
  obtain ⟨ji2,hji2⟩:∃ j_:Int,(IntKind.u64.wrap (a0))=j_:=⟨_,rfl⟩
  replace H:(if 0≤(ji2) then (some (shl .i64 1 (ji2))) else (none))=some r:=by first | (rw [hji2] at H;exact H) | (simp only [hji2] at H ⊢;exact H)
  by_cases c3:0≤(ji2)
  rotate_left
  · rw [if_neg c3] at H
    exact absurd H (by simp)

  rw [if_pos c3] at H
  have A0:=eq_true c3
  have A1:=decide_eq_true c3
  clear c3
  obtain ⟨ji4,hji4⟩:∃ j_:Int,(shl .i64 1 (ji2))=j_:=⟨_,rfl⟩
  replace H:(some ji4)=some r:=by first | (rw [hji4] at H;exact H) | (simp only [hji4] at H ⊢;exact H)
  have hji4_:(IntKind.i64.wrap (1 * 2 ^ min (ji2).toNat 64))=ji4:=hji4
  have hji4z:(ji2)≤64→(IntKind.i64.wrap (1 * 2 ^ (ji2).toNat))=ji4:=shl_small hji4
  have hji4u:(IntKind.i64.wrap (2 ^ min (ji2).toNat 64))=ji4:=by have h_:=hji4_;rw [Int.one_mul] at h_;exact h_
  have hji4v:(ji2)≤64→(IntKind.i64.wrap (2 ^ (ji2).toNat))=ji4:=fun hle_=>by have h_:=hji4z hle_;rw [Int.one_mul] at h_;exact h_
  have hji4y:(wrap64 (1 * 2 ^ min (ji2).toNat 64))=ji4:=(i64_w _).symm.trans hji4_
  have hji4x:(ji2)≤64→(wrap64 (1 * 2 ^ (ji2).toNat))=ji4:=fun h_=>(i64_w _).symm.trans (hji4z h_)
  obtain rfl:=Option.some.inj H
  go_enter Try.func67,Try.ntmps67
  go_wp2
  go_ret
  exact ⟨by first | rfl | (simp;done) | (simp only [← hji2,← hji4] <;> (first | rfl | simp)) | (simp [*];done),by repeat (first | exact Drawn0.refl _ | apply Drawn0.step)⟩
/-! ### spec_l3Up: function 49 -/
theorem spec_l3Up.a0 {P_:Prop} (h_:P_:=by rintro w' ⟨s0,s1,s2,s3,s4,s5,s6,s7,s8,s9⟩;go_simp;with_reducible rfl):P_:=h_
theorem spec_l3Up.a1 {P_:Prop} (h_:P_:=by first | rfl | (simp;done) | (simp [*];done)):P_:=h_
mutual
def spec_l3Up.l0:Nat→List Int→Int→List ByteArray→List (S89)→Option (List Int)
 | 0,_,_,_,_=>none
 | k + 1,x3,x4,x118000,x118001=>if x4 < (x118000.length:Int) then ((spec_l2Bit.f x4).bind fun t121=>(if x3.length < 17592186044416 then (spec_l3Up.l0 k (x3 ++ [t121]) (wrap64 (x4 + 1)) x118000 x118001) else (none))) else (spec_l3Up.l1 k x3 0 x118000 x118001)
def spec_l3Up.l1:Nat→List Int→Int→List ByteArray→List (S89)→Option (List Int)
 | 0,_,_,_,_=>none
 | k + 1,x3,x5,x118000,x118001=>if x5 < (x118000.length:Int) then (spec_l3Up.l2 k x3 x5 0 x118000 x118001) else (some x3)
def spec_l3Up.l2:Nat→List Int→Int→Int→List ByteArray→List (S89)→Option (List Int)
 | 0,_,_,_,_,_=>none
 | k + 1,x3,x5,x6,x118000,x118001=>if x6 < (x118001.length:Int) then (if 0≤x6 then (if 0≤((rd_T89 x118001 x6).f0) then (if ((rd_T89 x118001 x6).f0) < (x3.length:Int) then (if 0≤((rd_T89 x118001 x6).f1) then (if ((rd_T89 x118001 x6).f1) < (x3.length:Int) then (spec_l3Up.l2 k (x3.set (((rd_T89 x118001 x6).f0):Int).toNat (Go.bits .or .i64 (rd x3 ((rd_T89 x118001 x6).f0)) (rd x3 ((rd_T89 x118001 x6).f1)))) x5 (wrap64 (x6 + 1)) x118000 x118001) else (none)) else (none)) else (none)) else (none)) else (none)) else (spec_l3Up.l1 k x3 (wrap64 (x5 + 1)) x118000 x118001)
end
def spec_l3Up.f (k:Nat) (l0_0:List ByteArray) (l0_1:List (S89)):Option (List Int):=spec_l3Up.l0 k (([]:List Int)) 0 l0_0 l0_1
def spec_l3Up.T12:Bool × List (List Nat × List Nat):=(true,[([],[]),([],[]),([1],[1]),([],[]),([2,3],[2,3]),([4],[4]),([5],[5]),([],[]),([],[]),([8],[8]),([],[]),([9,10],[9,10]),([11],[11]),([12],[12]),([7,13],[7,13]),([14],[14]),([],[]),([],[]),([17],[17]),([],[]),([18,19],[18,19]),([20],[20]),([21],[21]),([16,22],[16,22]),([23],[23]),([15,24],[15,24]),([0,6,0,1,2,3,4,5,6,7,8,9,10,11,12,13,14,15,16,17,18,19,20,21,22,23,24,25],[0,6]),([26,25,0,1,2,3,4,5,6,7,8,9,10,11,12,13,14,15,16,17,18,19,20,21,22,23,24,25],[25,26])])
def spec_l3Up.B12:List Nat:=[0,0,2,0,14,30,62,0,0,256,0,1792,3840,7936,16256,32640,0,0,131072,0,917504,1966080,4063232,8323072,16711680,33554304,67108863,134217727]
theorem spec_l3Up.tab12:rtab .any (opsOf Try.f49 12)=spec_l3Up.T12:=by kernel_rfl
theorem spec_l3Up.bits12:waitsOk spec_l3Up.T12.2 spec_l3Up.B12=true:=by kernel_rfl
set_option maxHeartbeats 8000000 in
set_option maxRecDepth 100000 in
theorem spec_l3Up.calls (k:Nat) (A0_0:Option Addr) (c0_0:Nat) (l0_0:List ByteArray) (A0_1:Option Addr) (c0_1:Nat) (l0_1:List (S89)) (r:List Int) (w:World) (hr0_0:Kd.C Kd.string w A0_0 l0_0.length l0_0) (hc0_0:l0_0.length≤c0_0) (hr0_1:Kd.C k89 w A0_1 l0_1.length l0_1) (hc0_1:l0_1.length≤c0_1) (h:spec_l3Up.f k l0_0 l0_1=some r) :
  Calls Try.prog 49 #[.agg #[.slice A0_0 l0_0.length c0_0,.slice A0_1 l0_1.length c0_1]] w fun e w'=> ∃ v0_:Value,e=.returned (v0_)∧Kd.R (Kd.int .i64) 3 w' w.heap.size (fun _=>True) v0_ r∧Below w.heap.size w w':=by
 have hu33:=Try.underlying33
 have H5:=Aside0.mk hr0_0
 have H6:=Aside0.mk hc0_0
 clear hr0_0 hc0_0
 have C3:=Aside0.mk hr0_1
 have H7:=Aside0.mk hc0_1
 clear hr0_1 hc0_1
 have HB:=Aside0.mk (Below.refl w.heap.size w)
 have H:(spec_l3Up.l0 k (([]:List Int)) 0 l0_0 l0_1)=some r:=h
 clear h
 obtain ⟨y118,hy118⟩:∃ y_:List Int,y_=(([]:List Int)):=⟨_,rfl⟩
 replace H:(spec_l3Up.l0 k y118 0 l0_0 l0_1)=some r:=by first | (rw [hy118];with_reducible exact H) | (have H2_:=(Option.bind_some _ _).symm.trans H;rw [hy118];with_reducible exact H2_) | (have H2_:=(Option.bind_some _ _).symm.trans H;with_reducible exact H2_) | with_reducible exact H | (rw [hy118];exact H) | exact H
 have D6:=Aside0.mk hy118
 clear hy118
 have H':=Aside0.mk H
 clear H
 go_enter Try.func49,Try.ntmps49
 go_wp2_with (first | (refine bx 1 rfl #[.slice A0_0 l0_0.length c0_0,.slice A0_1 l0_1.length c0_1] 33 ?_;intro A3 hg w2 hbox hb;have A0:=Aside0.mk (hbox);have H8:=hZ HB hg;have H9:=hZ HB hg;replace HB:=hS HB hb;clear hb hbox hg) | ((with_reducible refine gate_dst (N:=7) rfl ?_);refine Kd.R_lit (Kd.int .i64) _ 3 ?hg (N:=7) ?hd (xs:=([]:List Int)) (inner:=[]) (ok:=fun _=>True) (okp:=fun _=>True) ?hr ?hp (fun _ hk=>hk) trivial (Below.refl _ _) (Nat.le_refl _) (by simp) ?_;(case hd=>rfl);(case hg=>rfl);(case hr=>first | (go_simp;done) | (go_simp;rfl));(case hp=>exact (Reps.none _ _));intro v119 w3 ho4 hb hg_ hnew_;clear hg_ hnew_;(first | rw [← D6.out] at ho4 | (simp only [Int.reduceToNat] at ho4;rw [← D6.out] at ho4));have E9:=rL ho4 HB;replace A0:=bB A0 hb;replace HB:=hS HB hb;clear hb ho4))
 go_loopg [3,4] k (fun kq v3 v4 w'=> ∃ (x3_1:List Int) (x4_1:Int),v4=.int .i64 x4_1∧Aside0 (spec_l3Up.l0 kq x3_1 x4_1 l0_0 l0_1=some r)∧Aside0 (kq≤k)∧Aside0 (Kd.R (Kd.int .i64) 3 w' w.heap.size (fun _=>True) v3 x3_1)∧Aside0 (w'.heap[A3]? = some (.cells #[(.slice A0_0 l0_0.length c0_0),(.slice A0_1 l0_1.length c0_1)] 33 (0,0)))∧Aside0 (Below w.heap.size w w'))
 case atStart=>exact ⟨(y118),(0),spec_l3Up.a1,H',⟨Nat.le_refl _⟩,⟨rV E9⟩,⟨vB A0⟩,⟨hV HB⟩⟩
 clear H'
 obtain ⟨x3_1,x4_1,rfl,HA,HK1,A1,A0,HB⟩:=hrel
 cases gk with
 | zero=>exact absurd HA.out (by simp [spec_l3Up.l0])
 | succ k1=>
  have H:=HA.out
  clear HA
  simp only [spec_l3Up.l0] at H
  by_cases c5:x4_1 < (l0_0.length:Int)
  ·rw [if_pos c5] at H
   have C4:=decide_eq_true c5
   clear c5
   replace H:=Option.bind_eq_some_iff.mp H
   obtain ⟨t121,A60,H⟩:=H
   replace H:(if x3_1.length < 17592186044416 then (spec_l3Up.l0 k1 (x3_1 ++ [t121]) (wrap64 (x4_1 + 1)) l0_0 l0_1) else (none))=some r:=H
   have A6:=Aside0.mk A60
   clear A60
   by_cases c7:x3_1.length < 17592186044416
   rotate_left
   ·rw [if_neg c7] at H
    exact absurd H (by simp)
   rw [if_pos c7] at H
   have LMc7:=Aside0.mk c7
   clear c7
   obtain ⟨y122,hy122⟩:∃ y_:List Int,y_=(x3_1 ++ [t121]):=⟨_,rfl⟩
   replace H:(spec_l3Up.l0 k1 y122 (wrap64 (x4_1 + 1)) l0_0 l0_1)=some r:=by first | (rw [hy122];with_reducible exact H) | (have H2_:=(Option.bind_some _ _).symm.trans H;rw [hy122];with_reducible exact H2_) | (have H2_:=(Option.bind_some _ _).symm.trans H;with_reducible exact H2_) | with_reducible exact H | (rw [hy122];exact H) | exact H
   have F0:=Aside0.mk hy122
   clear hy122
   have H':=Aside0.mk H
   clear H
   obtain ⟨H1,H2,H3,H4⟩:=cf2 A0
   go_wp2_with (first | (refine goK 67 (some 17) rfl Try.func67 #[.int .i64 x4_1] ?_;(with_reducible refine (spec_l2Bit.calls x4_1 t121 _ A6.out).mono ?_);rintro e w' ⟨rfl,⟨nd,rfl⟩⟩;refine ⟨_,rfl,?_⟩) | ((with_reducible refine gate_builtin (b:=.append) (xs:=#[.tmp 15,.tmp 18]) rfl ?_);at_builtin;refine Kd.R_append (Kd.int .i64) (w0:=w) w.heap.size rfl (.tmp 15) (.tmp 18) 55 3 (.int .i64 0) 8 rfl Try.underlying55 info3 rfl (by decide) (by omega) u3 x3_1 t121 [.int .i64 t121] (fun _=>True) (fun _=>False) rfl rfl ?aP (fun _ hk=>hk.elim) ?aF ?aO ?aB ?aS ?aL ?_;(case aP=>exact rfl);(case aB=>exact (hV HB));(case aF=>exact (fun _ _=>trivial));(case aO=>exact (rV A1));(case aS=>exact (below_size (hV HB)));(case aL=>have:=LMc7.out;omega);intro v123 w9 ho hb hg hat;rw [← F0.out] at ho;replace A0:=Aside0.mk (blk_grown (g:=A3) (o:=.cells #[.slice A0_0 l0_0.length c0_0,.slice A0_1 l0_1.length c0_1] 33 (0,0)) (vB A0) hg (Kd.R_ne A1.out A0.out (by decide)));replace HB:=Aside0.mk (hb);have F1:=Aside0.mk (ho);clear A1;clear ho hb hg hat))
   go_roundg k1
   case measure=>have:=HK1.out;omega
   case rel=>exact ⟨(y122),(wrap64 (x4_1 + 1)),spec_l3Up.a1,H',⟨by have:=HK1.out;omega⟩,⟨rV F1⟩,⟨vB A0⟩,⟨hV HB⟩⟩
  ·rw [if_neg c5] at H
   have C4:=decide_eq_false c5
   clear c5
   have H':=Aside0.mk H
   clear H
   obtain ⟨B3,B4,B5,B6⟩:=cf2 A0
   go_wp2
   go_loopg [5] k1 (fun kq v5 w'=> ∃ (x3_2:List Int) (x5_2:Int),v5=.int .i64 x5_2∧Aside0 (spec_l3Up.l1 kq x3_2 x5_2 l0_0 l0_1=some r)∧Aside0 (kq≤k1)∧Aside0 (Kd.R (Kd.int .i64) 3 w' w.heap.size (fun _=>True) u3 x3_2)∧Aside0 (w'.heap[A3]? = some (.cells #[(.slice A0_0 l0_0.length c0_0),(.slice A0_1 l0_1.length c0_1)] 33 (0,0)))∧Aside0 (Below w.heap.size w w'))
   case atStart=>exact ⟨(x3_1),(0),spec_l3Up.a1,H',⟨Nat.le_refl _⟩,⟨rV A1⟩,⟨vB A0⟩,⟨hV HB⟩⟩
   clear H'
   try clear c5
   try clear C4
   try clear B3
   try clear B5
   try clear B4
   try clear B6
   obtain ⟨x3_2,x5_2,rfl,HA,HK2,A1,A0,HB⟩:=hrel
   cases gk with
   | zero=>exact absurd HA.out (by simp [spec_l3Up.l1])
   | succ k2=>
    have H:=HA.out
    clear HA
    simp only [spec_l3Up.l1] at H
    by_cases c11:x5_2 < (l0_0.length:Int)
    rotate_left
    ·rw [if_neg c11] at H
     have D7:=decide_eq_false c11
     clear c11
     obtain rfl:=Option.some.inj H
     obtain ⟨F9,G0,G1,G2⟩:=cf2 A0
     go_wp2
     go_ret
     exact ⟨_,by first | rfl | (simp [errW_none,errW_some] <;> rfl) | (simp [*,errW_none,errW_some] <;> rfl),rV A1,hV HB⟩

    rw [if_pos c11] at H
    have D7:=decide_eq_true c11
    clear c11
    have H':=Aside0.mk H
    clear H
    obtain ⟨D8,D9,E0,E1⟩:=cf2 A0
    go_wp2
    go_loopg [6] k2 (fun kq v6 w'=> ∃ (x3_3:List Int) (x6_3:Int),v6=.int .i64 x6_3∧Aside0 (spec_l3Up.l2 kq x3_3 x5_2 x6_3 l0_0 l0_1=some r)∧Aside0 (kq≤k2)∧Aside0 (Kd.R (Kd.int .i64) 3 w' w.heap.size (fun _=>True) u3 x3_3)∧Aside0 (w'.heap[A3]? = some (.cells #[(.slice A0_0 l0_0.length c0_0),(.slice A0_1 l0_1.length c0_1)] 33 (0,0)))∧Aside0 (Below w.heap.size w w'))
    case atStart=>exact ⟨(x3_2),(0),spec_l3Up.a1,H',⟨Nat.le_refl _⟩,⟨rV A1⟩,⟨vB A0⟩,⟨hV HB⟩⟩
    clear H'
    try clear c5
    try clear C4
    try clear c11
    try clear D7
    try clear B3
    try clear B5
    try clear D8
    try clear E0
    try clear B4
    try clear B6
    try clear D9
    try clear E1
    obtain ⟨x3_3,x6_3,rfl,HA,HK3,A1,A0,HB⟩:=hrel
    cases gk with
    | zero=>exact absurd HA.out (by simp [spec_l3Up.l2])
    | succ k3=>
     have H:=HA.out
     clear HA
     simp only [spec_l3Up.l2] at H
     by_cases c13:x6_3 < (l0_1.length:Int)
     rotate_left
     ·rw [if_neg c13] at H
      have F2:=decide_eq_false c13
      clear c13
      have H':=Aside0.mk H
      clear H
      obtain ⟨G3,G4,G5,G6⟩:=cf2 A0
      go_wp2
      go_roundg k3
      case measure=>have:=HK1.out;have:=HK2.out;have:=HK3.out;omega
      case rel=>exact ⟨(x3_3),(wrap64 (x5_2 + 1)),spec_l3Up.a1,H',⟨by have:=HK1.out;have:=HK2.out;have:=HK3.out;omega⟩,⟨rV A1⟩,⟨vB A0⟩,⟨hV HB⟩⟩
     rw [if_pos c13] at H
     have F2:=decide_eq_true c13
     clear c13
     by_cases c14:0≤x6_3
     rotate_left
     ·rw [if_neg c14] at H
      exact absurd H (by simp)
     rw [if_pos c14] at H
     have I0:=decide_eq_true c14
     clear c14
     by_cases c15:0≤((rd_T89 l0_1 x6_3).f0)
     rotate_left
     ·rw [if_neg c15] at H
      exact absurd H (by simp)
     rw [if_pos c15] at H
     have I1:=decide_eq_true c15
     clear c15
     by_cases c16:((rd_T89 l0_1 x6_3).f0) < (x3_3.length:Int)
     rotate_left
     ·rw [if_neg c16] at H
      exact absurd H (by simp)
     rw [if_pos c16] at H
     have I2:=decide_eq_true c16
     clear c16
     by_cases c17:0≤((rd_T89 l0_1 x6_3).f1)
     rotate_left
     ·rw [if_neg c17] at H
      exact absurd H (by simp)
     rw [if_pos c17] at H
     have I3:=decide_eq_true c17
     clear c17
     by_cases c18:((rd_T89 l0_1 x6_3).f1) < (x3_3.length:Int)
     rotate_left
     ·rw [if_neg c18] at H
      exact absurd H (by simp)
     rw [if_pos c18] at H
     have I4:=decide_eq_true c18
     clear c18
     obtain ⟨y130,hy130⟩:∃ y_:List Int,y_=(x3_3.set (((rd_T89 l0_1 x6_3).f0):Int).toNat (Go.bits .or .i64 (rd x3_3 ((rd_T89 l0_1 x6_3).f0)) (rd x3_3 ((rd_T89 l0_1 x6_3).f1)))):=⟨_,rfl⟩
     replace H:(spec_l3Up.l2 k3 y130 x5_2 (wrap64 (x6_3 + 1)) l0_0 l0_1)=some r:=by first | (rw [hy130];with_reducible exact H) | (have H2_:=(Option.bind_some _ _).symm.trans H;rw [hy130];with_reducible exact H2_) | (have H2_:=(Option.bind_some _ _).symm.trans H;with_reducible exact H2_) | with_reducible exact H | (rw [hy130];exact H) | exact H
     have F3:=Aside0.mk hy130
     clear hy130
     have H':=Aside0.mk H
     clear H
     obtain ⟨G7,G8,G9,H0⟩:=cf2 A0
     try go_wp2
     replace A1:=Aside0.mk (Kd.R_drew A1.out)
     replace A0:=Aside0.mk (blk_drew A0.out)
     replace HB:=Aside0.mk (below_drew1 HB.out)
     have C5:0≤(x6_3:Int):=dT
     have C6:x6_3 < (l0_1.length:Int):=dT
     obtain ⟨A2,e125,A4,A5⟩:=at_T89 C3.out x6_3 C5 C6
     have B7:=A5
     have B8:=A4
     cases e125
     replace A4:=xc HB A4
     replace A5:=xc HB A5
     replace C5:=eq_true C5
     replace C6:=eq_true C6
     have C7:0≤(x6_3:Int):=dT
     have C8:x6_3 < (l0_1.length:Int):=dT
     obtain ⟨F4,e126,A7,A8⟩:=at_T89 C3.out x6_3 C7 C8
     have B9:=A8
     have C0:=A7
     obtain rfl:A2=F4:=(by injection e126)
     replace A7:=xc HB A7
     replace A8:=xc HB A8
     replace C7:=eq_true C7
     replace C8:=eq_true C8
     obtain ⟨I5,I6,eo22⟩:=Kd.R_slice A1.out
     (first | subst eo22 | (injection eo22 with f1_ f2_ f3_;have f4_:=f1_.symm;have f5_:=f3_.symm;clear f1_ f2_ f3_;subst f4_;subst f5_))
     have C9:0≤(((rd_T89 l0_1 x6_3).f0):Int):=dT
     have D0:((rd_T89 l0_1 x6_3).f0) < (x3_3.length:Int):=dT
     obtain ⟨F5,e127,B1⟩:=Kd.at_int (Kd.R_reads' A1.out).2.2 ((rd_T89 l0_1 x6_3).f0) C9 D0
     cases e127
     replace C9:=eq_true C9
     replace D0:=eq_true D0
     have D1:0≤(x6_3:Int):=dT
     have D2:x6_3 < (l0_1.length:Int):=dT
     obtain ⟨F6,e128,A9,B0⟩:=at_T89 C3.out x6_3 D1 D2
     have C1:=B0
     have C2:=A9
     obtain rfl:A2=F6:=(by injection e128)
     replace A9:=xc HB A9
     replace B0:=xc HB B0
     replace D1:=eq_true D1
     replace D2:=eq_true D2
     have D3:0≤(((rd_T89 l0_1 x6_3).f1):Int):=dT
     have D4:((rd_T89 l0_1 x6_3).f1) < (x3_3.length:Int):=dT
     obtain ⟨F7,e129,B2⟩:=Kd.at_int (Kd.R_reads' A1.out).2.2 ((rd_T89 l0_1 x6_3).f1) D3 D4
     obtain rfl:F5=F7:=(by injection e129)
     replace D3:=eq_true D3
     replace D4:=eq_true D4
     have E2:0≤(((rd_T89 l0_1 x6_3).f0):Int):=dT
     have E3:(((rd_T89 l0_1 x6_3).f0):Int) < ((x3_3.length:Int):Int):=dT
     obtain ⟨E4,I7,eo19,E5,gl19,cl19,HG19⟩:=Kd.R_form A1.out (by omega)
     (first | cases eo19 | (injection eo19 with ea_ en_ ec_;(first | subst ea_ | (injection ea_ with ea_;subst ea_));subst ec_;clear en_))
     have I8:=Aside0.mk E5
     have F8:=Aside0.mk HG19
     clear E5 gl19 HG19
     (first | simp only [add_plain] at B1 | skip)
     (first | simp only [add_plain] at B2 | skip)
     obtain ⟨E6,E7⟩:=Kd.R_celln 0 A1.out (((rd_T89 l0_1 x6_3).f0):Int) E2 E3
     replace E2:=eq_true E2
     replace E3:=eq_true E3
     have D5:=Kd.R_putn A1.out (((rd_T89 l0_1 x6_3).f0):Int) (Go.bits .or .i64 (rd x3_3 ((rd_T89 l0_1 x6_3).f0)) (rd x3_3 ((rd_T89 l0_1 x6_3).f1)))
     rw [← F3.out] at D5
     have E8:=Aside0.mk D5
     clear D5
     refine start_ (n:=28) (S:=fun w'=>w'.cell? ⟨A3,0,none⟩=some (.slice A0_0 l0_0.length c0_0)∧w'.cell? ⟨A3,1,none⟩=some (.slice (some A2) l0_1.length c0_1)∧w'.cell? (A2.add ((x6_3).toNat * 2))=some (.int .i64 ((rd_T89 l0_1 x6_3).f0))∧w'.cell? ⟨(A2.add ((x6_3).toNat * 2)).block,(A2.add ((x6_3).toNat * 2)).off + 1,none⟩=some (.int .i64 ((rd_T89 l0_1 x6_3).f1))∧w'.cell? (A2.add ((x6_3).toNat * 2))=some (.int .i64 ((rd_T89 l0_1 x6_3).f0))∧w'.cell? ⟨(A2.add ((x6_3).toNat * 2)).block,(A2.add ((x6_3).toNat * 2)).off + 1,none⟩=some (.int .i64 ((rd_T89 l0_1 x6_3).f1))∧w'.cell? ⟨E4,(((rd_T89 l0_1 x6_3).f0)).toNat,none⟩=some (.int .i64 (rd x3_3 ((rd_T89 l0_1 x6_3).f0)))∧w'.cell? (A2.add ((x6_3).toNat * 2))=some (.int .i64 ((rd_T89 l0_1 x6_3).f0))∧w'.cell? ⟨(A2.add ((x6_3).toNat * 2)).block,(A2.add ((x6_3).toNat * 2)).off + 1,none⟩=some (.int .i64 ((rd_T89 l0_1 x6_3).f1))∧w'.cell? ⟨E4,(((rd_T89 l0_1 x6_3).f1)).toNat,none⟩=some (.int .i64 (rd x3_3 ((rd_T89 l0_1 x6_3).f1)))) (ds:=[27]) #[false,false,false,false,false,false,false,false,false,false,false,false,false,false,false,false,false,false,false,false,false,false,false,false,false,false,false,false] (by kernel_rfl) rfl rfl ⟨cz0 A0,cz1 A0,((HB.out.cell (World.block_lt_of_cell? w _ B8)).trans B8),((HB.out.cell (World.block_lt_of_cell? w _ B7)).trans B7),((HB.out.cell (World.block_lt_of_cell? w _ C0)).trans C0),((HB.out.cell (World.block_lt_of_cell? w _ B9)).trans B9),B1,((HB.out.cell (World.block_lt_of_cell? w _ C2)).trans C2),((HB.out.cell (World.block_lt_of_cell? w _ C1)).trans C1),B2⟩ (fun hHeld=> ?_);refine with_tabW spec_l3Up.tab12 spec_l3Up.bits12 (fun HT_ HW_=> ?_)
     generalize wr.drew=w21 at A1 A0 HB F8 E8 E7 A4 A5 A7 A8 B1 A9 B0 B2 E6 hHeld ⊢
     refine pureS 0 34 HT_ rfl rfl ?_
     refine pureS 1 35 HT_ rfl rfl ?_
     refine pureS 3 37 HT_ rfl rfl ?_
     refine pureS 7 41 HT_ rfl rfl ?_
     refine pureS 8 42 HT_ rfl rfl ?_
     refine pureS 10 44 HT_ rfl rfl ?_
     refine pureS 16 50 HT_ rfl rfl ?_
     refine pureS 17 51 HT_ rfl rfl ?_
     refine pureS 19 53 HT_ rfl rfl ?_
     refine takeS 2 36 HT_ HW_ rfl rfl hHeld ?_ spec_l3Up.a0
     refine pureS 4 38 HT_ rfl rfl ?_
     refine pureS 5 39 HT_ rfl rfl ?_
     refine takeS 6 40 HT_ HW_ rfl rfl hHeld ?_ spec_l3Up.a0
     refine takeS 9 43 HT_ HW_ rfl rfl hHeld ?_ spec_l3Up.a0
     refine pureS 11 45 HT_ rfl rfl ?_
     refine pureS 12 46 HT_ rfl rfl ?_
     refine takeS 13 47 HT_ HW_ rfl rfl hHeld ?_ spec_l3Up.a0
     refine pureS 14 48 HT_ rfl rfl ?_
     refine takeS 15 49 HT_ HW_ rfl rfl hHeld ?_ spec_l3Up.a0
     refine takeS 18 52 HT_ HW_ rfl rfl hHeld ?_ spec_l3Up.a0
     refine pureS 20 54 HT_ rfl rfl ?_
     refine pureS 21 55 HT_ rfl rfl ?_
     refine takeS 22 56 HT_ HW_ rfl rfl hHeld ?_ spec_l3Up.a0
     refine pureS 23 57 HT_ rfl rfl ?_
     refine takeS 24 58 HT_ HW_ rfl rfl hHeld ?_ spec_l3Up.a0
     refine pureS 25 59 HT_ rfl rfl ?_
     refine pureS 26 60 HT_ rfl rfl ?_
     refine last_ (i:=27) (N:=none) #[true,true,true,true,true,true,true,true,true,true,true,true,true,true,true,true,true,true,true,true,true,true,true,true,true,true,true,true] rfl rfl (one_of HT_.out (by kernel_rfl)) (by decide) (fun K hK=> ?_)
     refine skip_ (w1:=?_) (by rfl) rfl ?_ ?_
     rotate_left
     ·go_simp
      rfl
     refine hK.out _ _ ?_
     clear hK K
     refine done_ (done_of HT_.out (by kernel_rfl)) ?_
     try go_wp2
     go_roundg k3
     case measure=>have:=HK1.out;have:=HK2.out;have:=HK3.out;omega
     case rel=>exact ⟨(y130),(wrap64 (x6_3 + 1)),spec_l3Up.a1,H',⟨by have:=HK1.out;have:=HK2.out;have:=HK3.out;omega⟩,⟨by (with_reducible repeat (first | apply Kd.R_alloc | apply Kd.R_drewN | apply Kd.R_drew));exact E8.out⟩,⟨by (with_reducible repeat (first | refine blk_drewN ?_ _ | refine blk_drew ?_ | refine blk_alloc ?_ _));refine blk_far ?_ (by have h_:=Kd.R_ne A1.out A0.out (by decide);intro e_;exact h_ (by rw [e_];rfl)) _;(with_reducible repeat (first | refine blk_drewN ?_ _ | refine blk_drew ?_ | refine blk_alloc ?_ _));exact A0.out⟩,⟨hV HB⟩⟩
/-! ### spec_l2Has: function 50 -/
def spec_l2Has.f (a0:Int) (a1:Int):Option (Bool):=if a1≥0 then (if a1 < 16 then (if 0≤(IntKind.u64.wrap (a1)) then (some ((Go.bits .and .i64 (shr .i64 a0 (IntKind.u64.wrap (a1))) 1) == 1)) else (none)) else (some false)) else (some false)
set_option maxHeartbeats 8000000 in
set_option maxRecDepth 100000 in
theorem spec_l2Has.calls (a0:Int) (a1:Int) (r:Bool) (w:World) (h:spec_l2Has.f a0 a1=some r) :
    Calls Try.prog 50 #[.int .i64 a0,.int .i64 a1] w fun e w'=>e=.returned (.bool r)∧Drawn0 w w':=by
  have H:(if a1≥0 then (if a1 < 16 then (if 0≤(IntKind.u64.wrap (a1)) then (some ((Go.bits .and .i64 (shr .i64 a0 (IntKind.u64.wrap (a1))) 1) == 1)) else (none)) else (some false)) else (some false))=some r:=h
  clear h
  by_cases c3:a1≥0
  rotate_left
  · rw [if_neg c3] at H
    have A0:=decide_eq_false c3
    clear c3
    obtain rfl:=Option.some.inj H
    go_enter Try.func50,Try.ntmps50
    go_wp2
    go_ret
    exact ⟨by first | rfl | (simp;done) | (simp [*];done),by repeat (first | exact Drawn0.refl _ | apply Drawn0.step)⟩

  rw [if_pos c3] at H
  have A0:=decide_eq_true c3
  clear c3
  by_cases c4:a1 < 16
  rotate_left
  · rw [if_neg c4] at H
    have A1:=decide_eq_false c4
    clear c4
    obtain rfl:=Option.some.inj H
    go_enter Try.func50,Try.ntmps50
    go_wp2
    go_ret
    exact ⟨by first | rfl | (simp;done) | (simp [*];done),by repeat (first | exact Drawn0.refl _ | apply Drawn0.step)⟩
  rw [if_pos c4] at H
  have A1:=decide_eq_true c4
  clear c4
  obtain ⟨ji5,hji5⟩:∃ j_:Int,(IntKind.u64.wrap (a1))=j_:=⟨_,rfl⟩
  replace H:(if 0≤(ji5) then (some ((Go.bits .and .i64 (shr .i64 a0 (ji5)) 1) == 1)) else (none))=some r:=by first | (rw [hji5] at H;exact H) | (simp only [hji5] at H ⊢;exact H)
  by_cases c6:0≤(ji5)
  rotate_left
  · rw [if_neg c6] at H
    exact absurd H (by simp)
  rw [if_pos c6] at H
  have A2:=eq_true c6
  have A3:=decide_eq_true c6
  clear c6
  obtain ⟨ji7,hji7⟩:∃ j_:Int,(shr .i64 a0 (ji5))=j_:=⟨_,rfl⟩
  replace H:(some ((Go.bits .and .i64 (ji7) 1) == 1))=some r:=by first | (rw [hji7] at H;exact H) | (simp only [hji7] at H ⊢;exact H)
  have hji7_:(a0 / 2 ^ min (ji5).toNat 64)=ji7:=hji7
  have hji7z:(ji5)≤64→(a0 / 2 ^ (ji5).toNat)=ji7:=shr_small hji7
  obtain rfl:=Option.some.inj H
  go_enter Try.func50,Try.ntmps50
  go_wp2
  go_ret
  exact ⟨by first | rfl | (simp;done) | (simp only [← hji5,← hji7] <;> (first | rfl | simp)) | (simp [*];done),by repeat (first | exact Drawn0.refl _ | apply Drawn0.step)⟩
end Go.Proofs.Ytpildjbakceicaa.Q

