/- Functions of the program as plain Lean functions,and that the calls come to what they say. -/
import Derived.Test.YtpildjbakceicaaZQx0hb61c0
import Derived.Test.YtpildjbakceicaaZShorth7b252
namespace Go.Proofs.Ytpildjbakceicaa.Q
open Go.RowKit Go.Proofs.YtpildjbakceicaaW.PrintWords Go.Proofs.YtpildjbakceicaaW.PrintLast Go.Proofs.YtpildjbakceicaaW.PrintMore
attribute [local go_sem] max2_int min2_int max_two min_two max_three min_three max_four min_four   -- for this text's walks alone
set_option linter.unusedVariables false
set_option linter.unusedSimpArgs false

/-! ### impl_axiomsOK: function 32 -/
theorem impl_axiomsOK.a0 {P_:Prop} (h_:P_:=by first | rfl | (simp;done) | (simp [*];done)):P_:=h_
theorem impl_axiomsOK.a1 {P_:Prop} (h_:P_:=by first | rfl | (simp [errW_none,errW_some] <;> rfl) | (simp [*,errW_none,errW_some] <;> rfl)):P_:=h_
theorem impl_axiomsOK.a2 {P_:Prop} (h_:P_:=by have:=World.block_lt_of_cell? _ _ B0;first | rwa [add_block] at this | exact this):P_:=h_
theorem impl_axiomsOK.a3 {P_:Prop} (h_:P_:=by have:=World.block_lt_of_cell? _ _ B1;first | rwa [add_block] at this | exact this):P_:=h_
theorem impl_axiomsOK.a4 {P_:Prop} (h_:P_:=by first | rfl | (simp [errW_none,errW_some] <;> rfl) | (simp only [← hji101];first | rfl | (simp [errW_none,errW_some] <;> rfl)) | (simp [*,errW_none,errW_some] <;> rfl)):P_:=h_
theorem impl_axiomsOK.a5 {P_:Prop} (h_:P_:=by have:=HJ3.out;have:=HJ17.out;have:=HJ31.out;first | omega | exact Nat.le_refl _):P_:=h_
mutual
def impl_axiomsOK.j0:Nat→Bool→List Int→List Int→List Int→List ByteArray→List (S89)→List (S50)→ByteArray→List (S68)→Bool→Bool→Int→Option (Bool)
 | 0,_,_,_,_,_,_,_,_,_,_,_,_=>none
 | k + 1,x19,x364000,x364001,x364002,x365000,x365001,x365002,x366000,x366001,x366002,x366003,x366004=>if x19=true then (some false) else (if x366002=true then (impl_axiomsOK.j1 k false x364000 x364001 x364002 x365000 x365001 x365002 x366000 x366001 x366002 x366003 x366004) else (if x366003=true then (impl_axiomsOK.j1 k false x364000 x364001 x364002 x365000 x365001 x365002 x366000 x366001 x366002 x366003 x366004) else (impl_axiomsOK.j1 k (x366004 == 0) x364000 x364001 x364002 x365000 x365001 x365002 x366000 x366001 x366002 x366003 x366004)))
def impl_axiomsOK.j1:Nat→Bool→List Int→List Int→List Int→List ByteArray→List (S89)→List (S50)→ByteArray→List (S68)→Bool→Bool→Int→Option (Bool)
 | 0,_,_,_,_,_,_,_,_,_,_,_,_=>none
 | k + 1,x32,x364000,x364001,x364002,x365000,x365001,x365002,x366000,x366001,x366002,x366003,x366004=>if x32=true then (some true) else (if 0 < (x366001.length:Int) then (if (((rd_T68 x366001 0).f0).length:Int)=2 then (if 0 < (((rd_T68 x366001 0).f0).length:Int) then (if 0≤(rd ((rd_T68 x366001 0).f0) 0) then (if (rd ((rd_T68 x366001 0).f0) 0) < (x364002.length:Int) then (if 1 < (((rd_T68 x366001 0).f0).length:Int) then (if 0≤(rd ((rd_T68 x366001 0).f0) 1) then (if (rd ((rd_T68 x366001 0).f0) 1) < (x364002.length:Int) then (impl_axiomsOK.j2 k ((rd x364002 (rd ((rd_T68 x366001 0).f0) 0)) != (rd x364002 (rd ((rd_T68 x366001 0).f0) 1))) x364000 x364001 x364002 x365000 x365001 x365002 x366000 x366001 x366002 x366003 x366004 ((rd_T68 x366001 0).f0) ((rd_T68 x366001 0).f1)) else (none)) else (none)) else (none)) else (none)) else (none)) else (none)) else (impl_axiomsOK.j2 k true x364000 x364001 x364002 x365000 x365001 x365002 x366000 x366001 x366002 x366003 x366004 ((rd_T68 x366001 0).f0) ((rd_T68 x366001 0).f1))) else (none))
def impl_axiomsOK.j2:Nat→Bool→List Int→List Int→List Int→List ByteArray→List (S89)→List (S50)→ByteArray→List (S68)→Bool→Bool→Int→List Int→Int→Option (Bool)
 | 0,_,_,_,_,_,_,_,_,_,_,_,_,_,_=>none
 | k + 1,x59,x364000,x364001,x364002,x365000,x365001,x365002,x366000,x366001,x366002,x366003,x366004,x368000,x368001=>if x59=true then (some false) else (if x366002=true then (if 0 < (x368000.length:Int) then (if 0≤(rd x368000 0) then (if (rd x368000 0) < (x364002.length:Int) then (if 0≤x368001 then (if x368001 < (x364002.length:Int) then (impl_axiomsOK.j3 k ((rd x364002 (rd x368000 0)) != (rd x364002 x368001)) x364000 x364001 x364002 x365000 x365001 x365002 x366000 x366001 x366002 x366003 x366004 x368000 x368001) else (none)) else (none)) else (none)) else (none)) else (none)) else (if x366004=0 then (impl_axiomsOK.j3 k false x364000 x364001 x364002 x365000 x365001 x365002 x366000 x366001 x366002 x366003 x366004 x368000 x368001) else (if 0 < (x368000.length:Int) then (if 0≤(rd x368000 0) then (if (rd x368000 0) < (x364002.length:Int) then (if 0≤x368001 then (if x368001 < (x364002.length:Int) then (impl_axiomsOK.j3 k ((rd x364002 (rd x368000 0)) != (rd x364002 x368001)) x364000 x364001 x364002 x365000 x365001 x365002 x366000 x366001 x366002 x366003 x366004 x368000 x368001) else (none)) else (none)) else (none)) else (none)) else (none))))
def impl_axiomsOK.j3:Nat→Bool→List Int→List Int→List Int→List ByteArray→List (S89)→List (S50)→ByteArray→List (S68)→Bool→Bool→Int→List Int→Int→Option (Bool)
 | 0,_,_,_,_,_,_,_,_,_,_,_,_,_,_=>none
 | k + 1,x83,x364000,x364001,x364002,x365000,x365001,x365002,x366000,x366001,x366002,x366003,x366004,x368000,x368001=>if x83=true then (some false) else (if x366004=0 then (some true) else (if 0≤(wrap64 (x366004 - 1)) then (if (wrap64 (x366004 - 1)) < (x365002.length:Int) then (if 0 < (((rd_T50 x365002 (wrap64 (x366004 - 1))).f1).length:Int) then (if (((rd_T68 ((rd_T50 x365002 (wrap64 (x366004 - 1))).f1) 0).f0).length:Int)=0 then (if 0≤((rd_T68 ((rd_T50 x365002 (wrap64 (x366004 - 1))).f1) 0).f1) then (if ((rd_T68 ((rd_T50 x365002 (wrap64 (x366004 - 1))).f1) 0).f1) < (x364002.length:Int) then (if 0≤x368001 then (if x368001 < (x364002.length:Int) then (some ((rd x364002 ((rd_T68 ((rd_T50 x365002 (wrap64 (x366004 - 1))).f1) 0).f1)) == (rd x364002 x368001))) else (none)) else (none)) else (none)) else (none)) else (some false)) else (none)) else (none)) else (none)))
end
def impl_axiomsOK.f (k:Nat) (l0_0:List Int) (l0_1:List Int) (l0_2:List Int) (l1_0:List ByteArray) (l1_1:List (S89)) (l1_2:List (S50)) (a2_0:ByteArray) (l2_1:List (S68)) (a2_2:Bool) (a2_3:Bool) (a2_4:Int):Option (Bool):=if a2_4 < 0 then (impl_axiomsOK.j0 k true l0_0 l0_1 l0_2 l1_0 l1_1 l1_2 a2_0 l2_1 a2_2 a2_3 a2_4) else (impl_axiomsOK.j0 k (decide (a2_4 > (l1_2.length:Int))) l0_0 l0_1 l0_2 l1_0 l1_1 l1_2 a2_0 l2_1 a2_2 a2_3 a2_4)
set_option maxHeartbeats 8000000 in
set_option maxRecDepth 100000 in
theorem impl_axiomsOK.calls (k:Nat) (A0_0:Option Addr) (c0_0:Nat) (l0_0:List Int) (A0_1:Option Addr) (c0_1:Nat) (l0_1:List Int) (A0_2:Option Addr) (c0_2:Nat) (l0_2:List Int) (A1_0:Option Addr) (c1_0:Nat) (l1_0:List ByteArray) (A1_1:Option Addr) (c1_1:Nat) (l1_1:List (S89)) (A1_2:Option Addr) (c1_2:Nat) (l1_2:List (S50)) (a2_0:ByteArray) (A2_1:Option Addr) (c2_1:Nat) (l2_1:List (S68)) (a2_2:Bool) (a2_3:Bool) (a2_4:Int) (r:Bool) (w:World) (hr0_0:Kd.C (Kd.int .i64) w A0_0 l0_0.length l0_0) (hc0_0:l0_0.length≤c0_0) (hr0_1:Kd.C (Kd.int .i64) w A0_1 l0_1.length l0_1) (hc0_1:l0_1.length≤c0_1) (hr0_2:Kd.C (Kd.int .i64) w A0_2 l0_2.length l0_2) (hc0_2:l0_2.length≤c0_2) (hr1_0:Kd.C Kd.string w A1_0 l1_0.length l1_0) (hc1_0:l1_0.length≤c1_0) (hr1_1:Kd.C k89 w A1_1 l1_1.length l1_1) (hc1_1:l1_1.length≤c1_1) (hr1_2:Kd.C k50 w A1_2 l1_2.length l1_2) (hc1_2:l1_2.length≤c1_2) (hr2_1:Kd.C k68 w A2_1 l2_1.length l2_1) (hc2_1:l2_1.length≤c2_1) (h:impl_axiomsOK.f k l0_0 l0_1 l0_2 l1_0 l1_1 l1_2 a2_0 l2_1 a2_2 a2_3 a2_4=some r) :
  Calls Try.prog 32 #[.agg #[.slice A0_0 l0_0.length c0_0,.slice A0_1 l0_1.length c0_1,.slice A0_2 l0_2.length c0_2],.agg #[.slice A1_0 l1_0.length c1_0,.slice A1_1 l1_1.length c1_1,.slice A1_2 l1_2.length c1_2],.agg #[.string a2_0,.slice A2_1 l2_1.length c2_1,.bool a2_2,.bool a2_3,.int .i64 a2_4]] w fun e w'=>e=.returned (.bool r)∧Below w.heap.size w w':=by
 have hu57:=Try.underlying57
 have hu36:=Try.underlying36
 have hu50:=Try.underlying50
 have hu68:=Try.underlying68
 have o0:=Aside0.mk hr0_0
 have o1:=Aside0.mk hc0_0
 clear hr0_0 hc0_0
 have o2:=Aside0.mk hr0_1
 have o3:=Aside0.mk hc0_1
 clear hr0_1 hc0_1
 have D9:=Aside0.mk hr0_2
 have o4:=Aside0.mk hc0_2
 clear hr0_2 hc0_2
 have o5:=Aside0.mk hr1_0
 have o6:=Aside0.mk hc1_0
 clear hr1_0 hc1_0
 have o7:=Aside0.mk hr1_1
 have o8:=Aside0.mk hc1_1
 clear hr1_1 hc1_1
 have N4:=Aside0.mk hr1_2
 have o9:=Aside0.mk hc1_2
 clear hr1_2 hc1_2
 have Q3:=Aside0.mk hr2_1
 have p0:=Aside0.mk hc2_1
 clear hr2_1 hc2_1
 have HB:=Aside0.mk (Below.refl w.heap.size w)
 have H:(if a2_4 < 0 then (impl_axiomsOK.j0 k true l0_0 l0_1 l0_2 l1_0 l1_1 l1_2 a2_0 l2_1 a2_2 a2_3 a2_4) else (impl_axiomsOK.j0 k (decide (a2_4 > (l1_2.length:Int))) l0_0 l0_1 l0_2 l1_0 l1_1 l1_2 a2_0 l2_1 a2_2 a2_3 a2_4))=some r:=h
 clear h
 have O2:=Aside0.mk H
 clear H
 go_enter Try.func32,Try.ntmps32
 go_upto_region 1 with (first | ((with_reducible refine gate_dst (N:=3) rfl ?_);(try (refine gate_guard (by rfl) ?_;dsimp only));refine bx 3 rfl #[.slice A0_0 l0_0.length c0_0,.slice A0_1 l0_1.length c0_1,.slice A0_2 l0_2.length c0_2] 57 ?_;intro G2 hg w5 hbox hb;have A0:=Aside0.mk (hbox);have Q4:=hZ HB hg;have Q5:=hZ HB hg;replace HB:=hS HB hb;clear hb hbox hg) | ((with_reducible refine gate_dst (N:=4) rfl ?_);(try (refine gate_guard (by rfl) ?_;dsimp only));refine bx 4 rfl #[.slice A1_0 l1_0.length c1_0,.slice A1_1 l1_1.length c1_1,.slice A1_2 l1_2.length c1_2] 36 ?_;intro G3 hg w6 hbox hb;have A2:=Aside0.mk (hbox);have Q6:=hZ HB hg;have Q7:=hZ HB hg;replace HB:=hS HB hb;have C2:=nL A0 hg;have C3:=nG A0 hg;replace A0:=bB A0 hb;clear hb hbox hg) | ((with_reducible refine gate_dst (N:=5) rfl ?_);(try (refine gate_guard (by rfl) ?_;dsimp only));refine bx 5 rfl #[.string a2_0,.slice A2_1 l2_1.length c2_1,.bool a2_2,.bool a2_3,.int .i64 a2_4] 50 ?_;intro G4 hg w7 hbox hb;have A1:=Aside0.mk (hbox);have Q8:=hZ HB hg;have Q9:=hZ HB hg;replace HB:=hS HB hb;have A6:=nL A0 hg;have A7:=nG A0 hg;replace A0:=bB A0 hb;have A8:=nL A2 hg;have A9:=nG A2 hg;replace A2:=bB A2 hb;clear hb hbox hg))
 repeat (go_quiet (fail);go_upto_region 1 with (first | ((with_reducible refine gate_dst (N:=3) rfl ?_);(try (refine gate_guard (by rfl) ?_;dsimp only));refine bx 3 rfl #[.slice A0_0 l0_0.length c0_0,.slice A0_1 l0_1.length c0_1,.slice A0_2 l0_2.length c0_2] 57 ?_;intro G2 hg w5 hbox hb;have A0:=Aside0.mk (hbox);have Q4:=hZ HB hg;have Q5:=hZ HB hg;replace HB:=hS HB hb;clear hb hbox hg) | ((with_reducible refine gate_dst (N:=4) rfl ?_);(try (refine gate_guard (by rfl) ?_;dsimp only));refine bx 4 rfl #[.slice A1_0 l1_0.length c1_0,.slice A1_1 l1_1.length c1_1,.slice A1_2 l1_2.length c1_2] 36 ?_;intro G3 hg w6 hbox hb;have A2:=Aside0.mk (hbox);have Q6:=hZ HB hg;have Q7:=hZ HB hg;replace HB:=hS HB hb;have C2:=nL A0 hg;have C3:=nG A0 hg;replace A0:=bB A0 hb;clear hb hbox hg) | ((with_reducible refine gate_dst (N:=5) rfl ?_);(try (refine gate_guard (by rfl) ?_;dsimp only));refine bx 5 rfl #[.string a2_0,.slice A2_1 l2_1.length c2_1,.bool a2_2,.bool a2_3,.int .i64 a2_4] 50 ?_;intro G4 hg w7 hbox hb;have A1:=Aside0.mk (hbox);have Q8:=hZ HB hg;have Q9:=hZ HB hg;replace HB:=hS HB hb;have A6:=nL A0 hg;have A7:=nG A0 hg;replace A0:=bB A0 hb;have A8:=nL A2 hg;have A9:=nG A2 hg;replace A2:=bB A2 hb;clear hb hbox hg)))
 (try simp only [Act.put,List.setIfInBounds_toArray,List.set_cons_zero,List.set_cons_succ])
 go_cut [19] (fun v19 wc=> ∃ (kq:Nat) (x19_3:Bool),v19=.bool x19_3∧Aside0 (impl_axiomsOK.j0 kq x19_3 l0_0 l0_1 l0_2 l1_0 l1_1 l1_2 a2_0 l2_1 a2_2 a2_3 a2_4=some r)∧Aside0 (kq≤k)∧Aside0 (wc.heap[G2]? = some (.cells #[(.slice A0_0 l0_0.length c0_0),(.slice A0_1 l0_1.length c0_1),(.slice A0_2 l0_2.length c0_2)] 57 (0,0)))∧Aside0 (wc.heap[G3]? = some (.cells #[(.slice A1_0 l1_0.length c1_0),(.slice A1_1 l1_1.length c1_1),(.slice A1_2 l1_2.length c1_2)] 36 (0,0)))∧Aside0 (wc.heap[G4]? = some (.cells #[.string a2_0,(.slice A2_1 l2_1.length c2_1),.bool a2_2,.bool a2_3,.int .i64 a2_4] 50 (0,0)))∧Aside0 (Below w.heap.size w wc))
 case first=>
  have H:=O2.out
  clear O2
  by_cases c8:a2_4 < 0
  ·rw [if_pos c8] at H
   have H2:=decide_eq_true c8
   clear c8
   (first | rw [H2] | (simp only [i64_w,i32_w];rw [H2]) | skip)
   have H':=Aside0.mk H
   clear H
   have AA6:=A7.out
   have AA7:=A6.out
   have p1:=A9.out
   have p2:=A8.out
   obtain ⟨X3,X4,X5,X6,X7,X8,X9,Y0,Y1,Y2⟩:=cf5 A1
   go_wp2
   repeat (go_quiet (fail);try go_wp2)
   go_meet
   case rel=>exact ⟨_,(true),impl_axiomsOK.a0,H',⟨by first | omega | exact Nat.le_refl _⟩,⟨vB A0⟩,⟨vB A2⟩,⟨vB A1⟩,⟨hV HB⟩⟩
  ·rw [if_neg c8] at H
   have H2:=decide_eq_false c8
   clear c8
   (first | rw [H2] | (simp only [i64_w,i32_w];rw [H2]) | skip)
   have H':=Aside0.mk H
   clear H
   have p3:=A7.out
   have p4:=A6.out
   have p5:=A9.out
   have p6:=A8.out
   obtain ⟨Y3,Y4,Y5,Y6,Y7,Y8,Y9,Z0,Z1,Z2⟩:=cf5 A1
   have p7:=C3.out
   have p8:=C2.out
   obtain ⟨Z3,Z4,Z5,Z6,Z7,Z8⟩:=cf3 A2
   go_wp2
   repeat (go_quiet (fail);try go_wp2)
   go_meet
   case rel=>exact ⟨_,(decide (a2_4 > (l1_2.length:Int))),impl_axiomsOK.a0,H',⟨by first | omega | exact Nat.le_refl _⟩,⟨vB A0⟩,⟨vB A2⟩,⟨vB A1⟩,⟨hV HB⟩⟩
 clear O2
 obtain ⟨kq,x19_3,rfl,HA,HJ3,A0,A2,A1,HB⟩:=hcut
 cases kq with
 | zero=>exact absurd HA.out (by simp [impl_axiomsOK.j0])
 | succ kj3=>
  have H:=HA.out
  clear HA
  simp only [impl_axiomsOK.j0] at H
  by_cases c17:x19_3=true
  ·subst c17
   rw [if_pos rfl] at H
   obtain rfl:=Option.some.inj H
   go_wp2
   repeat (go_quiet (fail);try go_wp2)
   go_ret
   exact ⟨impl_axiomsOK.a1,hV HB⟩
  replace c17:=Bool.eq_false_iff.mpr c17
  subst c17
  rw [if_neg (show ¬ (false=true) by decide)] at H
  have J3:=Aside0.mk H
  clear H
  go_upto_region 3 with (fail)
  repeat (go_quiet (fail);go_upto_region 3 with (fail))
  go_cut [32] (fun v32 wc=> ∃ (kq:Nat) (x32_17:Bool),v32=.bool x32_17∧Aside0 (impl_axiomsOK.j1 kq x32_17 l0_0 l0_1 l0_2 l1_0 l1_1 l1_2 a2_0 l2_1 a2_2 a2_3 a2_4=some r)∧Aside0 (kq≤kj3)∧Aside0 (wc.heap[G2]? = some (.cells #[(.slice A0_0 l0_0.length c0_0),(.slice A0_1 l0_1.length c0_1),(.slice A0_2 l0_2.length c0_2)] 57 (0,0)))∧Aside0 (wc.heap[G3]? = some (.cells #[(.slice A1_0 l1_0.length c1_0),(.slice A1_1 l1_1.length c1_1),(.slice A1_2 l1_2.length c1_2)] 36 (0,0)))∧Aside0 (wc.heap[G4]? = some (.cells #[.string a2_0,(.slice A2_1 l2_1.length c2_1),.bool a2_2,.bool a2_3,.int .i64 a2_4] 50 (0,0)))∧Aside0 (Below w.heap.size w wc))
  case first=>
   have H:=J3.out
   clear J3
   by_cases c19:a2_2=true
   ·subst c19
    rw [if_pos rfl] at H
    have H':=Aside0.mk H
    clear H
    have p9:=A7.out
    have q0:=A6.out
    have q1:=A9.out
    have q2:=A8.out
    obtain ⟨Z9,b0,b1,b2,b3,b4,b5,b6,b7,b8⟩:=cf5 A1
    go_wp2
    repeat (go_quiet (fail);try go_wp2)
    go_meet
    case rel=>exact ⟨_,(false),impl_axiomsOK.a0,H',⟨by have:=HJ3.out;first | omega | exact Nat.le_refl _⟩,⟨vB A0⟩,⟨vB A2⟩,⟨vB A1⟩,⟨hV HB⟩⟩
   ·replace c19:=Bool.eq_false_iff.mpr c19
    subst c19
    rw [if_neg (show ¬ (false=true) by decide)] at H
    by_cases c23:a2_3=true
    ·subst c23
     rw [if_pos rfl] at H
     have H':=Aside0.mk H
     clear H
     have q3:=A7.out
     have q4:=A6.out
     have q5:=A9.out
     have q6:=A8.out
     obtain ⟨b9,c0,c1,c2,c3,c4,c5,c6,c7,c9⟩:=cf5 A1
     go_wp2
     repeat (go_quiet (fail);try go_wp2)
     go_meet
     case rel=>exact ⟨_,(false),impl_axiomsOK.a0,H',⟨by have:=HJ3.out;first | omega | exact Nat.le_refl _⟩,⟨vB A0⟩,⟨vB A2⟩,⟨vB A1⟩,⟨hV HB⟩⟩
    ·replace c23:=Bool.eq_false_iff.mpr c23
     subst c23
     rw [if_neg (show ¬ (false=true) by decide)] at H
     have H':=Aside0.mk H
     clear H
     have q7:=A7.out
     have q8:=A6.out
     have q9:=A9.out
     have r0:=A8.out
     obtain ⟨d0,d1,d2,d3,d4,d5,d6,d7,d8,d9⟩:=cf5 A1
     go_wp2
     repeat (go_quiet (fail);try go_wp2)
     go_meet
     case rel=>exact ⟨_,((a2_4 == 0)),impl_axiomsOK.a0,H',⟨by have:=HJ3.out;first | omega | exact Nat.le_refl _⟩,⟨vB A0⟩,⟨vB A2⟩,⟨vB A1⟩,⟨hV HB⟩⟩
  clear J3
  try clear c17
  obtain ⟨kq,x32_17,rfl,HA,HJ17,A0,A2,A1,HB⟩:=hcut
  cases kq with
  | zero=>exact absurd HA.out (by simp [impl_axiomsOK.j1])
  | succ kj17=>
   have H:=HA.out
   clear HA
   simp only [impl_axiomsOK.j1] at H
   by_cases c30:x32_17=true
   ·subst c30
    rw [if_pos rfl] at H
    obtain rfl:=Option.some.inj H
    go_wp2
    repeat (go_quiet (fail);try go_wp2)
    go_ret
    exact ⟨impl_axiomsOK.a1,hV HB⟩
   replace c30:=Bool.eq_false_iff.mpr c30
   subst c30
   rw [if_neg (show ¬ (false=true) by decide)] at H
   by_cases c31:0 < (l2_1.length:Int)
   rotate_left
   ·rw [if_neg c31] at H
    exact absurd H (by simp)

   rw [if_pos c31] at H
   have N5:=decide_eq_true c31
   have N6:decide (0 < l2_1.length)=true:=decide_eq_true (by omega)
   clear c31
   have J4:=Aside0.mk H
   clear H
   have r1:=A7.out
   have r2:=A6.out
   have r3:=A9.out
   have r4:=A8.out
   obtain ⟨H5,H6,H7,H8,H9,I0,I1,I2,I3,I4⟩:=cf5 A1
   have H3:0≤(0:Int):=(by omega)
   have H4:0 < (l2_1.length:Int):=dT
   obtain ⟨N7,A366_0,c366_0,e366,D7,D8,I5,I6⟩:=at_T68 Q3.out 0 H3 H4
   cases e366
   have r5:(0 < l2_1.length)=True:=eq_true (by omega)
   (try rw [show ((0:Int)).toNat=0 from rfl] at D7)
   (try rw [show 0 * 2=0 from rfl] at D7)
   (try rw [Addr.add_zero'] at D7)
   (try rw [show ((0:Int)).toNat=0 from rfl] at D8)
   (try rw [show 0 * 2=0 from rfl] at D8)
   (try rw [Addr.add_zero'] at D8)
   replace D7:=xc HB D7
   replace D8:=xc HB D8
   have F1:=Aside0.mk I6
   have e0:=Aside0.mk I5
   clear I6 I5
   replace H3:=eq_true H3
   replace H4:=eq_true H4
   go_upto_region 6 with (first | ((with_reducible refine gate_dst (N:=7) rfl ?_);(try (refine gate_guard (by rfl) ?_;dsimp only));refine bx 7 rfl #[.slice none 0 0,.int .i64 0] 68 ?_;intro A4 hg w36 hbox hb;have A3:=Aside0.mk (hbox);have E0:=hZ HB hg;have R0:=hZ HB hg;replace HB:=hS HB hb;have B4:=nL A0 hg;have B5:=nG A0 hg;replace A0:=bB A0 hb;have B6:=nL A2 hg;have B7:=nG A2 hg;replace A2:=bB A2 hb;have B2:=nL A1 hg;have B3:=nG A1 hg;replace A1:=bB A1 hb;clear hb hbox hg;have R1:=B5.out;have R2:=B4.out;have R3:=B7.out;have R4:=B6.out;have R5:=B3.out;have R6:=B2.out;obtain ⟨G7,G8,G9,H0⟩:=cf2 A3))
   repeat (go_quiet (fail);go_upto_region 6 with (first | ((with_reducible refine gate_dst (N:=7) rfl ?_);(try (refine gate_guard (by rfl) ?_;dsimp only));refine bx 7 rfl #[.slice none 0 0,.int .i64 0] 68 ?_;intro A4 hg w36 hbox hb;have A3:=Aside0.mk (hbox);have E0:=hZ HB hg;have R0:=hZ HB hg;replace HB:=hS HB hb;have B4:=nL A0 hg;have B5:=nG A0 hg;replace A0:=bB A0 hb;have B6:=nL A2 hg;have B7:=nG A2 hg;replace A2:=bB A2 hb;have B2:=nL A1 hg;have B3:=nG A1 hg;replace A1:=bB A1 hb;clear hb hbox hg;have R1:=B5.out;have R2:=B4.out;have R3:=B7.out;have R4:=B6.out;have R5:=B3.out;have R6:=B2.out;obtain ⟨G7,G8,G9,H0⟩:=cf2 A3)))
   (try simp only [Act.put,List.setIfInBounds_toArray,List.set_cons_zero,List.set_cons_succ])
   go_cut [59] (fun v59 wc=> ∃ (kq:Nat) (x59_31:Bool),v59=.bool x59_31∧Aside0 (impl_axiomsOK.j2 kq x59_31 l0_0 l0_1 l0_2 l1_0 l1_1 l1_2 a2_0 l2_1 a2_2 a2_3 a2_4 ((rd_T68 l2_1 0).f0) ((rd_T68 l2_1 0).f1)=some r)∧Aside0 (kq≤kj17)∧Aside0 (wc.heap[G2]? = some (.cells #[(.slice A0_0 l0_0.length c0_0),(.slice A0_1 l0_1.length c0_1),(.slice A0_2 l0_2.length c0_2)] 57 (0,0)))∧Aside0 (wc.heap[G3]? = some (.cells #[(.slice A1_0 l1_0.length c1_0),(.slice A1_1 l1_1.length c1_1),(.slice A1_2 l1_2.length c1_2)] 36 (0,0)))∧Aside0 (wc.heap[G4]? = some (.cells #[.string a2_0,(.slice (some N7) l2_1.length c2_1),.bool a2_2,.bool a2_3,.int .i64 a2_4] 50 (0,0)))∧Aside0 (wc.heap[A4]? = some (.cells #[(.slice A366_0 ((rd_T68 l2_1 0).f0).length c366_0),.int .i64 ((rd_T68 l2_1 0).f1)] 68 (0,0)))∧Aside0 (Below w.heap.size w wc))
   case first=>
    have H:=J4.out
    clear J4
    by_cases c41:(((rd_T68 l2_1 0).f0).length:Int)=2
    ·rw [if_pos c41] at H
     have G5:((((rd_T68 l2_1 0).f0).length:Int) == 2)=true:=beq_iff_eq.mpr c41
     have R7:((((rd_T68 l2_1 0).f0).length:Int) != 2)=false:=bne_eq_false_iff_eq.mpr c41
     clear c41
     (first | rw [G5] | (simp only [i64_w,i32_w];rw [G5]) | skip)
     by_cases c42:0 < (((rd_T68 l2_1 0).f0).length:Int)
     rotate_left
     ·rw [if_neg c42] at H
      exact absurd H (by simp)
     rw [if_pos c42] at H
     have r6:=decide_eq_true c42
     have r7:decide (0 < ((rd_T68 l2_1 0).f0).length)=true:=decide_eq_true (by omega)
     clear c42
     by_cases c43:0≤(rd ((rd_T68 l2_1 0).f0) 0)
     rotate_left
     ·rw [if_neg c43] at H
      exact absurd H (by simp)
     rw [if_pos c43] at H
     have r8:=decide_eq_true c43
     clear c43
     by_cases c44:(rd ((rd_T68 l2_1 0).f0) 0) < (l0_2.length:Int)
     rotate_left
     ·rw [if_neg c44] at H
      exact absurd H (by simp)
     rw [if_pos c44] at H
     have r9:=decide_eq_true c44
     clear c44
     by_cases c45:1 < (((rd_T68 l2_1 0).f0).length:Int)
     rotate_left
     ·rw [if_neg c45] at H
      exact absurd H (by simp)
     rw [if_pos c45] at H
     have s0:=decide_eq_true c45
     have s1:decide (1 < ((rd_T68 l2_1 0).f0).length)=true:=decide_eq_true (by omega)
     clear c45
     by_cases c46:0≤(rd ((rd_T68 l2_1 0).f0) 1)
     rotate_left
     ·rw [if_neg c46] at H
      exact absurd H (by simp)
     rw [if_pos c46] at H
     have s2:=decide_eq_true c46
     clear c46
     by_cases c47:(rd ((rd_T68 l2_1 0).f0) 1) < (l0_2.length:Int)
     rotate_left
     ·rw [if_neg c47] at H
      exact absurd H (by simp)
     rw [if_pos c47] at H
     have s3:=decide_eq_true c47
     clear c47
     have H':=Aside0.mk H
     clear H
     have s4:=B5.out
     have s5:=B4.out
     have s6:=B7.out
     have s7:=B6.out
     have s8:=B3.out
     have s9:=B2.out
     obtain ⟨e1,e2,e3,e4⟩:=cf2 A3
     have t0:=C2.out
     have t1:=C3.out
     have t2:=A6.out
     have t3:=A7.out
     obtain ⟨e5,e6,e7,e8,e9,f2⟩:=cf3 A0
     have J5:0≤(0:Int):=(by omega)
     have J6:0 < (((rd_T68 l2_1 0).f0).length:Int):=dT
     obtain ⟨D2,e368,B8⟩:=Kd.at_int F1.out 0 J5 J6
     cases e368
     have t4:(0 < ((rd_T68 l2_1 0).f0).length)=True:=eq_true (by omega)
     (try rw [show ((0:Int)).toNat=0 from rfl] at B8)
     (try rw [Addr.add_zero'] at B8)
     have hn368_0:D2.block≠A4:=Nat.ne_of_lt (Nat.lt_of_lt_of_le (by have:=World.block_lt_of_cell? _ _ B8;first | rwa [add_block] at this | exact this) E0.out)
     have hn368_1:D2.block≠A4:=Nat.ne_of_lt (Nat.lt_of_lt_of_le (by have:=World.block_lt_of_cell? _ _ B8;first | rwa [add_block] at this | exact this) E0.out)
     replace B8:=xc HB B8
     replace B8:=(cell_far (p:=⟨A4,0,none⟩) (by first | (rw [add_block];exact hn368_0) | (show (Addr.add _ _).block≠_;rw [add_block];exact hn368_0) | exact hn368_0) (.slice (some D2) ((rd_T68 l2_1 0).f0).length c366_0)).trans B8
     replace B8:=(cell_far (p:=⟨A4,1,none⟩) (by first | (rw [add_block];exact hn368_1) | (show (Addr.add _ _).block≠_;rw [add_block];exact hn368_1) | exact hn368_1) (.int .i64 ((rd_T68 l2_1 0).f1))).trans B8
     (try have hy368_0:=fun (n_:Nat)=>(show ((((w36.drewN n_).setCell ⟨A4,0,none⟩ (.slice (some D2) ((rd_T68 l2_1 0).f0).length c366_0)).setCell ⟨A4,1,none⟩ (.int .i64 ((rd_T68 l2_1 0).f1)))).cell? _=some _ from B8))
     clear hn368_0
     clear hn368_1
     replace J5:=eq_true J5
     replace J6:=eq_true J6
     have J7:0≤((rd ((rd_T68 l2_1 0).f0) 0):Int):=dT
     have J8:(rd ((rd_T68 l2_1 0).f0) 0) < (l0_2.length:Int):=dT
     obtain ⟨G6,e369,D3⟩:=Kd.at_int D9.out (rd ((rd_T68 l2_1 0).f0) 0) J7 J8
     cases e369
     have hn369_0:G6.block≠A4:=Nat.ne_of_lt (Nat.lt_of_lt_of_le (by have:=World.block_lt_of_cell? _ _ D3;first | rwa [add_block] at this | exact this) E0.out)
     have hn369_1:G6.block≠A4:=Nat.ne_of_lt (Nat.lt_of_lt_of_le (by have:=World.block_lt_of_cell? _ _ D3;first | rwa [add_block] at this | exact this) E0.out)
     replace D3:=xc HB D3
     replace D3:=(cell_far (p:=⟨A4,0,none⟩) (by first | (rw [add_block];exact hn369_0) | (show (Addr.add _ _).block≠_;rw [add_block];exact hn369_0) | exact hn369_0) (.slice (some D2) ((rd_T68 l2_1 0).f0).length c366_0)).trans D3
     replace D3:=(cell_far (p:=⟨A4,1,none⟩) (by first | (rw [add_block];exact hn369_1) | (show (Addr.add _ _).block≠_;rw [add_block];exact hn369_1) | exact hn369_1) (.int .i64 ((rd_T68 l2_1 0).f1))).trans D3
     (try have hy369_0:=fun (n_:Nat)=>(show ((((w36.drewN n_).setCell ⟨A4,0,none⟩ (.slice (some D2) ((rd_T68 l2_1 0).f0).length c366_0)).setCell ⟨A4,1,none⟩ (.int .i64 ((rd_T68 l2_1 0).f1)))).cell? _=some _ from D3))
     clear hn369_0
     clear hn369_1
     replace J7:=eq_true J7
     replace J8:=eq_true J8
     have J9:0≤(1:Int):=(by omega)
     have K0:1 < (((rd_T68 l2_1 0).f0).length:Int):=dT
     obtain ⟨R8,e370,B9⟩:=Kd.at_int F1.out 1 J9 K0
     obtain rfl:D2=R8:=(by injection e370)
     (try simp only [show (1:Int).toNat=1 from rfl,Nat.reduceMul,Nat.reduceEqDiff,Go.Addr.add,↓reduceIte] at B9)
     have t5:(1 < ((rd_T68 l2_1 0).f0).length)=True:=eq_true (by omega)
     (try rw [show ((1:Int)).toNat=1 from rfl] at B9)
     have hn370_0:D2.block≠A4:=Nat.ne_of_lt (Nat.lt_of_lt_of_le (by have:=World.block_lt_of_cell? _ _ B9;first | rwa [add_block] at this | exact this) E0.out)
     have hn370_1:D2.block≠A4:=Nat.ne_of_lt (Nat.lt_of_lt_of_le (by have:=World.block_lt_of_cell? _ _ B9;first | rwa [add_block] at this | exact this) E0.out)
     replace B9:=xc HB B9
     replace B9:=(cell_far (p:=⟨A4,0,none⟩) (by first | (rw [add_block];exact hn370_0) | (show (Addr.add _ _).block≠_;rw [add_block];exact hn370_0) | exact hn370_0) (.slice (some D2) ((rd_T68 l2_1 0).f0).length c366_0)).trans B9
     replace B9:=(cell_far (p:=⟨A4,1,none⟩) (by first | (rw [add_block];exact hn370_1) | (show (Addr.add _ _).block≠_;rw [add_block];exact hn370_1) | exact hn370_1) (.int .i64 ((rd_T68 l2_1 0).f1))).trans B9
     (try have hy370_0:=fun (n_:Nat)=>(show ((((w36.drewN n_).setCell ⟨A4,0,none⟩ (.slice (some D2) ((rd_T68 l2_1 0).f0).length c366_0)).setCell ⟨A4,1,none⟩ (.int .i64 ((rd_T68 l2_1 0).f1)))).cell? _=some _ from B9))
     clear hn370_0
     clear hn370_1
     replace J9:=eq_true J9
     replace K0:=eq_true K0
     have K1:0≤((rd ((rd_T68 l2_1 0).f0) 1):Int):=dT
     have K2:(rd ((rd_T68 l2_1 0).f0) 1) < (l0_2.length:Int):=dT
     obtain ⟨R9,e371,D4⟩:=Kd.at_int D9.out (rd ((rd_T68 l2_1 0).f0) 1) K1 K2
     obtain rfl:G6=R9:=(by injection e371)
     have hn371_0:G6.block≠A4:=Nat.ne_of_lt (Nat.lt_of_lt_of_le (by have:=World.block_lt_of_cell? _ _ D4;first | rwa [add_block] at this | exact this) E0.out)
     have hn371_1:G6.block≠A4:=Nat.ne_of_lt (Nat.lt_of_lt_of_le (by have:=World.block_lt_of_cell? _ _ D4;first | rwa [add_block] at this | exact this) E0.out)
     replace D4:=xc HB D4
     replace D4:=(cell_far (p:=⟨A4,0,none⟩) (by first | (rw [add_block];exact hn371_0) | (show (Addr.add _ _).block≠_;rw [add_block];exact hn371_0) | exact hn371_0) (.slice (some D2) ((rd_T68 l2_1 0).f0).length c366_0)).trans D4
     replace D4:=(cell_far (p:=⟨A4,1,none⟩) (by first | (rw [add_block];exact hn371_1) | (show (Addr.add _ _).block≠_;rw [add_block];exact hn371_1) | exact hn371_1) (.int .i64 ((rd_T68 l2_1 0).f1))).trans D4
     (try have hy371_0:=fun (n_:Nat)=>(show ((((w36.drewN n_).setCell ⟨A4,0,none⟩ (.slice (some D2) ((rd_T68 l2_1 0).f0).length c366_0)).setCell ⟨A4,1,none⟩ (.int .i64 ((rd_T68 l2_1 0).f1)))).cell? _=some _ from D4))
     clear hn371_0
     clear hn371_1
     replace K1:=eq_true K1
     replace K2:=eq_true K2
     go_wp2
     repeat (go_quiet (fail);try go_wp2)
     go_meet
     case rel=>exact ⟨_,(((rd l0_2 (rd ((rd_T68 l2_1 0).f0) 0)) != (rd l0_2 (rd ((rd_T68 l2_1 0).f0) 1)))),impl_axiomsOK.a0,H',⟨by have:=HJ3.out;have:=HJ17.out;first | omega | exact Nat.le_refl _⟩,⟨vB A0⟩,⟨vB A2⟩,⟨vB A1⟩,⟨vP A3⟩,⟨hV HB⟩⟩
    ·rw [if_neg c41] at H
     have G5:((((rd_T68 l2_1 0).f0).length:Int) == 2)=false:=beq_eq_false_iff_ne.mpr c41
     have R7:((((rd_T68 l2_1 0).f0).length:Int) != 2)=true:=bne_iff_ne.mpr c41
     (first | rw [G5] | (simp only [i64_w,i32_w];rw [G5]) | skip)
     have H':=Aside0.mk H
     clear H
     have t6:=B5.out
     have t7:=B4.out
     have t8:=B7.out
     have t9:=B6.out
     have u0:=B3.out
     have u1:=B2.out
     obtain ⟨f3,f4,f5,f6⟩:=cf2 A3
     go_wp2
     repeat (go_quiet (fail);try go_wp2)
     go_meet
     case rel=>exact ⟨_,(true),impl_axiomsOK.a0,H',⟨by have:=HJ3.out;have:=HJ17.out;first | omega | exact Nat.le_refl _⟩,⟨vB A0⟩,⟨vB A2⟩,⟨vB A1⟩,⟨vP A3⟩,⟨hV HB⟩⟩
   clear J4
   try clear c17
   try clear c30
   try clear c31
   try clear N5
   try clear N6
   try clear H5
   try clear H7
   try clear H9
   try clear I1
   try clear I3
   try clear G7
   try clear G9
   try clear H6
   try clear H8
   try clear I0
   try clear I2
   try clear I4
   try clear G8
   try clear H0
   try clear D7
   try clear D8
   try clear H3
   try clear H4
   obtain ⟨kq,x59_31,rfl,HA,HJ31,A0,A2,A1,A3,HB⟩:=hcut
   cases kq with
   | zero=>exact absurd HA.out (by simp [impl_axiomsOK.j2])
   | succ kj31=>
    have H:=HA.out
    clear HA
    simp only [impl_axiomsOK.j2] at H
    by_cases c59:x59_31=true
    ·subst c59
     rw [if_pos rfl] at H
     obtain rfl:=Option.some.inj H
     go_wp2
     repeat (go_quiet (fail);try go_wp2)
     go_ret
     exact ⟨impl_axiomsOK.a1,hV HB⟩
    replace c59:=Bool.eq_false_iff.mpr c59
    subst c59
    rw [if_neg (show ¬ (false=true) by decide)] at H
    have K3:=Aside0.mk H
    clear H
    go_upto_region 8 with (fail)
    repeat (go_quiet (fail);go_upto_region 8 with (fail))
    go_cut [83] (fun v83 wc=> ∃ (kq:Nat) (x83_59:Bool),v83=.bool x83_59∧Aside0 (impl_axiomsOK.j3 kq x83_59 l0_0 l0_1 l0_2 l1_0 l1_1 l1_2 a2_0 l2_1 a2_2 a2_3 a2_4 ((rd_T68 l2_1 0).f0) ((rd_T68 l2_1 0).f1)=some r)∧Aside0 (kq≤kj31)∧Aside0 (wc.heap[G2]? = some (.cells #[(.slice A0_0 l0_0.length c0_0),(.slice A0_1 l0_1.length c0_1),(.slice A0_2 l0_2.length c0_2)] 57 (0,0)))∧Aside0 (wc.heap[G3]? = some (.cells #[(.slice A1_0 l1_0.length c1_0),(.slice A1_1 l1_1.length c1_1),(.slice A1_2 l1_2.length c1_2)] 36 (0,0)))∧Aside0 (wc.heap[G4]? = some (.cells #[.string a2_0,(.slice (some N7) l2_1.length c2_1),.bool a2_2,.bool a2_3,.int .i64 a2_4] 50 (0,0)))∧Aside0 (wc.heap[A4]? = some (.cells #[(.slice A366_0 ((rd_T68 l2_1 0).f0).length c366_0),.int .i64 ((rd_T68 l2_1 0).f1)] 68 (0,0)))∧Aside0 (Below w.heap.size w wc))
    case first=>
     have H:=K3.out
     clear K3
     by_cases c61:a2_2=true
     ·subst c61
      rw [if_pos rfl] at H
      by_cases c62:0 < (((rd_T68 l2_1 0).f0).length:Int)
      rotate_left
      ·rw [if_neg c62] at H
       exact absurd H (by simp)
      rw [if_pos c62] at H
      have N8:=decide_eq_true c62
      have u2:decide (0 < ((rd_T68 l2_1 0).f0).length)=true:=decide_eq_true (by omega)
      clear c62
      (first | rw [N8] | (simp only [i64_w,i32_w];rw [N8]) | skip)
      by_cases c63:0≤(rd ((rd_T68 l2_1 0).f0) 0)
      rotate_left
      ·rw [if_neg c63] at H
       exact absurd H (by simp)
      rw [if_pos c63] at H
      have u3:=decide_eq_true c63
      clear c63
      by_cases c64:(rd ((rd_T68 l2_1 0).f0) 0) < (l0_2.length:Int)
      rotate_left
      ·rw [if_neg c64] at H
       exact absurd H (by simp)
      rw [if_pos c64] at H
      have u4:=decide_eq_true c64
      clear c64
      by_cases c65:0≤((rd_T68 l2_1 0).f1)
      rotate_left
      ·rw [if_neg c65] at H
       exact absurd H (by simp)
      rw [if_pos c65] at H
      have u5:=decide_eq_true c65
      clear c65
      by_cases c66:((rd_T68 l2_1 0).f1) < (l0_2.length:Int)
      rotate_left
      ·rw [if_neg c66] at H
       exact absurd H (by simp)
      rw [if_pos c66] at H
      have u6:=decide_eq_true c66
      clear c66
      have H':=Aside0.mk H
      clear H
      have u7:=A7.out
      have u8:=A6.out
      have u9:=A9.out
      have v0:=A8.out
      have v1:=B2.out
      have v2:=B3.out
      obtain ⟨f7,f8,f9,g0,g1,g2,g3,g4,g5,g6⟩:=cf5 A1
      have v3:=C2.out
      have v4:=C3.out
      have v5:=B4.out
      have v6:=B5.out
      obtain ⟨g7,g8,g9,h0,h1,h2⟩:=cf3 A0
      have v7:=B7.out
      have v8:=B6.out
      obtain ⟨h3,h4,h5,h6⟩:=cf2 A3
      have K4:0≤(0:Int):=(by omega)
      have K5:0 < (((rd_T68 l2_1 0).f0).length:Int):=dT
      obtain ⟨v9,e372,F2⟩:=Kd.at_int F1.out 0 K4 K5
      cases e372
      have w0:(0 < ((rd_T68 l2_1 0).f0).length)=True:=eq_true (by omega)
      (try rw [show ((0:Int)).toNat=0 from rfl] at F2)
      (try rw [Addr.add_zero'] at F2)
      replace F2:=xc HB F2
      replace K4:=eq_true K4
      replace K5:=eq_true K5
      have K6:0≤((rd ((rd_T68 l2_1 0).f0) 0):Int):=dT
      have K7:(rd ((rd_T68 l2_1 0).f0) 0) < (l0_2.length:Int):=dT
      obtain ⟨S0,e373,I7⟩:=Kd.at_int D9.out (rd ((rd_T68 l2_1 0).f0) 0) K6 K7
      cases e373
      replace I7:=xc HB I7
      replace K6:=eq_true K6
      replace K7:=eq_true K7
      have K8:0≤(((rd_T68 l2_1 0).f1):Int):=dT
      have K9:((rd_T68 l2_1 0).f1) < (l0_2.length:Int):=dT
      obtain ⟨S1,e374,I8⟩:=Kd.at_int D9.out ((rd_T68 l2_1 0).f1) K8 K9
      obtain rfl:S0=S1:=(by injection e374)
      replace I8:=xc HB I8
      replace K8:=eq_true K8
      replace K9:=eq_true K9
      go_wp2
      repeat (go_quiet (fail);try go_wp2)
      go_meet
      case rel=>exact ⟨_,(((rd l0_2 (rd ((rd_T68 l2_1 0).f0) 0)) != (rd l0_2 ((rd_T68 l2_1 0).f1)))),impl_axiomsOK.a0,H',⟨impl_axiomsOK.a5⟩,⟨vB A0⟩,⟨vB A2⟩,⟨vB A1⟩,⟨vB A3⟩,⟨hV HB⟩⟩
     ·replace c61:=Bool.eq_false_iff.mpr c61
      subst c61
      rw [if_neg (show ¬ (false=true) by decide)] at H
      by_cases c76:a2_4=0
      ·rw [if_pos c76] at H
       have S2:(a2_4 == 0)=true:=beq_iff_eq.mpr c76
       have S3:(a2_4 != 0)=false:=bne_eq_false_iff_eq.mpr c76
       clear c76
       have H':=Aside0.mk H
       clear H
       have w1:=A7.out
       have w2:=A6.out
       have w3:=A9.out
       have w4:=A8.out
       have w8:=B2.out
       have w9:=B3.out
       obtain ⟨h7,h8,h9,i0,i1,i2,i3,i4,i5,i6⟩:=cf5 A1
       go_wp2
       repeat (go_quiet (fail);try go_wp2)
       go_meet
       case rel=>exact ⟨_,(false),impl_axiomsOK.a0,H',⟨impl_axiomsOK.a5⟩,⟨vB A0⟩,⟨vB A2⟩,⟨vB A1⟩,⟨vB A3⟩,⟨hV HB⟩⟩
      ·rw [if_neg c76] at H
       have S2:(a2_4 == 0)=false:=beq_eq_false_iff_ne.mpr c76
       have S3:(a2_4 != 0)=true:=bne_iff_ne.mpr c76
       by_cases c81:0 < (((rd_T68 l2_1 0).f0).length:Int)
       rotate_left
       ·rw [if_neg c81] at H
        exact absurd H (by simp)
       rw [if_pos c81] at H
       have x0:=decide_eq_true c81
       have x1:decide (0 < ((rd_T68 l2_1 0).f0).length)=true:=decide_eq_true (by omega)
       clear c81
       by_cases c82:0≤(rd ((rd_T68 l2_1 0).f0) 0)
       rotate_left
       ·rw [if_neg c82] at H
        exact absurd H (by simp)
       rw [if_pos c82] at H
       have x2:=decide_eq_true c82
       clear c82
       by_cases c83:(rd ((rd_T68 l2_1 0).f0) 0) < (l0_2.length:Int)
       rotate_left
       ·rw [if_neg c83] at H
        exact absurd H (by simp)
       rw [if_pos c83] at H
       have x3:=decide_eq_true c83
       clear c83
       by_cases c84:0≤((rd_T68 l2_1 0).f1)
       rotate_left
       ·rw [if_neg c84] at H
        exact absurd H (by simp)
       rw [if_pos c84] at H
       have x4:=decide_eq_true c84
       clear c84
       by_cases c85:((rd_T68 l2_1 0).f1) < (l0_2.length:Int)
       rotate_left
       ·rw [if_neg c85] at H
        exact absurd H (by simp)
       rw [if_pos c85] at H
       have x5:=decide_eq_true c85
       clear c85
       have H':=Aside0.mk H
       clear H
       have x6:=A7.out
       have x7:=A6.out
       have x8:=A9.out
       have x9:=A8.out
       have z0:=B2.out
       have z1:=B3.out
       obtain ⟨i7,i8,i9,j4,j5,j6,j7,j8,j9,k0⟩:=cf5 A1
       have z2:=C2.out
       have z3:=C3.out
       have z4:=B4.out
       have z5:=B5.out
       obtain ⟨k1,k2,k3,k4,k5,k6⟩:=cf3 A0
       have z6:=B7.out
       have z7:=B6.out
       obtain ⟨k7,k8,k9,l0⟩:=cf2 A3
       have L0:0≤(0:Int):=(by omega)
       have L1:0 < (((rd_T68 l2_1 0).f0).length:Int):=dT
       obtain ⟨z8,e375,F3⟩:=Kd.at_int F1.out 0 L0 L1
       cases e375
       have z9:(0 < ((rd_T68 l2_1 0).f0).length)=True:=eq_true (by omega)
       (try rw [show ((0:Int)).toNat=0 from rfl] at F3)
       (try rw [Addr.add_zero'] at F3)
       replace F3:=xc HB F3
       replace L0:=eq_true L0
       replace L1:=eq_true L1
       have L2:0≤((rd ((rd_T68 l2_1 0).f0) 0):Int):=dT
       have L3:(rd ((rd_T68 l2_1 0).f0) 0) < (l0_2.length:Int):=dT
       obtain ⟨S4,e376,I9⟩:=Kd.at_int D9.out (rd ((rd_T68 l2_1 0).f0) 0) L2 L3
       cases e376
       replace I9:=xc HB I9
       replace L2:=eq_true L2
       replace L3:=eq_true L3
       have L4:0≤(((rd_T68 l2_1 0).f1):Int):=dT
       have L5:((rd_T68 l2_1 0).f1) < (l0_2.length:Int):=dT
       obtain ⟨S5,e377,J0⟩:=Kd.at_int D9.out ((rd_T68 l2_1 0).f1) L4 L5
       obtain rfl:S4=S5:=(by injection e377)
       replace J0:=xc HB J0
       replace L4:=eq_true L4
       replace L5:=eq_true L5
       go_wp2
       repeat (go_quiet (fail);try go_wp2)
       go_meet
       case rel=>exact ⟨_,(((rd l0_2 (rd ((rd_T68 l2_1 0).f0) 0)) != (rd l0_2 ((rd_T68 l2_1 0).f1)))),impl_axiomsOK.a0,H',⟨impl_axiomsOK.a5⟩,⟨vB A0⟩,⟨vB A2⟩,⟨vB A1⟩,⟨vB A3⟩,⟨hV HB⟩⟩
    clear K3
    try clear c17
    try clear c30
    try clear c31
    try clear N5
    try clear N6
    try clear c59
    try clear H5
    try clear H7
    try clear H9
    try clear I1
    try clear I3
    try clear G7
    try clear G9
    try clear H6
    try clear H8
    try clear I0
    try clear I2
    try clear I4
    try clear G8
    try clear H0
    try clear D7
    try clear D8
    try clear H3
    try clear H4
    obtain ⟨kq,x83_59,rfl,HA,HJ59,A0,A2,A1,A3,HB⟩:=hcut
    cases kq with
    | zero=>exact absurd HA.out (by simp [impl_axiomsOK.j3])
    | succ kj59=>
     have H:=HA.out
     clear HA
     simp only [impl_axiomsOK.j3] at H
     by_cases c95:x83_59=true
     ·subst c95
      rw [if_pos rfl] at H
      obtain rfl:=Option.some.inj H
      go_wp2
      repeat (go_quiet (fail);try go_wp2)
      go_ret
      exact ⟨impl_axiomsOK.a1,hV HB⟩
     replace c95:=Bool.eq_false_iff.mpr c95
     subst c95
     rw [if_neg (show ¬ (false=true) by decide)] at H
     by_cases c96:a2_4=0
     ·rw [if_pos c96] at H
      have S6:(a2_4 == 0)=true:=beq_iff_eq.mpr c96
      have S7:(a2_4 != 0)=false:=bne_eq_false_iff_eq.mpr c96
      clear c96
      obtain rfl:=Option.some.inj H
      have AA0:=A7.out
      have AA1:=A6.out
      have AA2:=A9.out
      have AA3:=A8.out
      have AA4:=B2.out
      have AA5:=B3.out
      obtain ⟨T1,T2,T3,T4,T5,T6,T7,T8,T9,U0⟩:=cf5 A1
      go_wp2
      repeat (go_quiet (fail);try go_wp2)
      go_ret
      exact ⟨impl_axiomsOK.a1,hV HB⟩
     ·rw [if_neg c96] at H
      have S6:(a2_4 == 0)=false:=beq_eq_false_iff_ne.mpr c96
      have S7:(a2_4 != 0)=true:=bne_iff_ne.mpr c96
      obtain ⟨ji101,hji101⟩:∃ j_:Int,(wrap64 (a2_4 - 1))=j_:=⟨_,rfl⟩
      replace H:(if 0≤(ji101) then (if (ji101) < (l1_2.length:Int) then (if 0 < (((rd_T50 l1_2 (ji101)).f1).length:Int) then (if (((rd_T68 ((rd_T50 l1_2 (ji101)).f1) 0).f0).length:Int)=0 then (if 0≤((rd_T68 ((rd_T50 l1_2 (ji101)).f1) 0).f1) then (if ((rd_T68 ((rd_T50 l1_2 (ji101)).f1) 0).f1) < (l0_2.length:Int) then (if 0≤((rd_T68 l2_1 0).f1) then (if ((rd_T68 l2_1 0).f1) < (l0_2.length:Int) then (some ((rd l0_2 ((rd_T68 ((rd_T50 l1_2 (ji101)).f1) 0).f1)) == (rd l0_2 ((rd_T68 l2_1 0).f1)))) else (none)) else (none)) else (none)) else (none)) else (some false)) else (none)) else (none)) else (none))=some r:=by first | (rw [hji101] at H;exact H) | (simp only [hji101] at H ⊢;exact H)
      have hji101w:(IntKind.i64.wrap (a2_4 - 1))=ji101:=(i64_w _).trans hji101
      by_cases c102:0≤(ji101)
      rotate_left
      ·rw [if_neg c102] at H
       exact absurd H (by simp)
      rw [if_pos c102] at H
      have l1:=decide_eq_true c102
      clear c102
      by_cases c103:(ji101) < (l1_2.length:Int)
      rotate_left
      ·rw [if_neg c103] at H
       exact absurd H (by simp)
      rw [if_pos c103] at H
      have l2:=decide_eq_true c103
      clear c103
      by_cases c104:0 < (((rd_T50 l1_2 (ji101)).f1).length:Int)
      rotate_left
      ·rw [if_neg c104] at H
       exact absurd H (by simp)
      rw [if_pos c104] at H
      have l3:=decide_eq_true c104
      have l4:decide (0 < ((rd_T50 l1_2 (ji101)).f1).length)=true:=decide_eq_true (by omega)
      clear c104
      by_cases c105:(((rd_T68 ((rd_T50 l1_2 (ji101)).f1) 0).f0).length:Int)=0
      ·rw [if_pos c105] at H
       have O3:((((rd_T68 ((rd_T50 l1_2 (ji101)).f1) 0).f0).length:Int) == 0)=true:=beq_iff_eq.mpr c105
       have O4:((((rd_T68 ((rd_T50 l1_2 (ji101)).f1) 0).f0).length:Int) != 0)=false:=bne_eq_false_iff_eq.mpr c105
       clear c105
       by_cases c106:0≤((rd_T68 ((rd_T50 l1_2 (ji101)).f1) 0).f1)
       rotate_left
       ·rw [if_neg c106] at H
        exact absurd H (by simp)
       rw [if_pos c106] at H
       have l5:=decide_eq_true c106
       clear c106
       by_cases c107:((rd_T68 ((rd_T50 l1_2 (ji101)).f1) 0).f1) < (l0_2.length:Int)
       rotate_left
       ·rw [if_neg c107] at H
        exact absurd H (by simp)
       rw [if_pos c107] at H
       have l6:=decide_eq_true c107
       clear c107
       by_cases c108:0≤((rd_T68 l2_1 0).f1)
       rotate_left
       ·rw [if_neg c108] at H
        exact absurd H (by simp)
       rw [if_pos c108] at H
       have l7:=decide_eq_true c108
       clear c108
       by_cases c109:((rd_T68 l2_1 0).f1) < (l0_2.length:Int)
       rotate_left
       ·rw [if_neg c109] at H
        exact absurd H (by simp)
       rw [if_pos c109] at H
       have l8:=decide_eq_true c109
       clear c109
       obtain rfl:=Option.some.inj H
       have l9:=A7.out
       have m0:=A6.out
       have m1:=A9.out
       have m2:=A8.out
       have m3:=B2.out
       have m4:=B3.out
       obtain ⟨U1,U2,U3,U4,U5,U6,U7,U8,U9,V0⟩:=cf5 A1
       have m5:=C3.out
       have m6:=C2.out
       have m7:=B6.out
       have m8:=B7.out
       obtain ⟨V1,V2,V3,V4,V5,V6⟩:=cf3 A2
       have F4:0≤((ji101):Int):=dT
       have F5:(ji101) < (l1_2.length:Int):=dT
       obtain ⟨S8,A378_1,c378_1,e378,E1,E2,E3,E4,E5,E6,E7⟩:=at_T50 N4.out (ji101) F4 F5
       cases e378
       replace E1:=xc HB E1
       replace E2:=xc HB E2
       replace E3:=xc HB E3
       replace E4:=xc HB E4
       replace E5:=xc HB E5
       have H1:=Aside0.mk E7
       have N9:=Aside0.mk E6
       clear E7 E6
       replace F4:=eq_true F4
       replace F5:=eq_true F5
       have F6:0≤(0:Int):=(by omega)
       have F7:0 < (((rd_T50 l1_2 (ji101)).f1).length:Int):=dT
       obtain ⟨S9,A379_0,c379_0,e379,C0,C1,E8,E9⟩:=at_T68 H1.out 0 F6 F7
       cases e379
       have T0:(0 < ((rd_T50 l1_2 (ji101)).f1).length)=True:=eq_true (by omega)
       (try rw [show ((0:Int)).toNat=0 from rfl] at C0)
       (try rw [show 0 * 2=0 from rfl] at C0)
       (try rw [Addr.add_zero'] at C0)
       (try rw [show ((0:Int)).toNat=0 from rfl] at C1)
       (try rw [show 0 * 2=0 from rfl] at C1)
       (try rw [Addr.add_zero'] at C1)
       replace C0:=xc HB C0
       replace C1:=xc HB C1
       have O0:=Aside0.mk E9
       have O1:=Aside0.mk E8
       clear E9 E8
       replace F6:=eq_true F6
       replace F7:=eq_true F7
       go_wp2_with (first | ((with_reducible refine gate_dst (N:=8) rfl ?_);(try (refine gate_guard (by rfl) ?_;dsimp only));refine bx 8 rfl #[.slice none 0 0,.int .i64 0] 68 ?_;intro A5 hg w117 hbox hb;have F0:=Aside0.mk (hbox);have D5:=hZ HB hg;have J1:=hZ HB hg;replace HB:=hS HB hb;have C4:=nL A0 hg;have C5:=nG A0 hg;replace A0:=bB A0 hb;have C6:=nL A2 hg;have C7:=nG A2 hg;replace A2:=bB A2 hb;have C8:=nL A1 hg;have C9:=nG A1 hg;replace A1:=bB A1 hb;have D0:=nL A3 hg;have D1:=nG A3 hg;replace A3:=bB A3 hb;clear hb hbox hg;have O5:=C5.out;have O6:=C4.out;have O7:=C7.out;have O8:=C6.out;have O9:=C9.out;have P0:=C8.out;have P1:=D1.out;have P2:=D0.out;obtain ⟨L6,L7,L8,L9⟩:=cf2 F0;have P3:=B4.out;have P4:=B5.out;obtain ⟨M0,M1,M2,M3,M4,M5⟩:=cf3 A0;have F8:0≤(((rd_T68 ((rd_T50 l1_2 (ji101)).f1) 0).f1):Int):=dT;have F9:((rd_T68 ((rd_T50 l1_2 (ji101)).f1) 0).f1) < (l0_2.length:Int):=dT;obtain ⟨D6,e381,B0⟩:=Kd.at_int D9.out ((rd_T68 ((rd_T50 l1_2 (ji101)).f1) 0).f1) F8 F9;cases e381;have hn381_0:D6.block≠A5:=Nat.ne_of_lt (Nat.lt_of_lt_of_le impl_axiomsOK.a2 D5.out);have hn381_1:D6.block≠A5:=Nat.ne_of_lt (Nat.lt_of_lt_of_le impl_axiomsOK.a2 D5.out);replace B0:=xc HB B0;replace B0:=(cell_far (p:=⟨A5,0,none⟩) (by first | (rw [add_block];exact hn381_0) | (show (Addr.add _ _).block≠_;rw [add_block];exact hn381_0) | exact hn381_0) (.slice A379_0 ((rd_T68 ((rd_T50 l1_2 (ji101)).f1) 0).f0).length c379_0)).trans B0;replace B0:=(cell_far (p:=⟨A5,1,none⟩) (by first | (rw [add_block];exact hn381_1) | (show (Addr.add _ _).block≠_;rw [add_block];exact hn381_1) | exact hn381_1) (.int .i64 ((rd_T68 ((rd_T50 l1_2 (ji101)).f1) 0).f1))).trans B0;(try have hy381_0:=fun (n_:Nat)=>(show ((((w117.drewN n_).setCell ⟨A5,0,none⟩ (.slice A379_0 ((rd_T68 ((rd_T50 l1_2 (ji101)).f1) 0).f0).length c379_0)).setCell ⟨A5,1,none⟩ (.int .i64 ((rd_T68 ((rd_T50 l1_2 (ji101)).f1) 0).f1)))).cell? _=some _ from B0));clear hn381_0;clear hn381_1;replace F8:=eq_true F8;replace F9:=eq_true F9;obtain ⟨M6,M7,M8,M9⟩:=cf2 A3;have G0:0≤(((rd_T68 l2_1 0).f1):Int):=dT;have G1:((rd_T68 l2_1 0).f1) < (l0_2.length:Int):=dT;obtain ⟨J2,e382,B1⟩:=Kd.at_int D9.out ((rd_T68 l2_1 0).f1) G0 G1;obtain rfl:D6=J2:=(by injection e382);have hn382_0:D6.block≠A5:=Nat.ne_of_lt (Nat.lt_of_lt_of_le impl_axiomsOK.a3 D5.out);have hn382_1:D6.block≠A5:=Nat.ne_of_lt (Nat.lt_of_lt_of_le impl_axiomsOK.a3 D5.out);replace B1:=xc HB B1;replace B1:=(cell_far (p:=⟨A5,0,none⟩) (by first | (rw [add_block];exact hn382_0) | (show (Addr.add _ _).block≠_;rw [add_block];exact hn382_0) | exact hn382_0) (.slice A379_0 ((rd_T68 ((rd_T50 l1_2 (ji101)).f1) 0).f0).length c379_0)).trans B1;replace B1:=(cell_far (p:=⟨A5,1,none⟩) (by first | (rw [add_block];exact hn382_1) | (show (Addr.add _ _).block≠_;rw [add_block];exact hn382_1) | exact hn382_1) (.int .i64 ((rd_T68 ((rd_T50 l1_2 (ji101)).f1) 0).f1))).trans B1;(try have hy382_0:=fun (n_:Nat)=>(show ((((w117.drewN n_).setCell ⟨A5,0,none⟩ (.slice A379_0 ((rd_T68 ((rd_T50 l1_2 (ji101)).f1) 0).f0).length c379_0)).setCell ⟨A5,1,none⟩ (.int .i64 ((rd_T68 ((rd_T50 l1_2 (ji101)).f1) 0).f1)))).cell? _=some _ from B1));clear hn382_0;clear hn382_1;replace G0:=eq_true G0;replace G1:=eq_true G1))
       repeat (go_quiet (fail);try go_wp2_with (first | ((with_reducible refine gate_dst (N:=8) rfl ?_);(try (refine gate_guard (by rfl) ?_;dsimp only));refine bx 8 rfl #[.slice none 0 0,.int .i64 0] 68 ?_;intro A5 hg w117 hbox hb;have F0:=Aside0.mk (hbox);have D5:=hZ HB hg;have J1:=hZ HB hg;replace HB:=hS HB hb;have C4:=nL A0 hg;have C5:=nG A0 hg;replace A0:=bB A0 hb;have C6:=nL A2 hg;have C7:=nG A2 hg;replace A2:=bB A2 hb;have C8:=nL A1 hg;have C9:=nG A1 hg;replace A1:=bB A1 hb;have D0:=nL A3 hg;have D1:=nG A3 hg;replace A3:=bB A3 hb;clear hb hbox hg;have O5:=C5.out;have O6:=C4.out;have O7:=C7.out;have O8:=C6.out;have O9:=C9.out;have P0:=C8.out;have P1:=D1.out;have P2:=D0.out;obtain ⟨L6,L7,L8,L9⟩:=cf2 F0;have P3:=B4.out;have P4:=B5.out;obtain ⟨M0,M1,M2,M3,M4,M5⟩:=cf3 A0;have F8:0≤(((rd_T68 ((rd_T50 l1_2 (ji101)).f1) 0).f1):Int):=dT;have F9:((rd_T68 ((rd_T50 l1_2 (ji101)).f1) 0).f1) < (l0_2.length:Int):=dT;obtain ⟨D6,e381,B0⟩:=Kd.at_int D9.out ((rd_T68 ((rd_T50 l1_2 (ji101)).f1) 0).f1) F8 F9;cases e381;have hn381_0:D6.block≠A5:=Nat.ne_of_lt (Nat.lt_of_lt_of_le impl_axiomsOK.a2 D5.out);have hn381_1:D6.block≠A5:=Nat.ne_of_lt (Nat.lt_of_lt_of_le impl_axiomsOK.a2 D5.out);replace B0:=xc HB B0;replace B0:=(cell_far (p:=⟨A5,0,none⟩) (by first | (rw [add_block];exact hn381_0) | (show (Addr.add _ _).block≠_;rw [add_block];exact hn381_0) | exact hn381_0) (.slice A379_0 ((rd_T68 ((rd_T50 l1_2 (ji101)).f1) 0).f0).length c379_0)).trans B0;replace B0:=(cell_far (p:=⟨A5,1,none⟩) (by first | (rw [add_block];exact hn381_1) | (show (Addr.add _ _).block≠_;rw [add_block];exact hn381_1) | exact hn381_1) (.int .i64 ((rd_T68 ((rd_T50 l1_2 (ji101)).f1) 0).f1))).trans B0;(try have hy381_0:=fun (n_:Nat)=>(show ((((w117.drewN n_).setCell ⟨A5,0,none⟩ (.slice A379_0 ((rd_T68 ((rd_T50 l1_2 (ji101)).f1) 0).f0).length c379_0)).setCell ⟨A5,1,none⟩ (.int .i64 ((rd_T68 ((rd_T50 l1_2 (ji101)).f1) 0).f1)))).cell? _=some _ from B0));clear hn381_0;clear hn381_1;replace F8:=eq_true F8;replace F9:=eq_true F9;obtain ⟨M6,M7,M8,M9⟩:=cf2 A3;have G0:0≤(((rd_T68 l2_1 0).f1):Int):=dT;have G1:((rd_T68 l2_1 0).f1) < (l0_2.length:Int):=dT;obtain ⟨J2,e382,B1⟩:=Kd.at_int D9.out ((rd_T68 l2_1 0).f1) G0 G1;obtain rfl:D6=J2:=(by injection e382);have hn382_0:D6.block≠A5:=Nat.ne_of_lt (Nat.lt_of_lt_of_le impl_axiomsOK.a3 D5.out);have hn382_1:D6.block≠A5:=Nat.ne_of_lt (Nat.lt_of_lt_of_le impl_axiomsOK.a3 D5.out);replace B1:=xc HB B1;replace B1:=(cell_far (p:=⟨A5,0,none⟩) (by first | (rw [add_block];exact hn382_0) | (show (Addr.add _ _).block≠_;rw [add_block];exact hn382_0) | exact hn382_0) (.slice A379_0 ((rd_T68 ((rd_T50 l1_2 (ji101)).f1) 0).f0).length c379_0)).trans B1;replace B1:=(cell_far (p:=⟨A5,1,none⟩) (by first | (rw [add_block];exact hn382_1) | (show (Addr.add _ _).block≠_;rw [add_block];exact hn382_1) | exact hn382_1) (.int .i64 ((rd_T68 ((rd_T50 l1_2 (ji101)).f1) 0).f1))).trans B1;(try have hy382_0:=fun (n_:Nat)=>(show ((((w117.drewN n_).setCell ⟨A5,0,none⟩ (.slice A379_0 ((rd_T68 ((rd_T50 l1_2 (ji101)).f1) 0).f0).length c379_0)).setCell ⟨A5,1,none⟩ (.int .i64 ((rd_T68 ((rd_T50 l1_2 (ji101)).f1) 0).f1)))).cell? _=some _ from B1));clear hn382_0;clear hn382_1;replace G0:=eq_true G0;replace G1:=eq_true G1)))
       go_ret
       exact ⟨impl_axiomsOK.a4,hV HB⟩
      ·rw [if_neg c105] at H
       have O3:((((rd_T68 ((rd_T50 l1_2 (ji101)).f1) 0).f0).length:Int) == 0)=false:=beq_eq_false_iff_ne.mpr c105
       have O4:((((rd_T68 ((rd_T50 l1_2 (ji101)).f1) 0).f0).length:Int) != 0)=true:=bne_iff_ne.mpr c105
       have m9 : ¬ (((rd_T68 ((rd_T50 l1_2 (ji101)).f1) 0).f0) = []):=fun h_=>c105 (by rw [h_];rfl)
       obtain rfl:=Option.some.inj H
       have n0:=A7.out
       have n1:=A6.out
       have n2:=A9.out
       have n3:=A8.out
       have n4:=B2.out
       have n5:=B3.out
       obtain ⟨V7,V8,V9,W0,W1,W2,W3,W4,W5,W6⟩:=cf5 A1
       have n6:=C3.out
       have n7:=C2.out
       have n8:=B6.out
       have n9:=B7.out
       obtain ⟨W7,W8,W9,X0,X1,X2⟩:=cf3 A2
       have F4:0≤((ji101):Int):=dT
       have F5:(ji101) < (l1_2.length:Int):=dT
       obtain ⟨S8,A378_1,c378_1,e378,E1,E2,E3,E4,E5,E6,E7⟩:=at_T50 N4.out (ji101) F4 F5
       cases e378
       replace E1:=xc HB E1
       replace E2:=xc HB E2
       replace E3:=xc HB E3
       replace E4:=xc HB E4
       replace E5:=xc HB E5
       have H1:=Aside0.mk E7
       have N9:=Aside0.mk E6
       clear E7 E6
       replace F4:=eq_true F4
       replace F5:=eq_true F5
       have F6:0≤(0:Int):=(by omega)
       have F7:0 < (((rd_T50 l1_2 (ji101)).f1).length:Int):=dT
       obtain ⟨S9,A379_0,c379_0,e379,C0,C1,E8,E9⟩:=at_T68 H1.out 0 F6 F7
       cases e379
       have T0:(0 < ((rd_T50 l1_2 (ji101)).f1).length)=True:=eq_true (by omega)
       (try rw [show ((0:Int)).toNat=0 from rfl] at C0)
       (try rw [show 0 * 2=0 from rfl] at C0)
       (try rw [Addr.add_zero'] at C0)
       (try rw [show ((0:Int)).toNat=0 from rfl] at C1)
       (try rw [show 0 * 2=0 from rfl] at C1)
       (try rw [Addr.add_zero'] at C1)
       replace C0:=xc HB C0
       replace C1:=xc HB C1
       have O0:=Aside0.mk E9
       have O1:=Aside0.mk E8
       clear E9 E8
       replace F6:=eq_true F6
       replace F7:=eq_true F7
       go_wp2_with (first | ((with_reducible refine gate_dst (N:=8) rfl ?_);(try (refine gate_guard (by rfl) ?_;dsimp only));refine bx 8 rfl #[.slice none 0 0,.int .i64 0] 68 ?_;intro A5 hg w133 hbox hb;have F0:=Aside0.mk (hbox);have D5:=hZ HB hg;have J1:=hZ HB hg;replace HB:=hS HB hb;have C4:=nL A0 hg;have C5:=nG A0 hg;replace A0:=bB A0 hb;have C6:=nL A2 hg;have C7:=nG A2 hg;replace A2:=bB A2 hb;have C8:=nL A1 hg;have C9:=nG A1 hg;replace A1:=bB A1 hb;have D0:=nL A3 hg;have D1:=nG A3 hg;replace A3:=bB A3 hb;clear hb hbox hg;have P5:=C5.out;have P6:=C4.out;have P7:=C7.out;have P8:=C6.out;have P9:=C9.out;have Q0:=C8.out;have Q1:=D1.out;have Q2:=D0.out;obtain ⟨N0,N1,N2,N3⟩:=cf2 F0))
       repeat (go_quiet (fail);try go_wp2_with (first | ((with_reducible refine gate_dst (N:=8) rfl ?_);(try (refine gate_guard (by rfl) ?_;dsimp only));refine bx 8 rfl #[.slice none 0 0,.int .i64 0] 68 ?_;intro A5 hg w133 hbox hb;have F0:=Aside0.mk (hbox);have D5:=hZ HB hg;have J1:=hZ HB hg;replace HB:=hS HB hb;have C4:=nL A0 hg;have C5:=nG A0 hg;replace A0:=bB A0 hb;have C6:=nL A2 hg;have C7:=nG A2 hg;replace A2:=bB A2 hb;have C8:=nL A1 hg;have C9:=nG A1 hg;replace A1:=bB A1 hb;have D0:=nL A3 hg;have D1:=nG A3 hg;replace A3:=bB A3 hb;clear hb hbox hg;have P5:=C5.out;have P6:=C4.out;have P7:=C7.out;have P8:=C6.out;have P9:=C9.out;have Q0:=C8.out;have Q1:=D1.out;have Q2:=D0.out;obtain ⟨N0,N1,N2,N3⟩:=cf2 F0)))
       go_ret
       exact ⟨impl_axiomsOK.a4,hV HB⟩
end Go.Proofs.Ytpildjbakceicaa.Q

