/- Functions of the program as plain Lean functions,and that the calls come to what they say. -/
import Derived.Test.YtpildjbakceicaaZQx0hb61c0
import Derived.Test.YtpildjbakceicaaZQx10h9e436
import Derived.Test.YtpildjbakceicaaZSeenhfa3fb
import Derived.Test.YtpildjbakceicaaZShorth7b252
namespace Go.Proofs.Ytpildjbakceicaa.Q
open Go.RowKit Go.Proofs.YtpildjbakceicaaW.PrintWords Go.Proofs.YtpildjbakceicaaW.PrintLast Go.Proofs.YtpildjbakceicaaW.PrintMore
attribute [local go_sem] max2_int min2_int max_two min_two max_three min_three max_four min_four   -- for this text's walks alone
set_option linter.unusedVariables false
set_option linter.unusedSimpArgs false

/-! ### impl_IsSorts: function 55 -/
theorem impl_IsSorts.a0 {P_:Prop} (h_:P_:=by first | rfl | (simp [errW_none,errW_some] <;> rfl) | (simp [*,errW_none,errW_some] <;> rfl)):P_:=h_
theorem impl_IsSorts.a1 {P_:Prop} (h_:P_:=by first | rfl | (simp;done) | (simp [*];done)):P_:=h_
theorem impl_IsSorts.a2 {P_:Prop} (h_:P_:=by have:=HJ1.out;have:=HK2.out;have:=HK3.out;have:=HK4.out;have:=HK5.out;omega):P_:=h_
theorem impl_IsSorts.a3 {P_:Prop} (h_:P_:=by rw [List.length_take];have h_:=B4.out.2.1;have hp_:=of_eq_true A8;have hq_:=of_eq_true A9;unfold maxLen;omega):P_:=h_
mutual
def impl_IsSorts.j0:Nat→Int→Bool→List ByteArray→List (S89)→Option (Bool)
 | 0,_,_,_,_=>none
 | k + 1,x3,x26,x300000,x300001=>if x26=true then (some false) else (impl_IsSorts.l0 k x3 x300000 (x300000.length:Int) 0 x300000 x300001)
def impl_IsSorts.l0:Nat→Int→List ByteArray→Int→Int→List ByteArray→List (S89)→Option (Bool)
 | 0,_,_,_,_,_,_=>none
 | k + 1,x3,x29,x30,x31,x300000,x300001=>if x31 < x30 then (if 0≤x31 then (if x31 < (x29.length:Int) then ((seenIn.f (x29.take (x31).toNat) (rdOf ByteArray.empty x29 x31)).bind fun t301=>(if t301=true then (some false) else ((impl_IsName.f k (rdOf ByteArray.empty x29 x31)).bind fun t302=>(if t302=true then (impl_IsSorts.l0 k x3 x29 x30 (wrap64 (x31 + 1)) x300000 x300001) else (some false))))) else (none)) else (none)) else (impl_IsSorts.l1 k x3 x300001 (x300001.length:Int) 0 x300000 x300001)
def impl_IsSorts.l1:Nat→Int→List (S89)→Int→Int→List ByteArray→List (S89)→Option (Bool)
 | 0,_,_,_,_,_,_=>none
 | k + 1,x3,x47,x48,x49,x300000,x300001=>if x49 < x48 then (if 0≤x49 then (if x49 < (x47.length:Int) then (if ((rd_T89 x47 x49).f0) < 0 then (some false) else (if ((rd_T89 x47 x49).f0)≥x3 then (some false) else (if ((rd_T89 x47 x49).f1) < 0 then (some false) else (if ((rd_T89 x47 x49).f1)≥x3 then (some false) else (if ((rd_T89 x47 x49).f0)=((rd_T89 x47 x49).f1) then (some false) else (impl_IsSorts.l1 k x3 x47 x48 (wrap64 (x49 + 1)) x300000 x300001)))))) else (none)) else (none)) else ((impl_sortsAbove.f k x300000 x300001).bind fun t305=>(impl_IsSorts.l2 k t305 (t305.length:Int) 0))
def impl_IsSorts.l2:Nat→List Int→Int→Int→Option (Bool)
 | 0,_,_,_=>none
 | k + 1,x9,x84,x85=>if x85 < x84 then (impl_IsSorts.l3 k x9 x85 x84 x85 (x9.length:Int) 0) else (some true)
def impl_IsSorts.l3:Nat→List Int→Int→Int→Int→Int→Int→Option (Bool)
 | 0,_,_,_,_,_,_=>none
 | k + 1,x9,x10,x84,x85,x89,x90=>if x90 < x89 then (if x10=x90 then (impl_IsSorts.l3 k x9 x10 x84 x85 x89 (wrap64 (x90 + 1))) else (if 0≤x10 then (if x10 < (x9.length:Int) then (if 0≤x90 then (if (Go.bits .and .i64 (rd x9 x10) (shl .i64 1 x90))=0 then (impl_IsSorts.l3 k x9 x10 x84 x85 x89 (wrap64 (x90 + 1))) else (if x90 < (x9.length:Int) then (if (Go.bits .and .i64 (rd x9 x90) (shl .i64 1 x10))=0 then (impl_IsSorts.l3 k x9 x10 x84 x85 x89 (wrap64 (x90 + 1))) else (some false)) else (none))) else (none)) else (none)) else (none))) else (impl_IsSorts.l2 k x9 x84 (wrap64 (x85 + 1)))
end
def impl_IsSorts.f (k:Nat) (l0_0:List ByteArray) (l0_1:List (S89)):Option (Bool):=if (l0_0.length:Int) < 1 then (impl_IsSorts.j0 k (l0_0.length:Int) true l0_0 l0_1) else (if (l0_0.length:Int) > 8 then (impl_IsSorts.j0 k (l0_0.length:Int) true l0_0 l0_1) else (impl_IsSorts.j0 k (l0_0.length:Int) (decide ((l0_1.length:Int) > 16)) l0_0 l0_1))
set_option maxHeartbeats 8000000 in
set_option maxRecDepth 100000 in
theorem impl_IsSorts.calls (k:Nat) (A0_0:Option Addr) (c0_0:Nat) (l0_0:List ByteArray) (A0_1:Option Addr) (c0_1:Nat) (l0_1:List (S89)) (r:Bool) (w:World) (hr0_0:Kd.C Kd.string w A0_0 l0_0.length l0_0) (hc0_0:l0_0.length≤c0_0) (hr0_1:Kd.C k89 w A0_1 l0_1.length l0_1) (hc0_1:l0_1.length≤c0_1) (h:impl_IsSorts.f k l0_0 l0_1=some r) :
  Calls Try.prog 55 #[.agg #[.slice A0_0 l0_0.length c0_0,.slice A0_1 l0_1.length c0_1]] w fun e w'=>e=.returned (.bool r)∧Below w.heap.size w w':=by
 have hu33:=Try.underlying33
 have hu89:=Try.underlying89
 have B4:=Aside0.mk hr0_0
 have E8:=Aside0.mk hc0_0
 clear hr0_0 hc0_0
 have B8:=Aside0.mk hr0_1
 have E9:=Aside0.mk hc0_1
 clear hr0_1 hc0_1
 have HB:=Aside0.mk (Below.refl w.heap.size w)
 have H:(if (l0_0.length:Int) < 1 then (impl_IsSorts.j0 k (l0_0.length:Int) true l0_0 l0_1) else (if (l0_0.length:Int) > 8 then (impl_IsSorts.j0 k (l0_0.length:Int) true l0_0 l0_1) else (impl_IsSorts.j0 k (l0_0.length:Int) (decide ((l0_1.length:Int) > 16)) l0_0 l0_1)))=some r:=h
 clear h
 have H7:=Aside0.mk H
 clear H
 go_enter Try.func55,Try.ntmps55
 go_upto_region 2 with (first | ((with_reducible refine gate_dst (N:=1) rfl ?_);(try (refine gate_guard (by rfl) ?_;dsimp only));refine bx 1 rfl #[.slice A0_0 l0_0.length c0_0,.slice A0_1 l0_1.length c0_1] 33 ?_;intro B9 hg w3 hbox hb;have A0:=Aside0.mk (hbox);have H8:=hZ HB hg;have H9:=hZ HB hg;replace HB:=hS HB hb;clear hb hbox hg;obtain ⟨C0,C1,C2,C3⟩:=cf2 A0))
 repeat (go_quiet (fail);go_upto_region 2 with (first | ((with_reducible refine gate_dst (N:=1) rfl ?_);(try (refine gate_guard (by rfl) ?_;dsimp only));refine bx 1 rfl #[.slice A0_0 l0_0.length c0_0,.slice A0_1 l0_1.length c0_1] 33 ?_;intro B9 hg w3 hbox hb;have A0:=Aside0.mk (hbox);have H8:=hZ HB hg;have H9:=hZ HB hg;replace HB:=hS HB hb;clear hb hbox hg;obtain ⟨C0,C1,C2,C3⟩:=cf2 A0)))
 (try simp only [Act.put,List.setIfInBounds_toArray,List.set_cons_zero,List.set_cons_succ])
 go_cut [26] (fun v26 wc=> ∃ (kq:Nat) (x26_1:Bool),v26=.bool x26_1∧Aside0 (impl_IsSorts.j0 kq (l0_0.length:Int) x26_1 l0_0 l0_1=some r)∧Aside0 (kq≤k)∧Aside0 (wc.heap[B9]? = some (.cells #[(.slice A0_0 l0_0.length c0_0),(.slice A0_1 l0_1.length c0_1)] 33 (0,0)))∧Aside0 (Below w.heap.size w wc))
 case first=>
  have H:=H7.out
  clear H7
  by_cases c5:(l0_0.length:Int) < 1
  ·rw [if_pos c5] at H
   have D8:=decide_eq_true c5
   have K5:decide (l0_0.length < 1)=true:=decide_eq_true (by omega)
   clear c5
   (first | rw [D8] | (simp only [i64_w,i32_w];rw [D8]) | skip)
   have H':=Aside0.mk H
   clear H
   go_wp2
   repeat (go_quiet (fail);try go_wp2)
   go_meet
   case rel=>exact ⟨_,(true),impl_IsSorts.a1,H',⟨by first | omega | exact Nat.le_refl _⟩,⟨vB A0⟩,⟨hV HB⟩⟩
  rw [if_neg c5] at H
  have D8:=decide_eq_false c5
  have K5:decide (l0_0.length < 1)=false:=decide_eq_false (by omega)
  clear c5
  (first | rw [D8] | (simp only [i64_w,i32_w];rw [D8]) | skip)
  by_cases c6:(l0_0.length:Int) > 8
  ·rw [if_pos c6] at H
   have K6:=decide_eq_true c6
   have K7:decide (8 < l0_0.length)=true:=decide_eq_true (by omega)
   clear c6
   have H':=Aside0.mk H
   clear H
   go_wp2
   repeat (go_quiet (fail);try go_wp2)
   go_meet
   case rel=>exact ⟨_,(true),impl_IsSorts.a1,H',⟨by first | omega | exact Nat.le_refl _⟩,⟨vB A0⟩,⟨hV HB⟩⟩
  rw [if_neg c6] at H
  have K6:=decide_eq_false c6
  have K7:decide (8 < l0_0.length)=false:=decide_eq_false (by omega)
  clear c6
  have H':=Aside0.mk H
  clear H
  obtain ⟨K8,K9,L0,L1⟩:=cf2 A0
  go_wp2
  repeat (go_quiet (fail);try go_wp2)
  go_meet
  case rel=>exact ⟨_,(decide ((l0_1.length:Int) > 16)),impl_IsSorts.a1,H',⟨by first | omega | exact Nat.le_refl _⟩,⟨vB A0⟩,⟨hV HB⟩⟩
 clear H7
 try clear C0
 try clear C2
 try clear C1
 try clear C3
 obtain ⟨kq,x26_1,rfl,HA,HJ1,A0,HB⟩:=hcut
 cases kq with
 | zero=>exact absurd HA.out (by simp [impl_IsSorts.j0])
 | succ kj1=>
  have H:=HA.out
  clear HA
  simp only [impl_IsSorts.j0] at H
  by_cases c8:x26_1=true
  ·subst c8
   rw [if_pos rfl] at H
   obtain rfl:=Option.some.inj H
   go_wp2
   repeat (go_quiet (fail);try go_wp2)
   go_ret
   exact ⟨impl_IsSorts.a0,hV HB⟩
  replace c8:=Bool.eq_false_iff.mpr c8
  subst c8
  rw [if_neg (show ¬ (false=true) by decide)] at H
  have H':=Aside0.mk H
  clear H
  obtain ⟨C4,C8,C5,C9⟩:=cf2 A0
  have hcm9_0:(wc.alloc (.map #[] 0)).cell? ⟨B9,0,none⟩=some (.slice A0_0 l0_0.length c0_0):=((below_alloc (Below.refl wc.heap.size wc) (.map #[] 0)).cell (World.block_lt_of_cell? wc _ C4)).trans C4
  have hcm9_1:(wc.alloc (.map #[] 0)).cell? ⟨B9,1,none⟩=some (.slice A0_1 l0_1.length c0_1):=((below_alloc (Below.refl wc.heap.size wc) (.map #[] 0)).cell (World.block_lt_of_cell? wc _ C5)).trans C5
  have hmk_:=@run_makeMap Try.prog
  have GM_:=Aside0.mk (show w.heap.size≤wc.heap.size from HB.out.size)
  go_wp2
  repeat (go_quiet (fail);try go_wp2)
  clear hmk_
  try clear hcm9_1
  try clear hcm9_0
  go_loopg [31] kj1 (fun kq v31 w'=> ∃ (x31_2:Int),v31=.int .i64 x31_2∧Aside0 (impl_IsSorts.l0 kq (l0_0.length:Int) l0_0 (l0_0.length:Int) x31_2 l0_0 l0_1=some r)∧Aside0 (kq≤kj1)∧Aside0 (w'.heap[B9]? = some (.cells #[(.slice A0_0 l0_0.length c0_0),(.slice A0_1 l0_1.length c0_1)] 33 (0,0)))∧Aside0 (Below w.heap.size w w')∧Aside0 (Seen Try.prog 9 4 w' wc.heap.size (l0_0.take (x31_2).toNat)))
  case atStart=>exact ⟨(0),impl_IsSorts.a1,H',⟨Nat.le_refl _⟩,⟨vB A0⟩,⟨hV HB⟩,⟨by first | exact Seen.made _ | exact (Seen.made _).drewN _⟩⟩
  clear H'
  try clear c8
  try clear C0
  try clear C2
  try clear C4
  try clear C5
  try clear C1
  try clear C3
  try clear C8
  try clear C9
  obtain ⟨x31_2,rfl,HA,HK2,A0,HB,HM⟩:=hrel
  have hzE_:∀ W_,(zeroValue 4).run Try.prog W_=.ok (.bool false) W_:=fun _=>by rfl
  cases gk with
  | zero=>exact absurd HA.out (by simp [impl_IsSorts.l0])
  | succ k2=>
   have H:=HA.out
   clear HA
   simp only [impl_IsSorts.l0] at H
   by_cases c10:x31_2 < (l0_0.length:Int)
   ·rw [if_pos c10] at H
    have D5:=decide_eq_true c10
    clear c10
    by_cases c11:0≤x31_2
    rotate_left
    ·rw [if_neg c11] at H
     exact absurd H (by simp)
    rw [if_pos c11] at H
    have L2:=decide_eq_true c11
    clear c11
    by_cases c12:x31_2 < (l0_0.length:Int)
    rotate_left
    ·rw [if_neg c12] at H
     exact absurd H (by simp)
    rw [if_pos c12] at H
    have L3:=decide_eq_true c12
    clear c12
    replace H:=Option.bind_eq_some_iff.mp H
    obtain ⟨t301,A130,H⟩:=H
    replace H:(if t301=true then (some false) else ((impl_IsName.f k2 (rdOf ByteArray.empty l0_0 x31_2)).bind fun t302=>(if t302=true then (impl_IsSorts.l0 k2 (l0_0.length:Int) l0_0 (l0_0.length:Int) (wrap64 (x31_2 + 1)) l0_0 l0_1) else (some false))))=some r:=H
    have A13:=Aside0.mk A130
    clear A130
    by_cases c14:t301=true
    ·subst c14
     rw [if_pos rfl] at H
     obtain rfl:=Option.some.inj H
     have A8:0≤(x31_2:Int):=dT
     have A9:x31_2 < (l0_0.length:Int):=dT
     obtain ⟨F0,e300,B0⟩:=Kd.at_string B4.out x31_2 A8 A9
     cases e300
     replace B0:=xc HB B0
     replace A8:=eq_true A8
     replace A9:=eq_true A9
     go_wp2_with (first | (at_lookup;refine wpList_seen HM.out rfl _ _ 60 rfl Try.underlying9 Try.underlying60 Try.underlying4 (hzE_ _) rfl rfl A13.out ?_) | (at_mapUpdate;refine wpList_seen_put (by first | exact HM.out | exact HM.out.drewN _) rfl _ _ _ 60 rfl Try.underlying9 Try.underlying60 Try.underlying4 rfl rfl rfl A13.out impl_IsSorts.a3 ?_;intro w2_ hs_ hg_;have hg2_:wr.grownBy w2_ (some _):=(by first | exact hg_ | exact seen_grown hg_);have n0_:=Aside0.mk (blk_grown A0.out hg2_ (HM.out.ne A0.out));have n1_:=Aside0.mk (pw_below_grown HB.out (some _) HB.out.size hg2_ (fun k_ e_=>by injection e_ with e_;subst e_;exact GM_.out));have nm_:=Aside0.mk (show Seen Try.prog 9 4 w2_ _ (l0_0.take (wrap64 (x31_2 + 1)).toNat) from by rw [take_wrap ByteArray.empty l0_0 x31_2 (of_eq_true A8) (of_eq_true A9) B4.out.2.1];exact hs_);clear A0 HB HM hs_ hg_ hg2_;have A0:=n0_;have HB:=n1_;have HM:=nm_;clear nm_ n0_ n1_))
     go_ret
     exact ⟨impl_IsSorts.a0,hV HB⟩
    ·replace c14:=Bool.eq_false_iff.mpr c14
     subst c14
     rw [if_neg (show ¬ (false=true) by decide)] at H
     replace H:=Option.bind_eq_some_iff.mp H
     obtain ⟨t302,A150,H⟩:=H
     replace H:(if t302=true then (impl_IsSorts.l0 k2 (l0_0.length:Int) l0_0 (l0_0.length:Int) (wrap64 (x31_2 + 1)) l0_0 l0_1) else (some false))=some r:=H
     have A15:=Aside0.mk A150
     clear A150
     by_cases c16:t302=true
     ·subst c16
      rw [if_pos rfl] at H
      have H':=Aside0.mk H
      clear H
      have A8:0≤(x31_2:Int):=dT
      have A9:x31_2 < (l0_0.length:Int):=dT
      obtain ⟨F0,e300,B0⟩:=Kd.at_string B4.out x31_2 A8 A9
      cases e300
      replace B0:=xc HB B0
      replace A8:=eq_true A8
      replace A9:=eq_true A9
      go_wp2_with (first | (at_lookup;refine wpList_seen HM.out rfl _ _ 60 rfl Try.underlying9 Try.underlying60 Try.underlying4 (hzE_ _) rfl rfl A13.out ?_) | (go_at_call 30;(with_reducible refine (impl_IsName.calls k2 (rdOf ByteArray.empty l0_0 x31_2) true _ A15.out).mono ?_);rintro e w' ⟨rfl,⟨nd,rfl⟩⟩;(try first | exact ⟨rfl,_,World.drewN_drewN _ _ _⟩ | exact ⟨rfl,_,Eq.trans (World.drewN_drewN _ _ _) (congrArg (World.drewN _) (Nat.add_assoc _ _ _))⟩)) | (at_mapUpdate;refine wpList_seen_put (by first | exact HM.out | exact HM.out.drewN _) rfl _ _ _ 60 rfl Try.underlying9 Try.underlying60 Try.underlying4 rfl rfl rfl A13.out impl_IsSorts.a3 ?_;intro w2_ hs_ hg_;have hg2_:wr.grownBy w2_ (some _):=(by first | exact hg_ | exact seen_grown hg_);have n0_:=Aside0.mk (blk_grown A0.out hg2_ (HM.out.ne A0.out));have n1_:=Aside0.mk (pw_below_grown HB.out (some _) HB.out.size hg2_ (fun k_ e_=>by injection e_ with e_;subst e_;exact GM_.out));have nm_:=Aside0.mk (show Seen Try.prog 9 4 w2_ _ (l0_0.take (wrap64 (x31_2 + 1)).toNat) from by rw [take_wrap ByteArray.empty l0_0 x31_2 (of_eq_true A8) (of_eq_true A9) B4.out.2.1];exact hs_);clear A0 HB HM hs_ hg_ hg2_;have A0:=n0_;have HB:=n1_;have HM:=nm_;clear nm_ n0_ n1_))
      go_roundg k2
      case measure=>have:=HJ1.out;have:=HK2.out;omega
      case rel=>exact ⟨(wrap64 (x31_2 + 1)),impl_IsSorts.a1,H',⟨by have:=HJ1.out;have:=HK2.out;omega⟩,⟨vB A0⟩,⟨hV HB⟩,⟨HM.out⟩⟩
     ·replace c16:=Bool.eq_false_iff.mpr c16
      subst c16
      rw [if_neg (show ¬ (false=true) by decide)] at H
      obtain rfl:=Option.some.inj H
      have A8:0≤(x31_2:Int):=dT
      have A9:x31_2 < (l0_0.length:Int):=dT
      obtain ⟨F0,e300,B0⟩:=Kd.at_string B4.out x31_2 A8 A9
      cases e300
      replace B0:=xc HB B0
      replace A8:=eq_true A8
      replace A9:=eq_true A9
      go_wp2_with (first | (at_lookup;refine wpList_seen HM.out rfl _ _ 60 rfl Try.underlying9 Try.underlying60 Try.underlying4 (hzE_ _) rfl rfl A13.out ?_) | (go_at_call 30;(with_reducible refine (impl_IsName.calls k2 (rdOf ByteArray.empty l0_0 x31_2) false _ A15.out).mono ?_);rintro e w' ⟨rfl,⟨nd,rfl⟩⟩;(try first | exact ⟨rfl,_,World.drewN_drewN _ _ _⟩ | exact ⟨rfl,_,Eq.trans (World.drewN_drewN _ _ _) (congrArg (World.drewN _) (Nat.add_assoc _ _ _))⟩)) | (at_mapUpdate;refine wpList_seen_put (by first | exact HM.out | exact HM.out.drewN _) rfl _ _ _ 60 rfl Try.underlying9 Try.underlying60 Try.underlying4 rfl rfl rfl A13.out impl_IsSorts.a3 ?_;intro w2_ hs_ hg_;have hg2_:wr.grownBy w2_ (some _):=(by first | exact hg_ | exact seen_grown hg_);have n0_:=Aside0.mk (blk_grown A0.out hg2_ (HM.out.ne A0.out));have n1_:=Aside0.mk (pw_below_grown HB.out (some _) HB.out.size hg2_ (fun k_ e_=>by injection e_ with e_;subst e_;exact GM_.out));have nm_:=Aside0.mk (show Seen Try.prog 9 4 w2_ _ (l0_0.take (wrap64 (x31_2 + 1)).toNat) from by rw [take_wrap ByteArray.empty l0_0 x31_2 (of_eq_true A8) (of_eq_true A9) B4.out.2.1];exact hs_);clear A0 HB HM hs_ hg_ hg2_;have A0:=n0_;have HB:=n1_;have HM:=nm_;clear nm_ n0_ n1_))
      go_ret
      exact ⟨impl_IsSorts.a0,hV HB⟩
   ·rw [if_neg c10] at H
    have D5:=decide_eq_false c10
    clear c10
    have H':=Aside0.mk H
    clear H
    obtain ⟨D1,D2,D3,D4⟩:=cf2 A0
    go_wp2
    repeat (go_quiet (fail);try go_wp2)
    go_loopg [49] k2 (fun kq v49 w'=> ∃ (x49_3:Int),v49=.int .i64 x49_3∧Aside0 (impl_IsSorts.l1 kq (l0_0.length:Int) l0_1 (l0_1.length:Int) x49_3 l0_0 l0_1=some r)∧Aside0 (kq≤k2)∧Aside0 (w'.heap[B9]? = some (.cells #[(.slice A0_0 l0_0.length c0_0),(.slice A0_1 l0_1.length c0_1)] 33 (0,0)))∧Aside0 (Below w.heap.size w w'))
    case atStart=>exact ⟨(0),impl_IsSorts.a1,H',⟨Nat.le_refl _⟩,⟨vB A0⟩,⟨hV HB⟩⟩
    clear H'
    try clear c8
    try clear c10
    try clear D5
    try clear D1
    try clear D3
    try clear C0
    try clear C2
    try clear C4
    try clear C5
    try clear D2
    try clear D4
    try clear C1
    try clear C3
    try clear C8
    try clear C9
    obtain ⟨x49_3,rfl,HA,HK3,A0,HB⟩:=hrel
    cases gk with
    | zero=>exact absurd HA.out (by simp [impl_IsSorts.l1])
    | succ k3=>
     have H:=HA.out
     clear HA
     simp only [impl_IsSorts.l1] at H
     by_cases c18:x49_3 < (l0_1.length:Int)
     ·rw [if_pos c18] at H
      have E4:=decide_eq_true c18
      clear c18
      by_cases c19:0≤x49_3
      rotate_left
      ·rw [if_neg c19] at H
       exact absurd H (by simp)
      rw [if_pos c19] at H
      have L4:=decide_eq_true c19
      clear c19
      by_cases c20:x49_3 < (l0_1.length:Int)
      rotate_left
      ·rw [if_neg c20] at H
       exact absurd H (by simp)
      rw [if_pos c20] at H
      have L5:=decide_eq_true c20
      clear c20
      by_cases c21:((rd_T89 l0_1 x49_3).f0) < 0
      ·rw [if_pos c21] at H
       have I0:=decide_eq_true c21
       clear c21
       obtain rfl:=Option.some.inj H
       have A6:0≤(x49_3:Int):=dT
       have A7:x49_3 < (l0_1.length:Int):=dT
       obtain ⟨D0,e303,A3,A4⟩:=at_T89 B8.out x49_3 A6 A7
       cases e303
       replace A3:=xc HB A3
       replace A4:=xc HB A4
       replace A6:=eq_true A6
       replace A7:=eq_true A7
       go_wp2_with (first | ((with_reducible refine gate_dst (N:=8) rfl ?_);(try (refine gate_guard (by rfl) ?_;dsimp only));refine bx 8 rfl #[.int .i64 0,.int .i64 0] 89 ?_;intro B1 hg w22 hbox hb;have A5:=Aside0.mk (hbox);have B2:=hZ HB hg;have B3:=hZ HB hg;replace HB:=hS HB hb;have A1:=nL A0 hg;have A2:=nG A0 hg;replace A0:=bB A0 hb;clear hb hbox hg;have I1:=A2.out;have I2:=A1.out;obtain ⟨F2,F3,F4,F5⟩:=cf2 A5))
       repeat (go_quiet (fail);try go_wp2_with (first | ((with_reducible refine gate_dst (N:=8) rfl ?_);(try (refine gate_guard (by rfl) ?_;dsimp only));refine bx 8 rfl #[.int .i64 0,.int .i64 0] 89 ?_;intro B1 hg w22 hbox hb;have A5:=Aside0.mk (hbox);have B2:=hZ HB hg;have B3:=hZ HB hg;replace HB:=hS HB hb;have A1:=nL A0 hg;have A2:=nG A0 hg;replace A0:=bB A0 hb;clear hb hbox hg;have I1:=A2.out;have I2:=A1.out;obtain ⟨F2,F3,F4,F5⟩:=cf2 A5)))
       go_ret
       exact ⟨impl_IsSorts.a0,hV HB⟩
      ·rw [if_neg c21] at H
       have I0:=decide_eq_false c21
       clear c21
       by_cases c25:((rd_T89 l0_1 x49_3).f0)≥(l0_0.length:Int)
       ·rw [if_pos c25] at H
        have I3:=decide_eq_true c25
        clear c25
        obtain rfl:=Option.some.inj H
        have A6:0≤(x49_3:Int):=dT
        have A7:x49_3 < (l0_1.length:Int):=dT
        obtain ⟨D0,e303,A3,A4⟩:=at_T89 B8.out x49_3 A6 A7
        cases e303
        replace A3:=xc HB A3
        replace A4:=xc HB A4
        replace A6:=eq_true A6
        replace A7:=eq_true A7
        go_wp2_with (first | ((with_reducible refine gate_dst (N:=8) rfl ?_);(try (refine gate_guard (by rfl) ?_;dsimp only));refine bx 8 rfl #[.int .i64 0,.int .i64 0] 89 ?_;intro B1 hg w26 hbox hb;have A5:=Aside0.mk (hbox);have B2:=hZ HB hg;have B3:=hZ HB hg;replace HB:=hS HB hb;have A1:=nL A0 hg;have A2:=nG A0 hg;replace A0:=bB A0 hb;clear hb hbox hg;have I4:=A2.out;have I5:=A1.out;obtain ⟨F6,F7,F8,F9⟩:=cf2 A5))
        repeat (go_quiet (fail);try go_wp2_with (first | ((with_reducible refine gate_dst (N:=8) rfl ?_);(try (refine gate_guard (by rfl) ?_;dsimp only));refine bx 8 rfl #[.int .i64 0,.int .i64 0] 89 ?_;intro B1 hg w26 hbox hb;have A5:=Aside0.mk (hbox);have B2:=hZ HB hg;have B3:=hZ HB hg;replace HB:=hS HB hb;have A1:=nL A0 hg;have A2:=nG A0 hg;replace A0:=bB A0 hb;clear hb hbox hg;have I4:=A2.out;have I5:=A1.out;obtain ⟨F6,F7,F8,F9⟩:=cf2 A5)))
        go_ret
        exact ⟨impl_IsSorts.a0,hV HB⟩
       ·rw [if_neg c25] at H
        have I3:=decide_eq_false c25
        clear c25
        by_cases c29:((rd_T89 l0_1 x49_3).f1) < 0
        ·rw [if_pos c29] at H
         have I6:=decide_eq_true c29
         clear c29
         obtain rfl:=Option.some.inj H
         have A6:0≤(x49_3:Int):=dT
         have A7:x49_3 < (l0_1.length:Int):=dT
         obtain ⟨D0,e303,A3,A4⟩:=at_T89 B8.out x49_3 A6 A7
         cases e303
         replace A3:=xc HB A3
         replace A4:=xc HB A4
         replace A6:=eq_true A6
         replace A7:=eq_true A7
         go_wp2_with (first | ((with_reducible refine gate_dst (N:=8) rfl ?_);(try (refine gate_guard (by rfl) ?_;dsimp only));refine bx 8 rfl #[.int .i64 0,.int .i64 0] 89 ?_;intro B1 hg w30 hbox hb;have A5:=Aside0.mk (hbox);have B2:=hZ HB hg;have B3:=hZ HB hg;replace HB:=hS HB hb;have A1:=nL A0 hg;have A2:=nG A0 hg;replace A0:=bB A0 hb;clear hb hbox hg;have I7:=A2.out;have I8:=A1.out;obtain ⟨G0,G1,G2,G3⟩:=cf2 A5))
         repeat (go_quiet (fail);try go_wp2_with (first | ((with_reducible refine gate_dst (N:=8) rfl ?_);(try (refine gate_guard (by rfl) ?_;dsimp only));refine bx 8 rfl #[.int .i64 0,.int .i64 0] 89 ?_;intro B1 hg w30 hbox hb;have A5:=Aside0.mk (hbox);have B2:=hZ HB hg;have B3:=hZ HB hg;replace HB:=hS HB hb;have A1:=nL A0 hg;have A2:=nG A0 hg;replace A0:=bB A0 hb;clear hb hbox hg;have I7:=A2.out;have I8:=A1.out;obtain ⟨G0,G1,G2,G3⟩:=cf2 A5)))
         go_ret
         exact ⟨impl_IsSorts.a0,hV HB⟩
        ·rw [if_neg c29] at H
         have I6:=decide_eq_false c29
         clear c29
         by_cases c33:((rd_T89 l0_1 x49_3).f1)≥(l0_0.length:Int)
         ·rw [if_pos c33] at H
          have I9:=decide_eq_true c33
          clear c33
          obtain rfl:=Option.some.inj H
          have A6:0≤(x49_3:Int):=dT
          have A7:x49_3 < (l0_1.length:Int):=dT
          obtain ⟨D0,e303,A3,A4⟩:=at_T89 B8.out x49_3 A6 A7
          cases e303
          replace A3:=xc HB A3
          replace A4:=xc HB A4
          replace A6:=eq_true A6
          replace A7:=eq_true A7
          go_wp2_with (first | ((with_reducible refine gate_dst (N:=8) rfl ?_);(try (refine gate_guard (by rfl) ?_;dsimp only));refine bx 8 rfl #[.int .i64 0,.int .i64 0] 89 ?_;intro B1 hg w34 hbox hb;have A5:=Aside0.mk (hbox);have B2:=hZ HB hg;have B3:=hZ HB hg;replace HB:=hS HB hb;have A1:=nL A0 hg;have A2:=nG A0 hg;replace A0:=bB A0 hb;clear hb hbox hg;have J0:=A2.out;have J1:=A1.out;obtain ⟨G4,G5,G6,G7⟩:=cf2 A5))
          repeat (go_quiet (fail);try go_wp2_with (first | ((with_reducible refine gate_dst (N:=8) rfl ?_);(try (refine gate_guard (by rfl) ?_;dsimp only));refine bx 8 rfl #[.int .i64 0,.int .i64 0] 89 ?_;intro B1 hg w34 hbox hb;have A5:=Aside0.mk (hbox);have B2:=hZ HB hg;have B3:=hZ HB hg;replace HB:=hS HB hb;have A1:=nL A0 hg;have A2:=nG A0 hg;replace A0:=bB A0 hb;clear hb hbox hg;have J0:=A2.out;have J1:=A1.out;obtain ⟨G4,G5,G6,G7⟩:=cf2 A5)))
          go_ret
          exact ⟨impl_IsSorts.a0,hV HB⟩
         ·rw [if_neg c33] at H
          have I9:=decide_eq_false c33
          clear c33
          by_cases c37:((rd_T89 l0_1 x49_3).f0)=((rd_T89 l0_1 x49_3).f1)
          ·rw [if_pos c37] at H
           have J2:(((rd_T89 l0_1 x49_3).f0) == ((rd_T89 l0_1 x49_3).f1))=true:=beq_iff_eq.mpr c37
           have J3:(((rd_T89 l0_1 x49_3).f0) != ((rd_T89 l0_1 x49_3).f1))=false:=bne_eq_false_iff_eq.mpr c37
           clear c37
           obtain rfl:=Option.some.inj H
           have A6:0≤(x49_3:Int):=dT
           have A7:x49_3 < (l0_1.length:Int):=dT
           obtain ⟨D0,e303,A3,A4⟩:=at_T89 B8.out x49_3 A6 A7
           cases e303
           replace A3:=xc HB A3
           replace A4:=xc HB A4
           replace A6:=eq_true A6
           replace A7:=eq_true A7
           go_wp2_with (first | ((with_reducible refine gate_dst (N:=8) rfl ?_);(try (refine gate_guard (by rfl) ?_;dsimp only));refine bx 8 rfl #[.int .i64 0,.int .i64 0] 89 ?_;intro B1 hg w38 hbox hb;have A5:=Aside0.mk (hbox);have B2:=hZ HB hg;have B3:=hZ HB hg;replace HB:=hS HB hb;have A1:=nL A0 hg;have A2:=nG A0 hg;replace A0:=bB A0 hb;clear hb hbox hg;have J4:=A2.out;have J5:=A1.out;obtain ⟨G8,G9,H0,H1⟩:=cf2 A5))
           repeat (go_quiet (fail);try go_wp2_with (first | ((with_reducible refine gate_dst (N:=8) rfl ?_);(try (refine gate_guard (by rfl) ?_;dsimp only));refine bx 8 rfl #[.int .i64 0,.int .i64 0] 89 ?_;intro B1 hg w38 hbox hb;have A5:=Aside0.mk (hbox);have B2:=hZ HB hg;have B3:=hZ HB hg;replace HB:=hS HB hb;have A1:=nL A0 hg;have A2:=nG A0 hg;replace A0:=bB A0 hb;clear hb hbox hg;have J4:=A2.out;have J5:=A1.out;obtain ⟨G8,G9,H0,H1⟩:=cf2 A5)))
           go_ret
           exact ⟨impl_IsSorts.a0,hV HB⟩
          ·rw [if_neg c37] at H
           have J2:(((rd_T89 l0_1 x49_3).f0) == ((rd_T89 l0_1 x49_3).f1))=false:=beq_eq_false_iff_ne.mpr c37
           have J3:(((rd_T89 l0_1 x49_3).f0) != ((rd_T89 l0_1 x49_3).f1))=true:=bne_iff_ne.mpr c37
           have H':=Aside0.mk H
           clear H
           have A6:0≤(x49_3:Int):=dT
           have A7:x49_3 < (l0_1.length:Int):=dT
           obtain ⟨D0,e303,A3,A4⟩:=at_T89 B8.out x49_3 A6 A7
           cases e303
           replace A3:=xc HB A3
           replace A4:=xc HB A4
           replace A6:=eq_true A6
           replace A7:=eq_true A7
           go_wp2_with (first | ((with_reducible refine gate_dst (N:=8) rfl ?_);(try (refine gate_guard (by rfl) ?_;dsimp only));refine bx 8 rfl #[.int .i64 0,.int .i64 0] 89 ?_;intro B1 hg w41 hbox hb;have A5:=Aside0.mk (hbox);have B2:=hZ HB hg;have B3:=hZ HB hg;replace HB:=hS HB hb;have A1:=nL A0 hg;have A2:=nG A0 hg;replace A0:=bB A0 hb;clear hb hbox hg;have J6:=A2.out;have J7:=A1.out;obtain ⟨H2,H3,H4,H5⟩:=cf2 A5))
           repeat (go_quiet (fail);try go_wp2_with (first | ((with_reducible refine gate_dst (N:=8) rfl ?_);(try (refine gate_guard (by rfl) ?_;dsimp only));refine bx 8 rfl #[.int .i64 0,.int .i64 0] 89 ?_;intro B1 hg w41 hbox hb;have A5:=Aside0.mk (hbox);have B2:=hZ HB hg;have B3:=hZ HB hg;replace HB:=hS HB hb;have A1:=nL A0 hg;have A2:=nG A0 hg;replace A0:=bB A0 hb;clear hb hbox hg;have J6:=A2.out;have J7:=A1.out;obtain ⟨H2,H3,H4,H5⟩:=cf2 A5)))
           go_roundg k3
           case measure=>have:=HJ1.out;have:=HK2.out;have:=HK3.out;omega
           case rel=>exact ⟨(wrap64 (x49_3 + 1)),impl_IsSorts.a1,H',⟨by have:=HJ1.out;have:=HK2.out;have:=HK3.out;omega⟩,⟨vB A0⟩,⟨hV HB⟩⟩
     ·rw [if_neg c18] at H
      have E4:=decide_eq_false c18
      clear c18
      replace H:=Option.bind_eq_some_iff.mp H
      obtain ⟨t305,A440,H⟩:=H
      replace H:(impl_IsSorts.l2 k3 t305 (t305.length:Int) 0)=some r:=H
      have A44:=Aside0.mk A440
      clear A440
      have H':=Aside0.mk H
      clear H
      obtain ⟨D9,E0,E1,E2⟩:=cf2 A0
      go_wp2_with (first | (go_at_call 56;(with_reducible refine (impl_sortsAbove.calls k3 _ _ l0_0 _ _ l0_1 t305 _ ?side1 ?side2 ?side3 ?side4 A44.out).mono ?_);(case side1=>exact cB B4 HB);(case side2=>exact E8.out);(case side3=>exact cB B8 HB);(case side4=>exact E9.out);rintro e w46 ⟨v306,rfl,ho0,hb⟩;have D6:=rL ho0 HB;replace A0:=bB A0 hb;replace HB:=hS HB hb;(try clear hb);(try clear hb2);(try clear hk);(try clear hi);(try clear ho0);obtain ⟨E6,E7,eo47⟩:=Kd.R_slice D6.out;subst eo47))
      repeat (go_quiet (fail);try go_wp2_with (first | (go_at_call 56;(with_reducible refine (impl_sortsAbove.calls k3 _ _ l0_0 _ _ l0_1 t305 _ ?side1 ?side2 ?side3 ?side4 A44.out).mono ?_);(case side1=>exact cB B4 HB);(case side2=>exact E8.out);(case side3=>exact cB B8 HB);(case side4=>exact E9.out);rintro e w46 ⟨v306,rfl,ho0,hb⟩;have D6:=rL ho0 HB;replace A0:=bB A0 hb;replace HB:=hS HB hb;(try clear hb);(try clear hb2);(try clear hk);(try clear hi);(try clear ho0);obtain ⟨E6,E7,eo47⟩:=Kd.R_slice D6.out;subst eo47)))
      go_loopg [85] k3 (fun kq v85 w'=> ∃ (x85_4:Int),v85=.int .i64 x85_4∧Aside0 (impl_IsSorts.l2 kq t305 (t305.length:Int) x85_4=some r)∧Aside0 (kq≤k3)∧Aside0 (Kd.R (Kd.int .i64) 3 w' w.heap.size (fun _=>True) (.slice E6 t305.length E7) t305)∧Aside0 (w'.heap[B9]? = some (.cells #[(.slice A0_0 l0_0.length c0_0),(.slice A0_1 l0_1.length c0_1)] 33 (0,0)))∧Aside0 (Below w.heap.size w w'))
      case atStart=>exact ⟨(0),impl_IsSorts.a1,H',⟨Nat.le_refl _⟩,⟨rV D6⟩,⟨vB A0⟩,⟨hV HB⟩⟩
      clear H'
      try clear c8
      try clear c10
      try clear D5
      try clear c18
      try clear E4
      try clear D1
      try clear D3
      try clear D9
      try clear E1
      try clear C0
      try clear C2
      try clear C4
      try clear C5
      try clear D2
      try clear D4
      try clear E0
      try clear E2
      try clear C1
      try clear C3
      try clear C8
      try clear C9
      obtain ⟨x85_4,rfl,HA,HK4,B5,A0,HB⟩:=hrel
      cases gk with
      | zero=>exact absurd HA.out (by simp [impl_IsSorts.l2])
      | succ k4=>
       have H:=HA.out
       clear HA
       simp only [impl_IsSorts.l2] at H
       by_cases c48:x85_4 < (t305.length:Int)
       rotate_left
       ·rw [if_neg c48] at H
        have F1:=decide_eq_false c48
        clear c48
        obtain rfl:=Option.some.inj H
        go_wp2
        repeat (go_quiet (fail);try go_wp2)
        go_ret
        exact ⟨impl_IsSorts.a0,hV HB⟩

       rw [if_pos c48] at H
       have F1:=decide_eq_true c48
       clear c48
       have H':=Aside0.mk H
       clear H
       go_wp2
       repeat (go_quiet (fail);try go_wp2)
       go_loopg [90] k4 (fun kq v90 w'=> ∃ (x90_5:Int),v90=.int .i64 x90_5∧Aside0 (impl_IsSorts.l3 kq t305 x85_4 (t305.length:Int) x85_4 (t305.length:Int) x90_5=some r)∧Aside0 (kq≤k4)∧Aside0 (Kd.R (Kd.int .i64) 3 w' w.heap.size (fun _=>True) (.slice E6 t305.length E7) t305)∧Aside0 (w'.heap[B9]? = some (.cells #[(.slice A0_0 l0_0.length c0_0),(.slice A0_1 l0_1.length c0_1)] 33 (0,0)))∧Aside0 (Below w.heap.size w w'))
       case atStart=>exact ⟨(0),impl_IsSorts.a1,H',⟨Nat.le_refl _⟩,⟨rV B5⟩,⟨vB A0⟩,⟨hV HB⟩⟩
       clear H'
       try clear c8
       try clear c10
       try clear D5
       try clear c18
       try clear E4
       try clear c48
       try clear F1
       try clear D1
       try clear D3
       try clear D9
       try clear E1
       try clear C0
       try clear C2
       try clear C4
       try clear C5
       try clear D2
       try clear D4
       try clear E0
       try clear E2
       try clear C1
       try clear C3
       try clear C8
       try clear C9
       obtain ⟨x90_5,rfl,HA,HK5,B5,A0,HB⟩:=hrel
       cases gk with
       | zero=>exact absurd HA.out (by simp [impl_IsSorts.l3])
       | succ k5=>
        have H:=HA.out
        clear HA
        simp only [impl_IsSorts.l3] at H
        by_cases c49:x90_5 < (t305.length:Int)
        rotate_left
        ·rw [if_neg c49] at H
         have J8:=decide_eq_false c49
         clear c49
         have H':=Aside0.mk H
         clear H
         go_wp2
         repeat (go_quiet (fail);try go_wp2)
         go_roundg k5
         case measure=>have:=HJ1.out;have:=HK2.out;have:=HK3.out;have:=HK4.out;have:=HK5.out;omega
         case rel=>exact ⟨(wrap64 (x85_4 + 1)),impl_IsSorts.a1,H',⟨impl_IsSorts.a2⟩,⟨rV B5⟩,⟨vB A0⟩,⟨hV HB⟩⟩
        rw [if_pos c49] at H
        have J8:=decide_eq_true c49
        clear c49
        by_cases c50:x85_4=x90_5
        ·rw [if_pos c50] at H
         have J9:(x85_4 == x90_5)=true:=beq_iff_eq.mpr c50
         have K0:(x85_4 != x90_5)=false:=bne_eq_false_iff_eq.mpr c50
         clear c50
         have H':=Aside0.mk H
         clear H
         go_wp2
         repeat (go_quiet (fail);try go_wp2)
         go_roundg k5
         case measure=>have:=HJ1.out;have:=HK2.out;have:=HK3.out;have:=HK4.out;have:=HK5.out;omega
         case rel=>exact ⟨(wrap64 (x90_5 + 1)),impl_IsSorts.a1,H',⟨impl_IsSorts.a2⟩,⟨rV B5⟩,⟨vB A0⟩,⟨hV HB⟩⟩
        rw [if_neg c50] at H
        have J9:(x85_4 == x90_5)=false:=beq_eq_false_iff_ne.mpr c50
        have K0:(x85_4 != x90_5)=true:=bne_iff_ne.mpr c50
        by_cases c51:0≤x85_4
        rotate_left
        ·rw [if_neg c51] at H
         exact absurd H (by simp)
        rw [if_pos c51] at H
        have L6:=decide_eq_true c51
        clear c51
        by_cases c52:x85_4 < (t305.length:Int)
        rotate_left
        ·rw [if_neg c52] at H
         exact absurd H (by simp)
        rw [if_pos c52] at H
        have L7:=decide_eq_true c52
        clear c52
        by_cases c53:0≤x90_5
        rotate_left
        ·rw [if_neg c53] at H
         exact absurd H (by simp)
        rw [if_pos c53] at H
        have L8:=eq_true c53
        have L9:=decide_eq_true c53
        clear c53
        obtain ⟨ji54,hji54⟩:∃ j_:Int,(shl .i64 1 x90_5)=j_:=⟨_,rfl⟩
        replace H:(if (Go.bits .and .i64 (rd t305 x85_4) (ji54))=0 then (impl_IsSorts.l3 k5 t305 x85_4 (t305.length:Int) x85_4 (t305.length:Int) (wrap64 (x90_5 + 1))) else (if x90_5 < (t305.length:Int) then (if (Go.bits .and .i64 (rd t305 x90_5) (shl .i64 1 x85_4))=0 then (impl_IsSorts.l3 k5 t305 x85_4 (t305.length:Int) x85_4 (t305.length:Int) (wrap64 (x90_5 + 1))) else (some false)) else (none)))=some r:=by first | (rw [hji54] at H;exact H) | (simp only [hji54] at H ⊢;exact H)
        have hji54_:(IntKind.i64.wrap (1 * 2 ^ min x90_5.toNat 64))=ji54:=hji54
        have hji54z:x90_5≤64→(IntKind.i64.wrap (1 * 2 ^ x90_5.toNat))=ji54:=shl_small hji54
        have hji54u:(IntKind.i64.wrap (2 ^ min x90_5.toNat 64))=ji54:=by have h_:=hji54_;rw [Int.one_mul] at h_;exact h_
        have hji54v:x90_5≤64→(IntKind.i64.wrap (2 ^ x90_5.toNat))=ji54:=fun hle_=>by have h_:=hji54z hle_;rw [Int.one_mul] at h_;exact h_
        have hji54y:(wrap64 (1 * 2 ^ min x90_5.toNat 64))=ji54:=(i64_w _).symm.trans hji54_
        have hji54x:x90_5≤64→(wrap64 (1 * 2 ^ x90_5.toNat))=ji54:=fun h_=>(i64_w _).symm.trans (hji54z h_)
        by_cases c55:(Go.bits .and .i64 (rd t305 x85_4) (ji54))=0
        ·rw [if_pos c55] at H
         have K1:((Go.bits .and .i64 (rd t305 x85_4) (ji54)) == 0)=true:=beq_iff_eq.mpr c55
         have K2:((Go.bits .and .i64 (rd t305 x85_4) (ji54)) != 0)=false:=bne_eq_false_iff_eq.mpr c55
         clear c55
         have H':=Aside0.mk H
         clear H
         have B6:0≤(x85_4:Int):=dT
         have B7:x85_4 < (t305.length:Int):=dT
         obtain ⟨D7,e308,E3⟩:=Kd.at_int (Kd.R_reads' B5.out).2.2 x85_4 B6 B7
         cases e308
         replace B6:=eq_true B6
         replace B7:=eq_true B7
         go_wp2
         repeat (go_quiet (fail);try go_wp2)
         go_roundg k5
         case measure=>have:=HJ1.out;have:=HK2.out;have:=HK3.out;have:=HK4.out;have:=HK5.out;omega
         case rel=>exact ⟨(wrap64 (x90_5 + 1)),impl_IsSorts.a1,H',⟨impl_IsSorts.a2⟩,⟨rV B5⟩,⟨vB A0⟩,⟨hV HB⟩⟩
        ·rw [if_neg c55] at H
         have K1:((Go.bits .and .i64 (rd t305 x85_4) (ji54)) == 0)=false:=beq_eq_false_iff_ne.mpr c55
         have K2:((Go.bits .and .i64 (rd t305 x85_4) (ji54)) != 0)=true:=bne_iff_ne.mpr c55
         by_cases c56:x90_5 < (t305.length:Int)
         rotate_left
         ·rw [if_neg c56] at H
          exact absurd H (by simp)
         rw [if_pos c56] at H
         have M0:=decide_eq_true c56
         clear c56
         have M1:=eq_true (dT:0≤x85_4)
         obtain ⟨ji58,hji58⟩:∃ j_:Int,(shl .i64 1 x85_4)=j_:=⟨_,rfl⟩
         replace H:(if (Go.bits .and .i64 (rd t305 x90_5) (ji58))=0 then (impl_IsSorts.l3 k5 t305 x85_4 (t305.length:Int) x85_4 (t305.length:Int) (wrap64 (x90_5 + 1))) else (some false))=some r:=by first | (rw [hji58] at H;exact H) | (simp only [hji58] at H ⊢;exact H)
         have hji58_:(IntKind.i64.wrap (1 * 2 ^ min x85_4.toNat 64))=ji58:=hji58
         have hji58z:x85_4≤64→(IntKind.i64.wrap (1 * 2 ^ x85_4.toNat))=ji58:=shl_small hji58
         have hji58u:(IntKind.i64.wrap (2 ^ min x85_4.toNat 64))=ji58:=by have h_:=hji58_;rw [Int.one_mul] at h_;exact h_
         have hji58v:x85_4≤64→(IntKind.i64.wrap (2 ^ x85_4.toNat))=ji58:=fun hle_=>by have h_:=hji58z hle_;rw [Int.one_mul] at h_;exact h_
         have hji58y:(wrap64 (1 * 2 ^ min x85_4.toNat 64))=ji58:=(i64_w _).symm.trans hji58_
         have hji58x:x85_4≤64→(wrap64 (1 * 2 ^ x85_4.toNat))=ji58:=fun h_=>(i64_w _).symm.trans (hji58z h_)
         by_cases c59:(Go.bits .and .i64 (rd t305 x90_5) (ji58))=0
         ·rw [if_pos c59] at H
          have K3:((Go.bits .and .i64 (rd t305 x90_5) (ji58)) == 0)=true:=beq_iff_eq.mpr c59
          have K4:((Go.bits .and .i64 (rd t305 x90_5) (ji58)) != 0)=false:=bne_eq_false_iff_eq.mpr c59
          clear c59
          have H':=Aside0.mk H
          clear H
          have B6:0≤(x85_4:Int):=dT
          have B7:x85_4 < (t305.length:Int):=dT
          obtain ⟨D7,e308,E3⟩:=Kd.at_int (Kd.R_reads' B5.out).2.2 x85_4 B6 B7
          cases e308
          replace B6:=eq_true B6
          replace B7:=eq_true B7
          have C6:0≤(x90_5:Int):=dT
          have C7:x90_5 < (t305.length:Int):=dT
          obtain ⟨E5,e309,H6⟩:=Kd.at_int (Kd.R_reads' B5.out).2.2 x90_5 C6 C7
          obtain rfl:D7=E5:=(by injection e309)
          replace C6:=eq_true C6
          replace C7:=eq_true C7
          go_wp2
          repeat (go_quiet (fail);try go_wp2)
          go_roundg k5
          case measure=>have:=HJ1.out;have:=HK2.out;have:=HK3.out;have:=HK4.out;have:=HK5.out;omega
          case rel=>exact ⟨(wrap64 (x90_5 + 1)),impl_IsSorts.a1,H',⟨impl_IsSorts.a2⟩,⟨rV B5⟩,⟨vB A0⟩,⟨hV HB⟩⟩
         ·rw [if_neg c59] at H
          have K3:((Go.bits .and .i64 (rd t305 x90_5) (ji58)) == 0)=false:=beq_eq_false_iff_ne.mpr c59
          have K4:((Go.bits .and .i64 (rd t305 x90_5) (ji58)) != 0)=true:=bne_iff_ne.mpr c59
          obtain rfl:=Option.some.inj H
          have B6:0≤(x85_4:Int):=dT
          have B7:x85_4 < (t305.length:Int):=dT
          obtain ⟨D7,e308,E3⟩:=Kd.at_int (Kd.R_reads' B5.out).2.2 x85_4 B6 B7
          cases e308
          replace B6:=eq_true B6
          replace B7:=eq_true B7
          have C6:0≤(x90_5:Int):=dT
          have C7:x90_5 < (t305.length:Int):=dT
          obtain ⟨E5,e309,H6⟩:=Kd.at_int (Kd.R_reads' B5.out).2.2 x90_5 C6 C7
          obtain rfl:D7=E5:=(by injection e309)
          replace C6:=eq_true C6
          replace C7:=eq_true C7
          go_wp2
          repeat (go_quiet (fail);try go_wp2)
          go_ret
          exact ⟨by first | rfl | (simp [errW_none,errW_some] <;> rfl) | (simp only [← hji54,← hji58];first | rfl | (simp [errW_none,errW_some] <;> rfl)) | (simp [*,errW_none,errW_some] <;> rfl),hV HB⟩
/-! ### impl_isSet: function 71 -/
def impl_isSet.f (a0:Int):Option (Bool):=if a0≥0 then (some (decide (a0≤65535))) else (some false)
set_option maxHeartbeats 8000000 in
set_option maxRecDepth 100000 in
theorem impl_isSet.calls (a0:Int) (r:Bool) (w:World) (h:impl_isSet.f a0=some r) :
    Calls Try.prog 71 #[.int .i64 a0] w fun e w'=>e=.returned (.bool r)∧Drawn0 w w':=by
  have H:(if a0≥0 then (some (decide (a0≤65535))) else (some false))=some r:=h
  clear h
  by_cases c2:a0≥0
  · rw [if_pos c2] at H
    have A0:=decide_eq_true c2
    clear c2
    obtain rfl:=Option.some.inj H
    go_enter Try.func71,Try.ntmps71
    go_wp2
    go_ret
    exact ⟨by first | rfl | (simp;done) | (simp [*];done),by repeat (first | exact Drawn0.refl _ | apply Drawn0.step)⟩
  rw [if_neg c2] at H
  have A0:=decide_eq_false c2
  clear c2
  obtain rfl:=Option.some.inj H
  go_enter Try.func71,Try.ntmps71
  go_wp2
  go_ret
  exact ⟨by first | rfl | (simp;done) | (simp [*];done),by repeat (first | exact Drawn0.refl _ | apply Drawn0.step)⟩

/-! ### impl_ListOf: function 57 -/
theorem impl_ListOf.a0 {P_:Prop} (h_:P_:=by first | rfl | (simp;done) | (simp [*];done)):P_:=h_
mutual
def impl_ListOf.l0:Nat→Int→List Int→Int→Option (List Int)
 | 0,_,_,_=>none
 | k + 1,x0,x3,x4=>if x4 < 16 then ((impl_isSet.f x0).bind fun t313=>(impl_ListOf.j1 k x0 x3 x4 t313)) else (impl_ListOf.j1 k x0 x3 x4 false)
def impl_ListOf.j1:Nat→Int→List Int→Int→Bool→Option (List Int)
 | 0,_,_,_,_=>none
 | k + 1,x0,x3,x4,x11=>if x11=true then (if 0≤x4 then (if (Go.bits .and .i64 x0 (shl .i64 1 x4))=0 then (impl_ListOf.l0 k x0 x3 (wrap64 (x4 + 1))) else (if x3.length < 17592186044416 then (impl_ListOf.l0 k x0 (x3 ++ [x4]) (wrap64 (x4 + 1))) else (none))) else (none)) else (some x3)
end
def impl_ListOf.f (k:Nat) (a0:Int):Option (List Int):=impl_ListOf.l0 k a0 (([]:List Int)) 0
set_option maxHeartbeats 8000000 in
set_option maxRecDepth 100000 in
theorem impl_ListOf.calls (k:Nat) (a0:Int) (r:List Int) (w:World) (h:impl_ListOf.f k a0=some r) :
  Calls Try.prog 57 #[.int .i64 a0] w fun e w'=> ∃ v0_:Value,e=.returned (v0_)∧Kd.R (Kd.int .i64) 3 w' w.heap.size (fun _=>True) v0_ r∧Below w.heap.size w w':=by
 have HB:=Aside0.mk (Below.refl w.heap.size w)
 have H:(impl_ListOf.l0 k a0 (([]:List Int)) 0)=some r:=h
 clear h
 obtain ⟨y310,hy310⟩:∃ y_:List Int,y_=(([]:List Int)):=⟨_,rfl⟩
 replace H:(impl_ListOf.l0 k a0 y310 0)=some r:=by first | (rw [hy310];with_reducible exact H) | (have H2_:=(Option.bind_some _ _).symm.trans H;rw [hy310];with_reducible exact H2_) | (have H2_:=(Option.bind_some _ _).symm.trans H;with_reducible exact H2_) | with_reducible exact H | (rw [hy310];exact H) | exact H
 have A2:=Aside0.mk hy310
 clear hy310
 have H':=Aside0.mk H
 clear H
 go_enter Try.func57,Try.ntmps57
 go_wp2_with (first | ((with_reducible refine gate_dst (N:=5) rfl ?_);refine Kd.R_lit (Kd.int .i64) _ 3 ?hg (N:=5) ?hd (xs:=([]:List Int)) (inner:=[]) (ok:=fun _=>True) (okp:=fun _=>True) ?hr ?hp (fun _ hk=>hk) trivial (Below.refl _ _) (Nat.le_refl _) (by simp) ?_;(case hd=>rfl);(case hg=>rfl);(case hr=>first | (go_simp;done) | (go_simp;rfl));(case hp=>exact (Reps.none _ _));intro v311 w2 ho3 hb hg_ hnew_;clear hg_ hnew_;(first | rw [← A2.out] at ho3 | (simp only [Int.reduceToNat] at ho3;rw [← A2.out] at ho3));have A4:=rL ho3 HB;replace HB:=hS HB hb;clear hb ho3))
 go_loopg [3,4] k (fun kq v3 v4 w'=> ∃ (x3_1:List Int) (x4_1:Int),v4=.int .i64 x4_1∧Aside0 (impl_ListOf.l0 kq a0 x3_1 x4_1=some r)∧Aside0 (kq≤k)∧Aside0 (Kd.R (Kd.int .i64) 3 w' w.heap.size (fun _=>True) v3 x3_1)∧Aside0 (Below w.heap.size w w'))
 case atStart=>exact ⟨(y310),(0),impl_ListOf.a0,H',⟨Nat.le_refl _⟩,⟨rV A4⟩,⟨hV HB⟩⟩
 clear H'
 obtain ⟨x3_1,x4_1,rfl,HA,HK1,A0,HB⟩:=hrel
 cases gk with
 | zero=>exact absurd HA.out (by simp [impl_ListOf.l0])
 | succ k1=>
  have H:=HA.out
  clear HA
  simp only [impl_ListOf.l0] at H
  have A3:=Aside0.mk H
  clear H
  go_upto_region 3 with (fail)
  go_cut [11] (fun v11 wc=> ∃ (kq:Nat) (x11_3:Bool),v11=.bool x11_3∧Aside0 (impl_ListOf.j1 kq a0 x3_1 x4_1 x11_3=some r)∧Aside0 (kq≤k1)∧Aside0 (Kd.R (Kd.int .i64) 3 wc w.heap.size (fun _=>True) u3 x3_1)∧Aside0 (Below w.heap.size w wc))
  case first=>
   have H:=A3.out
   clear A3
   by_cases c5:x4_1 < 16
   rotate_left
   ·rw [if_neg c5] at H
    have A1:=decide_eq_false c5
    clear c5
    (first | rw [A1] | (simp only [i64_w,i32_w];rw [A1]) | skip)
    have H':=Aside0.mk H
    clear H
    go_wp2
    go_meet
    case rel=>exact ⟨_,(false),impl_ListOf.a0,H',⟨by have:=HK1.out;first | omega | exact Nat.le_refl _⟩,⟨rV A0⟩,⟨hV HB⟩⟩
   rw [if_pos c5] at H
   have A1:=decide_eq_true c5
   clear c5
   (first | rw [A1] | (simp only [i64_w,i32_w];rw [A1]) | skip)
   replace H:=Option.bind_eq_some_iff.mp H
   obtain ⟨t313,A60,H⟩:=H
   replace H:(impl_ListOf.j1 k1 a0 x3_1 x4_1 t313)=some r:=H
   have A6:=Aside0.mk A60
   clear A60
   have H':=Aside0.mk H
   clear H
   go_wp2_with (first | (go_at_call 71;(with_reducible refine (impl_isSet.calls a0 t313 _ A6.out).mono ?_);rintro e w' ⟨rfl,⟨nd,rfl⟩⟩))
   go_meet
   case rel=>exact ⟨_,(t313),impl_ListOf.a0,H',⟨by have:=HK1.out;first | omega | exact Nat.le_refl _⟩,⟨rV A0⟩,⟨hV HB⟩⟩
  clear A3
  obtain ⟨kq,x11_3,rfl,HA,HJ3,A0,HB⟩:=hcut
  cases kq with
  | zero=>exact absurd HA.out (by simp [impl_ListOf.j1])
  | succ kj3=>
   have H:=HA.out
   clear HA
   simp only [impl_ListOf.j1] at H
   by_cases c7:x11_3=true
   rotate_left
   ·replace c7:=Bool.eq_false_iff.mpr c7
    subst c7
    rw [if_neg (show ¬ (false=true) by decide)] at H
    obtain rfl:=Option.some.inj H
    go_wp2
    go_ret
    exact ⟨_,by first | rfl | (simp [errW_none,errW_some] <;> rfl) | (simp [*,errW_none,errW_some] <;> rfl),rV A0,hV HB⟩

   subst c7
   rw [if_pos rfl] at H
   by_cases c8:0≤x4_1
   rotate_left
   ·rw [if_neg c8] at H
    exact absurd H (by simp)
   rw [if_pos c8] at H
   have B0:=eq_true c8
   have B1:=decide_eq_true c8
   clear c8
   obtain ⟨ji9,hji9⟩:∃ j_:Int,(shl .i64 1 x4_1)=j_:=⟨_,rfl⟩
   replace H:(if (Go.bits .and .i64 a0 (ji9))=0 then (impl_ListOf.l0 kj3 a0 x3_1 (wrap64 (x4_1 + 1))) else (if x3_1.length < 17592186044416 then (impl_ListOf.l0 kj3 a0 (x3_1 ++ [x4_1]) (wrap64 (x4_1 + 1))) else (none)))=some r:=by first | (rw [hji9] at H;exact H) | (simp only [hji9] at H ⊢;exact H)
   have hji9_:(IntKind.i64.wrap (1 * 2 ^ min x4_1.toNat 64))=ji9:=hji9
   have hji9z:x4_1≤64→(IntKind.i64.wrap (1 * 2 ^ x4_1.toNat))=ji9:=shl_small hji9
   have hji9u:(IntKind.i64.wrap (2 ^ min x4_1.toNat 64))=ji9:=by have h_:=hji9_;rw [Int.one_mul] at h_;exact h_
   have hji9v:x4_1≤64→(IntKind.i64.wrap (2 ^ x4_1.toNat))=ji9:=fun hle_=>by have h_:=hji9z hle_;rw [Int.one_mul] at h_;exact h_
   have hji9y:(wrap64 (1 * 2 ^ min x4_1.toNat 64))=ji9:=(i64_w _).symm.trans hji9_
   have hji9x:x4_1≤64→(wrap64 (1 * 2 ^ x4_1.toNat))=ji9:=fun h_=>(i64_w _).symm.trans (hji9z h_)
   by_cases c10:(Go.bits .and .i64 a0 (ji9))=0
   ·rw [if_pos c10] at H
    have A5:((Go.bits .and .i64 a0 (ji9)) == 0)=true:=beq_iff_eq.mpr c10
    have A7:((Go.bits .and .i64 a0 (ji9)) != 0)=false:=bne_eq_false_iff_eq.mpr c10
    clear c10
    have H':=Aside0.mk H
    clear H
    go_wp2
    go_roundg kj3
    case measure=>have:=HK1.out;have:=HJ3.out;omega
    case rel=>exact ⟨(x3_1),(wrap64 (x4_1 + 1)),impl_ListOf.a0,H',⟨by have:=HK1.out;have:=HJ3.out;omega⟩,⟨rV A0⟩,⟨hV HB⟩⟩
   rw [if_neg c10] at H
   have A5:((Go.bits .and .i64 a0 (ji9)) == 0)=false:=beq_eq_false_iff_ne.mpr c10
   have A7:((Go.bits .and .i64 a0 (ji9)) != 0)=true:=bne_iff_ne.mpr c10
   by_cases c11:x3_1.length < 17592186044416
   rotate_left
   ·rw [if_neg c11] at H
    exact absurd H (by simp)
   rw [if_pos c11] at H
   have LMc11:=Aside0.mk c11
   clear c11
   obtain ⟨y314,hy314⟩:∃ y_:List Int,y_=(x3_1 ++ [x4_1]):=⟨_,rfl⟩
   replace H:(impl_ListOf.l0 kj3 a0 y314 (wrap64 (x4_1 + 1)))=some r:=by first | (rw [hy314];with_reducible exact H) | (have H2_:=(Option.bind_some _ _).symm.trans H;rw [hy314];with_reducible exact H2_) | (have H2_:=(Option.bind_some _ _).symm.trans H;with_reducible exact H2_) | with_reducible exact H | (rw [hy314];exact H) | exact H
   have A8:=Aside0.mk hy314
   clear hy314
   have H':=Aside0.mk H
   clear H
   go_wp2_with (first | ((with_reducible refine gate_builtin (b:=.append) (xs:=#[.tmp 19,.tmp 21]) rfl ?_);at_builtin;refine Kd.R_append (Kd.int .i64) (w0:=w) w.heap.size rfl (.tmp 19) (.tmp 21) 55 3 (.int .i64 0) 8 rfl Try.underlying55 info3 rfl (by decide) (by omega) u3 x3_1 x4_1 [.int .i64 x4_1] (fun _=>True) (fun _=>False) rfl rfl ?aP (fun _ hk=>hk.elim) ?aF ?aO ?aB ?aS ?aL ?_;(case aP=>exact rfl);(case aB=>exact (hV HB));(case aF=>exact (fun _ _=>trivial));(case aO=>exact (rV A0));(case aS=>exact (below_size (hV HB)));(case aL=>have:=LMc11.out;omega);intro v315 w12 ho hb hg hat;rw [← A8.out] at ho;replace HB:=Aside0.mk (hb);have A9:=Aside0.mk (ho);clear A0;clear ho hb hg hat))
   go_roundg kj3
   case measure=>have:=HK1.out;have:=HJ3.out;omega
   case rel=>exact ⟨(y314),(wrap64 (x4_1 + 1)),impl_ListOf.a0,H',⟨by have:=HK1.out;have:=HJ3.out;omega⟩,⟨rV A9⟩,⟨hV HB⟩⟩
end Go.Proofs.Ytpildjbakceicaa.Q

