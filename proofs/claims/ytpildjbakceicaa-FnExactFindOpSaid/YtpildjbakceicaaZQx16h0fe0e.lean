/- Functions of the program as plain Lean functions,and that the calls come to what they say. -/
import Derived.Test.YtpildjbakceicaaZQx0hb61c0
import Derived.Test.YtpildjbakceicaaZQx10h9e436
import Derived.Test.YtpildjbakceicaaZQx12h5742f
import Derived.Test.YtpildjbakceicaaZQx14h5969b
import Derived.Test.YtpildjbakceicaaZQx15hfb5c8
import Derived.Test.YtpildjbakceicaaZSeenhfa3fb
import Derived.Test.YtpildjbakceicaaZShorth7b252
namespace Go.Proofs.Ytpildjbakceicaa.Q
open Go.RowKit Go.Proofs.YtpildjbakceicaaW.PrintWords Go.Proofs.YtpildjbakceicaaW.PrintLast Go.Proofs.YtpildjbakceicaaW.PrintMore
attribute [local go_sem] max2_int min2_int max_two min_two max_three min_three max_four min_four   -- for this text's walks alone
set_option linter.unusedVariables false
set_option linter.unusedSimpArgs false

/-! ### impl_IsSignature: function 11 -/
theorem impl_IsSignature.a0 {P_:Prop} (h_:P_:=by first | rfl | (simp [errW_none,errW_some] <;> rfl) | (simp [*,errW_none,errW_some] <;> rfl)):P_:=h_
theorem impl_IsSignature.a1 {P_:Prop} (h_:P_:=by rw [List.length_map,List.length_take];have h_:=C8.out.2.1;have hp_:=of_eq_true B2;have hq_:=of_eq_true B3;unfold maxLen;omega):P_:=h_
theorem impl_IsSignature.a2 {P_:Prop} (h_:P_:=by first | rfl | (simp;done) | (simp [*];done)):P_:=h_
mutual
def impl_IsSignature.j0:Nat→Bool→List ByteArray→List (S89)→List (S50)→List Int→List Int→List Int→Option (Bool)
 | 0,_,_,_,_,_,_,_=>none
 | k + 1,x23,x384000,x384001,x384002,x395000,x395001,x395002=>if x23=true then (some false) else (impl_IsSignature.l0 k x384002 (x384002.length:Int) 0 x384000 x384001 x384002 x395000 x395001 x395002)
def impl_IsSignature.l0:Nat→List (S50)→Int→Int→List ByteArray→List (S89)→List (S50)→List Int→List Int→List Int→Option (Bool)
 | 0,_,_,_,_,_,_,_,_,_=>none
 | k + 1,x26,x27,x28,x384000,x384001,x384002,x395000,x395001,x395002=>if x28 < x27 then (if 0≤x28 then (if x28 < (x26.length:Int) then ((seenIn.f ((x26.take (x28).toNat).map (fun z_=>z_.f0)) ((rd_T50 x26 x28).f0)).bind fun t397=>(if t397=true then (some false) else ((impl_IsName.f k ((rd_T50 x26 x28).f0)).bind fun t398=>(if t398=true then ((impl_declsOK.f k x395000 x395001 x395002 ((rd_T50 x26 x28).f0) ((rd_T50 x26 x28).f1) ((rd_T50 x26 x28).f2) ((rd_T50 x26 x28).f3) ((rd_T50 x26 x28).f4)).bind fun t399=>(if t399=true then (impl_IsSignature.l0 k x26 x27 (wrap64 (x28 + 1)) x384000 x384001 x384002 x395000 x395001 x395002) else (some false))) else (some false))))) else (none)) else (none)) else (impl_IsSignature.l1 k x384002 (x384002.length:Int) 0 x384000 x384001 x384002 x395000 x395001 x395002)
def impl_IsSignature.l1:Nat→List (S50)→Int→Int→List ByteArray→List (S89)→List (S50)→List Int→List Int→List Int→Option (Bool)
 | 0,_,_,_,_,_,_,_,_,_=>none
 | k + 1,x53,x54,x55,x384000,x384001,x384002,x395000,x395001,x395002=>if x55 < x54 then (if 0≤x55 then (if x55 < (x53.length:Int) then ((impl_axiomsOK.f k x395000 x395001 x395002 x384000 x384001 x384002 ((rd_T50 x53 x55).f0) ((rd_T50 x53 x55).f1) ((rd_T50 x53 x55).f2) ((rd_T50 x53 x55).f3) ((rd_T50 x53 x55).f4)).bind fun t402=>(if t402=true then (impl_IsSignature.l1 k x53 x54 (wrap64 (x55 + 1)) x384000 x384001 x384002 x395000 x395001 x395002) else (some false))) else (none)) else (none)) else (some true)
end
def impl_IsSignature.f (k:Nat) (l0_0:List ByteArray) (l0_1:List (S89)) (l0_2:List (S50)):Option (Bool):=(impl_newOrder.f k l0_0 l0_1).bind fun bt384=>(if bt384.2.2.2=true then (impl_IsSignature.j0 k (decide ((l0_2.length:Int) > 14)) l0_0 l0_1 l0_2 bt384.1 bt384.2.1 bt384.2.2.1) else (impl_IsSignature.j0 k true l0_0 l0_1 l0_2 bt384.1 bt384.2.1 bt384.2.2.1))
set_option maxHeartbeats 8000000 in
set_option maxRecDepth 100000 in
theorem impl_IsSignature.calls (k:Nat) (A0_0:Option Addr) (c0_0:Nat) (l0_0:List ByteArray) (A0_1:Option Addr) (c0_1:Nat) (l0_1:List (S89)) (A0_2:Option Addr) (c0_2:Nat) (l0_2:List (S50)) (r:Bool) (w:World) (hr0_0:Kd.C Kd.string w A0_0 l0_0.length l0_0) (hc0_0:l0_0.length≤c0_0) (hr0_1:Kd.C k89 w A0_1 l0_1.length l0_1) (hc0_1:l0_1.length≤c0_1) (hr0_2:Kd.C k50 w A0_2 l0_2.length l0_2) (hc0_2:l0_2.length≤c0_2) (h:impl_IsSignature.f k l0_0 l0_1 l0_2=some r) :
  Calls Try.prog 11 #[.agg #[.slice A0_0 l0_0.length c0_0,.slice A0_1 l0_1.length c0_1,.slice A0_2 l0_2.length c0_2]] w fun e w'=>e=.returned (.bool r)∧Below w.heap.size w w':=by
 have hu36:=Try.underlying36
 have hu33:=Try.underlying33
 have hu57:=Try.underlying57
 have hu50:=Try.underlying50
 have G9:=Aside0.mk hr0_0
 have H0:=Aside0.mk hc0_0
 clear hr0_0 hc0_0
 have H1:=Aside0.mk hr0_1
 have H2:=Aside0.mk hc0_1
 clear hr0_1 hc0_1
 have C8:=Aside0.mk hr0_2
 have I0:=Aside0.mk hc0_2
 clear hr0_2 hc0_2
 have HB:=Aside0.mk (Below.refl w.heap.size w)
 have H:((impl_newOrder.f k l0_0 l0_1).bind fun bt384=>(if bt384.2.2.2=true then (impl_IsSignature.j0 k (decide ((l0_2.length:Int) > 14)) l0_0 l0_1 l0_2 bt384.1 bt384.2.1 bt384.2.2.1) else (impl_IsSignature.j0 k true l0_0 l0_1 l0_2 bt384.1 bt384.2.1 bt384.2.2.1)))=some r:=h
 clear h
 replace H:=Option.bind_eq_some_iff.mp H
 obtain ⟨⟨t384,t387,t390,t393⟩,A20,H⟩:=H
 replace H:(if t393=true then (impl_IsSignature.j0 k (decide ((l0_2.length:Int) > 14)) l0_0 l0_1 l0_2 t384 t387 t390) else (impl_IsSignature.j0 k true l0_0 l0_1 l0_2 t384 t387 t390))=some r:=H
 have A2:=Aside0.mk A20
 clear A20
 have I8:=Aside0.mk H
 clear H
 go_enter Try.func11,Try.ntmps11
 go_upto_region 2 with (first | ((with_reducible refine gate_dst (N:=1) rfl ?_);(try (refine gate_guard (by rfl) ?_;dsimp only));refine bx 1 rfl #[.slice A0_0 l0_0.length c0_0,.slice A0_1 l0_1.length c0_1,.slice A0_2 l0_2.length c0_2] 36 ?_;intro E3 hg w4 hbox hb;have A4:=Aside0.mk (hbox);have U5:=hZ HB hg;have U6:=hZ HB hg;replace HB:=hS HB hb;clear hb hbox hg;obtain ⟨G0,G1,G2,G3,G4,G5⟩:=cf3 A4) | (refine goK 29 (some 13) rfl Try.func29 #[.agg #[.slice A0_0 l0_0.length c0_0,.slice A0_1 l0_1.length c0_1]] ?_;(with_reducible refine (impl_newOrder.calls k _ _ l0_0 _ _ l0_1 t384 t387 t390 t393 _ ?side1 ?side2 ?side3 ?side4 A2.out).mono ?_);(case side1=>exact cB G9 HB);(case side2=>exact H0.out);(case side3=>exact cB H1 HB);(case side4=>exact H2.out);rintro e w6 ⟨v385,v388,v391,rfl,ho0,ho1,ho2,hb⟩;refine ⟨_,rfl,?_⟩;have E9:=rL ho0 HB;have F0:=rL ho1 HB;have F1:=rL ho2 HB;replace A4:=bB A4 hb;replace HB:=hS HB hb;(try clear hb);(try clear hb2);(try clear hk);(try clear hi);(try clear ho0);(try clear ho1);(try clear ho2)) | ((with_reducible refine gate_dst (N:=3) rfl ?_);(try (refine gate_guard (by rfl) ?_;dsimp only));refine bx 3 rfl #[.slice none 0 0,.slice none 0 0,.slice none 0 0] 57 ?_;intro H3 hg w7 hbox hb;replace E9:=rB E9 hb;replace F0:=rB F0 hb;replace F1:=rB F1 hb;have A5:=Aside0.mk (hbox);have U7:=hZ HB hg;have U8:=hZ HB hg;replace HB:=hS HB hb;have C1:=nL A4 hg;have C2:=nG A4 hg;replace A4:=bB A4 hb;clear hb hbox hg;obtain ⟨C9,C3,eo8⟩:=Kd.R_slice E9.out;subst eo8;have Z1:=C2.out;have Z2:=C1.out;obtain ⟨F2,F3,F4,F5,F6,F7⟩:=cf3 A5;obtain ⟨B0,A7,eo11⟩:=Kd.R_slice F0.out;subst eo11;obtain ⟨B1,A8,eo12⟩:=Kd.R_slice F1.out;subst eo12))
 (try simp only [Act.put,List.setIfInBounds_toArray,List.set_cons_zero,List.set_cons_succ])
 go_cut [23] (fun v23 wc=> ∃ (kq:Nat) (x23_2:Bool),v23=.bool x23_2∧Aside0 (impl_IsSignature.j0 kq x23_2 l0_0 l0_1 l0_2 t384 t387 t390=some r)∧Aside0 (kq≤k)∧Aside0 (Kd.R (Kd.int .i64) 3 wc w.heap.size (fun k_=>some k_≠((.slice B0 t387.length A7):Value).ownBlock∧some k_≠((.slice B1 t390.length A8):Value).ownBlock) (.slice C9 t384.length C3) t384)∧Aside0 (Kd.R (Kd.int .i64) 3 wc w.heap.size (fun k_=>some k_≠((.slice C9 t384.length C3):Value).ownBlock∧some k_≠((.slice B1 t390.length A8):Value).ownBlock) (.slice B0 t387.length A7) t387)∧Aside0 (Kd.R (Kd.int .i64) 3 wc w.heap.size (fun k_=>some k_≠((.slice C9 t384.length C3):Value).ownBlock∧some k_≠((.slice B0 t387.length A7):Value).ownBlock) (.slice B1 t390.length A8) t390)∧Aside0 (wc.heap[E3]? = some (.cells #[(.slice A0_0 l0_0.length c0_0),(.slice A0_1 l0_1.length c0_1),(.slice A0_2 l0_2.length c0_2)] 36 (0,0)))∧Aside0 (wc.heap[H3]? = some (.cells #[(.slice C9 t384.length C3),(.slice B0 t387.length A7),(.slice B1 t390.length A8)] 57 (0,0)))∧Aside0 (Below w.heap.size w wc))
 case first=>
  have H:=I8.out
  clear I8
  by_cases c13:t393=true
  rotate_left
  ·replace c13:=Bool.eq_false_iff.mpr c13
   subst c13
   rw [if_neg (show ¬ (false=true) by decide)] at H
   have H':=Aside0.mk H
   clear H
   go_wp2
   go_meet
   case rel=>exact ⟨_,(true),impl_IsSignature.a2,H',⟨by first | omega | exact Nat.le_refl _⟩,⟨rT E9 A5 (fun _ hk=>⟨hk.1.1,hk.1.2⟩)⟩,⟨rT F0 A5 (fun _ hk=>⟨hk.1.1,hk.1.2⟩)⟩,⟨rT F1 A5 (fun _ hk=>⟨hk.1.1,hk.1.2⟩)⟩,⟨vB A4⟩,⟨vP A5⟩,⟨hV HB⟩⟩
  subst c13
  rw [if_pos rfl] at H
  have H':=Aside0.mk H
  clear H
  have U9:=C1.out
  have V0:=C2.out
  obtain ⟨J3,J4,J5,J6,J7,J8⟩:=cf3 A4
  go_wp2
  go_meet
  case rel=>exact ⟨_,(decide ((l0_2.length:Int) > 14)),impl_IsSignature.a2,H',⟨by first | omega | exact Nat.le_refl _⟩,⟨rT E9 A5 (fun _ hk=>⟨hk.1.1,hk.1.2⟩)⟩,⟨rT F0 A5 (fun _ hk=>⟨hk.1.1,hk.1.2⟩)⟩,⟨rT F1 A5 (fun _ hk=>⟨hk.1.1,hk.1.2⟩)⟩,⟨vB A4⟩,⟨vP A5⟩,⟨hV HB⟩⟩
 clear I8
 try clear F2
 try clear F4
 try clear F6
 try clear G0
 try clear G2
 try clear G4
 try clear F3
 try clear F5
 try clear F7
 try clear G1
 try clear G3
 try clear G5
 obtain ⟨kq,x23_2,rfl,HA,HJ2,A0,A1,A3,A4,A5,HB⟩:=hcut
 cases kq with
 | zero=>exact absurd HA.out (by simp [impl_IsSignature.j0])
 | succ kj2=>
  have H:=HA.out
  clear HA
  simp only [impl_IsSignature.j0] at H
  by_cases c16:x23_2=true
  ·subst c16
   rw [if_pos rfl] at H
   obtain rfl:=Option.some.inj H
   go_wp2
   go_ret
   exact ⟨impl_IsSignature.a0,hV HB⟩
  replace c16:=Bool.eq_false_iff.mpr c16
  subst c16
  rw [if_neg (show ¬ (false=true) by decide)] at H
  have H':=Aside0.mk H
  clear H
  have V1:=C1.out
  have V2:=C2.out
  obtain ⟨E4,G6,E5,G7,E6,G8⟩:=cf3 A4
  have hcm18_0:(wc.alloc (.map #[] 0)).cell? ⟨E3,0,none⟩=some (.slice A0_0 l0_0.length c0_0):=((below_alloc (Below.refl wc.heap.size wc) (.map #[] 0)).cell (World.block_lt_of_cell? wc _ E4)).trans E4
  have hcm18_1:(wc.alloc (.map #[] 0)).cell? ⟨E3,1,none⟩=some (.slice A0_1 l0_1.length c0_1):=((below_alloc (Below.refl wc.heap.size wc) (.map #[] 0)).cell (World.block_lt_of_cell? wc _ E5)).trans E5
  have hcm18_2:(wc.alloc (.map #[] 0)).cell? ⟨E3,2,none⟩=some (.slice A0_2 l0_2.length c0_2):=((below_alloc (Below.refl wc.heap.size wc) (.map #[] 0)).cell (World.block_lt_of_cell? wc _ E6)).trans E6
  have hmk_:=@run_makeMap Try.prog
  have GM_:=Aside0.mk (show w.heap.size≤wc.heap.size from HB.out.size)
  go_wp2
  clear hmk_
  try clear hcm18_2
  try clear hcm18_1
  try clear hcm18_0
  go_loopg [28] kj2 (fun kq v28 w'=> ∃ (x28_2:Int),v28=.int .i64 x28_2∧Aside0 (impl_IsSignature.l0 kq l0_2 (l0_2.length:Int) x28_2 l0_0 l0_1 l0_2 t384 t387 t390=some r)∧Aside0 (kq≤kj2)∧Aside0 (Kd.R (Kd.int .i64) 3 w' w.heap.size (fun k_=>some k_≠((.slice B0 t387.length A7):Value).ownBlock∧some k_≠((.slice B1 t390.length A8):Value).ownBlock) (.slice C9 t384.length C3) t384)∧Aside0 (Kd.R (Kd.int .i64) 3 w' w.heap.size (fun k_=>some k_≠((.slice C9 t384.length C3):Value).ownBlock∧some k_≠((.slice B1 t390.length A8):Value).ownBlock) (.slice B0 t387.length A7) t387)∧Aside0 (Kd.R (Kd.int .i64) 3 w' w.heap.size (fun k_=>some k_≠((.slice C9 t384.length C3):Value).ownBlock∧some k_≠((.slice B0 t387.length A7):Value).ownBlock) (.slice B1 t390.length A8) t390)∧Aside0 (w'.heap[E3]? = some (.cells #[(.slice A0_0 l0_0.length c0_0),(.slice A0_1 l0_1.length c0_1),(.slice A0_2 l0_2.length c0_2)] 36 (0,0)))∧Aside0 (w'.heap[H3]? = some (.cells #[(.slice C9 t384.length C3),(.slice B0 t387.length A7),(.slice B1 t390.length A8)] 57 (0,0)))∧Aside0 (Below w.heap.size w w')∧Aside0 (Seen Try.prog 9 4 w' wc.heap.size ((l0_2.take (x28_2).toNat).map (fun z_=>z_.f0))))
  case atStart=>exact ⟨(0),impl_IsSignature.a2,H',⟨Nat.le_refl _⟩,⟨rV A0⟩,⟨rV A1⟩,⟨rV A3⟩,⟨vB A4⟩,⟨vB A5⟩,⟨hV HB⟩,⟨by first | exact Seen.made _ | exact (Seen.made _).drewN _⟩⟩
  clear H'
  try clear c16
  try clear F2
  try clear F4
  try clear F6
  try clear E4
  try clear E5
  try clear E6
  try clear G0
  try clear G2
  try clear G4
  try clear F3
  try clear F5
  try clear F7
  try clear G6
  try clear G7
  try clear G8
  try clear G1
  try clear G3
  try clear G5
  obtain ⟨x28_2,rfl,HA,HK2,A0,A1,A3,A4,A5,HB,HM⟩:=hrel
  have hzE_:∀ W_,(zeroValue 4).run Try.prog W_=.ok (.bool false) W_:=fun _=>by rfl
  cases gk with
  | zero=>exact absurd HA.out (by simp [impl_IsSignature.l0])
  | succ k2=>
   have H:=HA.out
   clear HA
   simp only [impl_IsSignature.l0] at H
   by_cases c19:x28_2 < (l0_2.length:Int)
   ·rw [if_pos c19] at H
    have I1:=decide_eq_true c19
    clear c19
    by_cases c20:0≤x28_2
    rotate_left
    ·rw [if_neg c20] at H
     exact absurd H (by simp)
    rw [if_pos c20] at H
    have V3:=decide_eq_true c20
    clear c20
    by_cases c21:x28_2 < (l0_2.length:Int)
    rotate_left
    ·rw [if_neg c21] at H
     exact absurd H (by simp)
    rw [if_pos c21] at H
    have V4:=decide_eq_true c21
    clear c21
    replace H:=Option.bind_eq_some_iff.mp H
    obtain ⟨t397,A220,H⟩:=H
    replace H:(if t397=true then (some false) else ((impl_IsName.f k2 ((rd_T50 l0_2 x28_2).f0)).bind fun t398=>(if t398=true then ((impl_declsOK.f k2 t384 t387 t390 ((rd_T50 l0_2 x28_2).f0) ((rd_T50 l0_2 x28_2).f1) ((rd_T50 l0_2 x28_2).f2) ((rd_T50 l0_2 x28_2).f3) ((rd_T50 l0_2 x28_2).f4)).bind fun t399=>(if t399=true then (impl_IsSignature.l0 k2 l0_2 (l0_2.length:Int) (wrap64 (x28_2 + 1)) l0_0 l0_1 l0_2 t384 t387 t390) else (some false))) else (some false))))=some r:=H
    have A22:=Aside0.mk A220
    clear A220
    by_cases c23:t397=true
    ·subst c23
     rw [if_pos rfl] at H
     obtain rfl:=Option.some.inj H
     have B2:0≤(x28_2:Int):=dT
     have B3:x28_2 < (l0_2.length:Int):=dT
     obtain ⟨H4,A395_1,c395_1,e395,B4,B5,B6,B7,B8,B9,C0⟩:=at_T50 C8.out x28_2 B2 B3
     cases e395
     replace B4:=xc HB B4
     replace B5:=xc HB B5
     replace B6:=xc HB B6
     replace B7:=xc HB B7
     replace B8:=xc HB B8
     have D0:=Aside0.mk C0
     have D1:=Aside0.mk B9
     clear C0 B9
     replace B2:=eq_true B2
     replace B3:=eq_true B3
     go_wp2_with (first | ((with_reducible refine gate_dst (N:=7) rfl ?_);(try (refine gate_guard (by rfl) ?_;dsimp only));refine bx 7 rfl #[.string (⟨#[]⟩:ByteArray),.slice none 0 0,.bool false,.bool false,.int .i64 0] 50 ?_;intro H5 hg w24 hbox hb;have H6:=nM HM hg;replace A0:=rB A0 hb;replace A1:=rB A1 hb;replace A3:=rB A3 hb;have A6:=Aside0.mk (hbox);have H7:=hZ HB hg;have H8:=hZ HB hg;replace HB:=hS HB hb;replace HM:=sB HM hb;have C4:=nL A4 hg;have C5:=nG A4 hg;replace A4:=bB A4 hb;have C6:=nL A5 hg;have C7:=nG A5 hg;replace A5:=bB A5 hb;clear hb hbox hg;have V5:=C5.out;have V6:=C4.out;have V7:=C7.out;have V8:=C6.out;obtain ⟨J9,K0,K1,K2,K3,K4,K5,K6,K7,K8⟩:=cf5 A6) | (at_lookup;refine wpList_seen (sV HM) rfl _ _ 60 rfl Try.underlying9 Try.underlying60 Try.underlying4 (hzE_ _) rfl rfl A22.out ?_) | (at_mapUpdate;refine wpList_seen_put (sV HM) rfl _ _ _ 60 rfl Try.underlying9 Try.underlying60 Try.underlying4 rfl rfl rfl A22.out impl_IsSignature.a1 ?_;intro w2_ hs_ hg_;have hs0_:=sG HM hg_;replace A0:=gR hs0_ A0 hg_;replace A1:=gR hs0_ A1 hg_;replace A3:=gR hs0_ A3 hg_;replace A4:=gB hs0_ A4 hg_;replace A5:=gB hs0_ A5 hg_;replace HB:=gH HB hg_ GM_;replace HM:=Aside0.mk (show Seen Try.prog 9 4 w2_ _ ((l0_2.take (wrap64 (x28_2 + 1)).toNat).map (fun z_=>z_.f0)) from by rw [take_wrap z50 l0_2 x28_2 (of_eq_true B2) (of_eq_true B3) C8.out.2.1,List.map_append,List.map_cons,List.map_nil];exact hs_);clear hs_ hg_ hs0_))
     go_ret
     exact ⟨impl_IsSignature.a0,hV HB⟩
    ·replace c23:=Bool.eq_false_iff.mpr c23
     subst c23
     rw [if_neg (show ¬ (false=true) by decide)] at H
     replace H:=Option.bind_eq_some_iff.mp H
     obtain ⟨t398,A280,H⟩:=H
     replace H:(if t398=true then ((impl_declsOK.f k2 t384 t387 t390 ((rd_T50 l0_2 x28_2).f0) ((rd_T50 l0_2 x28_2).f1) ((rd_T50 l0_2 x28_2).f2) ((rd_T50 l0_2 x28_2).f3) ((rd_T50 l0_2 x28_2).f4)).bind fun t399=>(if t399=true then (impl_IsSignature.l0 k2 l0_2 (l0_2.length:Int) (wrap64 (x28_2 + 1)) l0_0 l0_1 l0_2 t384 t387 t390) else (some false))) else (some false))=some r:=H
     have A28:=Aside0.mk A280
     clear A280
     by_cases c29:t398=true
     ·subst c29
      rw [if_pos rfl] at H
      replace H:=Option.bind_eq_some_iff.mp H
      obtain ⟨t399,A300,H⟩:=H
      replace H:(if t399=true then (impl_IsSignature.l0 k2 l0_2 (l0_2.length:Int) (wrap64 (x28_2 + 1)) l0_0 l0_1 l0_2 t384 t387 t390) else (some false))=some r:=H
      have A30:=Aside0.mk A300
      clear A300
      by_cases c31:t399=true
      ·subst c31
       rw [if_pos rfl] at H
       have H':=Aside0.mk H
       clear H
       have B2:0≤(x28_2:Int):=dT
       have B3:x28_2 < (l0_2.length:Int):=dT
       obtain ⟨H4,A395_1,c395_1,e395,B4,B5,B6,B7,B8,B9,C0⟩:=at_T50 C8.out x28_2 B2 B3
       cases e395
       replace B4:=xc HB B4
       replace B5:=xc HB B5
       replace B6:=xc HB B6
       replace B7:=xc HB B7
       replace B8:=xc HB B8
       have D0:=Aside0.mk C0
       have D1:=Aside0.mk B9
       clear C0 B9
       replace B2:=eq_true B2
       replace B3:=eq_true B3
       go_wp2_with (first | ((with_reducible refine gate_dst (N:=7) rfl ?_);(try (refine gate_guard (by rfl) ?_;dsimp only));refine bx 7 rfl #[.string (⟨#[]⟩:ByteArray),.slice none 0 0,.bool false,.bool false,.int .i64 0] 50 ?_;intro H5 hg w32 hbox hb;have H6:=nM HM hg;replace A0:=rB A0 hb;replace A1:=rB A1 hb;replace A3:=rB A3 hb;have A6:=Aside0.mk (hbox);have H7:=hZ HB hg;have H8:=hZ HB hg;replace HB:=hS HB hb;replace HM:=sB HM hb;have C4:=nL A4 hg;have C5:=nG A4 hg;replace A4:=bB A4 hb;have C6:=nL A5 hg;have C7:=nG A5 hg;replace A5:=bB A5 hb;clear hb hbox hg;have V9:=C5.out;have W0:=C4.out;have W1:=C7.out;have W2:=C6.out;obtain ⟨K9,L0,L1,L2,L3,L4,L5,L6,L7,L8⟩:=cf5 A6) | (at_lookup;refine wpList_seen (sV HM) rfl _ _ 60 rfl Try.underlying9 Try.underlying60 Try.underlying4 (hzE_ _) rfl rfl A22.out ?_) | (go_at_call 30;(with_reducible refine (impl_IsName.calls k2 ((rd_T50 l0_2 x28_2).f0) true _ A28.out).mono ?_);rintro e w' ⟨rfl,⟨nd,rfl⟩⟩;have W3:=C2.out;have W4:=C1.out;obtain ⟨L9,M0,M1,M2,M3,M4⟩:=cf3 A5) | (go_at_call 31;(with_reducible refine (impl_declsOK.calls k2 _ _ t384 _ _ t387 _ _ t390 ((rd_T50 l0_2 x28_2).f0) _ _ ((rd_T50 l0_2 x28_2).f1) ((rd_T50 l0_2 x28_2).f2) ((rd_T50 l0_2 x28_2).f3) ((rd_T50 l0_2 x28_2).f4) true _ ?side1 ?side2 ?side3 ?side4 ?side5 ?side6 ?side7 ?side8 A30.out).mono ?_);(case side1=>refine (Kd.R_reads' (e:=3) (base:=w.heap.size) (ok:=fun k_=>(some k_≠(.slice B0 t387.length A7:Value).ownBlock∧some k_≠(.slice B1 t390.length A8:Value).ownBlock)) (n:=t384.length) (c:=C3) ?_).2.2;exact (rT A0 A6 (fun _ h_=>h_.1)));(case side2=>exact (Kd.R_reads' A0.out).2.1);(case side3=>refine (Kd.R_reads' (e:=3) (base:=w.heap.size) (ok:=fun k_=>(some k_≠(.slice C9 t384.length C3:Value).ownBlock∧some k_≠(.slice B1 t390.length A8:Value).ownBlock)) (n:=t387.length) (c:=A7) ?_).2.2;exact (rT A1 A6 (fun _ h_=>h_.1)));(case side4=>exact (Kd.R_reads' A1.out).2.1);(case side5=>refine (Kd.R_reads' (e:=3) (base:=w.heap.size) (ok:=fun k_=>(some k_≠(.slice C9 t384.length C3:Value).ownBlock∧some k_≠(.slice B0 t387.length A7:Value).ownBlock)) (n:=t390.length) (c:=A8) ?_).2.2;exact (rT A3 A6 (fun _ h_=>h_.1)));(case side6=>exact (Kd.R_reads' A3.out).2.1);(case side7=>exact cV D0 HB);(case side8=>exact D1.out);rintro e w38 ⟨rfl,hb⟩;replace A0:=rF A0 A6 hb;replace A1:=rF A1 A6 hb;replace A3:=rF A3 A6 hb;replace A4:=bB A4 hb;replace A5:=bB A5 hb;replace A6:=bP (o:=.cells #[.string ((rd_T50 l0_2 x28_2).f0),.slice A395_1 ((rd_T50 l0_2 x28_2).f1).length c395_1,.bool ((rd_T50 l0_2 x28_2).f2),.bool ((rd_T50 l0_2 x28_2).f3),.int .i64 ((rd_T50 l0_2 x28_2).f4)] 50 (0,0)) A6 hb;replace HB:=hS HB hb;replace HM:=sB HM hb;(try clear hb);(try clear hb2);(try clear hk);(try clear hi);obtain ⟨M5,M6,M7,M8,M9,N0,N1,N2,N3,N4⟩:=cf5 A6) | (at_mapUpdate;refine wpList_seen_put (sV HM) rfl _ _ _ 60 rfl Try.underlying9 Try.underlying60 Try.underlying4 rfl rfl rfl A22.out impl_IsSignature.a1 ?_;intro w2_ hs_ hg_;have hs0_:=sG HM hg_;replace A0:=gR hs0_ A0 hg_;replace A1:=gR hs0_ A1 hg_;replace A3:=gR hs0_ A3 hg_;replace A4:=gB hs0_ A4 hg_;replace A5:=gB hs0_ A5 hg_;replace HB:=gH HB hg_ GM_;replace HM:=Aside0.mk (show Seen Try.prog 9 4 w2_ _ ((l0_2.take (wrap64 (x28_2 + 1)).toNat).map (fun z_=>z_.f0)) from by rw [take_wrap z50 l0_2 x28_2 (of_eq_true B2) (of_eq_true B3) C8.out.2.1,List.map_append,List.map_cons,List.map_nil];exact hs_);clear hs_ hg_ hs0_))
       go_roundg k2
       case measure=>have:=HJ2.out;have:=HK2.out;omega
       case rel=>exact ⟨(wrap64 (x28_2 + 1)),impl_IsSignature.a2,H',⟨by have:=HJ2.out;have:=HK2.out;omega⟩,⟨rV A0⟩,⟨rV A1⟩,⟨rV A3⟩,⟨vB A4⟩,⟨vB A5⟩,⟨hV HB⟩,⟨sV HM⟩⟩
      ·replace c31:=Bool.eq_false_iff.mpr c31
       subst c31
       rw [if_neg (show ¬ (false=true) by decide)] at H
       obtain rfl:=Option.some.inj H
       have B2:0≤(x28_2:Int):=dT
       have B3:x28_2 < (l0_2.length:Int):=dT
       obtain ⟨H4,A395_1,c395_1,e395,B4,B5,B6,B7,B8,B9,C0⟩:=at_T50 C8.out x28_2 B2 B3
       cases e395
       replace B4:=xc HB B4
       replace B5:=xc HB B5
       replace B6:=xc HB B6
       replace B7:=xc HB B7
       replace B8:=xc HB B8
       have D0:=Aside0.mk C0
       have D1:=Aside0.mk B9
       clear C0 B9
       replace B2:=eq_true B2
       replace B3:=eq_true B3
       go_wp2_with (first | ((with_reducible refine gate_dst (N:=7) rfl ?_);(try (refine gate_guard (by rfl) ?_;dsimp only));refine bx 7 rfl #[.string (⟨#[]⟩:ByteArray),.slice none 0 0,.bool false,.bool false,.int .i64 0] 50 ?_;intro H5 hg w40 hbox hb;have H6:=nM HM hg;replace A0:=rB A0 hb;replace A1:=rB A1 hb;replace A3:=rB A3 hb;have A6:=Aside0.mk (hbox);have H7:=hZ HB hg;have H8:=hZ HB hg;replace HB:=hS HB hb;replace HM:=sB HM hb;have C4:=nL A4 hg;have C5:=nG A4 hg;replace A4:=bB A4 hb;have C6:=nL A5 hg;have C7:=nG A5 hg;replace A5:=bB A5 hb;clear hb hbox hg;have W5:=C5.out;have W6:=C4.out;have W7:=C7.out;have W8:=C6.out;obtain ⟨N5,N6,N7,N8,N9,O0,O1,O2,O3,O4⟩:=cf5 A6) | (at_lookup;refine wpList_seen (sV HM) rfl _ _ 60 rfl Try.underlying9 Try.underlying60 Try.underlying4 (hzE_ _) rfl rfl A22.out ?_) | (go_at_call 30;(with_reducible refine (impl_IsName.calls k2 ((rd_T50 l0_2 x28_2).f0) true _ A28.out).mono ?_);rintro e w' ⟨rfl,⟨nd,rfl⟩⟩;have W9:=C2.out;have X0:=C1.out;obtain ⟨O5,O6,O7,O8,O9,P0⟩:=cf3 A5) | (go_at_call 31;(with_reducible refine (impl_declsOK.calls k2 _ _ t384 _ _ t387 _ _ t390 ((rd_T50 l0_2 x28_2).f0) _ _ ((rd_T50 l0_2 x28_2).f1) ((rd_T50 l0_2 x28_2).f2) ((rd_T50 l0_2 x28_2).f3) ((rd_T50 l0_2 x28_2).f4) false _ ?side1 ?side2 ?side3 ?side4 ?side5 ?side6 ?side7 ?side8 A30.out).mono ?_);(case side1=>refine (Kd.R_reads' (e:=3) (base:=w.heap.size) (ok:=fun k_=>(some k_≠(.slice B0 t387.length A7:Value).ownBlock∧some k_≠(.slice B1 t390.length A8:Value).ownBlock)) (n:=t384.length) (c:=C3) ?_).2.2;exact (rT A0 A6 (fun _ h_=>h_.1)));(case side2=>exact (Kd.R_reads' A0.out).2.1);(case side3=>refine (Kd.R_reads' (e:=3) (base:=w.heap.size) (ok:=fun k_=>(some k_≠(.slice C9 t384.length C3:Value).ownBlock∧some k_≠(.slice B1 t390.length A8:Value).ownBlock)) (n:=t387.length) (c:=A7) ?_).2.2;exact (rT A1 A6 (fun _ h_=>h_.1)));(case side4=>exact (Kd.R_reads' A1.out).2.1);(case side5=>refine (Kd.R_reads' (e:=3) (base:=w.heap.size) (ok:=fun k_=>(some k_≠(.slice C9 t384.length C3:Value).ownBlock∧some k_≠(.slice B0 t387.length A7:Value).ownBlock)) (n:=t390.length) (c:=A8) ?_).2.2;exact (rT A3 A6 (fun _ h_=>h_.1)));(case side6=>exact (Kd.R_reads' A3.out).2.1);(case side7=>exact cV D0 HB);(case side8=>exact D1.out);rintro e w46 ⟨rfl,hb⟩;replace A0:=rF A0 A6 hb;replace A1:=rF A1 A6 hb;replace A3:=rF A3 A6 hb;replace A4:=bB A4 hb;replace A5:=bB A5 hb;replace A6:=bP (o:=.cells #[.string ((rd_T50 l0_2 x28_2).f0),.slice A395_1 ((rd_T50 l0_2 x28_2).f1).length c395_1,.bool ((rd_T50 l0_2 x28_2).f2),.bool ((rd_T50 l0_2 x28_2).f3),.int .i64 ((rd_T50 l0_2 x28_2).f4)] 50 (0,0)) A6 hb;replace HB:=hS HB hb;replace HM:=sB HM hb;(try clear hb);(try clear hb2);(try clear hk);(try clear hi)) | (at_mapUpdate;refine wpList_seen_put (sV HM) rfl _ _ _ 60 rfl Try.underlying9 Try.underlying60 Try.underlying4 rfl rfl rfl A22.out impl_IsSignature.a1 ?_;intro w2_ hs_ hg_;have hs0_:=sG HM hg_;replace A0:=gR hs0_ A0 hg_;replace A1:=gR hs0_ A1 hg_;replace A3:=gR hs0_ A3 hg_;replace A4:=gB hs0_ A4 hg_;replace A5:=gB hs0_ A5 hg_;replace HB:=gH HB hg_ GM_;replace HM:=Aside0.mk (show Seen Try.prog 9 4 w2_ _ ((l0_2.take (wrap64 (x28_2 + 1)).toNat).map (fun z_=>z_.f0)) from by rw [take_wrap z50 l0_2 x28_2 (of_eq_true B2) (of_eq_true B3) C8.out.2.1,List.map_append,List.map_cons,List.map_nil];exact hs_);clear hs_ hg_ hs0_))
       go_ret
       exact ⟨impl_IsSignature.a0,hV HB⟩
     ·replace c29:=Bool.eq_false_iff.mpr c29
      subst c29
      rw [if_neg (show ¬ (false=true) by decide)] at H
      obtain rfl:=Option.some.inj H
      have B2:0≤(x28_2:Int):=dT
      have B3:x28_2 < (l0_2.length:Int):=dT
      obtain ⟨H4,A395_1,c395_1,e395,B4,B5,B6,B7,B8,B9,C0⟩:=at_T50 C8.out x28_2 B2 B3
      cases e395
      replace B4:=xc HB B4
      replace B5:=xc HB B5
      replace B6:=xc HB B6
      replace B7:=xc HB B7
      replace B8:=xc HB B8
      have D0:=Aside0.mk C0
      have D1:=Aside0.mk B9
      clear C0 B9
      replace B2:=eq_true B2
      replace B3:=eq_true B3
      go_wp2_with (first | ((with_reducible refine gate_dst (N:=7) rfl ?_);(try (refine gate_guard (by rfl) ?_;dsimp only));refine bx 7 rfl #[.string (⟨#[]⟩:ByteArray),.slice none 0 0,.bool false,.bool false,.int .i64 0] 50 ?_;intro H5 hg w47 hbox hb;have H6:=nM HM hg;replace A0:=rB A0 hb;replace A1:=rB A1 hb;replace A3:=rB A3 hb;have A6:=Aside0.mk (hbox);have H7:=hZ HB hg;have H8:=hZ HB hg;replace HB:=hS HB hb;replace HM:=sB HM hb;have C4:=nL A4 hg;have C5:=nG A4 hg;replace A4:=bB A4 hb;have C6:=nL A5 hg;have C7:=nG A5 hg;replace A5:=bB A5 hb;clear hb hbox hg;have X1:=C5.out;have X2:=C4.out;have X3:=C7.out;have X4:=C6.out;obtain ⟨P1,P2,P3,P4,P5,P6,P7,P8,P9,Q0⟩:=cf5 A6) | (at_lookup;refine wpList_seen (sV HM) rfl _ _ 60 rfl Try.underlying9 Try.underlying60 Try.underlying4 (hzE_ _) rfl rfl A22.out ?_) | (go_at_call 30;(with_reducible refine (impl_IsName.calls k2 ((rd_T50 l0_2 x28_2).f0) false _ A28.out).mono ?_);rintro e w' ⟨rfl,⟨nd,rfl⟩⟩) | (at_mapUpdate;refine wpList_seen_put (sV HM) rfl _ _ _ 60 rfl Try.underlying9 Try.underlying60 Try.underlying4 rfl rfl rfl A22.out impl_IsSignature.a1 ?_;intro w2_ hs_ hg_;have hs0_:=sG HM hg_;replace A0:=gR hs0_ A0 hg_;replace A1:=gR hs0_ A1 hg_;replace A3:=gR hs0_ A3 hg_;replace A4:=gB hs0_ A4 hg_;replace A5:=gB hs0_ A5 hg_;replace HB:=gH HB hg_ GM_;replace HM:=Aside0.mk (show Seen Try.prog 9 4 w2_ _ ((l0_2.take (wrap64 (x28_2 + 1)).toNat).map (fun z_=>z_.f0)) from by rw [take_wrap z50 l0_2 x28_2 (of_eq_true B2) (of_eq_true B3) C8.out.2.1,List.map_append,List.map_cons,List.map_nil];exact hs_);clear hs_ hg_ hs0_))
      go_ret
      exact ⟨impl_IsSignature.a0,hV HB⟩
   ·rw [if_neg c19] at H
    have I1:=decide_eq_false c19
    clear c19
    have H':=Aside0.mk H
    clear H
    have X5:=C1.out
    have X6:=C2.out
    obtain ⟨I2,I3,I4,I5,I6,I7⟩:=cf3 A4
    go_wp2
    go_loopg [55] k2 (fun kq v55 w'=> ∃ (x55_3:Int),v55=.int .i64 x55_3∧Aside0 (impl_IsSignature.l1 kq l0_2 (l0_2.length:Int) x55_3 l0_0 l0_1 l0_2 t384 t387 t390=some r)∧Aside0 (kq≤k2)∧Aside0 (Kd.R (Kd.int .i64) 3 w' w.heap.size (fun k_=>some k_≠((.slice B0 t387.length A7):Value).ownBlock∧some k_≠((.slice B1 t390.length A8):Value).ownBlock) (.slice C9 t384.length C3) t384)∧Aside0 (Kd.R (Kd.int .i64) 3 w' w.heap.size (fun k_=>some k_≠((.slice C9 t384.length C3):Value).ownBlock∧some k_≠((.slice B1 t390.length A8):Value).ownBlock) (.slice B0 t387.length A7) t387)∧Aside0 (Kd.R (Kd.int .i64) 3 w' w.heap.size (fun k_=>some k_≠((.slice C9 t384.length C3):Value).ownBlock∧some k_≠((.slice B0 t387.length A7):Value).ownBlock) (.slice B1 t390.length A8) t390)∧Aside0 (w'.heap[E3]? = some (.cells #[(.slice A0_0 l0_0.length c0_0),(.slice A0_1 l0_1.length c0_1),(.slice A0_2 l0_2.length c0_2)] 36 (0,0)))∧Aside0 (w'.heap[H3]? = some (.cells #[(.slice C9 t384.length C3),(.slice B0 t387.length A7),(.slice B1 t390.length A8)] 57 (0,0)))∧Aside0 (Below w.heap.size w w'))
    case atStart=>exact ⟨(0),impl_IsSignature.a2,H',⟨Nat.le_refl _⟩,⟨rV A0⟩,⟨rV A1⟩,⟨rV A3⟩,⟨vB A4⟩,⟨vB A5⟩,⟨hV HB⟩⟩
    clear H'
    try clear c16
    try clear c19
    try clear I1
    try clear F2
    try clear F4
    try clear F6
    try clear E4
    try clear E5
    try clear E6
    try clear I2
    try clear I4
    try clear I6
    try clear G0
    try clear G2
    try clear G4
    try clear F3
    try clear F5
    try clear F7
    try clear G6
    try clear G7
    try clear G8
    try clear I3
    try clear I5
    try clear I7
    try clear G1
    try clear G3
    try clear G5
    obtain ⟨x55_3,rfl,HA,HK3,A0,A1,A3,A4,A5,HB⟩:=hrel
    cases gk with
    | zero=>exact absurd HA.out (by simp [impl_IsSignature.l1])
    | succ k3=>
     have H:=HA.out
     clear HA
     simp only [impl_IsSignature.l1] at H
     by_cases c53:x55_3 < (l0_2.length:Int)
     rotate_left
     ·rw [if_neg c53] at H
      have I9:=decide_eq_false c53
      clear c53
      obtain rfl:=Option.some.inj H
      go_wp2
      go_ret
      exact ⟨impl_IsSignature.a0,hV HB⟩

     rw [if_pos c53] at H
     have I9:=decide_eq_true c53
     clear c53
     by_cases c54:0≤x55_3
     rotate_left
     ·rw [if_neg c54] at H
      exact absurd H (by simp)
     rw [if_pos c54] at H
     have X7:=decide_eq_true c54
     clear c54
     by_cases c55:x55_3 < (l0_2.length:Int)
     rotate_left
     ·rw [if_neg c55] at H
      exact absurd H (by simp)
     rw [if_pos c55] at H
     have X8:=decide_eq_true c55
     clear c55
     replace H:=Option.bind_eq_some_iff.mp H
     obtain ⟨t402,A560,H⟩:=H
     replace H:(if t402=true then (impl_IsSignature.l1 k3 l0_2 (l0_2.length:Int) (wrap64 (x55_3 + 1)) l0_0 l0_1 l0_2 t384 t387 t390) else (some false))=some r:=H
     have A56:=Aside0.mk A560
     clear A560
     by_cases c57:t402=true
     ·subst c57
      rw [if_pos rfl] at H
      have H':=Aside0.mk H
      clear H
      have E7:0≤(x55_3:Int):=dT
      have E8:x55_3 < (l0_2.length:Int):=dT
      obtain ⟨H9,A400_1,c400_1,e400,D2,D3,D4,D5,D6,D7,D8⟩:=at_T50 C8.out x55_3 E7 E8
      cases e400
      replace D2:=xc HB D2
      replace D3:=xc HB D3
      replace D4:=xc HB D4
      replace D5:=xc HB D5
      replace D6:=xc HB D6
      have F8:=Aside0.mk D8
      have F9:=Aside0.mk D7
      clear D8 D7
      replace E7:=eq_true E7
      replace E8:=eq_true E8
      go_wp2_with (first | ((with_reducible refine gate_dst (N:=9) rfl ?_);(try (refine gate_guard (by rfl) ?_;dsimp only));refine bx 9 rfl #[.string (⟨#[]⟩:ByteArray),.slice none 0 0,.bool false,.bool false,.int .i64 0] 50 ?_;intro J0 hg w58 hbox hb;replace A0:=rB A0 hb;replace A1:=rB A1 hb;replace A3:=rB A3 hb;have A9:=Aside0.mk (hbox);have J1:=hZ HB hg;have J2:=hZ HB hg;replace HB:=hS HB hb;have D9:=nL A4 hg;have E0:=nG A4 hg;replace A4:=bB A4 hb;have E1:=nL A5 hg;have E2:=nG A5 hg;replace A5:=bB A5 hb;clear hb hbox hg;have X9:=E0.out;have Y0:=D9.out;have Y1:=E2.out;have Y2:=E1.out;obtain ⟨Q1,Q2,Q3,Q4,Q5,Q6,Q7,Q8,Q9,R0⟩:=cf5 A9;have Y3:=C2.out;have Y4:=C1.out;obtain ⟨R1,R2,R3,R4,R5,R6⟩:=cf3 A5;obtain ⟨R7,R8,R9,S0,S1,S2⟩:=cf3 A4) | (refine goK 32 (some 62) rfl Try.func32 #[.agg #[.slice C9 t384.length C3,.slice B0 t387.length A7,.slice B1 t390.length A8],.agg #[.slice A0_0 l0_0.length c0_0,.slice A0_1 l0_1.length c0_1,.slice (some H9) l0_2.length c0_2],.agg #[.string ((rd_T50 l0_2 x55_3).f0),.slice A400_1 ((rd_T50 l0_2 x55_3).f1).length c400_1,.bool ((rd_T50 l0_2 x55_3).f2),.bool ((rd_T50 l0_2 x55_3).f3),.int .i64 ((rd_T50 l0_2 x55_3).f4)]] ?_;(with_reducible refine (impl_axiomsOK.calls k3 _ _ t384 _ _ t387 _ _ t390 _ _ l0_0 _ _ l0_1 _ _ l0_2 ((rd_T50 l0_2 x55_3).f0) _ _ ((rd_T50 l0_2 x55_3).f1) ((rd_T50 l0_2 x55_3).f2) ((rd_T50 l0_2 x55_3).f3) ((rd_T50 l0_2 x55_3).f4) true _ ?side1 ?side2 ?side3 ?side4 ?side5 ?side6 ?side7 ?side8 ?side9 ?side10 ?side11 ?side12 ?side13 ?side14 A56.out).mono ?_);(case side1=>refine (Kd.R_reads' (e:=3) (base:=w.heap.size) (ok:=fun k_=>(some k_≠(.slice B0 t387.length A7:Value).ownBlock∧some k_≠(.slice B1 t390.length A8:Value).ownBlock)) (n:=t384.length) (c:=C3) ?_).2.2;exact (rT A0 A9 (fun _ h_=>h_.1)));(case side2=>exact (Kd.R_reads' A0.out).2.1);(case side3=>refine (Kd.R_reads' (e:=3) (base:=w.heap.size) (ok:=fun k_=>(some k_≠(.slice C9 t384.length C3:Value).ownBlock∧some k_≠(.slice B1 t390.length A8:Value).ownBlock)) (n:=t387.length) (c:=A7) ?_).2.2;exact (rT A1 A9 (fun _ h_=>h_.1)));(case side4=>exact (Kd.R_reads' A1.out).2.1);(case side5=>refine (Kd.R_reads' (e:=3) (base:=w.heap.size) (ok:=fun k_=>(some k_≠(.slice C9 t384.length C3:Value).ownBlock∧some k_≠(.slice B0 t387.length A7:Value).ownBlock)) (n:=t390.length) (c:=A8) ?_).2.2;exact (rT A3 A9 (fun _ h_=>h_.1)));(case side6=>exact (Kd.R_reads' A3.out).2.1);(case side7=>exact cV G9 HB);(case side8=>exact H0.out);(case side9=>exact cV H1 HB);(case side10=>exact H2.out);(case side11=>exact cV C8 HB);(case side12=>exact I0.out);(case side13=>exact cV F8 HB);(case side14=>exact F9.out);rintro e w65 ⟨rfl,hb⟩;refine ⟨_,rfl,?_⟩;replace A0:=rF A0 A9 hb;replace A1:=rF A1 A9 hb;replace A3:=rF A3 A9 hb;replace A4:=bB A4 hb;replace A5:=bB A5 hb;replace A9:=bP (o:=.cells #[.string ((rd_T50 l0_2 x55_3).f0),.slice A400_1 ((rd_T50 l0_2 x55_3).f1).length c400_1,.bool ((rd_T50 l0_2 x55_3).f2),.bool ((rd_T50 l0_2 x55_3).f3),.int .i64 ((rd_T50 l0_2 x55_3).f4)] 50 (0,0)) A9 hb;replace HB:=hS HB hb;(try clear hb);(try clear hb2);(try clear hk);(try clear hi)))
      go_roundg k3
      case measure=>have:=HJ2.out;have:=HK2.out;have:=HK3.out;omega
      case rel=>exact ⟨(wrap64 (x55_3 + 1)),impl_IsSignature.a2,H',⟨by have:=HJ2.out;have:=HK2.out;have:=HK3.out;omega⟩,⟨rV A0⟩,⟨rV A1⟩,⟨rV A3⟩,⟨vB A4⟩,⟨vB A5⟩,⟨hV HB⟩⟩
     ·replace c57:=Bool.eq_false_iff.mpr c57
      subst c57
      rw [if_neg (show ¬ (false=true) by decide)] at H
      obtain rfl:=Option.some.inj H
      have E7:0≤(x55_3:Int):=dT
      have E8:x55_3 < (l0_2.length:Int):=dT
      obtain ⟨H9,A400_1,c400_1,e400,D2,D3,D4,D5,D6,D7,D8⟩:=at_T50 C8.out x55_3 E7 E8
      cases e400
      replace D2:=xc HB D2
      replace D3:=xc HB D3
      replace D4:=xc HB D4
      replace D5:=xc HB D5
      replace D6:=xc HB D6
      have F8:=Aside0.mk D8
      have F9:=Aside0.mk D7
      clear D8 D7
      replace E7:=eq_true E7
      replace E8:=eq_true E8
      go_wp2_with (first | ((with_reducible refine gate_dst (N:=9) rfl ?_);(try (refine gate_guard (by rfl) ?_;dsimp only));refine bx 9 rfl #[.string (⟨#[]⟩:ByteArray),.slice none 0 0,.bool false,.bool false,.int .i64 0] 50 ?_;intro J0 hg w66 hbox hb;replace A0:=rB A0 hb;replace A1:=rB A1 hb;replace A3:=rB A3 hb;have A9:=Aside0.mk (hbox);have J1:=hZ HB hg;have J2:=hZ HB hg;replace HB:=hS HB hb;have D9:=nL A4 hg;have E0:=nG A4 hg;replace A4:=bB A4 hb;have E1:=nL A5 hg;have E2:=nG A5 hg;replace A5:=bB A5 hb;clear hb hbox hg;have Y5:=E0.out;have Y6:=D9.out;have Y7:=E2.out;have Y8:=E1.out;obtain ⟨S3,S4,S5,S6,S7,S8,S9,T0,T1,T2⟩:=cf5 A9;have Y9:=C2.out;have Z0:=C1.out;obtain ⟨T3,T4,T5,T6,T7,T8⟩:=cf3 A5;obtain ⟨T9,U0,U1,U2,U3,U4⟩:=cf3 A4) | (refine goK 32 (some 62) rfl Try.func32 #[.agg #[.slice C9 t384.length C3,.slice B0 t387.length A7,.slice B1 t390.length A8],.agg #[.slice A0_0 l0_0.length c0_0,.slice A0_1 l0_1.length c0_1,.slice (some H9) l0_2.length c0_2],.agg #[.string ((rd_T50 l0_2 x55_3).f0),.slice A400_1 ((rd_T50 l0_2 x55_3).f1).length c400_1,.bool ((rd_T50 l0_2 x55_3).f2),.bool ((rd_T50 l0_2 x55_3).f3),.int .i64 ((rd_T50 l0_2 x55_3).f4)]] ?_;(with_reducible refine (impl_axiomsOK.calls k3 _ _ t384 _ _ t387 _ _ t390 _ _ l0_0 _ _ l0_1 _ _ l0_2 ((rd_T50 l0_2 x55_3).f0) _ _ ((rd_T50 l0_2 x55_3).f1) ((rd_T50 l0_2 x55_3).f2) ((rd_T50 l0_2 x55_3).f3) ((rd_T50 l0_2 x55_3).f4) false _ ?side1 ?side2 ?side3 ?side4 ?side5 ?side6 ?side7 ?side8 ?side9 ?side10 ?side11 ?side12 ?side13 ?side14 A56.out).mono ?_);(case side1=>refine (Kd.R_reads' (e:=3) (base:=w.heap.size) (ok:=fun k_=>(some k_≠(.slice B0 t387.length A7:Value).ownBlock∧some k_≠(.slice B1 t390.length A8:Value).ownBlock)) (n:=t384.length) (c:=C3) ?_).2.2;exact (rT A0 A9 (fun _ h_=>h_.1)));(case side2=>exact (Kd.R_reads' A0.out).2.1);(case side3=>refine (Kd.R_reads' (e:=3) (base:=w.heap.size) (ok:=fun k_=>(some k_≠(.slice C9 t384.length C3:Value).ownBlock∧some k_≠(.slice B1 t390.length A8:Value).ownBlock)) (n:=t387.length) (c:=A7) ?_).2.2;exact (rT A1 A9 (fun _ h_=>h_.1)));(case side4=>exact (Kd.R_reads' A1.out).2.1);(case side5=>refine (Kd.R_reads' (e:=3) (base:=w.heap.size) (ok:=fun k_=>(some k_≠(.slice C9 t384.length C3:Value).ownBlock∧some k_≠(.slice B0 t387.length A7:Value).ownBlock)) (n:=t390.length) (c:=A8) ?_).2.2;exact (rT A3 A9 (fun _ h_=>h_.1)));(case side6=>exact (Kd.R_reads' A3.out).2.1);(case side7=>exact cV G9 HB);(case side8=>exact H0.out);(case side9=>exact cV H1 HB);(case side10=>exact H2.out);(case side11=>exact cV C8 HB);(case side12=>exact I0.out);(case side13=>exact cV F8 HB);(case side14=>exact F9.out);rintro e w73 ⟨rfl,hb⟩;refine ⟨_,rfl,?_⟩;replace A0:=rF A0 A9 hb;replace A1:=rF A1 A9 hb;replace A3:=rF A3 A9 hb;replace A4:=bB A4 hb;replace A5:=bB A5 hb;replace A9:=bP (o:=.cells #[.string ((rd_T50 l0_2 x55_3).f0),.slice A400_1 ((rd_T50 l0_2 x55_3).f1).length c400_1,.bool ((rd_T50 l0_2 x55_3).f2),.bool ((rd_T50 l0_2 x55_3).f3),.int .i64 ((rd_T50 l0_2 x55_3).f4)] 50 (0,0)) A9 hb;replace HB:=hS HB hb;(try clear hb);(try clear hb2);(try clear hk);(try clear hi)))
      go_ret
      exact ⟨impl_IsSignature.a0,hV HB⟩
/-! ### laws_eqStringS: function 60 -/
theorem laws_eqStringS.a0 {P_:Prop} (h_:P_:=by repeat (first | exact Drawn0.refl _ | apply Drawn0.step)):P_:=h_
theorem laws_eqStringS.a1 {P_:Prop} (h_:P_:=by first | rfl | (simp;done) | (simp [*];done)):P_:=h_
def laws_eqStringS.l0:Nat→List ByteArray→List ByteArray→Int→Option (Bool)
 | 0,_,_,_=>none
 | k + 1,x0,x1,x5=>if x5 < (x0.length:Int) then (if 0≤x5 then (if x5 < (x1.length:Int) then (if (rdOf ByteArray.empty x0 x5).toList=(rdOf ByteArray.empty x1 x5).toList then (laws_eqStringS.l0 k x0 x1 (wrap64 (x5 + 1))) else (some false)) else (none)) else (none)) else (some true)
def laws_eqStringS.f (k:Nat) (l0:List ByteArray) (l1:List ByteArray):Option (Bool):=if (l0.length:Int)=(l1.length:Int) then (laws_eqStringS.l0 k l0 l1 0) else (some false)
set_option maxHeartbeats 8000000 in
set_option maxRecDepth 100000 in
theorem laws_eqStringS.calls (k:Nat) (A0:Option Addr) (c0:Nat) (l0:List ByteArray) (A1:Option Addr) (c1:Nat) (l1:List ByteArray) (r:Bool) (w:World) (hr0:Kd.C Kd.string w A0 l0.length l0) (hc0:l0.length≤c0) (hr1:Kd.C Kd.string w A1 l1.length l1) (hc1:l1.length≤c1) (h:laws_eqStringS.f k l0 l1=some r) :
  Calls Try.prog 60 #[.slice A0 l0.length c0,.slice A1 l1.length c1] w fun e w'=>e=.returned (.bool r)∧Drawn0 w w':=by
 have B3:=Aside0.mk hr0
 have C0:=Aside0.mk hc0
 clear hr0 hc0
 have B4:=Aside0.mk hr1
 have C1:=Aside0.mk hc1
 clear hr1 hc1
 have H:(if (l0.length:Int)=(l1.length:Int) then (laws_eqStringS.l0 k l0 l1 0) else (some false))=some r:=h
 clear h
 by_cases c3:(l0.length:Int)=(l1.length:Int)
 rotate_left
 ·rw [if_neg c3] at H
  have A8:((l0.length:Int) == (l1.length:Int))=false:=beq_eq_false_iff_ne.mpr c3
  have A9:((l0.length:Int) != (l1.length:Int))=true:=bne_iff_ne.mpr c3
  have B0:(l0.length == l1.length)=false:=by first | simpa using c3 | (simp at c3 ⊢;omega)
  obtain rfl:=Option.some.inj H
  go_enter Try.func60,Try.ntmps60
  go_wp2
  repeat (go_quiet (fail);try go_wp2)
  go_ret
  exact ⟨laws_eqStringS.a1,laws_eqStringS.a0⟩

 rw [if_pos c3] at H
 have A8:((l0.length:Int) == (l1.length:Int))=true:=beq_iff_eq.mpr c3
 have A9:((l0.length:Int) != (l1.length:Int))=false:=bne_eq_false_iff_eq.mpr c3
 have B0:(l0.length == l1.length)=true:=by first | simpa using c3 | (simp at c3 ⊢;omega)
 clear c3
 have H':=Aside0.mk H
 clear H
 go_enter Try.func60,Try.ntmps60
 go_wp2
 repeat (go_quiet (fail);try go_wp2)
 go_loopg [5] k (fun kq v5 w'=> ∃ (x5_1:Int),v5=.int .i64 x5_1∧Aside0 (laws_eqStringS.l0 kq l0 l1 x5_1=some r)∧Aside0 (kq≤k)∧Drawn0 w w')
 case atStart=>exact ⟨(0),laws_eqStringS.a1,H',⟨Nat.le_refl _⟩,laws_eqStringS.a0⟩
 clear H'
 try clear c1
 try clear c3
 try clear A8
 try clear A9
 try clear B0
 obtain ⟨x5_1,rfl,HA,HK1,⟨m1,rfl⟩⟩:=hrel
 cases gk with
 | zero=>exact absurd HA.out (by simp [laws_eqStringS.l0])
 | succ k1=>
  have H:=HA.out
  clear HA
  simp only [laws_eqStringS.l0] at H
  by_cases c4:x5_1 < (l0.length:Int)
  rotate_left
  ·rw [if_neg c4] at H
   have B5:=decide_eq_false c4
   clear c4
   obtain rfl:=Option.some.inj H
   go_wp2
   repeat (go_quiet (fail);try go_wp2)
   go_ret
   exact ⟨laws_eqStringS.a1,laws_eqStringS.a0⟩
  rw [if_pos c4] at H
  have B5:=decide_eq_true c4
  clear c4
  by_cases c5:0≤x5_1
  rotate_left
  ·rw [if_neg c5] at H
   exact absurd H (by simp)
  rw [if_pos c5] at H
  have B8:=decide_eq_true c5
  clear c5
  by_cases c6:x5_1 < (l1.length:Int)
  rotate_left
  ·rw [if_neg c6] at H
   exact absurd H (by simp)
  rw [if_pos c6] at H
  have B9:=decide_eq_true c6
  clear c6
  by_cases c7:(rdOf ByteArray.empty l0 x5_1).toList=(rdOf ByteArray.empty l1 x5_1).toList
  ·rw [if_pos c7] at H
   have B6:((rdOf ByteArray.empty l0 x5_1).toList == (rdOf ByteArray.empty l1 x5_1).toList)=true:=beq_iff_eq.mpr c7
   have B7:((rdOf ByteArray.empty l0 x5_1).toList != (rdOf ByteArray.empty l1 x5_1).toList)=false:=bne_eq_false_iff_eq.mpr c7
   clear c7
   have H':=Aside0.mk H
   clear H
   have A2:0≤(x5_1:Int):=dT
   have A3:x5_1 < (l0.length:Int):=dT
   obtain ⟨B1,e403,A6⟩:=Kd.at_string B3.out x5_1 A2 A3
   cases e403
   replace A2:=eq_true A2
   replace A3:=eq_true A3
   have A4:0≤(x5_1:Int):=dT
   have A5:x5_1 < (l1.length:Int):=dT
   obtain ⟨B2,e404,A7⟩:=Kd.at_string B4.out x5_1 A4 A5
   cases e404
   replace A4:=eq_true A4
   replace A5:=eq_true A5
   go_wp2
   repeat (go_quiet (fail);try go_wp2)
   go_roundg k1
   case measure=>have:=HK1.out;omega
   case rel=>exact ⟨(wrap64 (x5_1 + 1)),laws_eqStringS.a1,H',⟨by have:=HK1.out;omega⟩,laws_eqStringS.a0⟩
  ·rw [if_neg c7] at H
   have B6:((rdOf ByteArray.empty l0 x5_1).toList == (rdOf ByteArray.empty l1 x5_1).toList)=false:=beq_eq_false_iff_ne.mpr c7
   have B7:((rdOf ByteArray.empty l0 x5_1).toList != (rdOf ByteArray.empty l1 x5_1).toList)=true:=bne_iff_ne.mpr c7
   obtain rfl:=Option.some.inj H
   have A2:0≤(x5_1:Int):=dT
   have A3:x5_1 < (l0.length:Int):=dT
   obtain ⟨B1,e403,A6⟩:=Kd.at_string B3.out x5_1 A2 A3
   cases e403
   replace A2:=eq_true A2
   replace A3:=eq_true A3
   have A4:0≤(x5_1:Int):=dT
   have A5:x5_1 < (l1.length:Int):=dT
   obtain ⟨B2,e404,A7⟩:=Kd.at_string B4.out x5_1 A4 A5
   cases e404
   replace A4:=eq_true A4
   replace A5:=eq_true A5
   go_wp2
   repeat (go_quiet (fail);try go_wp2)
   go_ret
   exact ⟨laws_eqStringS.a1,laws_eqStringS.a0⟩
/-! ### laws_eqSub: function 72 -/
theorem laws_eqSub.a0 {P_:Prop} (h_:P_:=by first | rfl | (simp [errW_none,errW_some] <;> rfl) | (simp [*,errW_none,errW_some] <;> rfl)):P_:=h_
def laws_eqSub.f (a0_0:Int) (a0_1:Int) (a1_0:Int) (a1_1:Int):Option (Bool):=if a0_0=a1_0 then (if a0_1=a1_1 then (some true) else (some false)) else (some false)
set_option maxHeartbeats 8000000 in
set_option maxRecDepth 100000 in
theorem laws_eqSub.calls (a0_0:Int) (a0_1:Int) (a1_0:Int) (a1_1:Int) (r:Bool) (w:World) (h:laws_eqSub.f a0_0 a0_1 a1_0 a1_1=some r) :
  Calls Try.prog 72 #[.agg #[.int .i64 a0_0,.int .i64 a0_1],.agg #[.int .i64 a1_0,.int .i64 a1_1]] w fun e w'=>e=.returned (.bool r)∧Below w.heap.size w w':=by
 have hu89:=Try.underlying89
 have HB:=Aside0.mk (Below.refl w.heap.size w)
 have H:(if a0_0=a1_0 then (if a0_1=a1_1 then (some true) else (some false)) else (some false))=some r:=h
 clear h
 by_cases c3:a0_0=a1_0
 rotate_left
 ·rw [if_neg c3] at H
  have B0:(a0_0 == a1_0)=false:=beq_eq_false_iff_ne.mpr c3
  have B1:(a0_0 != a1_0)=true:=bne_iff_ne.mpr c3
  obtain rfl:=Option.some.inj H
  go_enter Try.func72,Try.ntmps72
  go_wp2_with (first | (refine bx 2 rfl #[.int .i64 a0_0,.int .i64 a0_1] 89 ?_;intro A4 hg w15 hbox hb;have A0:=Aside0.mk (hbox);have A5:=hZ HB hg;have A6:=hZ HB hg;replace HB:=hS HB hb;clear hb hbox hg) | (refine bx 3 rfl #[.int .i64 a1_0,.int .i64 a1_1] 89 ?_;intro A7 hg w16 hbox hb;have A3:=Aside0.mk (hbox);have A8:=hZ HB hg;have A9:=hZ HB hg;replace HB:=hS HB hb;have A1:=nL A0 hg;have A2:=nG A0 hg;replace A0:=bB A0 hb;clear hb hbox hg;have D8:=A1.out;have D9:=A2.out;obtain ⟨B4,B5,B6,B7⟩:=cf2 A0;obtain ⟨B8,B9,C0,C1⟩:=cf2 A3))
  go_ret
  exact ⟨laws_eqSub.a0,hV HB⟩

 rw [if_pos c3] at H
 have B0:(a0_0 == a1_0)=true:=beq_iff_eq.mpr c3
 have B1:(a0_0 != a1_0)=false:=bne_eq_false_iff_eq.mpr c3
 clear c3
 by_cases c4:a0_1=a1_1
 rotate_left
 ·rw [if_neg c4] at H
  have B2:(a0_1 == a1_1)=false:=beq_eq_false_iff_ne.mpr c4
  have B3:(a0_1 != a1_1)=true:=bne_iff_ne.mpr c4
  obtain rfl:=Option.some.inj H
  go_enter Try.func72,Try.ntmps72
  go_wp2_with (first | (refine bx 2 rfl #[.int .i64 a0_0,.int .i64 a0_1] 89 ?_;intro A4 hg w10 hbox hb;have A0:=Aside0.mk (hbox);have A5:=hZ HB hg;have A6:=hZ HB hg;replace HB:=hS HB hb;clear hb hbox hg) | (refine bx 3 rfl #[.int .i64 a1_0,.int .i64 a1_1] 89 ?_;intro A7 hg w11 hbox hb;have A3:=Aside0.mk (hbox);have A8:=hZ HB hg;have A9:=hZ HB hg;replace HB:=hS HB hb;have A1:=nL A0 hg;have A2:=nG A0 hg;replace A0:=bB A0 hb;clear hb hbox hg;have E0:=A1.out;have E1:=A2.out;obtain ⟨C2,C3,C4,C5⟩:=cf2 A0;obtain ⟨C6,C7,C8,C9⟩:=cf2 A3))
  go_ret
  exact ⟨laws_eqSub.a0,hV HB⟩
 rw [if_pos c4] at H
 have B2:(a0_1 == a1_1)=true:=beq_iff_eq.mpr c4
 have B3:(a0_1 != a1_1)=false:=bne_eq_false_iff_eq.mpr c4
 clear c4
 obtain rfl:=Option.some.inj H
 go_enter Try.func72,Try.ntmps72
 go_wp2_with (first | (refine bx 2 rfl #[.int .i64 a0_0,.int .i64 a0_1] 89 ?_;intro A4 hg w5 hbox hb;have A0:=Aside0.mk (hbox);have A5:=hZ HB hg;have A6:=hZ HB hg;replace HB:=hS HB hb;clear hb hbox hg) | (refine bx 3 rfl #[.int .i64 a1_0,.int .i64 a1_1] 89 ?_;intro A7 hg w6 hbox hb;have A3:=Aside0.mk (hbox);have A8:=hZ HB hg;have A9:=hZ HB hg;replace HB:=hS HB hb;have A1:=nL A0 hg;have A2:=nG A0 hg;replace A0:=bB A0 hb;clear hb hbox hg;have E2:=A1.out;have E3:=A2.out;obtain ⟨D0,D1,D2,D3⟩:=cf2 A0;obtain ⟨D4,D5,D6,D7⟩:=cf2 A3))
 go_ret
 exact ⟨laws_eqSub.a0,hV HB⟩
/-! ### laws_eqSubS: function 61 -/
theorem laws_eqSubS.a0 {P_:Prop} (h_:P_:=by first | rfl | (simp [errW_none,errW_some] <;> rfl) | (simp [*,errW_none,errW_some] <;> rfl)):P_:=h_
theorem laws_eqSubS.a1 {P_:Prop} (h_:P_:=by rintro w' ⟨s0,s1,s2,s3⟩;go_simp;with_reducible rfl):P_:=h_
def laws_eqSubS.l0:Nat→List (S89)→List (S89)→Int→Option (Bool)
 | 0,_,_,_=>none
 | k + 1,x0,x1,x5=>if x5 < (x0.length:Int) then (if 0≤x5 then (if x5 < (x1.length:Int) then ((laws_eqSub.f ((rd_T89 x0 x5).f0) ((rd_T89 x0 x5).f1) ((rd_T89 x1 x5).f0) ((rd_T89 x1 x5).f1)).bind fun t409=>(if t409=true then (laws_eqSubS.l0 k x0 x1 (wrap64 (x5 + 1))) else (some false))) else (none)) else (none)) else (some true)
def laws_eqSubS.f (k:Nat) (l0:List (S89)) (l1:List (S89)):Option (Bool):=if (l0.length:Int)=(l1.length:Int) then (laws_eqSubS.l0 k l0 l1 0) else (some false)
def laws_eqSubS.T6:Bool × List (List Nat × List Nat):=(true,[([],[]),([],[]),([0,1],[0,1]),([2],[2]),([],[]),([],[]),([4,5],[4,5]),([6],[6]),([3,7],[3,7]),([8],[8])])
def laws_eqSubS.B6:List Nat:=[0,0,3,7,0,0,48,112,255,511]
theorem laws_eqSubS.tab6:rtab .any (opsOf Try.f61 6)=laws_eqSubS.T6:=by kernel_rfl
theorem laws_eqSubS.bits6:waitsOk laws_eqSubS.T6.2 laws_eqSubS.B6=true:=by kernel_rfl
set_option maxHeartbeats 8000000 in
set_option maxRecDepth 100000 in
theorem laws_eqSubS.calls (k:Nat) (A0:Option Addr) (c0:Nat) (l0:List (S89)) (A1:Option Addr) (c1:Nat) (l1:List (S89)) (r:Bool) (w:World) (hr0:Kd.C k89 w A0 l0.length l0) (hc0:l0.length≤c0) (hr1:Kd.C k89 w A1 l1.length l1) (hc1:l1.length≤c1) (h:laws_eqSubS.f k l0 l1=some r) :
  Calls Try.prog 61 #[.slice A0 l0.length c0,.slice A1 l1.length c1] w fun e w'=>e=.returned (.bool r)∧Below w.heap.size w w':=by
 have hu89:=Try.underlying89
 have C1:=Aside0.mk hr0
 have C6:=Aside0.mk hc0
 clear hr0 hc0
 have C2:=Aside0.mk hr1
 have C7:=Aside0.mk hc1
 clear hr1 hc1
 have HB:=Aside0.mk (Below.refl w.heap.size w)
 have H:(if (l0.length:Int)=(l1.length:Int) then (laws_eqSubS.l0 k l0 l1 0) else (some false))=some r:=h
 clear h
 by_cases c3:(l0.length:Int)=(l1.length:Int)
 rotate_left
 ·rw [if_neg c3] at H
  have B8:((l0.length:Int) == (l1.length:Int))=false:=beq_eq_false_iff_ne.mpr c3
  have B9:((l0.length:Int) != (l1.length:Int))=true:=bne_iff_ne.mpr c3
  have C0:(l0.length == l1.length)=false:=by first | simpa using c3 | (simp at c3 ⊢;omega)
  obtain rfl:=Option.some.inj H
  go_enter Try.func61,Try.ntmps61
  go_wp2
  go_ret
  exact ⟨laws_eqSubS.a0,hV HB⟩

 rw [if_pos c3] at H
 have B8:((l0.length:Int) == (l1.length:Int))=true:=beq_iff_eq.mpr c3
 have B9:((l0.length:Int) != (l1.length:Int))=false:=bne_eq_false_iff_eq.mpr c3
 have C0:(l0.length == l1.length)=true:=by first | simpa using c3 | (simp at c3 ⊢;omega)
 clear c3
 have H':=Aside0.mk H
 clear H
 go_enter Try.func61,Try.ntmps61
 go_wp2
 go_loopg [5] k (fun kq v5 w'=> ∃ (x5_1:Int),v5=.int .i64 x5_1∧Aside0 (laws_eqSubS.l0 kq l0 l1 x5_1=some r)∧Aside0 (kq≤k)∧Aside0 (Below w.heap.size w w'))
 case atStart=>exact ⟨(0),(by first | rfl | (simp;done) | (simp [*];done)),H',⟨Nat.le_refl _⟩,⟨hV HB⟩⟩
 clear H'
 try clear c1
 try clear c3
 try clear B8
 try clear B9
 try clear C0
 obtain ⟨x5_1,rfl,HA,HK1,HB⟩:=hrel
 cases gk with
 | zero=>exact absurd HA.out (by simp [laws_eqSubS.l0])
 | succ k1=>
  have H:=HA.out
  clear HA
  simp only [laws_eqSubS.l0] at H
  by_cases c4:x5_1 < (l0.length:Int)
  rotate_left
  ·rw [if_neg c4] at H
   have C3:=decide_eq_false c4
   clear c4
   obtain rfl:=Option.some.inj H
   go_wp2
   go_ret
   exact ⟨laws_eqSubS.a0,hV HB⟩
  rw [if_pos c4] at H
  have C3:=decide_eq_true c4
  clear c4
  by_cases c5:0≤x5_1
  rotate_left
  ·rw [if_neg c5] at H
   exact absurd H (by simp)
  rw [if_pos c5] at H
  have C4:=decide_eq_true c5
  clear c5
  by_cases c6:x5_1 < (l1.length:Int)
  rotate_left
  ·rw [if_neg c6] at H
   exact absurd H (by simp)
  rw [if_pos c6] at H
  have C5:=decide_eq_true c6
  clear c6
  replace H:=Option.bind_eq_some_iff.mp H
  obtain ⟨t409,A70,H⟩:=H
  replace H:(if t409=true then (laws_eqSubS.l0 k1 l0 l1 (wrap64 (x5_1 + 1))) else (some false))=some r:=H
  have A7:=Aside0.mk A70
  clear A70
  by_cases c8:t409=true
  ·subst c8
   rw [if_pos rfl] at H
   have H':=Aside0.mk H
   clear H
   try go_wp2
   replace HB:=Aside0.mk (below_drew1 HB.out)
   have B3:0≤(x5_1:Int):=dT
   have B4:x5_1 < (l0.length:Int):=dT
   obtain ⟨B1,e407,A2,A3⟩:=at_T89 C1.out x5_1 B3 B4
   have A4:=A3
   have A5:=A2
   cases e407
   replace A2:=xc HB A2
   replace A3:=xc HB A3
   replace B3:=eq_true B3
   replace B4:=eq_true B4
   have B5:0≤(x5_1:Int):=dT
   have B7:x5_1 < (l1.length:Int):=dT
   obtain ⟨B2,e408,A6,A8⟩:=at_T89 C2.out x5_1 B5 B7
   have A9:=A8
   have B0:=A6
   cases e408
   replace A6:=xc HB A6
   replace A8:=xc HB A8
   replace B5:=eq_true B5
   replace B7:=eq_true B7
   refine start_ (n:=10) (S:=fun w'=>w'.cell? (B1.add ((x5_1).toNat * 2))=some (.int .i64 ((rd_T89 l0 x5_1).f0))∧w'.cell? ⟨(B1.add ((x5_1).toNat * 2)).block,(B1.add ((x5_1).toNat * 2)).off + 1,none⟩=some (.int .i64 ((rd_T89 l0 x5_1).f1))∧w'.cell? (B2.add ((x5_1).toNat * 2))=some (.int .i64 ((rd_T89 l1 x5_1).f0))∧w'.cell? ⟨(B2.add ((x5_1).toNat * 2)).block,(B2.add ((x5_1).toNat * 2)).off + 1,none⟩=some (.int .i64 ((rd_T89 l1 x5_1).f1))) (ds:=[]) #[false,false,false,false,false,false,false,false,false,false] (by kernel_rfl) rfl rfl ⟨((HB.out.cell (World.block_lt_of_cell? w _ A5)).trans A5),((HB.out.cell (World.block_lt_of_cell? w _ A4)).trans A4),((HB.out.cell (World.block_lt_of_cell? w _ B0)).trans B0),((HB.out.cell (World.block_lt_of_cell? w _ A9)).trans A9)⟩ (fun hHeld=> ?_);refine with_tabW laws_eqSubS.tab6 laws_eqSubS.bits6 (fun HT_ HW_=> ?_)
   generalize wr.drew=w9 at HB A2 A3 A6 A8 hHeld ⊢
   refine pureS 0 17 HT_ rfl rfl ?_
   refine pureS 1 18 HT_ rfl rfl ?_
   refine pureS 2 19 HT_ rfl rfl ?_
   refine pureS 4 21 HT_ rfl rfl ?_
   refine pureS 5 22 HT_ rfl rfl ?_
   refine pureS 6 23 HT_ rfl rfl ?_
   refine takeS 3 20 HT_ HW_ rfl rfl hHeld ?_ laws_eqSubS.a1
   refine takeS 7 24 HT_ HW_ rfl rfl hHeld ?_ laws_eqSubS.a1
   refine one_ (i:=8) (N:=some 25) #[true,true,true,true,true,true,true,true,true,false] rfl rfl (one_of HT_.out (by kernel_rfl)) (by decide) (fun K hK=> ?_)
   refine goes_ Try.func72 (by kernel_rfl) rfl #[.agg #[.int .i64 ((rd_T89 l0 x5_1).f0),.int .i64 ((rd_T89 l0 x5_1).f1)],.agg #[.int .i64 ((rd_T89 l1 x5_1).f0),.int .i64 ((rd_T89 l1 x5_1).f1)]] (by rfl) rfl rfl (by (try simp only [List.map_toArray,List.map_cons,List.map_nil]);first | done | rfl | (simp only [List.length_drop,List.length_take];rfl)) ?_
   with_reducible refine (laws_eqSub.calls ((rd_T89 l0 x5_1).f0) ((rd_T89 l0 x5_1).f1) ((rd_T89 l1 x5_1).f0) ((rd_T89 l1 x5_1).f1) true _ A7.out).mono ?_
   rintro e w10 ⟨rfl,hb⟩
   refine ⟨_,rfl,?_⟩
   replace HB:=hS HB hb
   (try clear hb)
   (try clear hb2)
   (try clear hk)
   (try clear hi)
   refine hK.out _ _ ⟨((HB.out.cell (World.block_lt_of_cell? w _ A5)).trans A5),((HB.out.cell (World.block_lt_of_cell? w _ A4)).trans A4),((HB.out.cell (World.block_lt_of_cell? w _ B0)).trans B0),((HB.out.cell (World.block_lt_of_cell? w _ A9)).trans A9)⟩ (fun hHeld=> ?_)
   clear hK K
   refine norm_ (a':=?_) ?_ ?_
   rotate_left
   ·show Act.put _ (some 25) _=_
    simp only [Act.put,List.setIfInBounds_toArray,List.set_cons_zero,List.set_cons_succ,i64_w,i32_w]
    rfl
   refine pureS 9 26 HT_ rfl rfl ?_
   refine done_ (done_of HT_.out (by kernel_rfl)) ?_
   try go_wp2
   go_roundg k1
   case measure=>have:=HK1.out;omega
   case rel=>exact ⟨(wrap64 (x5_1 + 1)),(by first | rfl | (simp;done) | (simp [*];done)),H',⟨by have:=HK1.out;omega⟩,⟨hV HB⟩⟩
  ·replace c8:=Bool.eq_false_iff.mpr c8
   subst c8
   rw [if_neg (show ¬ (false=true) by decide)] at H
   obtain rfl:=Option.some.inj H
   try go_wp2
   replace HB:=Aside0.mk (below_drew1 HB.out)
   have B3:0≤(x5_1:Int):=dT
   have B4:x5_1 < (l0.length:Int):=dT
   obtain ⟨B1,e407,A2,A3⟩:=at_T89 C1.out x5_1 B3 B4
   have A4:=A3
   have A5:=A2
   cases e407
   replace A2:=xc HB A2
   replace A3:=xc HB A3
   replace B3:=eq_true B3
   replace B4:=eq_true B4
   have B5:0≤(x5_1:Int):=dT
   have B7:x5_1 < (l1.length:Int):=dT
   obtain ⟨B2,e408,A6,A8⟩:=at_T89 C2.out x5_1 B5 B7
   have A9:=A8
   have B0:=A6
   cases e408
   replace A6:=xc HB A6
   replace A8:=xc HB A8
   replace B5:=eq_true B5
   replace B7:=eq_true B7
   refine start_ (n:=10) (S:=fun w'=>w'.cell? (B1.add ((x5_1).toNat * 2))=some (.int .i64 ((rd_T89 l0 x5_1).f0))∧w'.cell? ⟨(B1.add ((x5_1).toNat * 2)).block,(B1.add ((x5_1).toNat * 2)).off + 1,none⟩=some (.int .i64 ((rd_T89 l0 x5_1).f1))∧w'.cell? (B2.add ((x5_1).toNat * 2))=some (.int .i64 ((rd_T89 l1 x5_1).f0))∧w'.cell? ⟨(B2.add ((x5_1).toNat * 2)).block,(B2.add ((x5_1).toNat * 2)).off + 1,none⟩=some (.int .i64 ((rd_T89 l1 x5_1).f1))) (ds:=[]) #[false,false,false,false,false,false,false,false,false,false] (by kernel_rfl) rfl rfl ⟨((HB.out.cell (World.block_lt_of_cell? w _ A5)).trans A5),((HB.out.cell (World.block_lt_of_cell? w _ A4)).trans A4),((HB.out.cell (World.block_lt_of_cell? w _ B0)).trans B0),((HB.out.cell (World.block_lt_of_cell? w _ A9)).trans A9)⟩ (fun hHeld=> ?_);refine with_tabW laws_eqSubS.tab6 laws_eqSubS.bits6 (fun HT_ HW_=> ?_)
   generalize wr.drew=w11 at HB A2 A3 A6 A8 hHeld ⊢
   refine pureS 0 17 HT_ rfl rfl ?_
   refine pureS 1 18 HT_ rfl rfl ?_
   refine pureS 2 19 HT_ rfl rfl ?_
   refine pureS 4 21 HT_ rfl rfl ?_
   refine pureS 5 22 HT_ rfl rfl ?_
   refine pureS 6 23 HT_ rfl rfl ?_
   refine takeS 3 20 HT_ HW_ rfl rfl hHeld ?_ laws_eqSubS.a1
   refine takeS 7 24 HT_ HW_ rfl rfl hHeld ?_ laws_eqSubS.a1
   refine one_ (i:=8) (N:=some 25) #[true,true,true,true,true,true,true,true,true,false] rfl rfl (one_of HT_.out (by kernel_rfl)) (by decide) (fun K hK=> ?_)
   refine goes_ Try.func72 (by kernel_rfl) rfl #[.agg #[.int .i64 ((rd_T89 l0 x5_1).f0),.int .i64 ((rd_T89 l0 x5_1).f1)],.agg #[.int .i64 ((rd_T89 l1 x5_1).f0),.int .i64 ((rd_T89 l1 x5_1).f1)]] (by rfl) rfl rfl (by (try simp only [List.map_toArray,List.map_cons,List.map_nil]);first | done | rfl | (simp only [List.length_drop,List.length_take];rfl)) ?_
   with_reducible refine (laws_eqSub.calls ((rd_T89 l0 x5_1).f0) ((rd_T89 l0 x5_1).f1) ((rd_T89 l1 x5_1).f0) ((rd_T89 l1 x5_1).f1) false _ A7.out).mono ?_
   rintro e w12 ⟨rfl,hb⟩
   refine ⟨_,rfl,?_⟩
   replace HB:=hS HB hb
   (try clear hb)
   (try clear hb2)
   (try clear hk)
   (try clear hi)
   refine hK.out _ _ ⟨((HB.out.cell (World.block_lt_of_cell? w _ A5)).trans A5),((HB.out.cell (World.block_lt_of_cell? w _ A4)).trans A4),((HB.out.cell (World.block_lt_of_cell? w _ B0)).trans B0),((HB.out.cell (World.block_lt_of_cell? w _ A9)).trans A9)⟩ (fun hHeld=> ?_)
   clear hK K
   refine norm_ (a':=?_) ?_ ?_
   rotate_left
   ·show Act.put _ (some 25) _=_
    simp only [Act.put,List.setIfInBounds_toArray,List.set_cons_zero,List.set_cons_succ,i64_w,i32_w]
    rfl
   refine pureS 9 26 HT_ rfl rfl ?_
   refine done_ (done_of HT_.out (by kernel_rfl)) ?_
   try go_wp2
   go_ret
   exact ⟨laws_eqSubS.a0,hV HB⟩
end Go.Proofs.Ytpildjbakceicaa.Q

