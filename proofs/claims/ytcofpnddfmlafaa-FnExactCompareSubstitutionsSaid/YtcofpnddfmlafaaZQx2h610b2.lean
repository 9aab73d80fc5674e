/- Functions of the program as plain Lean functions,and that the calls come to what they say. -/
import Derived.Test.YtcofpnddfmlafaaZQx0hd86e5
import Derived.Test.YtcofpnddfmlafaaZShorth79069
namespace Go.Proofs.Ytcofpnddfmlafaa.Q
open Go.RowKit Go.Proofs.YtcofpnddfmlafaaW.PrintWords Go.Proofs.YtcofpnddfmlafaaW.PrintLast Go.Proofs.YtcofpnddfmlafaaW.PrintMore
attribute [local go_sem] max2_int min2_int max_two min_two max_three min_three max_four min_four   -- for this text's walks alone
set_option linter.unusedVariables false
set_option linter.unusedSimpArgs false

mutual
def laws_toTerm.f:Nat→Int→ByteArray→Int→List (S24)→Option (Int × ByteArray × Int × (List (S29)))
 | 0,_,_,_,_=>none
 | k + 1,a0_0,a0_1,a0_2,l0_3=>(laws_toTermS.f k l0_3).bind fun t124=>(some (a0_0,a0_1,a0_2,t124))
def laws_toTermS.l0:Nat→List (S24)→List (S29)→Int→Option ((List (S29)))
 | 0,_,_,_=>none
 | k + 1,x0,x3,x4=>if x4 < (x0.length:Int) then (if 0≤x4 then ((laws_toTerm.f k ((rd_T24 x0 x4).f0) ((rd_T24 x0 x4).f1) ((rd_T24 x0 x4).f2) ((rd_T24 x0 x4).f3)).bind fun bt114=>(if x4 < (x3.length:Int) then (laws_toTermS.l0 k x0 (x3.set (x4:Int).toNat (⟨bt114.1,bt114.2.1,bt114.2.2.1,bt114.2.2.2⟩:S29)) (wrap64 (x4 + 1))) else (none))) else (none)) else (some x3)
def laws_toTermS.f:Nat→List (S24)→Option ((List (S29)))
 | 0,_=>none
 | k + 1,l0=>if 0≤(l0.length:Int) then (if ((l0.length:Int):Int).toNat≤5026338869833 then (laws_toTermS.l0 k l0 (List.replicate ((l0.length:Int):Int).toNat z29) 0) else (none)) else (none)
end
def laws_toTerm.Said (k:Nat):Prop:=∀ (a0_0:Int) (a0_1:ByteArray) (a0_2:Int) (A0_3:Option Addr) (c0_3:Nat) (l0_3:List (S24)) (r1:Int) (r2:ByteArray) (r3:Int) (r4:List (S29)) (w:World) (hr0_3:Kd.C k24 w A0_3 l0_3.length l0_3) (hc0_3:l0_3.length≤c0_3) (_:laws_toTerm.f k a0_0 a0_1 a0_2 l0_3=some (r1,r2,r3,r4)),
  Calls Try.prog 13 #[.agg #[.int .i64 a0_0,.string a0_1,.int .i64 a0_2,.slice A0_3 l0_3.length c0_3]] w fun e w'=> ∃ v3_:Value,e=.returned (.agg #[.int .i64 r1,.string r2,.int .i64 r3,v3_])∧Kd.R k29 29 w' w.heap.size (fun _=>True) v3_ r4∧Below w.heap.size w w'

def laws_toTermS.Said (k:Nat):Prop:=∀ (A0:Option Addr) (c0:Nat) (l0:List (S24)) (r:List (S29)) (w:World) (hr0:Kd.C k24 w A0 l0.length l0) (hc0:l0.length≤c0) (_:laws_toTermS.f k l0=some r),
  Calls Try.prog 20 #[.slice A0 l0.length c0] w fun e w'=> ∃ v0_:Value,e=.returned (v0_)∧Kd.R k29 29 w' w.heap.size (fun _=>True) v0_ r∧Below w.heap.size w w'

/-! ### laws_toTerm: function 13 -/
set_option maxHeartbeats 8000000 in
set_option maxRecDepth 100000 in
theorem laws_toTerm.calls_ (k:Nat) (ih_13:∀ m,m < k→∀ (a0_0:Int) (a0_1:ByteArray) (a0_2:Int) (A0_3:Option Addr) (c0_3:Nat) (l0_3:List (S24)) (r1:Int) (r2:ByteArray) (r3:Int) (r4:List (S29)) (w:World) (hr0_3:Kd.C k24 w A0_3 l0_3.length l0_3) (hc0_3:l0_3.length≤c0_3) (_:laws_toTerm.f m a0_0 a0_1 a0_2 l0_3=some (r1,r2,r3,r4)),
  Calls Try.prog 13 #[.agg #[.int .i64 a0_0,.string a0_1,.int .i64 a0_2,.slice A0_3 l0_3.length c0_3]] w fun e w'=> ∃ v3_:Value,e=.returned (.agg #[.int .i64 r1,.string r2,.int .i64 r3,v3_])∧Kd.R k29 29 w' w.heap.size (fun _=>True) v3_ r4∧Below w.heap.size w w') (ih_20:∀ m,m < k→∀ (A0:Option Addr) (c0:Nat) (l0:List (S24)) (r:List (S29)) (w:World) (hr0:Kd.C k24 w A0 l0.length l0) (hc0:l0.length≤c0) (_:laws_toTermS.f m l0=some r),
  Calls Try.prog 20 #[.slice A0 l0.length c0] w fun e w'=> ∃ v0_:Value,e=.returned (v0_)∧Kd.R k29 29 w' w.heap.size (fun _=>True) v0_ r∧Below w.heap.size w w'):∀ (a0_0:Int) (a0_1:ByteArray) (a0_2:Int) (A0_3:Option Addr) (c0_3:Nat) (l0_3:List (S24)) (r1:Int) (r2:ByteArray) (r3:Int) (r4:List (S29)) (w:World) (hr0_3:Kd.C k24 w A0_3 l0_3.length l0_3) (hc0_3:l0_3.length≤c0_3) (h:laws_toTerm.f k a0_0 a0_1 a0_2 l0_3=some (r1,r2,r3,r4)),
  Calls Try.prog 13 #[.agg #[.int .i64 a0_0,.string a0_1,.int .i64 a0_2,.slice A0_3 l0_3.length c0_3]] w fun e w'=> ∃ v3_:Value,e=.returned (.agg #[.int .i64 r1,.string r2,.int .i64 r3,v3_])∧Kd.R k29 29 w' w.heap.size (fun _=>True) v3_ r4∧Below w.heap.size w w':=by
 intro a0_0 a0_1 a0_2 A0_3 c0_3 l0_3 r1 r2 r3 r4 w hr0_3 hc0_3 h
 cases k with
 | zero=>exact absurd h (by simp [laws_toTerm.f])
 | succ k=>
 simp only [laws_toTerm.f] at h
 have hu24:=Try.underlying24
 have hu29:=Try.underlying29
 have B6:=Aside0.mk hr0_3
 have B7:=Aside0.mk hc0_3
 clear hr0_3 hc0_3
 have HB:=Aside0.mk (Below.refl w.heap.size w)
 have H:((laws_toTermS.f k l0_3).bind fun t124=>(some (a0_0,a0_1,a0_2,t124)))=some (r1,r2,r3,r4):=h
 clear h
 replace H:=Option.bind_eq_some_iff.mp H
 obtain ⟨t124,A20,H⟩:=H
 replace H:(some (a0_0,a0_1,a0_2,t124))=some (r1,r2,r3,r4):=H
 have A2:=Aside0.mk A20
 clear A20
 simp only [Option.some.injEq,Prod.mk.injEq] at H
 obtain ⟨rfl,rfl,rfl,rfl⟩:=H
 go_enter Try.func13,Try.ntmps13
 go_wp2_with (first | (refine bx 1 rfl #[.int .i64 a0_0,.string a0_1,.int .i64 a0_2,.slice A0_3 l0_3.length c0_3] 24 ?_;intro F0 hg w3 hbox hb;have A1:=Aside0.mk (hbox);have F1:=hZ HB hg;have F2:=hZ HB hg;replace HB:=hS HB hb;clear hb hbox hg) | (refine bx 2 rfl #[.int .i64 0,.string (⟨#[]⟩:ByteArray),.int .i64 0,.slice none 0 0] 29 ?_;intro A4 hg w4 hbox hb;have A3:=Aside0.mk (hbox);have F3:=hZ HB hg;have F4:=hZ HB hg;replace HB:=hS HB hb;have A7:=nL A1 hg;have A8:=nG A1 hg;replace A1:=bB A1 hb;clear hb hbox hg) | (refine bx 3 rfl #[.int .i64 0,.string (⟨#[]⟩:ByteArray),.int .i64 0,.slice none 0 0] 29 ?_;intro A6 hg w5 hbox hb;have A5:=Aside0.mk (hbox);have F5:=hZ HB hg;have F6:=hZ HB hg;replace HB:=hS HB hb;have A9:=nL A1 hg;have B0:=nG A1 hg;replace A1:=bB A1 hb;have B1:=nL A3 hg;have B2:=nG A3 hg;replace A3:=bB A3 hb;clear hb hbox hg;have F7:=A7.out;have F8:=A8.out;have F9:=A9.out;have G0:=B0.out;obtain ⟨E2,E3,E4,E5,E6,E7,E8,E9⟩:=cf4 A1;have G1:=B2.out;have G2:=B1.out;obtain ⟨B8,B9,C0,C1,C2,C3,C4,C5⟩:=cf4 A5) | (refine goK 20 (some 15) rfl Try.func20 #[.slice A0_3 l0_3.length c0_3] ?_;(with_reducible refine (ih_20 k (by omega) _ _ l0_3 t124 _ ?side1 ?side2 A2.out).mono ?_);(case side1=>exact cV B6 HB);(case side2=>exact B7.out);rintro e w11 ⟨v125,rfl,ho0,hb⟩;refine ⟨_,rfl,?_⟩;have B5:=Aside0.mk (Kd.R_lower (Kd.R_newB (Kd.R_newB ho0 (g:=A4) (o:=.cells #[.int .i64 0,.string (⟨#[]⟩:ByteArray),.int .i64 0,.slice none 0 0] 29 (0,0)) (vB A3)) (g:=A6) (o:=.cells #[.int .i64 a0_0,.string a0_1,.int .i64 a0_2,.slice none 0 0] 29 (0,0)) (vP A5)) (below_size (hV HB)));replace A1:=bB A1 hb;replace A3:=bB A3 hb;replace A5:=bP (o:=.cells #[.int .i64 a0_0,.string a0_1,.int .i64 a0_2,.slice none 0 0] 29 (0,0)) A5 hb;replace HB:=hS HB hb;(try clear hb);(try clear hb2);(try clear hk);(try clear hi);(try clear ho0);obtain ⟨B3,B4,eo12⟩:=Kd.R_slice B5.out;subst eo12;obtain ⟨C6,C7,C8,C9,D0,D1,D2,D3⟩:=cf4 A5;obtain ⟨D4,D5,D6,D7,D8,D9,E0,E1⟩:=cf4 A3))
 refine bodyPost_ret (results_cell_row rfl _ _ A4 29 #[.int .i64 a0_0,.string a0_1,.int .i64 a0_2,.slice B3 t124.length B4] (0,0) _ rfl (vP A3) Try.underlying29 rfl (by kernel_rfl)) rfl ?_
 exact ⟨_,by first | rfl | (simp [errW_none,errW_some] <;> rfl) | (simp [*,errW_none,errW_some] <;> rfl),by (with_reducible repeat (first | apply Kd.R_alloc | apply Kd.R_drewN | apply Kd.R_drew));exact Kd.R_mono (Kd.R_far (p:=⟨A4,3,none⟩) (Kd.R_far (p:=⟨A4,2,none⟩) (Kd.R_far (p:=⟨A4,1,none⟩) (Kd.R_far (p:=⟨A4,0,none⟩) (Kd.R_far (p:=⟨A6,3,none⟩) (Kd.R_mono (Kd.R_mono B5.out (fun k_ hk=>(⟨hk,hk.2⟩:_∧k_≠A6))) (fun k_ hk=>(⟨hk,hk.1.1.2⟩:_∧k_≠A4))) (fun _ hk=>hk.1.2) (.slice B3 t124.length B4)) (fun _ hk=>hk.2) (.int .i64 a0_0)) (fun _ hk=>hk.2) (.string a0_1)) (fun _ hk=>hk.2) (.int .i64 a0_2)) (fun _ hk=>hk.2) (.slice B3 t124.length B4)) (fun _ hk=>trivial),hV HB⟩

/-! ### laws_toTermS: function 20 -/
set_option maxHeartbeats 8000000 in
set_option maxRecDepth 100000 in
theorem laws_toTermS.calls_ (k:Nat) (ih_13:∀ m,m < k→∀ (a0_0:Int) (a0_1:ByteArray) (a0_2:Int) (A0_3:Option Addr) (c0_3:Nat) (l0_3:List (S24)) (r1:Int) (r2:ByteArray) (r3:Int) (r4:List (S29)) (w:World) (hr0_3:Kd.C k24 w A0_3 l0_3.length l0_3) (hc0_3:l0_3.length≤c0_3) (_:laws_toTerm.f m a0_0 a0_1 a0_2 l0_3=some (r1,r2,r3,r4)),
  Calls Try.prog 13 #[.agg #[.int .i64 a0_0,.string a0_1,.int .i64 a0_2,.slice A0_3 l0_3.length c0_3]] w fun e w'=> ∃ v3_:Value,e=.returned (.agg #[.int .i64 r1,.string r2,.int .i64 r3,v3_])∧Kd.R k29 29 w' w.heap.size (fun _=>True) v3_ r4∧Below w.heap.size w w') (ih_20:∀ m,m < k→∀ (A0:Option Addr) (c0:Nat) (l0:List (S24)) (r:List (S29)) (w:World) (hr0:Kd.C k24 w A0 l0.length l0) (hc0:l0.length≤c0) (_:laws_toTermS.f m l0=some r),
  Calls Try.prog 20 #[.slice A0 l0.length c0] w fun e w'=> ∃ v0_:Value,e=.returned (v0_)∧Kd.R k29 29 w' w.heap.size (fun _=>True) v0_ r∧Below w.heap.size w w'):∀ (A0:Option Addr) (c0:Nat) (l0:List (S24)) (r:List (S29)) (w:World) (hr0:Kd.C k24 w A0 l0.length l0) (hc0:l0.length≤c0) (h:laws_toTermS.f k l0=some r),
  Calls Try.prog 20 #[.slice A0 l0.length c0] w fun e w'=> ∃ v0_:Value,e=.returned (v0_)∧Kd.R k29 29 w' w.heap.size (fun _=>True) v0_ r∧Below w.heap.size w w':=by
 intro A0 c0 l0 r w hr0 hc0 h
 cases k with
 | zero=>exact absurd h (by simp [laws_toTermS.f])
 | succ k=>
 simp only [laws_toTermS.f] at h
 have hu24:=Try.underlying24
 have hu29:=Try.underlying29
 have E6:=Aside0.mk hr0
 have F9:=Aside0.mk hc0
 clear hr0 hc0
 have HB:=Aside0.mk (Below.refl w.heap.size w)
 have H:(if 0≤(l0.length:Int) then (if ((l0.length:Int):Int).toNat≤5026338869833 then (laws_toTermS.l0 k l0 (List.replicate ((l0.length:Int):Int).toNat z29) 0) else (none)) else (none))=some r:=h
 clear h
 by_cases c2:0≤(l0.length:Int)
 rotate_left
 ·rw [if_neg c2] at H
  exact absurd H (by simp)

 rw [if_pos c2] at H
 have E1:=eq_true c2
 have E2:=decide_eq_true c2
 clear c2
 by_cases c3:((l0.length:Int):Int).toNat≤5026338869833
 rotate_left
 ·rw [if_neg c3] at H
  exact absurd H (by simp)
 rw [if_pos c3] at H
 have E3:=eq_true c3
 have E4:=decide_eq_true c3
 clear c3
 obtain ⟨y110,hy110⟩:∃ y_:List (S29),y_=(List.replicate ((l0.length:Int):Int).toNat z29):=⟨_,rfl⟩
 replace H:(laws_toTermS.l0 k l0 y110 0)=some r:=by first | (rw [hy110];with_reducible exact H) | (have H2_:=(Option.bind_some _ _).symm.trans H;rw [hy110];with_reducible exact H2_) | (have H2_:=(Option.bind_some _ _).symm.trans H;with_reducible exact H2_) | with_reducible exact H | (rw [hy110];exact H) | exact H
 have B9:=Aside0.mk hy110
 clear hy110
 have H':=Aside0.mk H
 clear H
 go_enter Try.func20,Try.ntmps20
 go_wp2_with (first | ((with_reducible refine gate_dst (N:=7) rfl ?_);refine Kd.R_make k29 _ 29 rfl (N:=7) rfl 27 _ _ rfl (l0.length:Int) rfl rfl Try.underlying27 (.agg #[(.int .i64 0),(.string ⟨#[]⟩),(.int .i64 0),(.slice none 0 0)]) 56 info29 rfl (by decide) (by omega) z29 (ok:=fun _=>True) (okp:=fun _=>True) (k29_mkM _ _ _ z29 (Kd.R_nil _ _ _ _ _)) (fun _ hk=>hk) trivial (dT) (Nat.le_trans (Nat.mul_le_mul_right _ (dT:(l0.length:Int).toNat≤5026338869833)) (by omega)) (Below.refl _ _) (Nat.le_refl _) ?_;intro v111 w4 ho5 hb hg_ hnew_;clear hg_ hnew_;(first | rw [← B9.out] at ho5 | (simp only [Int.reduceToNat] at ho5;rw [← B9.out] at ho5));have D8:=rL ho5 HB;replace HB:=hS HB hb;clear hb ho5))
 go_loopg [4] k (fun kq v4 w'=> ∃ (x3_1:List (S29)) (x4_1:Int),v4=.int .i64 x4_1∧Aside0 (laws_toTermS.l0 kq l0 x3_1 x4_1=some r)∧Aside0 (kq≤k)∧Aside0 (Kd.R k29 29 w' w.heap.size (fun _=>True) v111 x3_1)∧Aside0 (Below w.heap.size w w'))
 case atStart=>exact ⟨(y110),(0),(by first | rfl | (simp;done) | (simp [*];done)),H',⟨Nat.le_refl _⟩,⟨rV D8⟩,⟨hV HB⟩⟩
 clear H'
 try clear c2
 try clear E1
 try clear E2
 try clear c3
 try clear E3
 try clear E4
 obtain ⟨x3_1,x4_1,rfl,HA,HK1,A2,HB⟩:=hrel
 cases gk with
 | zero=>exact absurd HA.out (by simp [laws_toTermS.l0])
 | succ k1=>
  have H:=HA.out
  clear HA
  simp only [laws_toTermS.l0] at H
  by_cases c6:x4_1 < (l0.length:Int)
  rotate_left
  ·rw [if_neg c6] at H
   have E5:=decide_eq_false c6
   clear c6
   obtain rfl:=Option.some.inj H
   go_wp2
   go_ret
   exact ⟨_,by first | rfl | (simp [errW_none,errW_some] <;> rfl) | (simp [*,errW_none,errW_some] <;> rfl),rV A2,hV HB⟩
  rw [if_pos c6] at H
  have E5:=decide_eq_true c6
  clear c6
  by_cases c7:0≤x4_1
  rotate_left
  ·rw [if_neg c7] at H
   exact absurd H (by simp)
  rw [if_pos c7] at H
  have F6:=decide_eq_true c7
  clear c7
  replace H:=Option.bind_eq_some_iff.mp H
  obtain ⟨⟨t114,t115,t116,t117⟩,A80,H⟩:=H
  replace H:(if x4_1 < (x3_1.length:Int) then (laws_toTermS.l0 k1 l0 (x3_1.set (x4_1:Int).toNat (⟨t114,t115,t116,t117⟩:S29)) (wrap64 (x4_1 + 1))) else (none))=some r:=H
  have A8:=Aside0.mk A80
  clear A80
  by_cases c9:x4_1 < (x3_1.length:Int)
  rotate_left
  ·rw [if_neg c9] at H
   exact absurd H (by simp)
  rw [if_pos c9] at H
  have F7:=decide_eq_true c9
  clear c9
  obtain ⟨y120,hy120⟩:∃ y_:List (S29),y_=(x3_1.set (x4_1:Int).toNat (⟨t114,t115,t116,t117⟩:S29)):=⟨_,rfl⟩
  replace H:(laws_toTermS.l0 k1 l0 y120 (wrap64 (x4_1 + 1)))=some r:=by first | (rw [hy120];with_reducible exact H) | (have H2_:=(Option.bind_some _ _).symm.trans H;rw [hy120];with_reducible exact H2_) | (have H2_:=(Option.bind_some _ _).symm.trans H;with_reducible exact H2_) | with_reducible exact H | (rw [hy120];exact H) | exact H
  have D9:=Aside0.mk hy120
  clear hy120
  have H':=Aside0.mk H
  clear H
  have B6:0≤(x4_1:Int):=dT
  have B7:x4_1 < (l0.length:Int):=dT
  obtain ⟨F5,A113_3,c113_3,e113,A7,A9,B0,B1,B2,B3⟩:=at_T24 E6.out x4_1 B6 B7
  cases e113
  replace A7:=xc HB A7
  replace A9:=xc HB A9
  replace B0:=xc HB B0
  replace B1:=xc HB B1
  have C1:=Aside0.mk B3
  have C2:=Aside0.mk B2
  clear B3 B2
  replace B6:=eq_true B6
  replace B7:=eq_true B7
  go_wp2_with (first | (refine goK 13 (some 20) rfl Try.func13 #[.agg #[.int .i64 ((rd_T24 l0 x4_1).f0),.string ((rd_T24 l0 x4_1).f1),.int .i64 ((rd_T24 l0 x4_1).f2),.slice A113_3 ((rd_T24 l0 x4_1).f3).length c113_3]] ?_;(with_reducible refine (ih_13 k1 (by have:=HK1.out;omega) ((rd_T24 l0 x4_1).f0) ((rd_T24 l0 x4_1).f1) ((rd_T24 l0 x4_1).f2) _ _ ((rd_T24 l0 x4_1).f3) t114 t115 t116 t117 _ ?side1 ?side2 A8.out).mono ?_);(case side1=>exact cB C1 HB);(case side2=>exact C2.out);rintro e w11 ⟨v118,rfl,ho0,hb⟩;refine ⟨_,rfl,?_⟩;have B4:=rL (rN ho0 A2) HB;replace A2:=rE A2 ho0 hb;replace HB:=hS HB hb;(try clear hb);(try clear hb2);(try clear hk);(try clear hi);(try clear ho0);have C3:0≤(x4_1:Int):=dT;have C4:(x4_1:Int) < ((x3_1.length:Int):Int):=dT;obtain ⟨A1,C5,eo10,C6,gl10,cl10,HG10⟩:=Kd.R_form A2.out (by omega);(first | cases eo10 | (injection eo10 with ea_ en_ ec_;(first | subst ea_ | (injection ea_ with ea_;subst ea_));subst ec_;clear en_));have B5:=Aside0.mk C6;have F8:=Aside0.mk HG10;clear C6 gl10 HG10;obtain ⟨ce10,E0,C7,A4,A5⟩:=Kd.R_elem A2.out z29 (x4_1:Int) C3 C4;obtain ⟨ve10_3,rfl,ge10_3⟩:=k29_openM C7;have E7:w11.cell? ⟨A1,(x4_1:Int).toNat * 4,none⟩=some (.int .i64 ((rd_T29 x3_1 x4_1).f0)):=A4 0 _ rfl;have E8:w11.cell? ⟨A1,(x4_1:Int).toNat * 4 + 1,none⟩=some (.string ((rd_T29 x3_1 x4_1).f1)):=A4 1 _ rfl;have E9:w11.cell? ⟨A1,(x4_1:Int).toNat * 4 + 2,none⟩=some (.int .i64 ((rd_T29 x3_1 x4_1).f2)):=A4 2 _ rfl;have F0:w11.cell? ⟨A1,(x4_1:Int).toNat * 4 + 3,none⟩=some (ve10_3):=A4 3 _ rfl;have F1:w11.frozen? ⟨A1,(x4_1:Int).toNat * 4,none⟩=false:=A5 0;have F2:w11.frozen? ⟨A1,(x4_1:Int).toNat * 4 + 1,none⟩=false:=A5 1;have F3:w11.frozen? ⟨A1,(x4_1:Int).toNat * 4 + 2,none⟩=false:=A5 2;have F4:w11.frozen? ⟨A1,(x4_1:Int).toNat * 4 + 3,none⟩=false:=A5 3;clear E0 A4 A5 C7;replace C3:=eq_true C3;replace C4:=eq_true C4;have n_:=Aside0.mk (Kd.R_mono (ok':=(fun k_=>some k_≠(v118:Value).ownBlock)) A2.out (fun k_ hk=>hk.2));clear A2;have A2:=n_;clear n_;have C8:=Aside0.mk (show Kd.R k29 29 w11 w.heap.size (fun _=>True) (.slice (some ⟨A1,0,none⟩) x3_1.length C5) x3_1 from (rM A2 (fun _ hk=>trivial)));obtain ⟨ce12,C0,C9,A3,A6⟩:=Kd.R_elem C8.out z29 (x4_1:Int) (dT) (by have h_:(x4_1:Int) < ((x3_1.length:Int):Int):=dT;first | exact h_ | (have e_:=(Kd.R_reads' A2.out).1;omega) | simpa using h_);obtain ⟨ve12_3,rfl,ge12_3⟩:=k29_openM C9;have B8:=Kd.R_seg C8.out (x4_1:Int) (dT) (by have h_:(x4_1:Int) < ((x3_1.length:Int):Int):=dT;first | exact h_ | (have e_:=(Kd.R_reads' A2.out).1;omega) | simpa using h_) (seg:=[.int .i64 t114,.string t115,.int .i64 t116,v118]) (j:=0) C0 A3 (show 4≤4 from by decide) (x':=(⟨t114,t115,t116,t117⟩:S29)) (k29_mkM _ _ _ (⟨t114,t115,t116,t117⟩:S29) (Kd.R_mono (B4.out) (fun k_ hk=>⟨trivial,fun e_=>(hk.2) (by rw [e_];rfl)⟩))) (fun _ hk=>hk);have D0:=A3 0 _ rfl;(try simp only [show (k29).sz=4 from rfl,Nat.mul_one,Nat.add_zero] at D0);have D1:=A6 0;(try simp only [show (k29).sz=4 from rfl,Nat.mul_one,Nat.add_zero] at D1);have D2:=A3 1 _ rfl;(try simp only [show (k29).sz=4 from rfl,Nat.mul_one,Nat.add_zero] at D2);have D3:=A6 1;(try simp only [show (k29).sz=4 from rfl,Nat.mul_one,Nat.add_zero] at D3);have D4:=A3 2 _ rfl;(try simp only [show (k29).sz=4 from rfl,Nat.mul_one,Nat.add_zero] at D4);have D5:=A6 2;(try simp only [show (k29).sz=4 from rfl,Nat.mul_one,Nat.add_zero] at D5);have D6:=A3 3 _ rfl;(try simp only [show (k29).sz=4 from rfl,Nat.mul_one,Nat.add_zero] at D6);have D7:=A6 3;(try simp only [show (k29).sz=4 from rfl,Nat.mul_one,Nat.add_zero] at D7);clear C0 A3 A6 C9) | ((with_reducible refine gate_store (t:=29) (p:=21) rfl ?_);refine store_event (t:=29) (p:=21) (v:=?vo_w13) (w1:=((((w11.setCell ⟨A1,(x4_1:Int).toNat * 4,none⟩ (.int .i64 t114)).setCell ⟨A1,(x4_1:Int).toNat * 4 + 1,none⟩ (.string t115)).setCell ⟨A1,(x4_1:Int).toNat * 4 + 2,none⟩ (.int .i64 t116)).setCell ⟨A1,(x4_1:Int).toNat * 4 + 3,none⟩ (v118))) ?hg ?ho ?hn ?hr ?_;(case ho=>rfl);(case hg=>rfl);(case hn=>rfl);(case hr=>first | (go_simp;done) | (go_simp;rfl) | (obtain ⟨a0_,c0_,e0_⟩:=Kd.R_slice B4.out;rw [e0_];first | (go_simp;done) | (go_simp;rfl)));intro w13 hw;have hg:w11.grownBy w13 (some A1):=(by rw [hw];exact B8.2);have hp_:Kd.R k29 29 w13 w.heap.size (fun _=>True) (.slice (some ⟨A1,0,none⟩) x3_1.length C5) y120:=(by rw [hw,D9.out];exact B8.1);clear B8;replace A2:=Aside0.mk (hp_);replace HB:=Aside0.mk ((by rw [hw];exact below_set (below_set (below_set (below_set (HB.out) B5.out) B5.out) B5.out) B5.out:Below w.heap.size w w13));clear B4;clear hg hw hp_))
  go_roundg k1
  case measure=>have:=HK1.out;omega
  case rel=>exact ⟨(y120),(wrap64 (x4_1 + 1)),(by first | rfl | (simp;done) | (simp [*];done)),H',⟨by have:=HK1.out;omega⟩,⟨rV A2⟩,⟨hV HB⟩⟩
theorem laws_toTerm.group.calls (k:Nat):laws_toTerm.Said k∧laws_toTermS.Said k:=by
 induction k using Nat.strongRecOn with
 | _ k ih=>
 exact ⟨laws_toTerm.calls_ k (fun m hm=>(ih m hm).1) (fun m hm=>(ih m hm).2),laws_toTermS.calls_ k (fun m hm=>(ih m hm).1) (fun m hm=>(ih m hm).2)⟩
theorem laws_toTerm.calls (k:Nat):∀ (a0_0:Int) (a0_1:ByteArray) (a0_2:Int) (A0_3:Option Addr) (c0_3:Nat) (l0_3:List (S24)) (r1:Int) (r2:ByteArray) (r3:Int) (r4:List (S29)) (w:World) (hr0_3:Kd.C k24 w A0_3 l0_3.length l0_3) (hc0_3:l0_3.length≤c0_3) (_:laws_toTerm.f k a0_0 a0_1 a0_2 l0_3=some (r1,r2,r3,r4)),
  Calls Try.prog 13 #[.agg #[.int .i64 a0_0,.string a0_1,.int .i64 a0_2,.slice A0_3 l0_3.length c0_3]] w fun e w'=> ∃ v3_:Value,e=.returned (.agg #[.int .i64 r1,.string r2,.int .i64 r3,v3_])∧Kd.R k29 29 w' w.heap.size (fun _=>True) v3_ r4∧Below w.heap.size w w':=(laws_toTerm.group.calls k).1
/-! ### cmp_Or_int: function 40 -/
theorem cmp_Or_int.a0 {P_:Prop} (h_:P_:=by repeat (first | exact Drawn0.refl _ | apply Drawn0.step)):P_:=h_
def cmp_Or_int.l0:Nat→Int→List Int→Int→Int→Option (Int)
 | 0,_,_,_,_=>none
 | k + 1,x3,x6,x7,x8=>if x8 < x7 then (if 0≤x8 then (if x8 < (x6.length:Int) then (if (rd x6 x8)=x3 then (cmp_Or_int.l0 k x3 x6 x7 (wrap64 (x8 + 1))) else (some (rd x6 x8))) else (none)) else (none)) else (some x3)
def cmp_Or_int.f (k:Nat) (l0:List Int):Option (Int):=cmp_Or_int.l0 k 0 l0 (l0.length:Int) 0
theorem cmp_Or_int.mono_l:∀ k,(∀ y0 y1 y2 y3,LeO (cmp_Or_int.l0 k y0 y1 y2 y3) (cmp_Or_int.l0 (k + 1) y0 y1 y2 y3))
 | 0=>fun _ _ _ _ r h=>by simp [cmp_Or_int.l0] at h
 | k + 1=>by
  have ih0:=cmp_Or_int.mono_l k
  ·intro y0 y1 y2 y3
   unfold cmp_Or_int.l0
   repeat' first
   | (with_reducible exact ih0 _ _ _ _)
   | (with_reducible exact LeO.refl _)
   | (with_reducible exact LeO.none _)
   | (with_reducible refine LeO.ite ?_ ?_)
   | (with_reducible refine LeO.bind ?_ (fun _=> ?_))
   | exact ih0 _ _ _ _
   | exact LeO.none _
   | refine LeO.ite ?_ ?_
   | refine LeO.bind ?_ (fun _=> ?_)
theorem cmp_Or_int.mono:∀ a0 k,LeO (cmp_Or_int.f k a0) (cmp_Or_int.f (k + 1) a0):=by
 intro a0 k
 have ih0:=cmp_Or_int.mono_l k
 unfold cmp_Or_int.f
 repeat' first
   | (with_reducible exact ih0 _ _ _ _)
   | (with_reducible exact LeO.refl _)
   | (with_reducible exact LeO.none _)
   | (with_reducible refine LeO.ite ?_ ?_)
   | (with_reducible refine LeO.bind ?_ (fun _=> ?_))
   | exact ih0 _ _ _ _
   | exact LeO.none _
   | refine LeO.ite ?_ ?_
   | refine LeO.bind ?_ (fun _=> ?_)
set_option maxHeartbeats 8000000 in
set_option maxRecDepth 100000 in
theorem cmp_Or_int.calls (k:Nat) (A0:Option Addr) (c0:Nat) (l0:List Int) (r:Int) (w:World) (hr0:Kd.C (Kd.int .i64) w A0 l0.length l0) (hc0:l0.length≤c0) (h:cmp_Or_int.f k l0=some r) :
  Calls Try.prog 40 #[.slice A0 l0.length c0] w fun e w'=>e=.returned (.int .i64 r)∧Drawn0 w w':=by
 have A5:=Aside0.mk hr0
 have B1:=Aside0.mk hc0
 clear hr0 hc0
 have H:(cmp_Or_int.l0 k 0 l0 (l0.length:Int) 0)=some r:=h
 clear h
 have H':=Aside0.mk H
 clear H
 go_enter Try.func40,Try.ntmps40
 go_wp2
 go_loopg [8] k (fun kq v8 w'=> ∃ (x8_1:Int),v8=.int .i64 x8_1∧Aside0 (cmp_Or_int.l0 kq 0 l0 (l0.length:Int) x8_1=some r)∧Aside0 (kq≤k)∧Drawn0 w w')
 case atStart=>exact ⟨(0),(by first | rfl | (simp;done) | (simp [*];done)),H',⟨Nat.le_refl _⟩,cmp_Or_int.a0⟩
 clear H'
 obtain ⟨x8_1,rfl,HA,HK1,⟨m1,rfl⟩⟩:=hrel
 cases gk with
 | zero=>exact absurd HA.out (by simp [cmp_Or_int.l0])
 | succ k1=>
  have H:=HA.out
  clear HA
  simp only [cmp_Or_int.l0] at H
  by_cases c2:x8_1 < (l0.length:Int)
  rotate_left
  ·rw [if_neg c2] at H
   have A6:=decide_eq_false c2
   clear c2
   obtain rfl:=Option.some.inj H
   go_wp2
   go_ret
   exact ⟨by first | rfl | (simp;done) | (simp [*];done),cmp_Or_int.a0⟩

  rw [if_pos c2] at H
  have A6:=decide_eq_true c2
  clear c2
  by_cases c3:0≤x8_1
  rotate_left
  ·rw [if_neg c3] at H
   exact absurd H (by simp)
  rw [if_pos c3] at H
  have A9:=decide_eq_true c3
  clear c3
  by_cases c4:x8_1 < (l0.length:Int)
  rotate_left
  ·rw [if_neg c4] at H
   exact absurd H (by simp)
  rw [if_pos c4] at H
  have B0:=decide_eq_true c4
  clear c4
  by_cases c5:(rd l0 x8_1)=0
  ·rw [if_pos c5] at H
   have A7:((rd l0 x8_1) == 0)=true:=beq_iff_eq.mpr c5
   have A8:((rd l0 x8_1) != 0)=false:=bne_eq_false_iff_eq.mpr c5
   clear c5
   have H':=Aside0.mk H
   clear H
   have A1:0≤(x8_1:Int):=dT
   have A2:x8_1 < (l0.length:Int):=dT
   obtain ⟨A4,e127,A3⟩:=Kd.at_int A5.out x8_1 A1 A2
   cases e127
   replace A1:=eq_true A1
   replace A2:=eq_true A2
   go_wp2
   go_roundg k1
   case measure=>have:=HK1.out;omega
   case rel=>exact ⟨(wrap64 (x8_1 + 1)),(by first | rfl | (simp;done) | (simp [*];done)),H',⟨by have:=HK1.out;omega⟩,cmp_Or_int.a0⟩
  ·rw [if_neg c5] at H
   have A7:((rd l0 x8_1) == 0)=false:=beq_eq_false_iff_ne.mpr c5
   have A8:((rd l0 x8_1) != 0)=true:=bne_iff_ne.mpr c5
   obtain rfl:=Option.some.inj H
   have A1:0≤(x8_1:Int):=dT
   have A2:x8_1 < (l0.length:Int):=dT
   obtain ⟨A4,e127,A3⟩:=Kd.at_int A5.out x8_1 A1 A2
   cases e127
   replace A1:=eq_true A1
   replace A2:=eq_true A2
   go_wp2
   go_ret
   exact ⟨by first | rfl | (simp;done) | (simp [*];done),cmp_Or_int.a0⟩
/-! ### cmp_isNaN_int: function 63 -/
def cmp_isNaN_int.f (a0:Int):Option (Bool):=some (a0 != a0)
set_option maxHeartbeats 8000000 in
set_option maxRecDepth 100000 in
theorem cmp_isNaN_int.calls (a0:Int) (r:Bool) (w:World) (h:cmp_isNaN_int.f a0=some r) :
    Calls Try.prog 63 #[.int .i64 a0] w fun e w'=>e=.returned (.bool r)∧Drawn0 w w':=by
  have H:(some (a0 != a0))=some r:=h
  clear h
  obtain rfl:=Option.some.inj H
  go_enter Try.func63,Try.ntmps63
  go_wp2
  go_ret
  exact ⟨by first | rfl | (simp;done) | (simp [*];done),by repeat (first | exact Drawn0.refl _ | apply Drawn0.step)⟩

/-! ### cmp_Compare_int: function 41 -/
theorem cmp_Compare_int.a0 {P_:Prop} (h_:P_:=by repeat (first | exact Drawn0.refl _ | apply Drawn0.step)):P_:=h_
theorem cmp_Compare_int.a1 {P_:Prop} (h_:P_:=by first | rfl | (simp;done) | (simp [*];done)):P_:=h_
def cmp_Compare_int.f (a0:Int) (a1:Int):Option (Int):=(cmp_isNaN_int.f a0).bind fun t128=>((cmp_isNaN_int.f a1).bind fun t129=>(if t128=true then (if t129=true then (some 0) else (some (-1))) else (if t129=true then (some 1) else (if a0 < a1 then (some (-1)) else (if a0 > a1 then (some 1) else (some 0))))))
set_option maxHeartbeats 8000000 in
set_option maxRecDepth 100000 in
theorem cmp_Compare_int.calls (a0:Int) (a1:Int) (r:Int) (w:World) (h:cmp_Compare_int.f a0 a1=some r) :
  Calls Try.prog 41 #[.int .i64 a0,.int .i64 a1] w fun e w'=>e=.returned (.int .i64 r)∧Drawn0 w w':=by
 have H:((cmp_isNaN_int.f a0).bind fun t128=>((cmp_isNaN_int.f a1).bind fun t129=>(if t128=true then (if t129=true then (some 0) else (some (-1))) else (if t129=true then (some 1) else (if a0 < a1 then (some (-1)) else (if a0 > a1 then (some 1) else (some 0)))))))=some r:=h
 clear h
 replace H:=Option.bind_eq_some_iff.mp H
 obtain ⟨t128,A30,H⟩:=H
 replace H:((cmp_isNaN_int.f a1).bind fun t129=>(if t128=true then (if t129=true then (some 0) else (some (-1))) else (if t129=true then (some 1) else (if a0 < a1 then (some (-1)) else (if a0 > a1 then (some 1) else (some 0))))))=some r:=H
 have A3:=Aside0.mk A30
 clear A30
 replace H:=Option.bind_eq_some_iff.mp H
 obtain ⟨t129,A40,H⟩:=H
 replace H:(if t128=true then (if t129=true then (some 0) else (some (-1))) else (if t129=true then (some 1) else (if a0 < a1 then (some (-1)) else (if a0 > a1 then (some 1) else (some 0)))))=some r:=H
 have A4:=Aside0.mk A40
 clear A40
 by_cases c5:t128=true
 ·subst c5
  rw [if_pos rfl] at H
  by_cases c6:t129=true
  ·subst c6
   rw [if_pos rfl] at H
   obtain rfl:=Option.some.inj H
   go_enter Try.func41,Try.ntmps41
   go_wp2_with (first | (refine goK 63 (some 8) rfl Try.func63 #[.int .i64 a0] ?_;(with_reducible refine (cmp_isNaN_int.calls a0 true _ A3.out).mono ?_);rintro e w' ⟨rfl,⟨nd,rfl⟩⟩;refine ⟨_,rfl,?_⟩) | (refine goK 63 (some 10) rfl Try.func63 #[.int .i64 a1] ?_;(with_reducible refine (cmp_isNaN_int.calls a1 true _ A4.out).mono ?_);rintro e w' ⟨rfl,⟨nd,rfl⟩⟩;refine ⟨_,rfl,?_⟩))
   go_ret
   exact ⟨cmp_Compare_int.a1,cmp_Compare_int.a0⟩
  replace c6:=Bool.eq_false_iff.mpr c6
  subst c6
  rw [if_neg (show ¬ (false=true) by decide)] at H
  obtain rfl:=Option.some.inj H
  go_enter Try.func41,Try.ntmps41
  go_wp2_with (first | (refine goK 63 (some 8) rfl Try.func63 #[.int .i64 a0] ?_;(with_reducible refine (cmp_isNaN_int.calls a0 true _ A3.out).mono ?_);rintro e w' ⟨rfl,⟨nd,rfl⟩⟩;refine ⟨_,rfl,?_⟩) | (refine goK 63 (some 10) rfl Try.func63 #[.int .i64 a1] ?_;(with_reducible refine (cmp_isNaN_int.calls a1 false _ A4.out).mono ?_);rintro e w' ⟨rfl,⟨nd,rfl⟩⟩;refine ⟨_,rfl,?_⟩))
  go_ret
  exact ⟨cmp_Compare_int.a1,cmp_Compare_int.a0⟩
 ·replace c5:=Bool.eq_false_iff.mpr c5
  subst c5
  rw [if_neg (show ¬ (false=true) by decide)] at H
  by_cases c7:t129=true
  ·subst c7
   rw [if_pos rfl] at H
   obtain rfl:=Option.some.inj H
   go_enter Try.func41,Try.ntmps41
   go_wp2_with (first | (refine goK 63 (some 8) rfl Try.func63 #[.int .i64 a0] ?_;(with_reducible refine (cmp_isNaN_int.calls a0 false _ A3.out).mono ?_);rintro e w' ⟨rfl,⟨nd,rfl⟩⟩;refine ⟨_,rfl,?_⟩) | (refine goK 63 (some 10) rfl Try.func63 #[.int .i64 a1] ?_;(with_reducible refine (cmp_isNaN_int.calls a1 true _ A4.out).mono ?_);rintro e w' ⟨rfl,⟨nd,rfl⟩⟩;refine ⟨_,rfl,?_⟩))
   go_ret
   exact ⟨cmp_Compare_int.a1,cmp_Compare_int.a0⟩
  replace c7:=Bool.eq_false_iff.mpr c7
  subst c7
  rw [if_neg (show ¬ (false=true) by decide)] at H
  by_cases c8:a0 < a1
  ·rw [if_pos c8] at H
   have A0:=decide_eq_true c8
   clear c8
   obtain rfl:=Option.some.inj H
   go_enter Try.func41,Try.ntmps41
   go_wp2_with (first | (refine goK 63 (some 8) rfl Try.func63 #[.int .i64 a0] ?_;(with_reducible refine (cmp_isNaN_int.calls a0 false _ A3.out).mono ?_);rintro e w' ⟨rfl,⟨nd,rfl⟩⟩;refine ⟨_,rfl,?_⟩) | (refine goK 63 (some 10) rfl Try.func63 #[.int .i64 a1] ?_;(with_reducible refine (cmp_isNaN_int.calls a1 false _ A4.out).mono ?_);rintro e w' ⟨rfl,⟨nd,rfl⟩⟩;refine ⟨_,rfl,?_⟩))
   go_ret
   exact ⟨cmp_Compare_int.a1,cmp_Compare_int.a0⟩
  rw [if_neg c8] at H
  have A0:=decide_eq_false c8
  clear c8
  by_cases c9:a0 > a1
  ·rw [if_pos c9] at H
   have A1:=decide_eq_true c9
   clear c9
   obtain rfl:=Option.some.inj H
   go_enter Try.func41,Try.ntmps41
   go_wp2_with (first | (refine goK 63 (some 8) rfl Try.func63 #[.int .i64 a0] ?_;(with_reducible refine (cmp_isNaN_int.calls a0 false _ A3.out).mono ?_);rintro e w' ⟨rfl,⟨nd,rfl⟩⟩;refine ⟨_,rfl,?_⟩) | (refine goK 63 (some 10) rfl Try.func63 #[.int .i64 a1] ?_;(with_reducible refine (cmp_isNaN_int.calls a1 false _ A4.out).mono ?_);rintro e w' ⟨rfl,⟨nd,rfl⟩⟩;refine ⟨_,rfl,?_⟩))
   go_ret
   exact ⟨cmp_Compare_int.a1,cmp_Compare_int.a0⟩
  rw [if_neg c9] at H
  have A1:=decide_eq_false c9
  clear c9
  obtain rfl:=Option.some.inj H
  go_enter Try.func41,Try.ntmps41
  go_wp2_with (first | (refine goK 63 (some 8) rfl Try.func63 #[.int .i64 a0] ?_;(with_reducible refine (cmp_isNaN_int.calls a0 false _ A3.out).mono ?_);rintro e w' ⟨rfl,⟨nd,rfl⟩⟩;refine ⟨_,rfl,?_⟩) | (refine goK 63 (some 10) rfl Try.func63 #[.int .i64 a1] ?_;(with_reducible refine (cmp_isNaN_int.calls a1 false _ A4.out).mono ?_);rintro e w' ⟨rfl,⟨nd,rfl⟩⟩;refine ⟨_,rfl,?_⟩))
  go_ret
  exact ⟨cmp_Compare_int.a1,cmp_Compare_int.a0⟩

end Go.Proofs.Ytcofpnddfmlafaa.Q

