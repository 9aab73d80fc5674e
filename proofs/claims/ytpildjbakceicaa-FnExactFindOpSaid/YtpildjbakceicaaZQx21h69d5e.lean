/- Functions of the program as plain Lean functions,and that the calls come to what they say. -/
import Derived.Test.YtpildjbakceicaaZQx0hb61c0
import Derived.Test.YtpildjbakceicaaZQx1h27402
import Derived.Test.YtpildjbakceicaaZQx3hfb23e
import Derived.Test.YtpildjbakceicaaZQx9h5fb00
import Derived.Test.YtpildjbakceicaaZQx18h97522
import Derived.Test.YtpildjbakceicaaZQx20hde1a9
import Derived.Test.YtpildjbakceicaaZShorth7b252
namespace Go.Proofs.Ytpildjbakceicaa.Q
open Go.RowKit Go.Proofs.YtpildjbakceicaaW.PrintWords Go.Proofs.YtpildjbakceicaaW.PrintLast Go.Proofs.YtpildjbakceicaaW.PrintMore
attribute [local go_sem] max2_int min2_int max_two min_two max_three min_three max_four min_four   -- for this text's walks alone
set_option linter.unusedVariables false
set_option linter.unusedSimpArgs false

/-! ### laws_FnExactFindOp: function 6 -/
theorem laws_FnExactFindOp.a0 {P_:Prop} (h_:P_:=by (try simp only [List.map_toArray,List.map_cons,List.map_nil]);first | done | rfl | (simp only [List.length_drop,List.length_take];rfl)):P_:=h_
theorem laws_FnExactFindOp.a1 {P_:Prop} (h_:P_:=by first | rfl | (simp [errW_none,errW_some] <;> rfl) | (simp [*,errW_none,errW_some] <;> rfl)):P_:=h_
theorem laws_FnExactFindOp.a2 {P_:Prop} (h_:P_:=by rintro w' ⟨s0,s1,s2,s3,s4,s5⟩;go_simp;with_reducible rfl):P_:=h_
def laws_FnExactFindOp.f (k:Nat) (l0_0:List ByteArray) (l0_1:List (S107)) (l0_2:List (S86)) (a1:ByteArray):Option (Bool):=if (a1.size:Int) > 1048576 then (some true) else ((laws_szSignature.f k l0_0 l0_1 l0_2 1048576).bind fun t558=>(if t558 < 0 then (some true) else ((laws_toSignature.f k l0_0 l0_1 l0_2).bind fun bt559=>((spec_FindOp.f k bt559.1 bt559.2.1 bt559.2.2 a1).bind fun t568=>((laws_toSignature.f k l0_0 l0_1 l0_2).bind fun bt569=>((impl_FindOp.f k bt569.1 bt569.2.1 bt569.2.2 a1).bind fun t579=>(if t579=t568 then ((laws_toSignature.f k l0_0 l0_1 l0_2).bind fun bt580=>((laws_eqSignature.f k bt569.1 bt569.2.1 bt569.2.2 bt580.1 bt580.2.1 bt580.2.2).bind fun t589=>(if t589=true then (some true) else (some false)))) else (some false))))))))
set_option maxHeartbeats 8000000 in
set_option maxRecDepth 100000 in
theorem laws_FnExactFindOp.calls (k:Nat) (A0_0:Option Addr) (c0_0:Nat) (l0_0:List ByteArray) (A0_1:Option Addr) (c0_1:Nat) (l0_1:List (S107)) (A0_2:Option Addr) (c0_2:Nat) (l0_2:List (S86)) (a1:ByteArray) (r:Bool) (w:World) (hr0_0:Kd.C Kd.string w A0_0 l0_0.length l0_0) (hc0_0:l0_0.length≤c0_0) (hr0_1:Kd.C k107 w A0_1 l0_1.length l0_1) (hc0_1:l0_1.length≤c0_1) (hr0_2:Kd.C k86 w A0_2 l0_2.length l0_2) (hc0_2:l0_2.length≤c0_2) (h:laws_FnExactFindOp.f k l0_0 l0_1 l0_2 a1=some r) :
  Calls Try.prog 6 #[.agg #[.slice A0_0 l0_0.length c0_0,.slice A0_1 l0_1.length c0_1,.slice A0_2 l0_2.length c0_2],.string a1] w fun e w'=>e=.returned (.bool r)∧Below w.heap.size w w':=by
 have hu28:=Try.underlying28
 have hu36:=Try.underlying36
 have A9:=Aside0.mk hr0_0
 have B0:=Aside0.mk hc0_0
 clear hr0_0 hc0_0
 have B1:=Aside0.mk hr0_1
 have B2:=Aside0.mk hc0_1
 clear hr0_1 hc0_1
 have B3:=Aside0.mk hr0_2
 have B4:=Aside0.mk hc0_2
 clear hr0_2 hc0_2
 have HB:=Aside0.mk (Below.refl w.heap.size w)
 have H:(if (a1.size:Int) > 1048576 then (some true) else ((laws_szSignature.f k l0_0 l0_1 l0_2 1048576).bind fun t558=>(if t558 < 0 then (some true) else ((laws_toSignature.f k l0_0 l0_1 l0_2).bind fun bt559=>((spec_FindOp.f k bt559.1 bt559.2.1 bt559.2.2 a1).bind fun t568=>((laws_toSignature.f k l0_0 l0_1 l0_2).bind fun bt569=>((impl_FindOp.f k bt569.1 bt569.2.1 bt569.2.2 a1).bind fun t579=>(if t579=t568 then ((laws_toSignature.f k l0_0 l0_1 l0_2).bind fun bt580=>((laws_eqSignature.f k bt569.1 bt569.2.1 bt569.2.2 bt580.1 bt580.2.1 bt580.2.2).bind fun t589=>(if t589=true then (some true) else (some false)))) else (some false)))))))))=some r:=h
 clear h
 by_cases c3:(a1.size:Int) > 1048576
 ·rw [if_pos c3] at H
  have G4:=decide_eq_true c3
  have G5:decide (1048576 < a1.size)=true:=decide_eq_true (by omega)
  clear c3
  obtain rfl:=Option.some.inj H
  go_enter Try.func6,Try.ntmps6
  go_wp2_with (first | (refine bx 2 rfl #[.slice A0_0 l0_0.length c0_0,.slice A0_1 l0_1.length c0_1,.slice A0_2 l0_2.length c0_2] 28 ?_;intro B8 hg w4 hbox hb;have A0:=Aside0.mk (hbox);have C2:=hZ HB hg;have C3:=hZ HB hg;replace HB:=hS HB hb;clear hb hbox hg))
  go_ret
  exact ⟨laws_FnExactFindOp.a1,hV HB⟩
 rw [if_neg c3] at H
 have G4:=decide_eq_false c3
 have G5:decide (1048576 < a1.size)=false:=decide_eq_false (by omega)
 clear c3
 replace H:=Option.bind_eq_some_iff.mp H
 obtain ⟨t558,A50,H⟩:=H
 replace H:(if t558 < 0 then (some true) else ((laws_toSignature.f k l0_0 l0_1 l0_2).bind fun bt559=>((spec_FindOp.f k bt559.1 bt559.2.1 bt559.2.2 a1).bind fun t568=>((laws_toSignature.f k l0_0 l0_1 l0_2).bind fun bt569=>((impl_FindOp.f k bt569.1 bt569.2.1 bt569.2.2 a1).bind fun t579=>(if t579=t568 then ((laws_toSignature.f k l0_0 l0_1 l0_2).bind fun bt580=>((laws_eqSignature.f k bt569.1 bt569.2.1 bt569.2.2 bt580.1 bt580.2.1 bt580.2.2).bind fun t589=>(if t589=true then (some true) else (some false)))) else (some false)))))))=some r:=H
 have A5:=Aside0.mk A50
 clear A50
 by_cases c6:t558 < 0
 ·rw [if_pos c6] at H
  have G6:=decide_eq_true c6
  clear c6
  obtain rfl:=Option.some.inj H
  go_enter Try.func6,Try.ntmps6
  go_wp2_with (first | (refine bx 2 rfl #[.slice A0_0 l0_0.length c0_0,.slice A0_1 l0_1.length c0_1,.slice A0_2 l0_2.length c0_2] 28 ?_;intro B8 hg w7 hbox hb;have A0:=Aside0.mk (hbox);have C2:=hZ HB hg;have C3:=hZ HB hg;replace HB:=hS HB hb;clear hb hbox hg;obtain ⟨P1,P2,P3,P4,P5,P6⟩:=cf3 A0) | (refine goK 8 (some 14) rfl Try.func8 #[.agg #[.slice A0_0 l0_0.length c0_0,.slice A0_1 l0_1.length c0_1,.slice A0_2 l0_2.length c0_2],.int .i64 1048576] ?_;(with_reducible refine (laws_szSignature.calls k _ _ l0_0 _ _ l0_1 _ _ l0_2 1048576 t558 _ ?side1 ?side2 ?side3 ?side4 ?side5 ?side6 A5.out).mono ?_);(case side1=>exact cB A9 HB);(case side2=>exact B0.out);(case side3=>exact cB B1 HB);(case side4=>exact B2.out);(case side5=>exact cB B3 HB);(case side6=>exact B4.out);rintro e w9 ⟨rfl,hb⟩;refine ⟨_,rfl,?_⟩;replace A0:=bB A0 hb;replace HB:=hS HB hb;(try clear hb);(try clear hb2);(try clear hk);(try clear hi)))
  go_ret
  exact ⟨laws_FnExactFindOp.a1,hV HB⟩
 rw [if_neg c6] at H
 have G6:=decide_eq_false c6
 clear c6
 replace H:=Option.bind_eq_some_iff.mp H
 obtain ⟨⟨t559,t562,t565⟩,A100,H⟩:=H
 replace H:((spec_FindOp.f k t559 t562 t565 a1).bind fun t568=>((laws_toSignature.f k l0_0 l0_1 l0_2).bind fun bt569=>((impl_FindOp.f k bt569.1 bt569.2.1 bt569.2.2 a1).bind fun t579=>(if t579=t568 then ((laws_toSignature.f k l0_0 l0_1 l0_2).bind fun bt580=>((laws_eqSignature.f k bt569.1 bt569.2.1 bt569.2.2 bt580.1 bt580.2.1 bt580.2.2).bind fun t589=>(if t589=true then (some true) else (some false)))) else (some false)))))=some r:=H
 have A10:=Aside0.mk A100
 clear A100
 replace H:=Option.bind_eq_some_iff.mp H
 obtain ⟨t568,A110,H⟩:=H
 replace H:((laws_toSignature.f k l0_0 l0_1 l0_2).bind fun bt569=>((impl_FindOp.f k bt569.1 bt569.2.1 bt569.2.2 a1).bind fun t579=>(if t579=t568 then ((laws_toSignature.f k l0_0 l0_1 l0_2).bind fun bt580=>((laws_eqSignature.f k bt569.1 bt569.2.1 bt569.2.2 bt580.1 bt580.2.1 bt580.2.2).bind fun t589=>(if t589=true then (some true) else (some false)))) else (some false))))=some r:=H
 have A11:=Aside0.mk A110
 clear A110
 replace H:=Option.bind_eq_some_iff.mp H
 obtain ⟨⟨t569,t572,t575⟩,A120,H⟩:=H
 replace H:((impl_FindOp.f k t569 t572 t575 a1).bind fun t579=>(if t579=t568 then ((laws_toSignature.f k l0_0 l0_1 l0_2).bind fun bt580=>((laws_eqSignature.f k t569 t572 t575 bt580.1 bt580.2.1 bt580.2.2).bind fun t589=>(if t589=true then (some true) else (some false)))) else (some false)))=some r:=H
 have A12:=Aside0.mk A120
 clear A120
 replace H:=Option.bind_eq_some_iff.mp H
 obtain ⟨t579,A130,H⟩:=H
 replace H:(if t579=t568 then ((laws_toSignature.f k l0_0 l0_1 l0_2).bind fun bt580=>((laws_eqSignature.f k t569 t572 t575 bt580.1 bt580.2.1 bt580.2.2).bind fun t589=>(if t589=true then (some true) else (some false)))) else (some false))=some r:=H
 have A13:=Aside0.mk A130
 clear A130
 by_cases c14:t579=t568
 rotate_left
 ·rw [if_neg c14] at H
  have G2:(t579 == t568)=false:=beq_eq_false_iff_ne.mpr c14
  have G3:(t579 != t568)=true:=bne_iff_ne.mpr c14
  obtain rfl:=Option.some.inj H
  go_enter Try.func6,Try.ntmps6
  go_wp2_with (first | (refine bx 2 rfl #[.slice A0_0 l0_0.length c0_0,.slice A0_1 l0_1.length c0_1,.slice A0_2 l0_2.length c0_2] 28 ?_;intro B8 hg w66 hbox hb;have A0:=Aside0.mk (hbox);have C2:=hZ HB hg;have C3:=hZ HB hg;replace HB:=hS HB hb;clear hb hbox hg;obtain ⟨H9,I0,I1,I2,I3,I4⟩:=cf3 A0) | (refine goK 8 (some 14) rfl Try.func8 #[.agg #[.slice A0_0 l0_0.length c0_0,.slice A0_1 l0_1.length c0_1,.slice A0_2 l0_2.length c0_2],.int .i64 1048576] ?_;(with_reducible refine (laws_szSignature.calls k _ _ l0_0 _ _ l0_1 _ _ l0_2 1048576 t558 _ ?side1 ?side2 ?side3 ?side4 ?side5 ?side6 A5.out).mono ?_);(case side1=>exact cB A9 HB);(case side2=>exact B0.out);(case side3=>exact cB B1 HB);(case side4=>exact B2.out);(case side5=>exact cB B3 HB);(case side6=>exact B4.out);rintro e w68 ⟨rfl,hb⟩;refine ⟨_,rfl,?_⟩;replace A0:=bB A0 hb;replace HB:=hS HB hb;(try clear hb);(try clear hb2);(try clear hk);(try clear hi);obtain ⟨I5,I6,I7,I8,I9,J0⟩:=cf3 A0) | (refine goK 10 (some 18) rfl Try.func10 #[.agg #[.slice A0_0 l0_0.length c0_0,.slice A0_1 l0_1.length c0_1,.slice A0_2 l0_2.length c0_2]] ?_;(with_reducible refine (laws_toSignature.calls k _ _ l0_0 _ _ l0_1 _ _ l0_2 t559 t562 t565 _ ?side1 ?side2 ?side3 ?side4 ?side5 ?side6 A10.out).mono ?_);(case side1=>exact cB A9 HB);(case side2=>exact B0.out);(case side3=>exact cB B1 HB);(case side4=>exact B2.out);(case side5=>exact cB B3 HB);(case side6=>exact B4.out);rintro e w70 ⟨v560,v563,v566,rfl,ho0,ho1,ho2,hb⟩;refine ⟨_,rfl,?_⟩;have A2:=rL ho0 HB;have A3:=rL ho1 HB;have A4:=rL ho2 HB;replace A0:=bB A0 hb;replace HB:=hS HB hb;(try clear hb);(try clear hb2);(try clear hk);(try clear hi);(try clear ho0);(try clear ho1);(try clear ho2);obtain ⟨E1,E2,eo71⟩:=Kd.R_slice A2.out;subst eo71;obtain ⟨E3,E4,eo72⟩:=Kd.R_slice A3.out;subst eo72;obtain ⟨E5,E6,eo73⟩:=Kd.R_slice A4.out;subst eo73) | (refine goK 17 (some 20) rfl Try.func17 #[.agg #[.slice E1 t559.length E2,.slice E3 t562.length E4,.slice E5 t565.length E6],.string a1] ?_;(with_reducible refine (spec_FindOp.calls k _ _ t559 _ _ t562 _ _ t565 a1 t568 _ ?side1 ?side2 ?side3 ?side4 ?side5 ?side6 A11.out).mono ?_);(case side1=>repeat (first | exact (Kd.R_reads' A2.out).2.2 | (with_reducible refine Kd.C_alloc ?_ _) | (with_reducible refine Kd.C_drewN ?_ _) | (with_reducible refine Kd.C_drew ?_)));(case side2=>exact (Kd.R_reads' A2.out).2.1);(case side3=>repeat (first | exact (Kd.R_reads' A3.out).2.2 | (with_reducible refine Kd.C_alloc ?_ _) | (with_reducible refine Kd.C_drewN ?_ _) | (with_reducible refine Kd.C_drew ?_)));(case side4=>exact (Kd.R_reads' A3.out).2.1);(case side5=>repeat (first | exact (Kd.R_reads' A4.out).2.2 | (with_reducible refine Kd.C_alloc ?_ _) | (with_reducible refine Kd.C_drewN ?_ _) | (with_reducible refine Kd.C_drew ?_)));(case side6=>exact (Kd.R_reads' A4.out).2.1);rintro e w74 ⟨rfl,hb⟩;refine ⟨_,rfl,?_⟩;replace A2:=rB A2 hb;replace A3:=rB A3 hb;replace A4:=rB A4 hb;replace A0:=bB A0 hb;replace HB:=hS HB hb;(try clear hb);(try clear hb2);(try clear hk);(try clear hi);obtain ⟨J1,J2,J3,J4,J5,J6⟩:=cf3 A0) | (refine goK 10 (some 22) rfl Try.func10 #[.agg #[.slice A0_0 l0_0.length c0_0,.slice A0_1 l0_1.length c0_1,.slice A0_2 l0_2.length c0_2]] ?_;(with_reducible refine (laws_toSignature.calls k _ _ l0_0 _ _ l0_1 _ _ l0_2 t569 t572 t575 _ ?side1 ?side2 ?side3 ?side4 ?side5 ?side6 A12.out).mono ?_);(case side1=>exact cB A9 HB);(case side2=>exact B0.out);(case side3=>exact cB B1 HB);(case side4=>exact B2.out);(case side5=>exact cB B3 HB);(case side6=>exact B4.out);rintro e w76 ⟨v570,v573,v576,rfl,ho0,ho1,ho2,hb⟩;refine ⟨_,rfl,?_⟩;have A6:=rL (rN ho0 A2) HB;replace A2:=rE A2 ho0 hb;have A7:=rL (rN ho1 A3) HB;replace A3:=rE A3 ho1 hb;have A8:=rL (rN ho2 A4) HB;replace A4:=rE A4 ho2 hb;replace A0:=bB A0 hb;replace HB:=hS HB hb;(try clear hb);(try clear hb2);(try clear hk);(try clear hi);(try clear ho0);(try clear ho1);(try clear ho2)) | (refine bx 7 rfl #[.slice none 0 0,.slice none 0 0,.slice none 0 0] 36 ?_;intro C1 hg w77 hbox hb;replace A2:=rB A2 hb;replace A3:=rB A3 hb;replace A4:=rB A4 hb;replace A6:=rB A6 hb;replace A7:=rB A7 hb;replace A8:=rB A8 hb;have A1:=Aside0.mk (hbox);have D9:=hZ HB hg;have E0:=hZ HB hg;replace HB:=hS HB hb;have B9:=nL A0 hg;have C0:=nG A0 hg;replace A0:=bB A0 hb;clear hb hbox hg;obtain ⟨E7,D6,eo78⟩:=Kd.R_slice A6.out;subst eo78;have P7:=C0.out;have P8:=B9.out;obtain ⟨J7,J8,J9,K0,K1,K2⟩:=cf3 A1;obtain ⟨E8,D7,eo81⟩:=Kd.R_slice A7.out;subst eo81;obtain ⟨E9,D8,eo82⟩:=Kd.R_slice A8.out;subst eo82) | (refine goK 18 (some 25) rfl Try.func18 #[.agg #[.slice E7 t569.length D6,.slice E8 t572.length D7,.slice E9 t575.length D8],.string a1] ?_;(with_reducible refine (impl_FindOp.calls k _ _ t569 _ _ t572 _ _ t575 a1 t579 _ ?side1 ?side2 ?side3 ?side4 ?side5 ?side6 A13.out).mono ?_);(case side1=>refine (Kd.R_reads' (e:=9) (base:=w.heap.size) (ok:=fun k_=>(True∧some k_≠(.slice E1 t559.length E2:Value).ownBlock)) (n:=t569.length) (c:=D6) ?_).2.2;exact (rT A6 A1 (fun _ h_=>h_.1)));(case side2=>exact (Kd.R_reads' A6.out).2.1);(case side3=>refine (Kd.R_reads' (e:=89) (base:=w.heap.size) (ok:=fun k_=>(True∧some k_≠(.slice E3 t562.length E4:Value).ownBlock)) (n:=t572.length) (c:=D7) ?_).2.2;exact (rT A7 A1 (fun _ h_=>h_.1)));(case side4=>exact (Kd.R_reads' A7.out).2.1);(case side5=>refine (Kd.R_reads' (e:=50) (base:=w.heap.size) (ok:=fun k_=>(True∧some k_≠(.slice E5 t565.length E6:Value).ownBlock)) (n:=t575.length) (c:=D8) ?_).2.2;exact (rT A8 A1 (fun _ h_=>h_.1)));(case side6=>exact (Kd.R_reads' A8.out).2.1);rintro e w83 ⟨rfl,hb⟩;refine ⟨_,rfl,?_⟩;replace A2:=rF A2 A1 hb;replace A3:=rF A3 A1 hb;replace A4:=rF A4 A1 hb;replace A6:=rF A6 A1 hb;replace A7:=rF A7 A1 hb;replace A8:=rF A8 A1 hb;replace A0:=bB A0 hb;replace A1:=bP (o:=.cells #[.slice E7 t569.length D6,.slice E8 t572.length D7,.slice E9 t575.length D8] 36 (0,0)) A1 hb;replace HB:=hS HB hb;(try clear hb);(try clear hb2);(try clear hk);(try clear hi)))
  go_ret
  exact ⟨laws_FnExactFindOp.a1,hV HB⟩

 rw [if_pos c14] at H
 have G2:(t579 == t568)=true:=beq_iff_eq.mpr c14
 have G3:(t579 != t568)=false:=bne_eq_false_iff_eq.mpr c14
 clear c14
 replace H:=Option.bind_eq_some_iff.mp H
 obtain ⟨⟨t580,t583,t586⟩,A150,H⟩:=H
 replace H:((laws_eqSignature.f k t569 t572 t575 t580 t583 t586).bind fun t589=>(if t589=true then (some true) else (some false)))=some r:=H
 have A15:=Aside0.mk A150
 clear A150
 replace H:=Option.bind_eq_some_iff.mp H
 obtain ⟨t589,A160,H⟩:=H
 replace H:(if t589=true then (some true) else (some false))=some r:=H
 have A16:=Aside0.mk A160
 clear A160
 by_cases c17:t589=true
 ·subst c17
  rw [if_pos rfl] at H
  obtain rfl:=Option.some.inj H
  go_enter Try.func6,Try.ntmps6
  try go_wp2_with (first | (refine bx 2 rfl #[.slice A0_0 l0_0.length c0_0,.slice A0_1 l0_1.length c0_1,.slice A0_2 l0_2.length c0_2] 28 ?_;intro B8 hg w18 hbox hb;have A0:=Aside0.mk (hbox);have C2:=hZ HB hg;have C3:=hZ HB hg;replace HB:=hS HB hb;clear hb hbox hg;obtain ⟨K3,K4,K5,K6,K7,K8⟩:=cf3 A0) | (refine goK 8 (some 14) rfl Try.func8 #[.agg #[.slice A0_0 l0_0.length c0_0,.slice A0_1 l0_1.length c0_1,.slice A0_2 l0_2.length c0_2],.int .i64 1048576] ?_;(with_reducible refine (laws_szSignature.calls k _ _ l0_0 _ _ l0_1 _ _ l0_2 1048576 t558 _ ?side1 ?side2 ?side3 ?side4 ?side5 ?side6 A5.out).mono ?_);(case side1=>exact cB A9 HB);(case side2=>exact B0.out);(case side3=>exact cB B1 HB);(case side4=>exact B2.out);(case side5=>exact cB B3 HB);(case side6=>exact B4.out);rintro e w20 ⟨rfl,hb⟩;refine ⟨_,rfl,?_⟩;replace A0:=bB A0 hb;replace HB:=hS HB hb;(try clear hb);(try clear hb2);(try clear hk);(try clear hi);obtain ⟨K9,L0,L1,L2,L3,L4⟩:=cf3 A0) | (refine goK 10 (some 18) rfl Try.func10 #[.agg #[.slice A0_0 l0_0.length c0_0,.slice A0_1 l0_1.length c0_1,.slice A0_2 l0_2.length c0_2]] ?_;(with_reducible refine (laws_toSignature.calls k _ _ l0_0 _ _ l0_1 _ _ l0_2 t559 t562 t565 _ ?side1 ?side2 ?side3 ?side4 ?side5 ?side6 A10.out).mono ?_);(case side1=>exact cB A9 HB);(case side2=>exact B0.out);(case side3=>exact cB B1 HB);(case side4=>exact B2.out);(case side5=>exact cB B3 HB);(case side6=>exact B4.out);rintro e w22 ⟨v560,v563,v566,rfl,ho0,ho1,ho2,hb⟩;refine ⟨_,rfl,?_⟩;have A2:=rL ho0 HB;have A3:=rL ho1 HB;have A4:=rL ho2 HB;replace A0:=bB A0 hb;replace HB:=hS HB hb;(try clear hb);(try clear hb2);(try clear hk);(try clear hi);(try clear ho0);(try clear ho1);(try clear ho2);obtain ⟨F0,F1,eo23⟩:=Kd.R_slice A2.out;subst eo23;obtain ⟨F2,F3,eo24⟩:=Kd.R_slice A3.out;subst eo24;obtain ⟨F4,F5,eo25⟩:=Kd.R_slice A4.out;subst eo25) | (refine goK 17 (some 20) rfl Try.func17 #[.agg #[.slice F0 t559.length F1,.slice F2 t562.length F3,.slice F4 t565.length F5],.string a1] ?_;(with_reducible refine (spec_FindOp.calls k _ _ t559 _ _ t562 _ _ t565 a1 t568 _ ?side1 ?side2 ?side3 ?side4 ?side5 ?side6 A11.out).mono ?_);(case side1=>repeat (first | exact (Kd.R_reads' A2.out).2.2 | (with_reducible refine Kd.C_alloc ?_ _) | (with_reducible refine Kd.C_drewN ?_ _) | (with_reducible refine Kd.C_drew ?_)));(case side2=>exact (Kd.R_reads' A2.out).2.1);(case side3=>repeat (first | exact (Kd.R_reads' A3.out).2.2 | (with_reducible refine Kd.C_alloc ?_ _) | (with_reducible refine Kd.C_drewN ?_ _) | (with_reducible refine Kd.C_drew ?_)));(case side4=>exact (Kd.R_reads' A3.out).2.1);(case side5=>repeat (first | exact (Kd.R_reads' A4.out).2.2 | (with_reducible refine Kd.C_alloc ?_ _) | (with_reducible refine Kd.C_drewN ?_ _) | (with_reducible refine Kd.C_drew ?_)));(case side6=>exact (Kd.R_reads' A4.out).2.1);rintro e w26 ⟨rfl,hb⟩;refine ⟨_,rfl,?_⟩;replace A2:=rB A2 hb;replace A3:=rB A3 hb;replace A4:=rB A4 hb;replace A0:=bB A0 hb;replace HB:=hS HB hb;(try clear hb);(try clear hb2);(try clear hk);(try clear hi);obtain ⟨L5,L6,L7,L8,L9,M0⟩:=cf3 A0) | (refine goK 10 (some 22) rfl Try.func10 #[.agg #[.slice A0_0 l0_0.length c0_0,.slice A0_1 l0_1.length c0_1,.slice A0_2 l0_2.length c0_2]] ?_;(with_reducible refine (laws_toSignature.calls k _ _ l0_0 _ _ l0_1 _ _ l0_2 t569 t572 t575 _ ?side1 ?side2 ?side3 ?side4 ?side5 ?side6 A12.out).mono ?_);(case side1=>exact cB A9 HB);(case side2=>exact B0.out);(case side3=>exact cB B1 HB);(case side4=>exact B2.out);(case side5=>exact cB B3 HB);(case side6=>exact B4.out);rintro e w28 ⟨v570,v573,v576,rfl,ho0,ho1,ho2,hb⟩;refine ⟨_,rfl,?_⟩;have A6:=rL (rN ho0 A2) HB;replace A2:=rE A2 ho0 hb;have A7:=rL (rN ho1 A3) HB;replace A3:=rE A3 ho1 hb;have A8:=rL (rN ho2 A4) HB;replace A4:=rE A4 ho2 hb;replace A0:=bB A0 hb;replace HB:=hS HB hb;(try clear hb);(try clear hb2);(try clear hk);(try clear hi);(try clear ho0);(try clear ho1);(try clear ho2)) | (refine bx 7 rfl #[.slice none 0 0,.slice none 0 0,.slice none 0 0] 36 ?_;intro C1 hg w29 hbox hb;replace A2:=rB A2 hb;replace A3:=rB A3 hb;replace A4:=rB A4 hb;replace A6:=rB A6 hb;replace A7:=rB A7 hb;replace A8:=rB A8 hb;have A1:=Aside0.mk (hbox);have D9:=hZ HB hg;have E0:=hZ HB hg;replace HB:=hS HB hb;have B9:=nL A0 hg;have C0:=nG A0 hg;replace A0:=bB A0 hb;clear hb hbox hg;obtain ⟨D0,C4,eo30⟩:=Kd.R_slice A6.out;subst eo30;have P9:=C0.out;have Q0:=B9.out;obtain ⟨M1,M2,M3,M4,M5,M6⟩:=cf3 A1;obtain ⟨D1,C5,eo33⟩:=Kd.R_slice A7.out;subst eo33;obtain ⟨D2,C6,eo34⟩:=Kd.R_slice A8.out;subst eo34) | (refine goK 18 (some 25) rfl Try.func18 #[.agg #[.slice D0 t569.length C4,.slice D1 t572.length C5,.slice D2 t575.length C6],.string a1] ?_;(with_reducible refine (impl_FindOp.calls k _ _ t569 _ _ t572 _ _ t575 a1 t579 _ ?side1 ?side2 ?side3 ?side4 ?side5 ?side6 A13.out).mono ?_);(case side1=>refine (Kd.R_reads' (e:=9) (base:=w.heap.size) (ok:=fun k_=>(True∧some k_≠(.slice F0 t559.length F1:Value).ownBlock)) (n:=t569.length) (c:=C4) ?_).2.2;exact (rT A6 A1 (fun _ h_=>h_.1)));(case side2=>exact (Kd.R_reads' A6.out).2.1);(case side3=>refine (Kd.R_reads' (e:=89) (base:=w.heap.size) (ok:=fun k_=>(True∧some k_≠(.slice F2 t562.length F3:Value).ownBlock)) (n:=t572.length) (c:=C5) ?_).2.2;exact (rT A7 A1 (fun _ h_=>h_.1)));(case side4=>exact (Kd.R_reads' A7.out).2.1);(case side5=>refine (Kd.R_reads' (e:=50) (base:=w.heap.size) (ok:=fun k_=>(True∧some k_≠(.slice F4 t565.length F5:Value).ownBlock)) (n:=t575.length) (c:=C6) ?_).2.2;exact (rT A8 A1 (fun _ h_=>h_.1)));(case side6=>exact (Kd.R_reads' A8.out).2.1);rintro e w35 ⟨rfl,hb⟩;refine ⟨_,rfl,?_⟩;replace A2:=rF A2 A1 hb;replace A3:=rF A3 A1 hb;replace A4:=rF A4 A1 hb;replace A6:=rF A6 A1 hb;replace A7:=rF A7 A1 hb;replace A8:=rF A8 A1 hb;replace A0:=bB A0 hb;replace A1:=bP (o:=.cells #[.slice D0 t569.length C4,.slice D1 t572.length C5,.slice D2 t575.length C6] 36 (0,0)) A1 hb;replace HB:=hS HB hb;(try clear hb);(try clear hb2);(try clear hk);(try clear hi)))
  replace A2:=Aside0.mk (Kd.R_drew A2.out)
  replace A3:=Aside0.mk (Kd.R_drew A3.out)
  replace A4:=Aside0.mk (Kd.R_drew A4.out)
  replace A6:=Aside0.mk (Kd.R_drew A6.out)
  replace A7:=Aside0.mk (Kd.R_drew A7.out)
  replace A8:=Aside0.mk (Kd.R_drew A8.out)
  replace A0:=Aside0.mk (blk_drew A0.out)
  replace A1:=Aside0.mk (blk_drew A1.out)
  replace HB:=Aside0.mk (below_drew1 HB.out)
  refine start_ (n:=5) (S:=fun w'=>w'.cell? ⟨C1,0,none⟩=some (.slice D0 t569.length C4)∧w'.cell? ⟨C1,1,none⟩=some (.slice D1 t572.length C5)∧w'.cell? ⟨C1,2,none⟩=some (.slice D2 t575.length C6)∧w'.cell? ⟨B8,0,none⟩=some (.slice A0_0 l0_0.length c0_0)∧w'.cell? ⟨B8,1,none⟩=some (.slice A0_1 l0_1.length c0_1)∧w'.cell? ⟨B8,2,none⟩=some (.slice A0_2 l0_2.length c0_2)) (ds:=[]) #[false,false,false,false,false] (by kernel_rfl) rfl rfl ⟨cz0 A1,cz1 A1,cz2 A1,cz0 A0,cz1 A0,cz2 A0⟩ (fun hHeld=> ?_)
  generalize w35.drew=w36 at A2 A3 A4 A6 A7 A8 A0 A1 HB hHeld ⊢
  refine takeK 0 29 rfl rfl hHeld ?_ laws_FnExactFindOp.a2
  refine takeK 1 30 rfl rfl hHeld ?_ laws_FnExactFindOp.a2
  refine one_ (i:=2) (N:=some 31) #[true,true,true,false,false] rfl rfl (by kernel_rfl) (by decide) (fun K hK=> ?_)
  refine goes_ Try.func10 (by kernel_rfl) rfl #[.agg #[.slice A0_0 l0_0.length c0_0,.slice A0_1 l0_1.length c0_1,.slice A0_2 l0_2.length c0_2]] (by rfl) rfl rfl laws_FnExactFindOp.a0 ?_
  with_reducible refine (laws_toSignature.calls k _ _ l0_0 _ _ l0_1 _ _ l0_2 t580 t583 t586 _ ?side1 ?side2 ?side3 ?side4 ?side5 ?side6 A15.out).mono ?_
  (case side1=>exact cB A9 HB)
  (case side2=>exact B0.out)
  (case side3=>exact cB B1 HB)
  (case side4=>exact B2.out)
  (case side5=>exact cB B3 HB)
  (case side6=>exact B4.out)
  rintro e w37 ⟨v581,v584,v587,rfl,ho0,ho1,ho2,hb⟩
  refine ⟨_,rfl,?_⟩
  have B5:=rL (rN (rN ho0 A2) A6) HB
  replace A2:=rE A2 ho0 hb
  replace A6:=rE A6 ho0 hb
  have B6:=rL (rN (rN ho1 A3) A7) HB
  replace A3:=rE A3 ho1 hb
  replace A7:=rE A7 ho1 hb
  have B7:=rL (rN (rN ho2 A4) A8) HB
  replace A4:=rE A4 ho2 hb
  replace A8:=rE A8 ho2 hb
  replace A0:=bB A0 hb
  replace A1:=bB A1 hb
  replace HB:=hS HB hb
  (try clear hb)
  (try clear hb2)
  (try clear hk)
  (try clear hi)
  (try clear ho0)
  (try clear ho1)
  (try clear ho2)
  obtain ⟨G7,G8,eo38⟩:=Kd.R_slice B5.out
  (first | subst eo38 | (injection eo38 with f1_ f2_ f3_;have f4_:=f1_.symm;have f5_:=f3_.symm;clear f1_ f2_ f3_;subst f4_;subst f5_))
  obtain ⟨G9,H0,eo39⟩:=Kd.R_slice B6.out
  (first | subst eo39 | (injection eo39 with f1_ f2_ f3_;have f4_:=f1_.symm;have f5_:=f3_.symm;clear f1_ f2_ f3_;subst f4_;subst f5_))
  obtain ⟨H1,H2,eo40⟩:=Kd.R_slice B7.out
  (first | subst eo40 | (injection eo40 with f1_ f2_ f3_;have f4_:=f1_.symm;have f5_:=f3_.symm;clear f1_ f2_ f3_;subst f4_;subst f5_))
  refine hK.out _ _ ⟨cz0 A1,cz1 A1,cz2 A1,cz0 A0,cz1 A0,cz2 A0⟩ (fun hHeld=> ?_)
  clear hK K
  refine norm_ (a':=?_) ?_ ?_
  rotate_left
  ·show Act.put _ (some 31) _=_
   simp only [Act.put,List.setIfInBounds_toArray,List.set_cons_zero,List.set_cons_succ,i64_w,i32_w]
   rfl
  refine one_ (i:=3) (N:=some 32) #[true,true,true,true,false] rfl rfl (by kernel_rfl) (by decide) (fun K hK=> ?_)
  refine goes_ Try.func12 (by kernel_rfl) rfl #[.agg #[.slice D0 t569.length C4,.slice D1 t572.length C5,.slice D2 t575.length C6],.agg #[.slice G7 t580.length G8,.slice G9 t583.length H0,.slice H1 t586.length H2]] (by rfl) rfl rfl laws_FnExactFindOp.a0 ?_
  with_reducible refine (laws_eqSignature.calls k _ _ t569 _ _ t572 _ _ t575 _ _ t580 _ _ t583 _ _ t586 true _ ?side1 ?side2 ?side3 ?side4 ?side5 ?side6 ?side7 ?side8 ?side9 ?side10 ?side11 ?side12 A16.out).mono ?_
  (case side1=>repeat (first | exact (Kd.R_reads' A6.out).2.2 | (with_reducible refine Kd.C_alloc ?_ _) | (with_reducible refine Kd.C_drewN ?_ _) | (with_reducible refine Kd.C_drew ?_)))
  (case side2=>exact (Kd.R_reads' A6.out).2.1)
  (case side3=>repeat (first | exact (Kd.R_reads' A7.out).2.2 | (with_reducible refine Kd.C_alloc ?_ _) | (with_reducible refine Kd.C_drewN ?_ _) | (with_reducible refine Kd.C_drew ?_)))
  (case side4=>exact (Kd.R_reads' A7.out).2.1)
  (case side5=>repeat (first | exact (Kd.R_reads' A8.out).2.2 | (with_reducible refine Kd.C_alloc ?_ _) | (with_reducible refine Kd.C_drewN ?_ _) | (with_reducible refine Kd.C_drew ?_)))
  (case side6=>exact (Kd.R_reads' A8.out).2.1)
  (case side7=>repeat (first | exact (Kd.R_reads' B5.out).2.2 | (with_reducible refine Kd.C_alloc ?_ _) | (with_reducible refine Kd.C_drewN ?_ _) | (with_reducible refine Kd.C_drew ?_)))
  (case side8=>exact (Kd.R_reads' B5.out).2.1)
  (case side9=>repeat (first | exact (Kd.R_reads' B6.out).2.2 | (with_reducible refine Kd.C_alloc ?_ _) | (with_reducible refine Kd.C_drewN ?_ _) | (with_reducible refine Kd.C_drew ?_)))
  (case side10=>exact (Kd.R_reads' B6.out).2.1)
  (case side11=>repeat (first | exact (Kd.R_reads' B7.out).2.2 | (with_reducible refine Kd.C_alloc ?_ _) | (with_reducible refine Kd.C_drewN ?_ _) | (with_reducible refine Kd.C_drew ?_)))
  (case side12=>exact (Kd.R_reads' B7.out).2.1)
  rintro e w41 ⟨rfl,hb⟩
  refine ⟨_,rfl,?_⟩
  replace A2:=rB A2 hb
  replace A3:=rB A3 hb
  replace A4:=rB A4 hb
  replace A6:=rB A6 hb
  replace A7:=rB A7 hb
  replace A8:=rB A8 hb
  replace B5:=rB B5 hb
  replace B6:=rB B6 hb
  replace B7:=rB B7 hb
  replace A0:=bB A0 hb
  replace A1:=bB A1 hb
  replace HB:=hS HB hb
  (try clear hb)
  (try clear hb2)
  (try clear hk)
  (try clear hi)
  refine hK.out _ _ ⟨cz0 A1,cz1 A1,cz2 A1,cz0 A0,cz1 A0,cz2 A0⟩ (fun hHeld=> ?_)
  clear hK K
  refine norm_ (a':=?_) ?_ ?_
  rotate_left
  ·show Act.put _ (some 32) _=_
   simp only [Act.put,List.setIfInBounds_toArray,List.set_cons_zero,List.set_cons_succ,i64_w,i32_w]
   rfl
  refine pureK 4 33 rfl rfl ?_
  refine done_ (by kernel_rfl) ?_
  try go_wp2
  go_ret
  exact ⟨laws_FnExactFindOp.a1,hV HB⟩
 ·replace c17:=Bool.eq_false_iff.mpr c17
  subst c17
  rw [if_neg (show ¬ (false=true) by decide)] at H
  obtain rfl:=Option.some.inj H
  go_enter Try.func6,Try.ntmps6
  try go_wp2_with (first | (refine bx 2 rfl #[.slice A0_0 l0_0.length c0_0,.slice A0_1 l0_1.length c0_1,.slice A0_2 l0_2.length c0_2] 28 ?_;intro B8 hg w42 hbox hb;have A0:=Aside0.mk (hbox);have C2:=hZ HB hg;have C3:=hZ HB hg;replace HB:=hS HB hb;clear hb hbox hg;obtain ⟨M7,M8,M9,N0,N1,N2⟩:=cf3 A0) | (refine goK 8 (some 14) rfl Try.func8 #[.agg #[.slice A0_0 l0_0.length c0_0,.slice A0_1 l0_1.length c0_1,.slice A0_2 l0_2.length c0_2],.int .i64 1048576] ?_;(with_reducible refine (laws_szSignature.calls k _ _ l0_0 _ _ l0_1 _ _ l0_2 1048576 t558 _ ?side1 ?side2 ?side3 ?side4 ?side5 ?side6 A5.out).mono ?_);(case side1=>exact cB A9 HB);(case side2=>exact B0.out);(case side3=>exact cB B1 HB);(case side4=>exact B2.out);(case side5=>exact cB B3 HB);(case side6=>exact B4.out);rintro e w44 ⟨rfl,hb⟩;refine ⟨_,rfl,?_⟩;replace A0:=bB A0 hb;replace HB:=hS HB hb;(try clear hb);(try clear hb2);(try clear hk);(try clear hi);obtain ⟨N3,N4,N5,N6,N7,N8⟩:=cf3 A0) | (refine goK 10 (some 18) rfl Try.func10 #[.agg #[.slice A0_0 l0_0.length c0_0,.slice A0_1 l0_1.length c0_1,.slice A0_2 l0_2.length c0_2]] ?_;(with_reducible refine (laws_toSignature.calls k _ _ l0_0 _ _ l0_1 _ _ l0_2 t559 t562 t565 _ ?side1 ?side2 ?side3 ?side4 ?side5 ?side6 A10.out).mono ?_);(case side1=>exact cB A9 HB);(case side2=>exact B0.out);(case side3=>exact cB B1 HB);(case side4=>exact B2.out);(case side5=>exact cB B3 HB);(case side6=>exact B4.out);rintro e w46 ⟨v560,v563,v566,rfl,ho0,ho1,ho2,hb⟩;refine ⟨_,rfl,?_⟩;have A2:=rL ho0 HB;have A3:=rL ho1 HB;have A4:=rL ho2 HB;replace A0:=bB A0 hb;replace HB:=hS HB hb;(try clear hb);(try clear hb2);(try clear hk);(try clear hi);(try clear ho0);(try clear ho1);(try clear ho2);obtain ⟨F6,F7,eo47⟩:=Kd.R_slice A2.out;subst eo47;obtain ⟨F8,F9,eo48⟩:=Kd.R_slice A3.out;subst eo48;obtain ⟨G0,G1,eo49⟩:=Kd.R_slice A4.out;subst eo49) | (refine goK 17 (some 20) rfl Try.func17 #[.agg #[.slice F6 t559.length F7,.slice F8 t562.length F9,.slice G0 t565.length G1],.string a1] ?_;(with_reducible refine (spec_FindOp.calls k _ _ t559 _ _ t562 _ _ t565 a1 t568 _ ?side1 ?side2 ?side3 ?side4 ?side5 ?side6 A11.out).mono ?_);(case side1=>repeat (first | exact (Kd.R_reads' A2.out).2.2 | (with_reducible refine Kd.C_alloc ?_ _) | (with_reducible refine Kd.C_drewN ?_ _) | (with_reducible refine Kd.C_drew ?_)));(case side2=>exact (Kd.R_reads' A2.out).2.1);(case side3=>repeat (first | exact (Kd.R_reads' A3.out).2.2 | (with_reducible refine Kd.C_alloc ?_ _) | (with_reducible refine Kd.C_drewN ?_ _) | (with_reducible refine Kd.C_drew ?_)));(case side4=>exact (Kd.R_reads' A3.out).2.1);(case side5=>repeat (first | exact (Kd.R_reads' A4.out).2.2 | (with_reducible refine Kd.C_alloc ?_ _) | (with_reducible refine Kd.C_drewN ?_ _) | (with_reducible refine Kd.C_drew ?_)));(case side6=>exact (Kd.R_reads' A4.out).2.1);rintro e w50 ⟨rfl,hb⟩;refine ⟨_,rfl,?_⟩;replace A2:=rB A2 hb;replace A3:=rB A3 hb;replace A4:=rB A4 hb;replace A0:=bB A0 hb;replace HB:=hS HB hb;(try clear hb);(try clear hb2);(try clear hk);(try clear hi);obtain ⟨N9,O0,O1,O2,O3,O4⟩:=cf3 A0) | (refine goK 10 (some 22) rfl Try.func10 #[.agg #[.slice A0_0 l0_0.length c0_0,.slice A0_1 l0_1.length c0_1,.slice A0_2 l0_2.length c0_2]] ?_;(with_reducible refine (laws_toSignature.calls k _ _ l0_0 _ _ l0_1 _ _ l0_2 t569 t572 t575 _ ?side1 ?side2 ?side3 ?side4 ?side5 ?side6 A12.out).mono ?_);(case side1=>exact cB A9 HB);(case side2=>exact B0.out);(case side3=>exact cB B1 HB);(case side4=>exact B2.out);(case side5=>exact cB B3 HB);(case side6=>exact B4.out);rintro e w52 ⟨v570,v573,v576,rfl,ho0,ho1,ho2,hb⟩;refine ⟨_,rfl,?_⟩;have A6:=rL (rN ho0 A2) HB;replace A2:=rE A2 ho0 hb;have A7:=rL (rN ho1 A3) HB;replace A3:=rE A3 ho1 hb;have A8:=rL (rN ho2 A4) HB;replace A4:=rE A4 ho2 hb;replace A0:=bB A0 hb;replace HB:=hS HB hb;(try clear hb);(try clear hb2);(try clear hk);(try clear hi);(try clear ho0);(try clear ho1);(try clear ho2)) | (refine bx 7 rfl #[.slice none 0 0,.slice none 0 0,.slice none 0 0] 36 ?_;intro C1 hg w53 hbox hb;replace A2:=rB A2 hb;replace A3:=rB A3 hb;replace A4:=rB A4 hb;replace A6:=rB A6 hb;replace A7:=rB A7 hb;replace A8:=rB A8 hb;have A1:=Aside0.mk (hbox);have D9:=hZ HB hg;have E0:=hZ HB hg;replace HB:=hS HB hb;have B9:=nL A0 hg;have C0:=nG A0 hg;replace A0:=bB A0 hb;clear hb hbox hg;obtain ⟨D3,C7,eo54⟩:=Kd.R_slice A6.out;subst eo54;have Q1:=C0.out;have Q2:=B9.out;obtain ⟨O5,O6,O7,O8,O9,P0⟩:=cf3 A1;obtain ⟨D4,C8,eo57⟩:=Kd.R_slice A7.out;subst eo57;obtain ⟨D5,C9,eo58⟩:=Kd.R_slice A8.out;subst eo58) | (refine goK 18 (some 25) rfl Try.func18 #[.agg #[.slice D3 t569.length C7,.slice D4 t572.length C8,.slice D5 t575.length C9],.string a1] ?_;(with_reducible refine (impl_FindOp.calls k _ _ t569 _ _ t572 _ _ t575 a1 t579 _ ?side1 ?side2 ?side3 ?side4 ?side5 ?side6 A13.out).mono ?_);(case side1=>refine (Kd.R_reads' (e:=9) (base:=w.heap.size) (ok:=fun k_=>(True∧some k_≠(.slice F6 t559.length F7:Value).ownBlock)) (n:=t569.length) (c:=C7) ?_).2.2;exact (rT A6 A1 (fun _ h_=>h_.1)));(case side2=>exact (Kd.R_reads' A6.out).2.1);(case side3=>refine (Kd.R_reads' (e:=89) (base:=w.heap.size) (ok:=fun k_=>(True∧some k_≠(.slice F8 t562.length F9:Value).ownBlock)) (n:=t572.length) (c:=C8) ?_).2.2;exact (rT A7 A1 (fun _ h_=>h_.1)));(case side4=>exact (Kd.R_reads' A7.out).2.1);(case side5=>refine (Kd.R_reads' (e:=50) (base:=w.heap.size) (ok:=fun k_=>(True∧some k_≠(.slice G0 t565.length G1:Value).ownBlock)) (n:=t575.length) (c:=C9) ?_).2.2;exact (rT A8 A1 (fun _ h_=>h_.1)));(case side6=>exact (Kd.R_reads' A8.out).2.1);rintro e w59 ⟨rfl,hb⟩;refine ⟨_,rfl,?_⟩;replace A2:=rF A2 A1 hb;replace A3:=rF A3 A1 hb;replace A4:=rF A4 A1 hb;replace A6:=rF A6 A1 hb;replace A7:=rF A7 A1 hb;replace A8:=rF A8 A1 hb;replace A0:=bB A0 hb;replace A1:=bP (o:=.cells #[.slice D3 t569.length C7,.slice D4 t572.length C8,.slice D5 t575.length C9] 36 (0,0)) A1 hb;replace HB:=hS HB hb;(try clear hb);(try clear hb2);(try clear hk);(try clear hi)))
  replace A2:=Aside0.mk (Kd.R_drew A2.out)
  replace A3:=Aside0.mk (Kd.R_drew A3.out)
  replace A4:=Aside0.mk (Kd.R_drew A4.out)
  replace A6:=Aside0.mk (Kd.R_drew A6.out)
  replace A7:=Aside0.mk (Kd.R_drew A7.out)
  replace A8:=Aside0.mk (Kd.R_drew A8.out)
  replace A0:=Aside0.mk (blk_drew A0.out)
  replace A1:=Aside0.mk (blk_drew A1.out)
  replace HB:=Aside0.mk (below_drew1 HB.out)
  refine start_ (n:=5) (S:=fun w'=>w'.cell? ⟨C1,0,none⟩=some (.slice D3 t569.length C7)∧w'.cell? ⟨C1,1,none⟩=some (.slice D4 t572.length C8)∧w'.cell? ⟨C1,2,none⟩=some (.slice D5 t575.length C9)∧w'.cell? ⟨B8,0,none⟩=some (.slice A0_0 l0_0.length c0_0)∧w'.cell? ⟨B8,1,none⟩=some (.slice A0_1 l0_1.length c0_1)∧w'.cell? ⟨B8,2,none⟩=some (.slice A0_2 l0_2.length c0_2)) (ds:=[]) #[false,false,false,false,false] (by kernel_rfl) rfl rfl ⟨cz0 A1,cz1 A1,cz2 A1,cz0 A0,cz1 A0,cz2 A0⟩ (fun hHeld=> ?_)
  generalize w59.drew=w60 at A2 A3 A4 A6 A7 A8 A0 A1 HB hHeld ⊢
  refine takeK 0 29 rfl rfl hHeld ?_ laws_FnExactFindOp.a2
  refine takeK 1 30 rfl rfl hHeld ?_ laws_FnExactFindOp.a2
  refine one_ (i:=2) (N:=some 31) #[true,true,true,false,false] rfl rfl (by kernel_rfl) (by decide) (fun K hK=> ?_)
  refine goes_ Try.func10 (by kernel_rfl) rfl #[.agg #[.slice A0_0 l0_0.length c0_0,.slice A0_1 l0_1.length c0_1,.slice A0_2 l0_2.length c0_2]] (by rfl) rfl rfl laws_FnExactFindOp.a0 ?_
  with_reducible refine (laws_toSignature.calls k _ _ l0_0 _ _ l0_1 _ _ l0_2 t580 t583 t586 _ ?side1 ?side2 ?side3 ?side4 ?side5 ?side6 A15.out).mono ?_
  (case side1=>exact cB A9 HB)
  (case side2=>exact B0.out)
  (case side3=>exact cB B1 HB)
  (case side4=>exact B2.out)
  (case side5=>exact cB B3 HB)
  (case side6=>exact B4.out)
  rintro e w61 ⟨v581,v584,v587,rfl,ho0,ho1,ho2,hb⟩
  refine ⟨_,rfl,?_⟩
  have B5:=rL (rN (rN ho0 A2) A6) HB
  replace A2:=rE A2 ho0 hb
  replace A6:=rE A6 ho0 hb
  have B6:=rL (rN (rN ho1 A3) A7) HB
  replace A3:=rE A3 ho1 hb
  replace A7:=rE A7 ho1 hb
  have B7:=rL (rN (rN ho2 A4) A8) HB
  replace A4:=rE A4 ho2 hb
  replace A8:=rE A8 ho2 hb
  replace A0:=bB A0 hb
  replace A1:=bB A1 hb
  replace HB:=hS HB hb
  (try clear hb)
  (try clear hb2)
  (try clear hk)
  (try clear hi)
  (try clear ho0)
  (try clear ho1)
  (try clear ho2)
  obtain ⟨H3,H4,eo62⟩:=Kd.R_slice B5.out
  (first | subst eo62 | (injection eo62 with f1_ f2_ f3_;have f4_:=f1_.symm;have f5_:=f3_.symm;clear f1_ f2_ f3_;subst f4_;subst f5_))
  obtain ⟨H5,H6,eo63⟩:=Kd.R_slice B6.out
  (first | subst eo63 | (injection eo63 with f1_ f2_ f3_;have f4_:=f1_.symm;have f5_:=f3_.symm;clear f1_ f2_ f3_;subst f4_;subst f5_))
  obtain ⟨H7,H8,eo64⟩:=Kd.R_slice B7.out
  (first | subst eo64 | (injection eo64 with f1_ f2_ f3_;have f4_:=f1_.symm;have f5_:=f3_.symm;clear f1_ f2_ f3_;subst f4_;subst f5_))
  refine hK.out _ _ ⟨cz0 A1,cz1 A1,cz2 A1,cz0 A0,cz1 A0,cz2 A0⟩ (fun hHeld=> ?_)
  clear hK K
  refine norm_ (a':=?_) ?_ ?_
  rotate_left
  ·show Act.put _ (some 31) _=_
   simp only [Act.put,List.setIfInBounds_toArray,List.set_cons_zero,List.set_cons_succ,i64_w,i32_w]
   rfl
  refine one_ (i:=3) (N:=some 32) #[true,true,true,true,false] rfl rfl (by kernel_rfl) (by decide) (fun K hK=> ?_)
  refine goes_ Try.func12 (by kernel_rfl) rfl #[.agg #[.slice D3 t569.length C7,.slice D4 t572.length C8,.slice D5 t575.length C9],.agg #[.slice H3 t580.length H4,.slice H5 t583.length H6,.slice H7 t586.length H8]] (by rfl) rfl rfl laws_FnExactFindOp.a0 ?_
  with_reducible refine (laws_eqSignature.calls k _ _ t569 _ _ t572 _ _ t575 _ _ t580 _ _ t583 _ _ t586 false _ ?side1 ?side2 ?side3 ?side4 ?side5 ?side6 ?side7 ?side8 ?side9 ?side10 ?side11 ?side12 A16.out).mono ?_
  (case side1=>repeat (first | exact (Kd.R_reads' A6.out).2.2 | (with_reducible refine Kd.C_alloc ?_ _) | (with_reducible refine Kd.C_drewN ?_ _) | (with_reducible refine Kd.C_drew ?_)))
  (case side2=>exact (Kd.R_reads' A6.out).2.1)
  (case side3=>repeat (first | exact (Kd.R_reads' A7.out).2.2 | (with_reducible refine Kd.C_alloc ?_ _) | (with_reducible refine Kd.C_drewN ?_ _) | (with_reducible refine Kd.C_drew ?_)))
  (case side4=>exact (Kd.R_reads' A7.out).2.1)
  (case side5=>repeat (first | exact (Kd.R_reads' A8.out).2.2 | (with_reducible refine Kd.C_alloc ?_ _) | (with_reducible refine Kd.C_drewN ?_ _) | (with_reducible refine Kd.C_drew ?_)))
  (case side6=>exact (Kd.R_reads' A8.out).2.1)
  (case side7=>repeat (first | exact (Kd.R_reads' B5.out).2.2 | (with_reducible refine Kd.C_alloc ?_ _) | (with_reducible refine Kd.C_drewN ?_ _) | (with_reducible refine Kd.C_drew ?_)))
  (case side8=>exact (Kd.R_reads' B5.out).2.1)
  (case side9=>repeat (first | exact (Kd.R_reads' B6.out).2.2 | (with_reducible refine Kd.C_alloc ?_ _) | (with_reducible refine Kd.C_drewN ?_ _) | (with_reducible refine Kd.C_drew ?_)))
  (case side10=>exact (Kd.R_reads' B6.out).2.1)
  (case side11=>repeat (first | exact (Kd.R_reads' B7.out).2.2 | (with_reducible refine Kd.C_alloc ?_ _) | (with_reducible refine Kd.C_drewN ?_ _) | (with_reducible refine Kd.C_drew ?_)))
  (case side12=>exact (Kd.R_reads' B7.out).2.1)
  rintro e w65 ⟨rfl,hb⟩
  refine ⟨_,rfl,?_⟩
  replace A2:=rB A2 hb
  replace A3:=rB A3 hb
  replace A4:=rB A4 hb
  replace A6:=rB A6 hb
  replace A7:=rB A7 hb
  replace A8:=rB A8 hb
  replace B5:=rB B5 hb
  replace B6:=rB B6 hb
  replace B7:=rB B7 hb
  replace A0:=bB A0 hb
  replace A1:=bB A1 hb
  replace HB:=hS HB hb
  (try clear hb)
  (try clear hb2)
  (try clear hk)
  (try clear hi)
  refine hK.out _ _ ⟨cz0 A1,cz1 A1,cz2 A1,cz0 A0,cz1 A0,cz2 A0⟩ (fun hHeld=> ?_)
  clear hK K
  refine norm_ (a':=?_) ?_ ?_
  rotate_left
  ·show Act.put _ (some 32) _=_
   simp only [Act.put,List.setIfInBounds_toArray,List.set_cons_zero,List.set_cons_succ,i64_w,i32_w]
   rfl
  refine pureK 4 33 rfl rfl ?_
  refine done_ (by kernel_rfl) ?_
  try go_wp2
  go_ret
  exact ⟨laws_FnExactFindOp.a1,hV HB⟩
/-! ### spec_l3Close: function 80 -/
/-! ### spec_l7Give: function 74 -/
/-! ### spec_l7Apply: function 63 -/
/-! ### spec_l2Ok: function 81 -/
end Go.Proofs.Ytpildjbakceicaa.Q

