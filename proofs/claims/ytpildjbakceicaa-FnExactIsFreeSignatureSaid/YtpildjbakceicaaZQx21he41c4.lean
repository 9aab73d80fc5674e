/- Functions of the program as plain Lean functions,and that the calls come to what they say. -/
import Derived.Test.YtpildjbakceicaaZQx0hb61c0
import Derived.Test.YtpildjbakceicaaZQx1h3e7cd
import Derived.Test.YtpildjbakceicaaZQx3hfebfd
import Derived.Test.YtpildjbakceicaaZQx8h91bd6
import Derived.Test.YtpildjbakceicaaZQx9h74e80
import Derived.Test.YtpildjbakceicaaZQx19he4aed
import Derived.Test.YtpildjbakceicaaZQx20h71171
import Derived.Test.YtpildjbakceicaaZShorthc96c8
namespace Go.Proofs.Ytpildjbakceicaa.Q
open Go.RowKit Go.Proofs.YtpildjbakceicaaW.PrintWords Go.Proofs.YtpildjbakceicaaW.PrintLast Go.Proofs.YtpildjbakceicaaW.PrintMore
attribute [local go_sem] max2_int min2_int max_two min_two max_three min_three max_four min_four   -- for this text's walks alone
set_option linter.unusedVariables false
set_option linter.unusedSimpArgs false

/-! ### laws_FnExactIsFreeSignature: function 5 -/
theorem laws_FnExactIsFreeSignature.a0 {P_:Prop} (h_:P_:=by (try simp only [List.map_toArray,List.map_cons,List.map_nil]);first | done | rfl | (simp only [List.length_drop,List.length_take];rfl)):P_:=h_
theorem laws_FnExactIsFreeSignature.a1 {P_:Prop} (h_:P_:=by first | rfl | (simp [errW_none,errW_some] <;> rfl) | (simp [*,errW_none,errW_some] <;> rfl)):P_:=h_
theorem laws_FnExactIsFreeSignature.a2 {P_:Prop} (h_:P_:=by rintro w' ⟨s0,s1,s2,s3,s4,s5⟩;go_simp;with_reducible rfl):P_:=h_
def laws_FnExactIsFreeSignature.f (k:Nat) (l0_0:List ByteArray) (l0_1:List (S107)) (l0_2:List (S86)):Option (Bool):=(laws_szSignature.f k l0_0 l0_1 l0_2 1048576).bind fun t516=>(if t516 < 0 then (some true) else ((laws_toSignature.f k l0_0 l0_1 l0_2).bind fun bt517=>((spec_IsFreeSignature.f k bt517.1 bt517.2.1 bt517.2.2).bind fun t526=>((laws_toSignature.f k l0_0 l0_1 l0_2).bind fun bt527=>((impl_IsFreeSignature.f k bt527.1 bt527.2.1 bt527.2.2).bind fun t537=>(if (t537 != t526)=true then (some false) else ((laws_toSignature.f k l0_0 l0_1 l0_2).bind fun bt538=>((laws_eqSignature.f k bt527.1 bt527.2.1 bt527.2.2 bt538.1 bt538.2.1 bt538.2.2).bind fun t547=>(if t547=true then (some true) else (some false))))))))))
set_option maxHeartbeats 8000000 in
set_option maxRecDepth 100000 in
theorem laws_FnExactIsFreeSignature.calls (k:Nat) (A0_0:Option Addr) (c0_0:Nat) (l0_0:List ByteArray) (A0_1:Option Addr) (c0_1:Nat) (l0_1:List (S107)) (A0_2:Option Addr) (c0_2:Nat) (l0_2:List (S86)) (r:Bool) (w:World) (hr0_0:Kd.C Kd.string w A0_0 l0_0.length l0_0) (hc0_0:l0_0.length≤c0_0) (hr0_1:Kd.C k107 w A0_1 l0_1.length l0_1) (hc0_1:l0_1.length≤c0_1) (hr0_2:Kd.C k86 w A0_2 l0_2.length l0_2) (hc0_2:l0_2.length≤c0_2) (h:laws_FnExactIsFreeSignature.f k l0_0 l0_1 l0_2=some r) :
  Calls Try.prog 5 #[.agg #[.slice A0_0 l0_0.length c0_0,.slice A0_1 l0_1.length c0_1,.slice A0_2 l0_2.length c0_2]] w fun e w'=>e=.returned (.bool r)∧Below w.heap.size w w':=by
 have hu28:=Try.underlying28
 have hu36:=Try.underlying36
 have B2:=Aside0.mk hr0_0
 have B3:=Aside0.mk hc0_0
 clear hr0_0 hc0_0
 have B4:=Aside0.mk hr0_1
 have B5:=Aside0.mk hc0_1
 clear hr0_1 hc0_1
 have B6:=Aside0.mk hr0_2
 have B7:=Aside0.mk hc0_2
 clear hr0_2 hc0_2
 have HB:=Aside0.mk (Below.refl w.heap.size w)
 have H:((laws_szSignature.f k l0_0 l0_1 l0_2 1048576).bind fun t516=>(if t516 < 0 then (some true) else ((laws_toSignature.f k l0_0 l0_1 l0_2).bind fun bt517=>((spec_IsFreeSignature.f k bt517.1 bt517.2.1 bt517.2.2).bind fun t526=>((laws_toSignature.f k l0_0 l0_1 l0_2).bind fun bt527=>((impl_IsFreeSignature.f k bt527.1 bt527.2.1 bt527.2.2).bind fun t537=>(if (t537 != t526)=true then (some false) else ((laws_toSignature.f k l0_0 l0_1 l0_2).bind fun bt538=>((laws_eqSignature.f k bt527.1 bt527.2.1 bt527.2.2 bt538.1 bt538.2.1 bt538.2.2).bind fun t547=>(if t547=true then (some true) else (some false)))))))))))=some r:=h
 clear h
 replace H:=Option.bind_eq_some_iff.mp H
 obtain ⟨t516,A20,H⟩:=H
 replace H:(if t516 < 0 then (some true) else ((laws_toSignature.f k l0_0 l0_1 l0_2).bind fun bt517=>((spec_IsFreeSignature.f k bt517.1 bt517.2.1 bt517.2.2).bind fun t526=>((laws_toSignature.f k l0_0 l0_1 l0_2).bind fun bt527=>((impl_IsFreeSignature.f k bt527.1 bt527.2.1 bt527.2.2).bind fun t537=>(if (t537 != t526)=true then (some false) else ((laws_toSignature.f k l0_0 l0_1 l0_2).bind fun bt538=>((laws_eqSignature.f k bt527.1 bt527.2.1 bt527.2.2 bt538.1 bt538.2.1 bt538.2.2).bind fun t547=>(if t547=true then (some true) else (some false))))))))))=some r:=H
 have A2:=Aside0.mk A20
 clear A20
 by_cases c3:t516 < 0
 ·rw [if_pos c3] at H
  have G8:=decide_eq_true c3
  clear c3
  obtain rfl:=Option.some.inj H
  go_enter Try.func5,Try.ntmps5
  go_wp2_with (first | (refine bx 1 rfl #[.slice A0_0 l0_0.length c0_0,.slice A0_1 l0_1.length c0_1,.slice A0_2 l0_2.length c0_2] 28 ?_;intro C3 hg w4 hbox hb;have A0:=Aside0.mk (hbox);have D1:=hZ HB hg;have D2:=hZ HB hg;replace HB:=hS HB hb;clear hb hbox hg;obtain ⟨P3,P4,P5,P6,P7,P8⟩:=cf3 A0) | (refine goK 8 (some 9) rfl Try.func8 #[.agg #[.slice A0_0 l0_0.length c0_0,.slice A0_1 l0_1.length c0_1,.slice A0_2 l0_2.length c0_2],.int .i64 1048576] ?_;(with_reducible refine (laws_szSignature.calls k _ _ l0_0 _ _ l0_1 _ _ l0_2 1048576 t516 _ ?side1 ?side2 ?side3 ?side4 ?side5 ?side6 A2.out).mono ?_);(case side1=>exact cB B2 HB);(case side2=>exact B3.out);(case side3=>exact cB B4 HB);(case side4=>exact B5.out);(case side5=>exact cB B6 HB);(case side6=>exact B7.out);rintro e w6 ⟨rfl,hb⟩;refine ⟨_,rfl,?_⟩;replace A0:=bB A0 hb;replace HB:=hS HB hb;(try clear hb);(try clear hb2);(try clear hk);(try clear hi)))
  go_ret
  exact ⟨laws_FnExactIsFreeSignature.a1,hV HB⟩
 ·rw [if_neg c3] at H
  have G8:=decide_eq_false c3
  clear c3
  replace H:=Option.bind_eq_some_iff.mp H
  obtain ⟨⟨t517,t520,t523⟩,A70,H⟩:=H
  replace H:((spec_IsFreeSignature.f k t517 t520 t523).bind fun t526=>((laws_toSignature.f k l0_0 l0_1 l0_2).bind fun bt527=>((impl_IsFreeSignature.f k bt527.1 bt527.2.1 bt527.2.2).bind fun t537=>(if (t537 != t526)=true then (some false) else ((laws_toSignature.f k l0_0 l0_1 l0_2).bind fun bt538=>((laws_eqSignature.f k bt527.1 bt527.2.1 bt527.2.2 bt538.1 bt538.2.1 bt538.2.2).bind fun t547=>(if t547=true then (some true) else (some false))))))))=some r:=H
  have A7:=Aside0.mk A70
  clear A70
  replace H:=Option.bind_eq_some_iff.mp H
  obtain ⟨t526,A80,H⟩:=H
  replace H:((laws_toSignature.f k l0_0 l0_1 l0_2).bind fun bt527=>((impl_IsFreeSignature.f k bt527.1 bt527.2.1 bt527.2.2).bind fun t537=>(if (t537 != t526)=true then (some false) else ((laws_toSignature.f k l0_0 l0_1 l0_2).bind fun bt538=>((laws_eqSignature.f k bt527.1 bt527.2.1 bt527.2.2 bt538.1 bt538.2.1 bt538.2.2).bind fun t547=>(if t547=true then (some true) else (some false)))))))=some r:=H
  have A8:=Aside0.mk A80
  clear A80
  replace H:=Option.bind_eq_some_iff.mp H
  obtain ⟨⟨t527,t530,t533⟩,A90,H⟩:=H
  replace H:((impl_IsFreeSignature.f k t527 t530 t533).bind fun t537=>(if (t537 != t526)=true then (some false) else ((laws_toSignature.f k l0_0 l0_1 l0_2).bind fun bt538=>((laws_eqSignature.f k t527 t530 t533 bt538.1 bt538.2.1 bt538.2.2).bind fun t547=>(if t547=true then (some true) else (some false))))))=some r:=H
  have A9:=Aside0.mk A90
  clear A90
  replace H:=Option.bind_eq_some_iff.mp H
  obtain ⟨t537,A100,H⟩:=H
  replace H:(if (t537 != t526)=true then (some false) else ((laws_toSignature.f k l0_0 l0_1 l0_2).bind fun bt538=>((laws_eqSignature.f k t527 t530 t533 bt538.1 bt538.2.1 bt538.2.2).bind fun t547=>(if t547=true then (some true) else (some false)))))=some r:=H
  have A10:=Aside0.mk A100
  clear A100
  by_cases c11:(t537 != t526)=true
  ·rw [if_pos c11] at H
   have G5:(t537 != t526)=true:=c11
   (try (have G6:decide (t537=t526)=false:=by simpa using c11))
   (try (have G7:(t537 == t526)=false:=by simpa using c11))
   (try (have P9 : ¬ (t537=t526):=by simpa using c11))
   clear c11
   obtain rfl:=Option.some.inj H
   go_enter Try.func5,Try.ntmps5
   go_wp2_with (first | (refine bx 1 rfl #[.slice A0_0 l0_0.length c0_0,.slice A0_1 l0_1.length c0_1,.slice A0_2 l0_2.length c0_2] 28 ?_;intro C3 hg w12 hbox hb;have A0:=Aside0.mk (hbox);have D1:=hZ HB hg;have D2:=hZ HB hg;replace HB:=hS HB hb;clear hb hbox hg;obtain ⟨I1,I2,I3,I4,I5,I6⟩:=cf3 A0) | (refine goK 8 (some 9) rfl Try.func8 #[.agg #[.slice A0_0 l0_0.length c0_0,.slice A0_1 l0_1.length c0_1,.slice A0_2 l0_2.length c0_2],.int .i64 1048576] ?_;(with_reducible refine (laws_szSignature.calls k _ _ l0_0 _ _ l0_1 _ _ l0_2 1048576 t516 _ ?side1 ?side2 ?side3 ?side4 ?side5 ?side6 A2.out).mono ?_);(case side1=>exact cB B2 HB);(case side2=>exact B3.out);(case side3=>exact cB B4 HB);(case side4=>exact B5.out);(case side5=>exact cB B6 HB);(case side6=>exact B7.out);rintro e w14 ⟨rfl,hb⟩;refine ⟨_,rfl,?_⟩;replace A0:=bB A0 hb;replace HB:=hS HB hb;(try clear hb);(try clear hb2);(try clear hk);(try clear hi);obtain ⟨I7,I8,I9,J0,J1,J2⟩:=cf3 A0) | (refine goK 10 (some 13) rfl Try.func10 #[.agg #[.slice A0_0 l0_0.length c0_0,.slice A0_1 l0_1.length c0_1,.slice A0_2 l0_2.length c0_2]] ?_;(with_reducible refine (laws_toSignature.calls k _ _ l0_0 _ _ l0_1 _ _ l0_2 t517 t520 t523 _ ?side1 ?side2 ?side3 ?side4 ?side5 ?side6 A7.out).mono ?_);(case side1=>exact cB B2 HB);(case side2=>exact B3.out);(case side3=>exact cB B4 HB);(case side4=>exact B5.out);(case side5=>exact cB B6 HB);(case side6=>exact B7.out);rintro e w16 ⟨v518,v521,v524,rfl,ho0,ho1,ho2,hb⟩;refine ⟨_,rfl,?_⟩;have A3:=rL ho0 HB;have A4:=rL ho1 HB;have A5:=rL ho2 HB;replace A0:=bB A0 hb;replace HB:=hS HB hb;(try clear hb);(try clear hb2);(try clear hk);(try clear hi);(try clear ho0);(try clear ho1);(try clear ho2);obtain ⟨E4,E5,eo17⟩:=Kd.R_slice A3.out;subst eo17;obtain ⟨E6,E7,eo18⟩:=Kd.R_slice A4.out;subst eo18;obtain ⟨E8,E9,eo19⟩:=Kd.R_slice A5.out;subst eo19) | (refine goK 15 (some 14) rfl Try.func15 #[.agg #[.slice E4 t517.length E5,.slice E6 t520.length E7,.slice E8 t523.length E9]] ?_;(with_reducible refine (spec_IsFreeSignature.calls k _ _ t517 _ _ t520 _ _ t523 t526 _ ?side1 ?side2 ?side3 ?side4 ?side5 ?side6 A8.out).mono ?_);(case side1=>repeat (first | exact (Kd.R_reads' A3.out).2.2 | (with_reducible refine Kd.C_alloc ?_ _) | (with_reducible refine Kd.C_drewN ?_ _) | (with_reducible refine Kd.C_drew ?_)));(case side2=>exact (Kd.R_reads' A3.out).2.1);(case side3=>repeat (first | exact (Kd.R_reads' A4.out).2.2 | (with_reducible refine Kd.C_alloc ?_ _) | (with_reducible refine Kd.C_drewN ?_ _) | (with_reducible refine Kd.C_drew ?_)));(case side4=>exact (Kd.R_reads' A4.out).2.1);(case side5=>repeat (first | exact (Kd.R_reads' A5.out).2.2 | (with_reducible refine Kd.C_alloc ?_ _) | (with_reducible refine Kd.C_drewN ?_ _) | (with_reducible refine Kd.C_drew ?_)));(case side6=>exact (Kd.R_reads' A5.out).2.1);rintro e w20 ⟨rfl,hb⟩;refine ⟨_,rfl,?_⟩;replace A3:=rB A3 hb;replace A4:=rB A4 hb;replace A5:=rB A5 hb;replace A0:=bB A0 hb;replace HB:=hS HB hb;(try clear hb);(try clear hb2);(try clear hk);(try clear hi);obtain ⟨J3,J4,J5,J6,J7,J8⟩:=cf3 A0) | (refine goK 10 (some 16) rfl Try.func10 #[.agg #[.slice A0_0 l0_0.length c0_0,.slice A0_1 l0_1.length c0_1,.slice A0_2 l0_2.length c0_2]] ?_;(with_reducible refine (laws_toSignature.calls k _ _ l0_0 _ _ l0_1 _ _ l0_2 t527 t530 t533 _ ?side1 ?side2 ?side3 ?side4 ?side5 ?side6 A9.out).mono ?_);(case side1=>exact cB B2 HB);(case side2=>exact B3.out);(case side3=>exact cB B4 HB);(case side4=>exact B5.out);(case side5=>exact cB B6 HB);(case side6=>exact B7.out);rintro e w22 ⟨v528,v531,v534,rfl,ho0,ho1,ho2,hb⟩;refine ⟨_,rfl,?_⟩;have A6:=rL (rN ho0 A3) HB;replace A3:=rE A3 ho0 hb;have B0:=rL (rN ho1 A4) HB;replace A4:=rE A4 ho1 hb;have B1:=rL (rN ho2 A5) HB;replace A5:=rE A5 ho2 hb;replace A0:=bB A0 hb;replace HB:=hS HB hb;(try clear hb);(try clear hb2);(try clear hk);(try clear hi);(try clear ho0);(try clear ho1);(try clear ho2)) | (refine bx 5 rfl #[.slice none 0 0,.slice none 0 0,.slice none 0 0] 36 ?_;intro C4 hg w23 hbox hb;replace A3:=rB A3 hb;replace A4:=rB A4 hb;replace A5:=rB A5 hb;replace A6:=rB A6 hb;replace B0:=rB B0 hb;replace B1:=rB B1 hb;have A1:=Aside0.mk (hbox);have E2:=hZ HB hg;have E3:=hZ HB hg;replace HB:=hS HB hb;have C1:=nL A0 hg;have C2:=nG A0 hg;replace A0:=bB A0 hb;clear hb hbox hg;obtain ⟨F0,D9,eo24⟩:=Kd.R_slice A6.out;subst eo24;have Q0:=C2.out;have Q1:=C1.out;obtain ⟨J9,K0,K1,K2,K3,K4⟩:=cf3 A1;obtain ⟨F1,E0,eo27⟩:=Kd.R_slice B0.out;subst eo27;obtain ⟨F2,E1,eo28⟩:=Kd.R_slice B1.out;subst eo28) | (refine goK 16 (some 18) rfl Try.func16 #[.agg #[.slice F0 t527.length D9,.slice F1 t530.length E0,.slice F2 t533.length E1]] ?_;(with_reducible refine (impl_IsFreeSignature.calls k _ _ t527 _ _ t530 _ _ t533 t537 _ ?side1 ?side2 ?side3 ?side4 ?side5 ?side6 A10.out).mono ?_);(case side1=>refine (Kd.R_reads' (e:=9) (base:=w.heap.size) (ok:=fun k_=>(True∧some k_≠(.slice E4 t517.length E5:Value).ownBlock)) (n:=t527.length) (c:=D9) ?_).2.2;exact (rT A6 A1 (fun _ h_=>h_.1)));(case side2=>exact (Kd.R_reads' A6.out).2.1);(case side3=>refine (Kd.R_reads' (e:=89) (base:=w.heap.size) (ok:=fun k_=>(True∧some k_≠(.slice E6 t520.length E7:Value).ownBlock)) (n:=t530.length) (c:=E0) ?_).2.2;exact (rT B0 A1 (fun _ h_=>h_.1)));(case side4=>exact (Kd.R_reads' B0.out).2.1);(case side5=>refine (Kd.R_reads' (e:=50) (base:=w.heap.size) (ok:=fun k_=>(True∧some k_≠(.slice E8 t523.length E9:Value).ownBlock)) (n:=t533.length) (c:=E1) ?_).2.2;exact (rT B1 A1 (fun _ h_=>h_.1)));(case side6=>exact (Kd.R_reads' B1.out).2.1);rintro e w29 ⟨rfl,hb⟩;refine ⟨_,rfl,?_⟩;replace A3:=rF A3 A1 hb;replace A4:=rF A4 A1 hb;replace A5:=rF A5 A1 hb;replace A6:=rF A6 A1 hb;replace B0:=rF B0 A1 hb;replace B1:=rF B1 A1 hb;replace A0:=bB A0 hb;replace A1:=bP (o:=.cells #[.slice F0 t527.length D9,.slice F1 t530.length E0,.slice F2 t533.length E1] 36 (0,0)) A1 hb;replace HB:=hS HB hb;(try clear hb);(try clear hb2);(try clear hk);(try clear hi)))
   go_ret
   exact ⟨laws_FnExactIsFreeSignature.a1,hV HB⟩
  ·rw [if_neg c11] at H
   have G5:(t537 != t526)=false:=by simpa using c11
   (try (have G6:decide (t537=t526)=true:=by simpa using c11))
   (try (have G7:(t537 == t526)=true:=by simpa using c11))
   clear c11
   replace H:=Option.bind_eq_some_iff.mp H
   obtain ⟨⟨t538,t541,t544⟩,A300,H⟩:=H
   replace H:((laws_eqSignature.f k t527 t530 t533 t538 t541 t544).bind fun t547=>(if t547=true then (some true) else (some false)))=some r:=H
   have A30:=Aside0.mk A300
   clear A300
   replace H:=Option.bind_eq_some_iff.mp H
   obtain ⟨t547,A310,H⟩:=H
   replace H:(if t547=true then (some true) else (some false))=some r:=H
   have A31:=Aside0.mk A310
   clear A310
   by_cases c32:t547=true
   ·subst c32
    rw [if_pos rfl] at H
    obtain rfl:=Option.some.inj H
    go_enter Try.func5,Try.ntmps5
    try go_wp2_with (first | (refine bx 1 rfl #[.slice A0_0 l0_0.length c0_0,.slice A0_1 l0_1.length c0_1,.slice A0_2 l0_2.length c0_2] 28 ?_;intro C3 hg w33 hbox hb;have A0:=Aside0.mk (hbox);have D1:=hZ HB hg;have D2:=hZ HB hg;replace HB:=hS HB hb;clear hb hbox hg;obtain ⟨K5,K6,K7,K8,K9,L0⟩:=cf3 A0) | (refine goK 8 (some 9) rfl Try.func8 #[.agg #[.slice A0_0 l0_0.length c0_0,.slice A0_1 l0_1.length c0_1,.slice A0_2 l0_2.length c0_2],.int .i64 1048576] ?_;(with_reducible refine (laws_szSignature.calls k _ _ l0_0 _ _ l0_1 _ _ l0_2 1048576 t516 _ ?side1 ?side2 ?side3 ?side4 ?side5 ?side6 A2.out).mono ?_);(case side1=>exact cB B2 HB);(case side2=>exact B3.out);(case side3=>exact cB B4 HB);(case side4=>exact B5.out);(case side5=>exact cB B6 HB);(case side6=>exact B7.out);rintro e w35 ⟨rfl,hb⟩;refine ⟨_,rfl,?_⟩;replace A0:=bB A0 hb;replace HB:=hS HB hb;(try clear hb);(try clear hb2);(try clear hk);(try clear hi);obtain ⟨L1,L2,L3,L4,L5,L6⟩:=cf3 A0) | (refine goK 10 (some 13) rfl Try.func10 #[.agg #[.slice A0_0 l0_0.length c0_0,.slice A0_1 l0_1.length c0_1,.slice A0_2 l0_2.length c0_2]] ?_;(with_reducible refine (laws_toSignature.calls k _ _ l0_0 _ _ l0_1 _ _ l0_2 t517 t520 t523 _ ?side1 ?side2 ?side3 ?side4 ?side5 ?side6 A7.out).mono ?_);(case side1=>exact cB B2 HB);(case side2=>exact B3.out);(case side3=>exact cB B4 HB);(case side4=>exact B5.out);(case side5=>exact cB B6 HB);(case side6=>exact B7.out);rintro e w37 ⟨v518,v521,v524,rfl,ho0,ho1,ho2,hb⟩;refine ⟨_,rfl,?_⟩;have A3:=rL ho0 HB;have A4:=rL ho1 HB;have A5:=rL ho2 HB;replace A0:=bB A0 hb;replace HB:=hS HB hb;(try clear hb);(try clear hb2);(try clear hk);(try clear hi);(try clear ho0);(try clear ho1);(try clear ho2);obtain ⟨F3,F4,eo38⟩:=Kd.R_slice A3.out;subst eo38;obtain ⟨F5,F6,eo39⟩:=Kd.R_slice A4.out;subst eo39;obtain ⟨F7,F8,eo40⟩:=Kd.R_slice A5.out;subst eo40) | (refine goK 15 (some 14) rfl Try.func15 #[.agg #[.slice F3 t517.length F4,.slice F5 t520.length F6,.slice F7 t523.length F8]] ?_;(with_reducible refine (spec_IsFreeSignature.calls k _ _ t517 _ _ t520 _ _ t523 t526 _ ?side1 ?side2 ?side3 ?side4 ?side5 ?side6 A8.out).mono ?_);(case side1=>repeat (first | exact (Kd.R_reads' A3.out).2.2 | (with_reducible refine Kd.C_alloc ?_ _) | (with_reducible refine Kd.C_drewN ?_ _) | (with_reducible refine Kd.C_drew ?_)));(case side2=>exact (Kd.R_reads' A3.out).2.1);(case side3=>repeat (first | exact (Kd.R_reads' A4.out).2.2 | (with_reducible refine Kd.C_alloc ?_ _) | (with_reducible refine Kd.C_drewN ?_ _) | (with_reducible refine Kd.C_drew ?_)));(case side4=>exact (Kd.R_reads' A4.out).2.1);(case side5=>repeat (first | exact (Kd.R_reads' A5.out).2.2 | (with_reducible refine Kd.C_alloc ?_ _) | (with_reducible refine Kd.C_drewN ?_ _) | (with_reducible refine Kd.C_drew ?_)));(case side6=>exact (Kd.R_reads' A5.out).2.1);rintro e w41 ⟨rfl,hb⟩;refine ⟨_,rfl,?_⟩;replace A3:=rB A3 hb;replace A4:=rB A4 hb;replace A5:=rB A5 hb;replace A0:=bB A0 hb;replace HB:=hS HB hb;(try clear hb);(try clear hb2);(try clear hk);(try clear hi);obtain ⟨L7,L8,L9,M0,M1,M2⟩:=cf3 A0) | (refine goK 10 (some 16) rfl Try.func10 #[.agg #[.slice A0_0 l0_0.length c0_0,.slice A0_1 l0_1.length c0_1,.slice A0_2 l0_2.length c0_2]] ?_;(with_reducible refine (laws_toSignature.calls k _ _ l0_0 _ _ l0_1 _ _ l0_2 t527 t530 t533 _ ?side1 ?side2 ?side3 ?side4 ?side5 ?side6 A9.out).mono ?_);(case side1=>exact cB B2 HB);(case side2=>exact B3.out);(case side3=>exact cB B4 HB);(case side4=>exact B5.out);(case side5=>exact cB B6 HB);(case side6=>exact B7.out);rintro e w43 ⟨v528,v531,v534,rfl,ho0,ho1,ho2,hb⟩;refine ⟨_,rfl,?_⟩;have A6:=rL (rN ho0 A3) HB;replace A3:=rE A3 ho0 hb;have B0:=rL (rN ho1 A4) HB;replace A4:=rE A4 ho1 hb;have B1:=rL (rN ho2 A5) HB;replace A5:=rE A5 ho2 hb;replace A0:=bB A0 hb;replace HB:=hS HB hb;(try clear hb);(try clear hb2);(try clear hk);(try clear hi);(try clear ho0);(try clear ho1);(try clear ho2)) | (refine bx 5 rfl #[.slice none 0 0,.slice none 0 0,.slice none 0 0] 36 ?_;intro C4 hg w44 hbox hb;replace A3:=rB A3 hb;replace A4:=rB A4 hb;replace A5:=rB A5 hb;replace A6:=rB A6 hb;replace B0:=rB B0 hb;replace B1:=rB B1 hb;have A1:=Aside0.mk (hbox);have E2:=hZ HB hg;have E3:=hZ HB hg;replace HB:=hS HB hb;have C1:=nL A0 hg;have C2:=nG A0 hg;replace A0:=bB A0 hb;clear hb hbox hg;obtain ⟨D3,C5,eo45⟩:=Kd.R_slice A6.out;subst eo45;have Q2:=C2.out;have Q3:=C1.out;obtain ⟨M3,M4,M5,M6,M7,M8⟩:=cf3 A1;obtain ⟨D4,C6,eo48⟩:=Kd.R_slice B0.out;subst eo48;obtain ⟨D5,C7,eo49⟩:=Kd.R_slice B1.out;subst eo49) | (refine goK 16 (some 18) rfl Try.func16 #[.agg #[.slice D3 t527.length C5,.slice D4 t530.length C6,.slice D5 t533.length C7]] ?_;(with_reducible refine (impl_IsFreeSignature.calls k _ _ t527 _ _ t530 _ _ t533 t537 _ ?side1 ?side2 ?side3 ?side4 ?side5 ?side6 A10.out).mono ?_);(case side1=>refine (Kd.R_reads' (e:=9) (base:=w.heap.size) (ok:=fun k_=>(True∧some k_≠(.slice F3 t517.length F4:Value).ownBlock)) (n:=t527.length) (c:=C5) ?_).2.2;exact (rT A6 A1 (fun _ h_=>h_.1)));(case side2=>exact (Kd.R_reads' A6.out).2.1);(case side3=>refine (Kd.R_reads' (e:=89) (base:=w.heap.size) (ok:=fun k_=>(True∧some k_≠(.slice F5 t520.length F6:Value).ownBlock)) (n:=t530.length) (c:=C6) ?_).2.2;exact (rT B0 A1 (fun _ h_=>h_.1)));(case side4=>exact (Kd.R_reads' B0.out).2.1);(case side5=>refine (Kd.R_reads' (e:=50) (base:=w.heap.size) (ok:=fun k_=>(True∧some k_≠(.slice F7 t523.length F8:Value).ownBlock)) (n:=t533.length) (c:=C7) ?_).2.2;exact (rT B1 A1 (fun _ h_=>h_.1)));(case side6=>exact (Kd.R_reads' B1.out).2.1);rintro e w50 ⟨rfl,hb⟩;refine ⟨_,rfl,?_⟩;replace A3:=rF A3 A1 hb;replace A4:=rF A4 A1 hb;replace A5:=rF A5 A1 hb;replace A6:=rF A6 A1 hb;replace B0:=rF B0 A1 hb;replace B1:=rF B1 A1 hb;replace A0:=bB A0 hb;replace A1:=bP (o:=.cells #[.slice D3 t527.length C5,.slice D4 t530.length C6,.slice D5 t533.length C7] 36 (0,0)) A1 hb;replace HB:=hS HB hb;(try clear hb);(try clear hb2);(try clear hk);(try clear hi)))
    replace A3:=Aside0.mk (Kd.R_drew A3.out)
    replace A4:=Aside0.mk (Kd.R_drew A4.out)
    replace A5:=Aside0.mk (Kd.R_drew A5.out)
    replace A6:=Aside0.mk (Kd.R_drew A6.out)
    replace B0:=Aside0.mk (Kd.R_drew B0.out)
    replace B1:=Aside0.mk (Kd.R_drew B1.out)
    replace A0:=Aside0.mk (blk_drew A0.out)
    replace A1:=Aside0.mk (blk_drew A1.out)
    replace HB:=Aside0.mk (below_drew1 HB.out)
    refine start_ (n:=5) (S:=fun w'=>w'.cell? ⟨C4,0,none⟩=some (.slice D3 t527.length C5)∧w'.cell? ⟨C4,1,none⟩=some (.slice D4 t530.length C6)∧w'.cell? ⟨C4,2,none⟩=some (.slice D5 t533.length C7)∧w'.cell? ⟨C3,0,none⟩=some (.slice A0_0 l0_0.length c0_0)∧w'.cell? ⟨C3,1,none⟩=some (.slice A0_1 l0_1.length c0_1)∧w'.cell? ⟨C3,2,none⟩=some (.slice A0_2 l0_2.length c0_2)) (ds:=[]) #[false,false,false,false,false] (by kernel_rfl) rfl rfl ⟨cz0 A1,cz1 A1,cz2 A1,cz0 A0,cz1 A0,cz2 A0⟩ (fun hHeld=> ?_)
    generalize w50.drew=w51 at A3 A4 A5 A6 B0 B1 A0 A1 HB hHeld ⊢
    refine takeK 0 22 rfl rfl hHeld ?_ laws_FnExactIsFreeSignature.a2
    refine takeK 1 23 rfl rfl hHeld ?_ laws_FnExactIsFreeSignature.a2
    refine one_ (i:=2) (N:=some 24) #[true,true,true,false,false] rfl rfl (by kernel_rfl) (by decide) (fun K hK=> ?_)
    refine goes_ Try.func10 (by kernel_rfl) rfl #[.agg #[.slice A0_0 l0_0.length c0_0,.slice A0_1 l0_1.length c0_1,.slice A0_2 l0_2.length c0_2]] (by rfl) rfl rfl laws_FnExactIsFreeSignature.a0 ?_
    with_reducible refine (laws_toSignature.calls k _ _ l0_0 _ _ l0_1 _ _ l0_2 t538 t541 t544 _ ?side1 ?side2 ?side3 ?side4 ?side5 ?side6 A30.out).mono ?_
    (case side1=>exact cB B2 HB)
    (case side2=>exact B3.out)
    (case side3=>exact cB B4 HB)
    (case side4=>exact B5.out)
    (case side5=>exact cB B6 HB)
    (case side6=>exact B7.out)
    rintro e w52 ⟨v539,v542,v545,rfl,ho0,ho1,ho2,hb⟩
    refine ⟨_,rfl,?_⟩
    have B8:=rL (rN (rN ho0 A3) A6) HB
    replace A3:=rE A3 ho0 hb
    replace A6:=rE A6 ho0 hb
    have B9:=rL (rN (rN ho1 A4) B0) HB
    replace A4:=rE A4 ho1 hb
    replace B0:=rE B0 ho1 hb
    have C0:=rL (rN (rN ho2 A5) B1) HB
    replace A5:=rE A5 ho2 hb
    replace B1:=rE B1 ho2 hb
    replace A0:=bB A0 hb
    replace A1:=bB A1 hb
    replace HB:=hS HB hb
    (try clear hb)
    (try clear hb2)
    (try clear hk)
    (try clear hi)
    (try clear ho0)
    (try clear ho1)
    (try clear ho2)
    obtain ⟨G9,H0,eo53⟩:=Kd.R_slice B8.out
    (first | subst eo53 | (injection eo53 with f1_ f2_ f3_;have f4_:=f1_.symm;have f5_:=f3_.symm;clear f1_ f2_ f3_;subst f4_;subst f5_))
    obtain ⟨H1,H2,eo54⟩:=Kd.R_slice B9.out
    (first | subst eo54 | (injection eo54 with f1_ f2_ f3_;have f4_:=f1_.symm;have f5_:=f3_.symm;clear f1_ f2_ f3_;subst f4_;subst f5_))
    obtain ⟨H3,H4,eo55⟩:=Kd.R_slice C0.out
    (first | subst eo55 | (injection eo55 with f1_ f2_ f3_;have f4_:=f1_.symm;have f5_:=f3_.symm;clear f1_ f2_ f3_;subst f4_;subst f5_))
    refine hK.out _ _ ⟨cz0 A1,cz1 A1,cz2 A1,cz0 A0,cz1 A0,cz2 A0⟩ (fun hHeld=> ?_)
    clear hK K
    refine norm_ (a':=?_) ?_ ?_
    rotate_left
    ·show Act.put _ (some 24) _=_
     simp only [Act.put,List.setIfInBounds_toArray,List.set_cons_zero,List.set_cons_succ,i64_w,i32_w]
     rfl
    refine one_ (i:=3) (N:=some 25) #[true,true,true,true,false] rfl rfl (by kernel_rfl) (by decide) (fun K hK=> ?_)
    refine goes_ Try.func12 (by kernel_rfl) rfl #[.agg #[.slice D3 t527.length C5,.slice D4 t530.length C6,.slice D5 t533.length C7],.agg #[.slice G9 t538.length H0,.slice H1 t541.length H2,.slice H3 t544.length H4]] (by rfl) rfl rfl laws_FnExactIsFreeSignature.a0 ?_
    with_reducible refine (laws_eqSignature.calls k _ _ t527 _ _ t530 _ _ t533 _ _ t538 _ _ t541 _ _ t544 true _ ?side1 ?side2 ?side3 ?side4 ?side5 ?side6 ?side7 ?side8 ?side9 ?side10 ?side11 ?side12 A31.out).mono ?_
    (case side1=>repeat (first | exact (Kd.R_reads' A6.out).2.2 | (with_reducible refine Kd.C_alloc ?_ _) | (with_reducible refine Kd.C_drewN ?_ _) | (with_reducible refine Kd.C_drew ?_)))
    (case side2=>exact (Kd.R_reads' A6.out).2.1)
    (case side3=>repeat (first | exact (Kd.R_reads' B0.out).2.2 | (with_reducible refine Kd.C_alloc ?_ _) | (with_reducible refine Kd.C_drewN ?_ _) | (with_reducible refine Kd.C_drew ?_)))
    (case side4=>exact (Kd.R_reads' B0.out).2.1)
    (case side5=>repeat (first | exact (Kd.R_reads' B1.out).2.2 | (with_reducible refine Kd.C_alloc ?_ _) | (with_reducible refine Kd.C_drewN ?_ _) | (with_reducible refine Kd.C_drew ?_)))
    (case side6=>exact (Kd.R_reads' B1.out).2.1)
    (case side7=>repeat (first | exact (Kd.R_reads' B8.out).2.2 | (with_reducible refine Kd.C_alloc ?_ _) | (with_reducible refine Kd.C_drewN ?_ _) | (with_reducible refine Kd.C_drew ?_)))
    (case side8=>exact (Kd.R_reads' B8.out).2.1)
    (case side9=>repeat (first | exact (Kd.R_reads' B9.out).2.2 | (with_reducible refine Kd.C_alloc ?_ _) | (with_reducible refine Kd.C_drewN ?_ _) | (with_reducible refine Kd.C_drew ?_)))
    (case side10=>exact (Kd.R_reads' B9.out).2.1)
    (case side11=>repeat (first | exact (Kd.R_reads' C0.out).2.2 | (with_reducible refine Kd.C_alloc ?_ _) | (with_reducible refine Kd.C_drewN ?_ _) | (with_reducible refine Kd.C_drew ?_)))
    (case side12=>exact (Kd.R_reads' C0.out).2.1)
    rintro e w56 ⟨rfl,hb⟩
    refine ⟨_,rfl,?_⟩
    replace A3:=rB A3 hb
    replace A4:=rB A4 hb
    replace A5:=rB A5 hb
    replace A6:=rB A6 hb
    replace B0:=rB B0 hb
    replace B1:=rB B1 hb
    replace B8:=rB B8 hb
    replace B9:=rB B9 hb
    replace C0:=rB C0 hb
    replace A0:=bB A0 hb
    replace A1:=bB A1 hb
    replace HB:=hS HB hb
    (try clear hb)
    (try clear hb2)
    (try clear hk)
    (try clear hi)
    refine hK.out _ _ ⟨cz0 A1,cz1 A1,cz2 A1,cz0 A0,cz1 A0,cz2 A0⟩ (fun hHeld=> ?_)
    clear hK K
    refine norm_ (a':=?_) ?_ ?_
    rotate_left
    ·show Act.put _ (some 25) _=_
     simp only [Act.put,List.setIfInBounds_toArray,List.set_cons_zero,List.set_cons_succ,i64_w,i32_w]
     rfl
    refine pureK 4 26 rfl rfl ?_
    refine done_ (by kernel_rfl) ?_
    try go_wp2
    go_ret
    exact ⟨laws_FnExactIsFreeSignature.a1,hV HB⟩
   ·replace c32:=Bool.eq_false_iff.mpr c32
    subst c32
    rw [if_neg (show ¬ (false=true) by decide)] at H
    obtain rfl:=Option.some.inj H
    go_enter Try.func5,Try.ntmps5
    try go_wp2_with (first | (refine bx 1 rfl #[.slice A0_0 l0_0.length c0_0,.slice A0_1 l0_1.length c0_1,.slice A0_2 l0_2.length c0_2] 28 ?_;intro C3 hg w57 hbox hb;have A0:=Aside0.mk (hbox);have D1:=hZ HB hg;have D2:=hZ HB hg;replace HB:=hS HB hb;clear hb hbox hg;obtain ⟨M9,N0,N1,N2,N3,N4⟩:=cf3 A0) | (refine goK 8 (some 9) rfl Try.func8 #[.agg #[.slice A0_0 l0_0.length c0_0,.slice A0_1 l0_1.length c0_1,.slice A0_2 l0_2.length c0_2],.int .i64 1048576] ?_;(with_reducible refine (laws_szSignature.calls k _ _ l0_0 _ _ l0_1 _ _ l0_2 1048576 t516 _ ?side1 ?side2 ?side3 ?side4 ?side5 ?side6 A2.out).mono ?_);(case side1=>exact cB B2 HB);(case side2=>exact B3.out);(case side3=>exact cB B4 HB);(case side4=>exact B5.out);(case side5=>exact cB B6 HB);(case side6=>exact B7.out);rintro e w59 ⟨rfl,hb⟩;refine ⟨_,rfl,?_⟩;replace A0:=bB A0 hb;replace HB:=hS HB hb;(try clear hb);(try clear hb2);(try clear hk);(try clear hi);obtain ⟨N5,N6,N7,N8,N9,O0⟩:=cf3 A0) | (refine goK 10 (some 13) rfl Try.func10 #[.agg #[.slice A0_0 l0_0.length c0_0,.slice A0_1 l0_1.length c0_1,.slice A0_2 l0_2.length c0_2]] ?_;(with_reducible refine (laws_toSignature.calls k _ _ l0_0 _ _ l0_1 _ _ l0_2 t517 t520 t523 _ ?side1 ?side2 ?side3 ?side4 ?side5 ?side6 A7.out).mono ?_);(case side1=>exact cB B2 HB);(case side2=>exact B3.out);(case side3=>exact cB B4 HB);(case side4=>exact B5.out);(case side5=>exact cB B6 HB);(case side6=>exact B7.out);rintro e w61 ⟨v518,v521,v524,rfl,ho0,ho1,ho2,hb⟩;refine ⟨_,rfl,?_⟩;have A3:=rL ho0 HB;have A4:=rL ho1 HB;have A5:=rL ho2 HB;replace A0:=bB A0 hb;replace HB:=hS HB hb;(try clear hb);(try clear hb2);(try clear hk);(try clear hi);(try clear ho0);(try clear ho1);(try clear ho2);obtain ⟨F9,G0,eo62⟩:=Kd.R_slice A3.out;subst eo62;obtain ⟨G1,G2,eo63⟩:=Kd.R_slice A4.out;subst eo63;obtain ⟨G3,G4,eo64⟩:=Kd.R_slice A5.out;subst eo64) | (refine goK 15 (some 14) rfl Try.func15 #[.agg #[.slice F9 t517.length G0,.slice G1 t520.length G2,.slice G3 t523.length G4]] ?_;(with_reducible refine (spec_IsFreeSignature.calls k _ _ t517 _ _ t520 _ _ t523 t526 _ ?side1 ?side2 ?side3 ?side4 ?side5 ?side6 A8.out).mono ?_);(case side1=>repeat (first | exact (Kd.R_reads' A3.out).2.2 | (with_reducible refine Kd.C_alloc ?_ _) | (with_reducible refine Kd.C_drewN ?_ _) | (with_reducible refine Kd.C_drew ?_)));(case side2=>exact (Kd.R_reads' A3.out).2.1);(case side3=>repeat (first | exact (Kd.R_reads' A4.out).2.2 | (with_reducible refine Kd.C_alloc ?_ _) | (with_reducible refine Kd.C_drewN ?_ _) | (with_reducible refine Kd.C_drew ?_)));(case side4=>exact (Kd.R_reads' A4.out).2.1);(case side5=>repeat (first | exact (Kd.R_reads' A5.out).2.2 | (with_reducible refine Kd.C_alloc ?_ _) | (with_reducible refine Kd.C_drewN ?_ _) | (with_reducible refine Kd.C_drew ?_)));(case side6=>exact (Kd.R_reads' A5.out).2.1);rintro e w65 ⟨rfl,hb⟩;refine ⟨_,rfl,?_⟩;replace A3:=rB A3 hb;replace A4:=rB A4 hb;replace A5:=rB A5 hb;replace A0:=bB A0 hb;replace HB:=hS HB hb;(try clear hb);(try clear hb2);(try clear hk);(try clear hi);obtain ⟨O1,O2,O3,O4,O5,O6⟩:=cf3 A0) | (refine goK 10 (some 16) rfl Try.func10 #[.agg #[.slice A0_0 l0_0.length c0_0,.slice A0_1 l0_1.length c0_1,.slice A0_2 l0_2.length c0_2]] ?_;(with_reducible refine (laws_toSignature.calls k _ _ l0_0 _ _ l0_1 _ _ l0_2 t527 t530 t533 _ ?side1 ?side2 ?side3 ?side4 ?side5 ?side6 A9.out).mono ?_);(case side1=>exact cB B2 HB);(case side2=>exact B3.out);(case side3=>exact cB B4 HB);(case side4=>exact B5.out);(case side5=>exact cB B6 HB);(case side6=>exact B7.out);rintro e w67 ⟨v528,v531,v534,rfl,ho0,ho1,ho2,hb⟩;refine ⟨_,rfl,?_⟩;have A6:=rL (rN ho0 A3) HB;replace A3:=rE A3 ho0 hb;have B0:=rL (rN ho1 A4) HB;replace A4:=rE A4 ho1 hb;have B1:=rL (rN ho2 A5) HB;replace A5:=rE A5 ho2 hb;replace A0:=bB A0 hb;replace HB:=hS HB hb;(try clear hb);(try clear hb2);(try clear hk);(try clear hi);(try clear ho0);(try clear ho1);(try clear ho2)) | (refine bx 5 rfl #[.slice none 0 0,.slice none 0 0,.slice none 0 0] 36 ?_;intro C4 hg w68 hbox hb;replace A3:=rB A3 hb;replace A4:=rB A4 hb;replace A5:=rB A5 hb;replace A6:=rB A6 hb;replace B0:=rB B0 hb;replace B1:=rB B1 hb;have A1:=Aside0.mk (hbox);have E2:=hZ HB hg;have E3:=hZ HB hg;replace HB:=hS HB hb;have C1:=nL A0 hg;have C2:=nG A0 hg;replace A0:=bB A0 hb;clear hb hbox hg;obtain ⟨D6,C8,eo69⟩:=Kd.R_slice A6.out;subst eo69;have Q4:=C2.out;have Q5:=C1.out;obtain ⟨O7,O8,O9,P0,P1,P2⟩:=cf3 A1;obtain ⟨D7,C9,eo72⟩:=Kd.R_slice B0.out;subst eo72;obtain ⟨D8,D0,eo73⟩:=Kd.R_slice B1.out;subst eo73) | (refine goK 16 (some 18) rfl Try.func16 #[.agg #[.slice D6 t527.length C8,.slice D7 t530.length C9,.slice D8 t533.length D0]] ?_;(with_reducible refine (impl_IsFreeSignature.calls k _ _ t527 _ _ t530 _ _ t533 t537 _ ?side1 ?side2 ?side3 ?side4 ?side5 ?side6 A10.out).mono ?_);(case side1=>refine (Kd.R_reads' (e:=9) (base:=w.heap.size) (ok:=fun k_=>(True∧some k_≠(.slice F9 t517.length G0:Value).ownBlock)) (n:=t527.length) (c:=C8) ?_).2.2;exact (rT A6 A1 (fun _ h_=>h_.1)));(case side2=>exact (Kd.R_reads' A6.out).2.1);(case side3=>refine (Kd.R_reads' (e:=89) (base:=w.heap.size) (ok:=fun k_=>(True∧some k_≠(.slice G1 t520.length G2:Value).ownBlock)) (n:=t530.length) (c:=C9) ?_).2.2;exact (rT B0 A1 (fun _ h_=>h_.1)));(case side4=>exact (Kd.R_reads' B0.out).2.1);(case side5=>refine (Kd.R_reads' (e:=50) (base:=w.heap.size) (ok:=fun k_=>(True∧some k_≠(.slice G3 t523.length G4:Value).ownBlock)) (n:=t533.length) (c:=D0) ?_).2.2;exact (rT B1 A1 (fun _ h_=>h_.1)));(case side6=>exact (Kd.R_reads' B1.out).2.1);rintro e w74 ⟨rfl,hb⟩;refine ⟨_,rfl,?_⟩;replace A3:=rF A3 A1 hb;replace A4:=rF A4 A1 hb;replace A5:=rF A5 A1 hb;replace A6:=rF A6 A1 hb;replace B0:=rF B0 A1 hb;replace B1:=rF B1 A1 hb;replace A0:=bB A0 hb;replace A1:=bP (o:=.cells #[.slice D6 t527.length C8,.slice D7 t530.length C9,.slice D8 t533.length D0] 36 (0,0)) A1 hb;replace HB:=hS HB hb;(try clear hb);(try clear hb2);(try clear hk);(try clear hi)))
    replace A3:=Aside0.mk (Kd.R_drew A3.out)
    replace A4:=Aside0.mk (Kd.R_drew A4.out)
    replace A5:=Aside0.mk (Kd.R_drew A5.out)
    replace A6:=Aside0.mk (Kd.R_drew A6.out)
    replace B0:=Aside0.mk (Kd.R_drew B0.out)
    replace B1:=Aside0.mk (Kd.R_drew B1.out)
    replace A0:=Aside0.mk (blk_drew A0.out)
    replace A1:=Aside0.mk (blk_drew A1.out)
    replace HB:=Aside0.mk (below_drew1 HB.out)
    refine start_ (n:=5) (S:=fun w'=>w'.cell? ⟨C4,0,none⟩=some (.slice D6 t527.length C8)∧w'.cell? ⟨C4,1,none⟩=some (.slice D7 t530.length C9)∧w'.cell? ⟨C4,2,none⟩=some (.slice D8 t533.length D0)∧w'.cell? ⟨C3,0,none⟩=some (.slice A0_0 l0_0.length c0_0)∧w'.cell? ⟨C3,1,none⟩=some (.slice A0_1 l0_1.length c0_1)∧w'.cell? ⟨C3,2,none⟩=some (.slice A0_2 l0_2.length c0_2)) (ds:=[]) #[false,false,false,false,false] (by kernel_rfl) rfl rfl ⟨cz0 A1,cz1 A1,cz2 A1,cz0 A0,cz1 A0,cz2 A0⟩ (fun hHeld=> ?_)
    generalize w74.drew=w75 at A3 A4 A5 A6 B0 B1 A0 A1 HB hHeld ⊢
    refine takeK 0 22 rfl rfl hHeld ?_ laws_FnExactIsFreeSignature.a2
    refine takeK 1 23 rfl rfl hHeld ?_ laws_FnExactIsFreeSignature.a2
    refine one_ (i:=2) (N:=some 24) #[true,true,true,false,false] rfl rfl (by kernel_rfl) (by decide) (fun K hK=> ?_)
    refine goes_ Try.func10 (by kernel_rfl) rfl #[.agg #[.slice A0_0 l0_0.length c0_0,.slice A0_1 l0_1.length c0_1,.slice A0_2 l0_2.length c0_2]] (by rfl) rfl rfl laws_FnExactIsFreeSignature.a0 ?_
    with_reducible refine (laws_toSignature.calls k _ _ l0_0 _ _ l0_1 _ _ l0_2 t538 t541 t544 _ ?side1 ?side2 ?side3 ?side4 ?side5 ?side6 A30.out).mono ?_
    (case side1=>exact cB B2 HB)
    (case side2=>exact B3.out)
    (case side3=>exact cB B4 HB)
    (case side4=>exact B5.out)
    (case side5=>exact cB B6 HB)
    (case side6=>exact B7.out)
    rintro e w76 ⟨v539,v542,v545,rfl,ho0,ho1,ho2,hb⟩
    refine ⟨_,rfl,?_⟩
    have B8:=rL (rN (rN ho0 A3) A6) HB
    replace A3:=rE A3 ho0 hb
    replace A6:=rE A6 ho0 hb
    have B9:=rL (rN (rN ho1 A4) B0) HB
    replace A4:=rE A4 ho1 hb
    replace B0:=rE B0 ho1 hb
    have C0:=rL (rN (rN ho2 A5) B1) HB
    replace A5:=rE A5 ho2 hb
    replace B1:=rE B1 ho2 hb
    replace A0:=bB A0 hb
    replace A1:=bB A1 hb
    replace HB:=hS HB hb
    (try clear hb)
    (try clear hb2)
    (try clear hk)
    (try clear hi)
    (try clear ho0)
    (try clear ho1)
    (try clear ho2)
    obtain ⟨H5,H6,eo77⟩:=Kd.R_slice B8.out
    (first | subst eo77 | (injection eo77 with f1_ f2_ f3_;have f4_:=f1_.symm;have f5_:=f3_.symm;clear f1_ f2_ f3_;subst f4_;subst f5_))
    obtain ⟨H7,H8,eo78⟩:=Kd.R_slice B9.out
    (first | subst eo78 | (injection eo78 with f1_ f2_ f3_;have f4_:=f1_.symm;have f5_:=f3_.symm;clear f1_ f2_ f3_;subst f4_;subst f5_))
    obtain ⟨H9,I0,eo79⟩:=Kd.R_slice C0.out
    (first | subst eo79 | (injection eo79 with f1_ f2_ f3_;have f4_:=f1_.symm;have f5_:=f3_.symm;clear f1_ f2_ f3_;subst f4_;subst f5_))
    refine hK.out _ _ ⟨cz0 A1,cz1 A1,cz2 A1,cz0 A0,cz1 A0,cz2 A0⟩ (fun hHeld=> ?_)
    clear hK K
    refine norm_ (a':=?_) ?_ ?_
    rotate_left
    ·show Act.put _ (some 24) _=_
     simp only [Act.put,List.setIfInBounds_toArray,List.set_cons_zero,List.set_cons_succ,i64_w,i32_w]
     rfl
    refine one_ (i:=3) (N:=some 25) #[true,true,true,true,false] rfl rfl (by kernel_rfl) (by decide) (fun K hK=> ?_)
    refine goes_ Try.func12 (by kernel_rfl) rfl #[.agg #[.slice D6 t527.length C8,.slice D7 t530.length C9,.slice D8 t533.length D0],.agg #[.slice H5 t538.length H6,.slice H7 t541.length H8,.slice H9 t544.length I0]] (by rfl) rfl rfl laws_FnExactIsFreeSignature.a0 ?_
    with_reducible refine (laws_eqSignature.calls k _ _ t527 _ _ t530 _ _ t533 _ _ t538 _ _ t541 _ _ t544 false _ ?side1 ?side2 ?side3 ?side4 ?side5 ?side6 ?side7 ?side8 ?side9 ?side10 ?side11 ?side12 A31.out).mono ?_
    (case side1=>repeat (first | exact (Kd.R_reads' A6.out).2.2 | (with_reducible refine Kd.C_alloc ?_ _) | (with_reducible refine Kd.C_drewN ?_ _) | (with_reducible refine Kd.C_drew ?_)))
    (case side2=>exact (Kd.R_reads' A6.out).2.1)
    (case side3=>repeat (first | exact (Kd.R_reads' B0.out).2.2 | (with_reducible refine Kd.C_alloc ?_ _) | (with_reducible refine Kd.C_drewN ?_ _) | (with_reducible refine Kd.C_drew ?_)))
    (case side4=>exact (Kd.R_reads' B0.out).2.1)
    (case side5=>repeat (first | exact (Kd.R_reads' B1.out).2.2 | (with_reducible refine Kd.C_alloc ?_ _) | (with_reducible refine Kd.C_drewN ?_ _) | (with_reducible refine Kd.C_drew ?_)))
    (case side6=>exact (Kd.R_reads' B1.out).2.1)
    (case side7=>repeat (first | exact (Kd.R_reads' B8.out).2.2 | (with_reducible refine Kd.C_alloc ?_ _) | (with_reducible refine Kd.C_drewN ?_ _) | (with_reducible refine Kd.C_drew ?_)))
    (case side8=>exact (Kd.R_reads' B8.out).2.1)
    (case side9=>repeat (first | exact (Kd.R_reads' B9.out).2.2 | (with_reducible refine Kd.C_alloc ?_ _) | (with_reducible refine Kd.C_drewN ?_ _) | (with_reducible refine Kd.C_drew ?_)))
    (case side10=>exact (Kd.R_reads' B9.out).2.1)
    (case side11=>repeat (first | exact (Kd.R_reads' C0.out).2.2 | (with_reducible refine Kd.C_alloc ?_ _) | (with_reducible refine Kd.C_drewN ?_ _) | (with_reducible refine Kd.C_drew ?_)))
    (case side12=>exact (Kd.R_reads' C0.out).2.1)
    rintro e w80 ⟨rfl,hb⟩
    refine ⟨_,rfl,?_⟩
    replace A3:=rB A3 hb
    replace A4:=rB A4 hb
    replace A5:=rB A5 hb
    replace A6:=rB A6 hb
    replace B0:=rB B0 hb
    replace B1:=rB B1 hb
    replace B8:=rB B8 hb
    replace B9:=rB B9 hb
    replace C0:=rB C0 hb
    replace A0:=bB A0 hb
    replace A1:=bB A1 hb
    replace HB:=hS HB hb
    (try clear hb)
    (try clear hb2)
    (try clear hk)
    (try clear hi)
    refine hK.out _ _ ⟨cz0 A1,cz1 A1,cz2 A1,cz0 A0,cz1 A0,cz2 A0⟩ (fun hHeld=> ?_)
    clear hK K
    refine norm_ (a':=?_) ?_ ?_
    rotate_left
    ·show Act.put _ (some 25) _=_
     simp only [Act.put,List.setIfInBounds_toArray,List.set_cons_zero,List.set_cons_succ,i64_w,i32_w]
     rfl
    refine pureK 4 26 rfl rfl ?_
    refine done_ (by kernel_rfl) ?_
    try go_wp2
    go_ret
    exact ⟨laws_FnExactIsFreeSignature.a1,hV HB⟩

/-! ### spec_FindOp: function 17 -/
/-! ### spec_l3Close: function 80 -/
/-! ### spec_l7Give: function 74 -/
end Go.Proofs.Ytpildjbakceicaa.Q

