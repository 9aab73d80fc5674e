/- Functions of the program as plain Lean functions,and that the calls come to what they say. -/
import Derived.Test.YtpildjbakceicaaZQx0hb61c0
import Derived.Test.YtpildjbakceicaaZQx1h3e7cd
import Derived.Test.YtpildjbakceicaaZQx8h91bd6
import Derived.Test.YtpildjbakceicaaZQx9h74e80
import Derived.Test.YtpildjbakceicaaZQx17h31d5f
import Derived.Test.YtpildjbakceicaaZQx19he4aed
import Derived.Test.YtpildjbakceicaaZShorthc96c8
namespace Go.Proofs.Ytpildjbakceicaa.Q
open Go.RowKit Go.Proofs.YtpildjbakceicaaW.PrintWords Go.Proofs.YtpildjbakceicaaW.PrintLast Go.Proofs.YtpildjbakceicaaW.PrintMore
attribute [local go_sem] max2_int min2_int max_two min_two max_three min_three max_four min_four   -- for this text's walks alone
set_option linter.unusedVariables false
set_option linter.unusedSimpArgs false

/-! ### laws_FnExactArityOf: function 4 -/
theorem laws_FnExactArityOf.a0 {P_:Prop} (h_:P_:=by (try simp only [List.map_toArray,List.map_cons,List.map_nil]);first | done | rfl | (simp only [List.length_drop,List.length_take];rfl)):P_:=h_
theorem laws_FnExactArityOf.a1 {P_:Prop} (h_:P_:=by first | rfl | (simp [errW_none,errW_some] <;> rfl) | (simp [*,errW_none,errW_some] <;> rfl)):P_:=h_
theorem laws_FnExactArityOf.a2 {P_:Prop} (h_:P_:=by rintro w' ⟨s0,s1,s2,s3,s4,s5⟩;go_simp;with_reducible rfl):P_:=h_
def laws_FnExactArityOf.f (k:Nat) (l0_0:List ByteArray) (l0_1:List (S107)) (l0_2:List (S86)) (a1:Int):Option (Bool):=(laws_szSignature.f k l0_0 l0_1 l0_2 1048576).bind fun t475=>(if t475 < 0 then (some true) else ((laws_toSignature.f k l0_0 l0_1 l0_2).bind fun bt476=>((spec_ArityOf.f k bt476.1 bt476.2.1 bt476.2.2 a1).bind fun t485=>((laws_toSignature.f k l0_0 l0_1 l0_2).bind fun bt486=>((impl_ArityOf.f k bt486.1 bt486.2.1 bt486.2.2 a1).bind fun t496=>(if t496=t485 then ((laws_toSignature.f k l0_0 l0_1 l0_2).bind fun bt497=>((laws_eqSignature.f k bt486.1 bt486.2.1 bt486.2.2 bt497.1 bt497.2.1 bt497.2.2).bind fun t506=>(if t506=true then (some true) else (some false)))) else (some false)))))))
set_option maxHeartbeats 8000000 in
set_option maxRecDepth 100000 in
theorem laws_FnExactArityOf.calls (k:Nat) (A0_0:Option Addr) (c0_0:Nat) (l0_0:List ByteArray) (A0_1:Option Addr) (c0_1:Nat) (l0_1:List (S107)) (A0_2:Option Addr) (c0_2:Nat) (l0_2:List (S86)) (a1:Int) (r:Bool) (w:World) (hr0_0:Kd.C Kd.string w A0_0 l0_0.length l0_0) (hc0_0:l0_0.length≤c0_0) (hr0_1:Kd.C k107 w A0_1 l0_1.length l0_1) (hc0_1:l0_1.length≤c0_1) (hr0_2:Kd.C k86 w A0_2 l0_2.length l0_2) (hc0_2:l0_2.length≤c0_2) (h:laws_FnExactArityOf.f k l0_0 l0_1 l0_2 a1=some r) :
  Calls Try.prog 4 #[.agg #[.slice A0_0 l0_0.length c0_0,.slice A0_1 l0_1.length c0_1,.slice A0_2 l0_2.length c0_2],.int .i64 a1] w fun e w'=>e=.returned (.bool r)∧Below w.heap.size w w':=by
 have hu28:=Try.underlying28
 have hu36:=Try.underlying36
 have B1:=Aside0.mk hr0_0
 have B2:=Aside0.mk hc0_0
 clear hr0_0 hc0_0
 have B3:=Aside0.mk hr0_1
 have B4:=Aside0.mk hc0_1
 clear hr0_1 hc0_1
 have B5:=Aside0.mk hr0_2
 have B6:=Aside0.mk hc0_2
 clear hr0_2 hc0_2
 have HB:=Aside0.mk (Below.refl w.heap.size w)
 have H:((laws_szSignature.f k l0_0 l0_1 l0_2 1048576).bind fun t475=>(if t475 < 0 then (some true) else ((laws_toSignature.f k l0_0 l0_1 l0_2).bind fun bt476=>((spec_ArityOf.f k bt476.1 bt476.2.1 bt476.2.2 a1).bind fun t485=>((laws_toSignature.f k l0_0 l0_1 l0_2).bind fun bt486=>((impl_ArityOf.f k bt486.1 bt486.2.1 bt486.2.2 a1).bind fun t496=>(if t496=t485 then ((laws_toSignature.f k l0_0 l0_1 l0_2).bind fun bt497=>((laws_eqSignature.f k bt486.1 bt486.2.1 bt486.2.2 bt497.1 bt497.2.1 bt497.2.2).bind fun t506=>(if t506=true then (some true) else (some false)))) else (some false))))))))=some r:=h
 clear h
 replace H:=Option.bind_eq_some_iff.mp H
 obtain ⟨t475,A30,H⟩:=H
 replace H:(if t475 < 0 then (some true) else ((laws_toSignature.f k l0_0 l0_1 l0_2).bind fun bt476=>((spec_ArityOf.f k bt476.1 bt476.2.1 bt476.2.2 a1).bind fun t485=>((laws_toSignature.f k l0_0 l0_1 l0_2).bind fun bt486=>((impl_ArityOf.f k bt486.1 bt486.2.1 bt486.2.2 a1).bind fun t496=>(if t496=t485 then ((laws_toSignature.f k l0_0 l0_1 l0_2).bind fun bt497=>((laws_eqSignature.f k bt486.1 bt486.2.1 bt486.2.2 bt497.1 bt497.2.1 bt497.2.2).bind fun t506=>(if t506=true then (some true) else (some false)))) else (some false)))))))=some r:=H
 have A3:=Aside0.mk A30
 clear A30
 by_cases c4:t475 < 0
 ·rw [if_pos c4] at H
  have G6:=decide_eq_true c4
  clear c4
  obtain rfl:=Option.some.inj H
  go_enter Try.func4,Try.ntmps4
  go_wp2_with (first | (refine bx 2 rfl #[.slice A0_0 l0_0.length c0_0,.slice A0_1 l0_1.length c0_1,.slice A0_2 l0_2.length c0_2] 28 ?_;intro C2 hg w5 hbox hb;have A0:=Aside0.mk (hbox);have D0:=hZ HB hg;have D1:=hZ HB hg;replace HB:=hS HB hb;clear hb hbox hg;obtain ⟨P1,P2,P3,P4,P5,P6⟩:=cf3 A0) | (refine goK 8 (some 11) rfl Try.func8 #[.agg #[.slice A0_0 l0_0.length c0_0,.slice A0_1 l0_1.length c0_1,.slice A0_2 l0_2.length c0_2],.int .i64 1048576] ?_;(with_reducible refine (laws_szSignature.calls k _ _ l0_0 _ _ l0_1 _ _ l0_2 1048576 t475 _ ?side1 ?side2 ?side3 ?side4 ?side5 ?side6 A3.out).mono ?_);(case side1=>exact cB B1 HB);(case side2=>exact B2.out);(case side3=>exact cB B3 HB);(case side4=>exact B4.out);(case side5=>exact cB B5 HB);(case side6=>exact B6.out);rintro e w7 ⟨rfl,hb⟩;refine ⟨_,rfl,?_⟩;replace A0:=bB A0 hb;replace HB:=hS HB hb;(try clear hb);(try clear hb2);(try clear hk);(try clear hi)))
  go_ret
  exact ⟨laws_FnExactArityOf.a1,hV HB⟩
 ·rw [if_neg c4] at H
  have G6:=decide_eq_false c4
  clear c4
  replace H:=Option.bind_eq_some_iff.mp H
  obtain ⟨⟨t476,t479,t482⟩,A80,H⟩:=H
  replace H:((spec_ArityOf.f k t476 t479 t482 a1).bind fun t485=>((laws_toSignature.f k l0_0 l0_1 l0_2).bind fun bt486=>((impl_ArityOf.f k bt486.1 bt486.2.1 bt486.2.2 a1).bind fun t496=>(if t496=t485 then ((laws_toSignature.f k l0_0 l0_1 l0_2).bind fun bt497=>((laws_eqSignature.f k bt486.1 bt486.2.1 bt486.2.2 bt497.1 bt497.2.1 bt497.2.2).bind fun t506=>(if t506=true then (some true) else (some false)))) else (some false)))))=some r:=H
  have A8:=Aside0.mk A80
  clear A80
  replace H:=Option.bind_eq_some_iff.mp H
  obtain ⟨t485,A90,H⟩:=H
  replace H:((laws_toSignature.f k l0_0 l0_1 l0_2).bind fun bt486=>((impl_ArityOf.f k bt486.1 bt486.2.1 bt486.2.2 a1).bind fun t496=>(if t496=t485 then ((laws_toSignature.f k l0_0 l0_1 l0_2).bind fun bt497=>((laws_eqSignature.f k bt486.1 bt486.2.1 bt486.2.2 bt497.1 bt497.2.1 bt497.2.2).bind fun t506=>(if t506=true then (some true) else (some false)))) else (some false))))=some r:=H
  have A9:=Aside0.mk A90
  clear A90
  replace H:=Option.bind_eq_some_iff.mp H
  obtain ⟨⟨t486,t489,t492⟩,A100,H⟩:=H
  replace H:((impl_ArityOf.f k t486 t489 t492 a1).bind fun t496=>(if t496=t485 then ((laws_toSignature.f k l0_0 l0_1 l0_2).bind fun bt497=>((laws_eqSignature.f k t486 t489 t492 bt497.1 bt497.2.1 bt497.2.2).bind fun t506=>(if t506=true then (some true) else (some false)))) else (some false)))=some r:=H
  have A10:=Aside0.mk A100
  clear A100
  replace H:=Option.bind_eq_some_iff.mp H
  obtain ⟨t496,A110,H⟩:=H
  replace H:(if t496=t485 then ((laws_toSignature.f k l0_0 l0_1 l0_2).bind fun bt497=>((laws_eqSignature.f k t486 t489 t492 bt497.1 bt497.2.1 bt497.2.2).bind fun t506=>(if t506=true then (some true) else (some false)))) else (some false))=some r:=H
  have A11:=Aside0.mk A110
  clear A110
  by_cases c12:t496=t485
  ·rw [if_pos c12] at H
   have G4:(t496 == t485)=true:=beq_iff_eq.mpr c12
   have G5:(t496 != t485)=false:=bne_eq_false_iff_eq.mpr c12
   clear c12
   replace H:=Option.bind_eq_some_iff.mp H
   obtain ⟨⟨t497,t500,t503⟩,A130,H⟩:=H
   replace H:((laws_eqSignature.f k t486 t489 t492 t497 t500 t503).bind fun t506=>(if t506=true then (some true) else (some false)))=some r:=H
   have A13:=Aside0.mk A130
   clear A130
   replace H:=Option.bind_eq_some_iff.mp H
   obtain ⟨t506,A140,H⟩:=H
   replace H:(if t506=true then (some true) else (some false))=some r:=H
   have A14:=Aside0.mk A140
   clear A140
   by_cases c15:t506=true
   ·subst c15
    rw [if_pos rfl] at H
    obtain rfl:=Option.some.inj H
    go_enter Try.func4,Try.ntmps4
    try go_wp2_with (first | (refine bx 2 rfl #[.slice A0_0 l0_0.length c0_0,.slice A0_1 l0_1.length c0_1,.slice A0_2 l0_2.length c0_2] 28 ?_;intro C2 hg w16 hbox hb;have A0:=Aside0.mk (hbox);have D0:=hZ HB hg;have D1:=hZ HB hg;replace HB:=hS HB hb;clear hb hbox hg;obtain ⟨H9,I0,I1,I2,I3,I4⟩:=cf3 A0) | (refine goK 8 (some 11) rfl Try.func8 #[.agg #[.slice A0_0 l0_0.length c0_0,.slice A0_1 l0_1.length c0_1,.slice A0_2 l0_2.length c0_2],.int .i64 1048576] ?_;(with_reducible refine (laws_szSignature.calls k _ _ l0_0 _ _ l0_1 _ _ l0_2 1048576 t475 _ ?side1 ?side2 ?side3 ?side4 ?side5 ?side6 A3.out).mono ?_);(case side1=>exact cB B1 HB);(case side2=>exact B2.out);(case side3=>exact cB B3 HB);(case side4=>exact B4.out);(case side5=>exact cB B5 HB);(case side6=>exact B6.out);rintro e w18 ⟨rfl,hb⟩;refine ⟨_,rfl,?_⟩;replace A0:=bB A0 hb;replace HB:=hS HB hb;(try clear hb);(try clear hb2);(try clear hk);(try clear hi);obtain ⟨I5,I6,I7,I8,I9,J0⟩:=cf3 A0) | (refine goK 10 (some 15) rfl Try.func10 #[.agg #[.slice A0_0 l0_0.length c0_0,.slice A0_1 l0_1.length c0_1,.slice A0_2 l0_2.length c0_2]] ?_;(with_reducible refine (laws_toSignature.calls k _ _ l0_0 _ _ l0_1 _ _ l0_2 t476 t479 t482 _ ?side1 ?side2 ?side3 ?side4 ?side5 ?side6 A8.out).mono ?_);(case side1=>exact cB B1 HB);(case side2=>exact B2.out);(case side3=>exact cB B3 HB);(case side4=>exact B4.out);(case side5=>exact cB B5 HB);(case side6=>exact B6.out);rintro e w20 ⟨v477,v480,v483,rfl,ho0,ho1,ho2,hb⟩;refine ⟨_,rfl,?_⟩;have A2:=rL ho0 HB;have A4:=rL ho1 HB;have A5:=rL ho2 HB;replace A0:=bB A0 hb;replace HB:=hS HB hb;(try clear hb);(try clear hb2);(try clear hk);(try clear hi);(try clear ho0);(try clear ho1);(try clear ho2);obtain ⟨E3,E4,eo21⟩:=Kd.R_slice A2.out;subst eo21;obtain ⟨E5,E6,eo22⟩:=Kd.R_slice A4.out;subst eo22;obtain ⟨E7,E8,eo23⟩:=Kd.R_slice A5.out;subst eo23) | (refine goK 13 (some 17) rfl Try.func13 #[.agg #[.slice E3 t476.length E4,.slice E5 t479.length E6,.slice E7 t482.length E8],.int .i64 a1] ?_;(with_reducible refine (spec_ArityOf.calls k _ _ t476 _ _ t479 _ _ t482 a1 t485 _ ?side1 ?side2 ?side3 ?side4 ?side5 ?side6 A9.out).mono ?_);(case side1=>repeat (first | exact (Kd.R_reads' A2.out).2.2 | (with_reducible refine Kd.C_alloc ?_ _) | (with_reducible refine Kd.C_drewN ?_ _) | (with_reducible refine Kd.C_drew ?_)));(case side2=>exact (Kd.R_reads' A2.out).2.1);(case side3=>repeat (first | exact (Kd.R_reads' A4.out).2.2 | (with_reducible refine Kd.C_alloc ?_ _) | (with_reducible refine Kd.C_drewN ?_ _) | (with_reducible refine Kd.C_drew ?_)));(case side4=>exact (Kd.R_reads' A4.out).2.1);(case side5=>repeat (first | exact (Kd.R_reads' A5.out).2.2 | (with_reducible refine Kd.C_alloc ?_ _) | (with_reducible refine Kd.C_drewN ?_ _) | (with_reducible refine Kd.C_drew ?_)));(case side6=>exact (Kd.R_reads' A5.out).2.1);rintro e w24 ⟨rfl,hb⟩;refine ⟨_,rfl,?_⟩;replace A2:=rB A2 hb;replace A4:=rB A4 hb;replace A5:=rB A5 hb;replace A0:=bB A0 hb;replace HB:=hS HB hb;(try clear hb);(try clear hb2);(try clear hk);(try clear hi);obtain ⟨J1,J2,J3,J4,J5,J6⟩:=cf3 A0) | (refine goK 10 (some 19) rfl Try.func10 #[.agg #[.slice A0_0 l0_0.length c0_0,.slice A0_1 l0_1.length c0_1,.slice A0_2 l0_2.length c0_2]] ?_;(with_reducible refine (laws_toSignature.calls k _ _ l0_0 _ _ l0_1 _ _ l0_2 t486 t489 t492 _ ?side1 ?side2 ?side3 ?side4 ?side5 ?side6 A10.out).mono ?_);(case side1=>exact cB B1 HB);(case side2=>exact B2.out);(case side3=>exact cB B3 HB);(case side4=>exact B4.out);(case side5=>exact cB B5 HB);(case side6=>exact B6.out);rintro e w26 ⟨v487,v490,v493,rfl,ho0,ho1,ho2,hb⟩;refine ⟨_,rfl,?_⟩;have A6:=rL (rN ho0 A2) HB;replace A2:=rE A2 ho0 hb;have A7:=rL (rN ho1 A4) HB;replace A4:=rE A4 ho1 hb;have B0:=rL (rN ho2 A5) HB;replace A5:=rE A5 ho2 hb;replace A0:=bB A0 hb;replace HB:=hS HB hb;(try clear hb);(try clear hb2);(try clear hk);(try clear hi);(try clear ho0);(try clear ho1);(try clear ho2)) | (refine bx 7 rfl #[.slice none 0 0,.slice none 0 0,.slice none 0 0] 36 ?_;intro C3 hg w27 hbox hb;replace A2:=rB A2 hb;replace A4:=rB A4 hb;replace A5:=rB A5 hb;replace A6:=rB A6 hb;replace A7:=rB A7 hb;replace B0:=rB B0 hb;have A1:=Aside0.mk (hbox);have E1:=hZ HB hg;have E2:=hZ HB hg;replace HB:=hS HB hb;have C0:=nL A0 hg;have C1:=nG A0 hg;replace A0:=bB A0 hb;clear hb hbox hg;obtain ⟨D2,C4,eo28⟩:=Kd.R_slice A6.out;subst eo28;have P7:=C1.out;have P8:=C0.out;obtain ⟨J7,J8,J9,K0,K1,K2⟩:=cf3 A1;obtain ⟨D3,C5,eo31⟩:=Kd.R_slice A7.out;subst eo31;obtain ⟨D4,C6,eo32⟩:=Kd.R_slice B0.out;subst eo32) | (refine goK 14 (some 22) rfl Try.func14 #[.agg #[.slice D2 t486.length C4,.slice D3 t489.length C5,.slice D4 t492.length C6],.int .i64 a1] ?_;(with_reducible refine (impl_ArityOf.calls k _ _ t486 _ _ t489 _ _ t492 a1 t496 _ ?side1 ?side2 ?side3 ?side4 ?side5 ?side6 A11.out).mono ?_);(case side1=>refine (Kd.R_reads' (e:=9) (base:=w.heap.size) (ok:=fun k_=>(True∧some k_≠(.slice E3 t476.length E4:Value).ownBlock)) (n:=t486.length) (c:=C4) ?_).2.2;exact (rT A6 A1 (fun _ h_=>h_.1)));(case side2=>exact (Kd.R_reads' A6.out).2.1);(case side3=>refine (Kd.R_reads' (e:=89) (base:=w.heap.size) (ok:=fun k_=>(True∧some k_≠(.slice E5 t479.length E6:Value).ownBlock)) (n:=t489.length) (c:=C5) ?_).2.2;exact (rT A7 A1 (fun _ h_=>h_.1)));(case side4=>exact (Kd.R_reads' A7.out).2.1);(case side5=>refine (Kd.R_reads' (e:=50) (base:=w.heap.size) (ok:=fun k_=>(True∧some k_≠(.slice E7 t482.length E8:Value).ownBlock)) (n:=t492.length) (c:=C6) ?_).2.2;exact (rT B0 A1 (fun _ h_=>h_.1)));(case side6=>exact (Kd.R_reads' B0.out).2.1);rintro e w33 ⟨rfl,hb⟩;refine ⟨_,rfl,?_⟩;replace A2:=rF A2 A1 hb;replace A4:=rF A4 A1 hb;replace A5:=rF A5 A1 hb;replace A6:=rF A6 A1 hb;replace A7:=rF A7 A1 hb;replace B0:=rF B0 A1 hb;replace A0:=bB A0 hb;replace A1:=bP (o:=.cells #[.slice D2 t486.length C4,.slice D3 t489.length C5,.slice D4 t492.length C6] 36 (0,0)) A1 hb;replace HB:=hS HB hb;(try clear hb);(try clear hb2);(try clear hk);(try clear hi)))
    replace A2:=Aside0.mk (Kd.R_drew A2.out)
    replace A4:=Aside0.mk (Kd.R_drew A4.out)
    replace A5:=Aside0.mk (Kd.R_drew A5.out)
    replace A6:=Aside0.mk (Kd.R_drew A6.out)
    replace A7:=Aside0.mk (Kd.R_drew A7.out)
    replace B0:=Aside0.mk (Kd.R_drew B0.out)
    replace A0:=Aside0.mk (blk_drew A0.out)
    replace A1:=Aside0.mk (blk_drew A1.out)
    replace HB:=Aside0.mk (below_drew1 HB.out)
    refine start_ (n:=5) (S:=fun w'=>w'.cell? ⟨C3,0,none⟩=some (.slice D2 t486.length C4)∧w'.cell? ⟨C3,1,none⟩=some (.slice D3 t489.length C5)∧w'.cell? ⟨C3,2,none⟩=some (.slice D4 t492.length C6)∧w'.cell? ⟨C2,0,none⟩=some (.slice A0_0 l0_0.length c0_0)∧w'.cell? ⟨C2,1,none⟩=some (.slice A0_1 l0_1.length c0_1)∧w'.cell? ⟨C2,2,none⟩=some (.slice A0_2 l0_2.length c0_2)) (ds:=[]) #[false,false,false,false,false] (by kernel_rfl) rfl rfl ⟨cz0 A1,cz1 A1,cz2 A1,cz0 A0,cz1 A0,cz2 A0⟩ (fun hHeld=> ?_)
    generalize w33.drew=w34 at A2 A4 A5 A6 A7 B0 A0 A1 HB hHeld ⊢
    refine takeK 0 26 rfl rfl hHeld ?_ laws_FnExactArityOf.a2
    refine takeK 1 27 rfl rfl hHeld ?_ laws_FnExactArityOf.a2
    refine one_ (i:=2) (N:=some 28) #[true,true,true,false,false] rfl rfl (by kernel_rfl) (by decide) (fun K hK=> ?_)
    refine goes_ Try.func10 (by kernel_rfl) rfl #[.agg #[.slice A0_0 l0_0.length c0_0,.slice A0_1 l0_1.length c0_1,.slice A0_2 l0_2.length c0_2]] (by rfl) rfl rfl laws_FnExactArityOf.a0 ?_
    with_reducible refine (laws_toSignature.calls k _ _ l0_0 _ _ l0_1 _ _ l0_2 t497 t500 t503 _ ?side1 ?side2 ?side3 ?side4 ?side5 ?side6 A13.out).mono ?_
    (case side1=>exact cB B1 HB)
    (case side2=>exact B2.out)
    (case side3=>exact cB B3 HB)
    (case side4=>exact B4.out)
    (case side5=>exact cB B5 HB)
    (case side6=>exact B6.out)
    rintro e w35 ⟨v498,v501,v504,rfl,ho0,ho1,ho2,hb⟩
    refine ⟨_,rfl,?_⟩
    have B7:=rL (rN (rN ho0 A2) A6) HB
    replace A2:=rE A2 ho0 hb
    replace A6:=rE A6 ho0 hb
    have B8:=rL (rN (rN ho1 A4) A7) HB
    replace A4:=rE A4 ho1 hb
    replace A7:=rE A7 ho1 hb
    have B9:=rL (rN (rN ho2 A5) B0) HB
    replace A5:=rE A5 ho2 hb
    replace B0:=rE B0 ho2 hb
    replace A0:=bB A0 hb
    replace A1:=bB A1 hb
    replace HB:=hS HB hb
    (try clear hb)
    (try clear hb2)
    (try clear hk)
    (try clear hi)
    (try clear ho0)
    (try clear ho1)
    (try clear ho2)
    obtain ⟨G7,G8,eo36⟩:=Kd.R_slice B7.out
    (first | subst eo36 | (injection eo36 with f1_ f2_ f3_;have f4_:=f1_.symm;have f5_:=f3_.symm;clear f1_ f2_ f3_;subst f4_;subst f5_))
    obtain ⟨G9,H0,eo37⟩:=Kd.R_slice B8.out
    (first | subst eo37 | (injection eo37 with f1_ f2_ f3_;have f4_:=f1_.symm;have f5_:=f3_.symm;clear f1_ f2_ f3_;subst f4_;subst f5_))
    obtain ⟨H1,H2,eo38⟩:=Kd.R_slice B9.out
    (first | subst eo38 | (injection eo38 with f1_ f2_ f3_;have f4_:=f1_.symm;have f5_:=f3_.symm;clear f1_ f2_ f3_;subst f4_;subst f5_))
    refine hK.out _ _ ⟨cz0 A1,cz1 A1,cz2 A1,cz0 A0,cz1 A0,cz2 A0⟩ (fun hHeld=> ?_)
    clear hK K
    refine norm_ (a':=?_) ?_ ?_
    rotate_left
    ·show Act.put _ (some 28) _=_
     simp only [Act.put,List.setIfInBounds_toArray,List.set_cons_zero,List.set_cons_succ,i64_w,i32_w]
     rfl
    refine one_ (i:=3) (N:=some 29) #[true,true,true,true,false] rfl rfl (by kernel_rfl) (by decide) (fun K hK=> ?_)
    refine goes_ Try.func12 (by kernel_rfl) rfl #[.agg #[.slice D2 t486.length C4,.slice D3 t489.length C5,.slice D4 t492.length C6],.agg #[.slice G7 t497.length G8,.slice G9 t500.length H0,.slice H1 t503.length H2]] (by rfl) rfl rfl laws_FnExactArityOf.a0 ?_
    with_reducible refine (laws_eqSignature.calls k _ _ t486 _ _ t489 _ _ t492 _ _ t497 _ _ t500 _ _ t503 true _ ?side1 ?side2 ?side3 ?side4 ?side5 ?side6 ?side7 ?side8 ?side9 ?side10 ?side11 ?side12 A14.out).mono ?_
    (case side1=>repeat (first | exact (Kd.R_reads' A6.out).2.2 | (with_reducible refine Kd.C_alloc ?_ _) | (with_reducible refine Kd.C_drewN ?_ _) | (with_reducible refine Kd.C_drew ?_)))
    (case side2=>exact (Kd.R_reads' A6.out).2.1)
    (case side3=>repeat (first | exact (Kd.R_reads' A7.out).2.2 | (with_reducible refine Kd.C_alloc ?_ _) | (with_reducible refine Kd.C_drewN ?_ _) | (with_reducible refine Kd.C_drew ?_)))
    (case side4=>exact (Kd.R_reads' A7.out).2.1)
    (case side5=>repeat (first | exact (Kd.R_reads' B0.out).2.2 | (with_reducible refine Kd.C_alloc ?_ _) | (with_reducible refine Kd.C_drewN ?_ _) | (with_reducible refine Kd.C_drew ?_)))
    (case side6=>exact (Kd.R_reads' B0.out).2.1)
    (case side7=>repeat (first | exact (Kd.R_reads' B7.out).2.2 | (with_reducible refine Kd.C_alloc ?_ _) | (with_reducible refine Kd.C_drewN ?_ _) | (with_reducible refine Kd.C_drew ?_)))
    (case side8=>exact (Kd.R_reads' B7.out).2.1)
    (case side9=>repeat (first | exact (Kd.R_reads' B8.out).2.2 | (with_reducible refine Kd.C_alloc ?_ _) | (with_reducible refine Kd.C_drewN ?_ _) | (with_reducible refine Kd.C_drew ?_)))
    (case side10=>exact (Kd.R_reads' B8.out).2.1)
    (case side11=>repeat (first | exact (Kd.R_reads' B9.out).2.2 | (with_reducible refine Kd.C_alloc ?_ _) | (with_reducible refine Kd.C_drewN ?_ _) | (with_reducible refine Kd.C_drew ?_)))
    (case side12=>exact (Kd.R_reads' B9.out).2.1)
    rintro e w39 ⟨rfl,hb⟩
    refine ⟨_,rfl,?_⟩
    replace A2:=rB A2 hb
    replace A4:=rB A4 hb
    replace A5:=rB A5 hb
    replace A6:=rB A6 hb
    replace A7:=rB A7 hb
    replace B0:=rB B0 hb
    replace B7:=rB B7 hb
    replace B8:=rB B8 hb
    replace B9:=rB B9 hb
    replace A0:=bB A0 hb
    replace A1:=bB A1 hb
    replace HB:=hS HB hb
    (try clear hb)
    (try clear hb2)
    (try clear hk)
    (try clear hi)
    refine hK.out _ _ ⟨cz0 A1,cz1 A1,cz2 A1,cz0 A0,cz1 A0,cz2 A0⟩ (fun hHeld=> ?_)
    clear hK K
    refine norm_ (a':=?_) ?_ ?_
    rotate_left
    ·show Act.put _ (some 29) _=_
     simp only [Act.put,List.setIfInBounds_toArray,List.set_cons_zero,List.set_cons_succ,i64_w,i32_w]
     rfl
    refine pureK 4 30 rfl rfl ?_
    refine done_ (by kernel_rfl) ?_
    try go_wp2
    go_ret
    exact ⟨laws_FnExactArityOf.a1,hV HB⟩
   ·replace c15:=Bool.eq_false_iff.mpr c15
    subst c15
    rw [if_neg (show ¬ (false=true) by decide)] at H
    obtain rfl:=Option.some.inj H
    go_enter Try.func4,Try.ntmps4
    try go_wp2_with (first | (refine bx 2 rfl #[.slice A0_0 l0_0.length c0_0,.slice A0_1 l0_1.length c0_1,.slice A0_2 l0_2.length c0_2] 28 ?_;intro C2 hg w40 hbox hb;have A0:=Aside0.mk (hbox);have D0:=hZ HB hg;have D1:=hZ HB hg;replace HB:=hS HB hb;clear hb hbox hg;obtain ⟨K3,K4,K5,K6,K7,K8⟩:=cf3 A0) | (refine goK 8 (some 11) rfl Try.func8 #[.agg #[.slice A0_0 l0_0.length c0_0,.slice A0_1 l0_1.length c0_1,.slice A0_2 l0_2.length c0_2],.int .i64 1048576] ?_;(with_reducible refine (laws_szSignature.calls k _ _ l0_0 _ _ l0_1 _ _ l0_2 1048576 t475 _ ?side1 ?side2 ?side3 ?side4 ?side5 ?side6 A3.out).mono ?_);(case side1=>exact cB B1 HB);(case side2=>exact B2.out);(case side3=>exact cB B3 HB);(case side4=>exact B4.out);(case side5=>exact cB B5 HB);(case side6=>exact B6.out);rintro e w42 ⟨rfl,hb⟩;refine ⟨_,rfl,?_⟩;replace A0:=bB A0 hb;replace HB:=hS HB hb;(try clear hb);(try clear hb2);(try clear hk);(try clear hi);obtain ⟨K9,L0,L1,L2,L3,L4⟩:=cf3 A0) | (refine goK 10 (some 15) rfl Try.func10 #[.agg #[.slice A0_0 l0_0.length c0_0,.slice A0_1 l0_1.length c0_1,.slice A0_2 l0_2.length c0_2]] ?_;(with_reducible refine (laws_toSignature.calls k _ _ l0_0 _ _ l0_1 _ _ l0_2 t476 t479 t482 _ ?side1 ?side2 ?side3 ?side4 ?side5 ?side6 A8.out).mono ?_);(case side1=>exact cB B1 HB);(case side2=>exact B2.out);(case side3=>exact cB B3 HB);(case side4=>exact B4.out);(case side5=>exact cB B5 HB);(case side6=>exact B6.out);rintro e w44 ⟨v477,v480,v483,rfl,ho0,ho1,ho2,hb⟩;refine ⟨_,rfl,?_⟩;have A2:=rL ho0 HB;have A4:=rL ho1 HB;have A5:=rL ho2 HB;replace A0:=bB A0 hb;replace HB:=hS HB hb;(try clear hb);(try clear hb2);(try clear hk);(try clear hi);(try clear ho0);(try clear ho1);(try clear ho2);obtain ⟨E9,F0,eo45⟩:=Kd.R_slice A2.out;subst eo45;obtain ⟨F1,F2,eo46⟩:=Kd.R_slice A4.out;subst eo46;obtain ⟨F3,F4,eo47⟩:=Kd.R_slice A5.out;subst eo47) | (refine goK 13 (some 17) rfl Try.func13 #[.agg #[.slice E9 t476.length F0,.slice F1 t479.length F2,.slice F3 t482.length F4],.int .i64 a1] ?_;(with_reducible refine (spec_ArityOf.calls k _ _ t476 _ _ t479 _ _ t482 a1 t485 _ ?side1 ?side2 ?side3 ?side4 ?side5 ?side6 A9.out).mono ?_);(case side1=>repeat (first | exact (Kd.R_reads' A2.out).2.2 | (with_reducible refine Kd.C_alloc ?_ _) | (with_reducible refine Kd.C_drewN ?_ _) | (with_reducible refine Kd.C_drew ?_)));(case side2=>exact (Kd.R_reads' A2.out).2.1);(case side3=>repeat (first | exact (Kd.R_reads' A4.out).2.2 | (with_reducible refine Kd.C_alloc ?_ _) | (with_reducible refine Kd.C_drewN ?_ _) | (with_reducible refine Kd.C_drew ?_)));(case side4=>exact (Kd.R_reads' A4.out).2.1);(case side5=>repeat (first | exact (Kd.R_reads' A5.out).2.2 | (with_reducible refine Kd.C_alloc ?_ _) | (with_reducible refine Kd.C_drewN ?_ _) | (with_reducible refine Kd.C_drew ?_)));(case side6=>exact (Kd.R_reads' A5.out).2.1);rintro e w48 ⟨rfl,hb⟩;refine ⟨_,rfl,?_⟩;replace A2:=rB A2 hb;replace A4:=rB A4 hb;replace A5:=rB A5 hb;replace A0:=bB A0 hb;replace HB:=hS HB hb;(try clear hb);(try clear hb2);(try clear hk);(try clear hi);obtain ⟨L5,L6,L7,L8,L9,M0⟩:=cf3 A0) | (refine goK 10 (some 19) rfl Try.func10 #[.agg #[.slice A0_0 l0_0.length c0_0,.slice A0_1 l0_1.length c0_1,.slice A0_2 l0_2.length c0_2]] ?_;(with_reducible refine (laws_toSignature.calls k _ _ l0_0 _ _ l0_1 _ _ l0_2 t486 t489 t492 _ ?side1 ?side2 ?side3 ?side4 ?side5 ?side6 A10.out).mono ?_);(case side1=>exact cB B1 HB);(case side2=>exact B2.out);(case side3=>exact cB B3 HB);(case side4=>exact B4.out);(case side5=>exact cB B5 HB);(case side6=>exact B6.out);rintro e w50 ⟨v487,v490,v493,rfl,ho0,ho1,ho2,hb⟩;refine ⟨_,rfl,?_⟩;have A6:=rL (rN ho0 A2) HB;replace A2:=rE A2 ho0 hb;have A7:=rL (rN ho1 A4) HB;replace A4:=rE A4 ho1 hb;have B0:=rL (rN ho2 A5) HB;replace A5:=rE A5 ho2 hb;replace A0:=bB A0 hb;replace HB:=hS HB hb;(try clear hb);(try clear hb2);(try clear hk);(try clear hi);(try clear ho0);(try clear ho1);(try clear ho2)) | (refine bx 7 rfl #[.slice none 0 0,.slice none 0 0,.slice none 0 0] 36 ?_;intro C3 hg w51 hbox hb;replace A2:=rB A2 hb;replace A4:=rB A4 hb;replace A5:=rB A5 hb;replace A6:=rB A6 hb;replace A7:=rB A7 hb;replace B0:=rB B0 hb;have A1:=Aside0.mk (hbox);have E1:=hZ HB hg;have E2:=hZ HB hg;replace HB:=hS HB hb;have C0:=nL A0 hg;have C1:=nG A0 hg;replace A0:=bB A0 hb;clear hb hbox hg;obtain ⟨D5,C7,eo52⟩:=Kd.R_slice A6.out;subst eo52;have P9:=C1.out;have Q0:=C0.out;obtain ⟨M1,M2,M3,M4,M5,M6⟩:=cf3 A1;obtain ⟨D6,C8,eo55⟩:=Kd.R_slice A7.out;subst eo55;obtain ⟨D7,C9,eo56⟩:=Kd.R_slice B0.out;subst eo56) | (refine goK 14 (some 22) rfl Try.func14 #[.agg #[.slice D5 t486.length C7,.slice D6 t489.length C8,.slice D7 t492.length C9],.int .i64 a1] ?_;(with_reducible refine (impl_ArityOf.calls k _ _ t486 _ _ t489 _ _ t492 a1 t496 _ ?side1 ?side2 ?side3 ?side4 ?side5 ?side6 A11.out).mono ?_);(case side1=>refine (Kd.R_reads' (e:=9) (base:=w.heap.size) (ok:=fun k_=>(True∧some k_≠(.slice E9 t476.length F0:Value).ownBlock)) (n:=t486.length) (c:=C7) ?_).2.2;exact (rT A6 A1 (fun _ h_=>h_.1)));(case side2=>exact (Kd.R_reads' A6.out).2.1);(case side3=>refine (Kd.R_reads' (e:=89) (base:=w.heap.size) (ok:=fun k_=>(True∧some k_≠(.slice F1 t479.length F2:Value).ownBlock)) (n:=t489.length) (c:=C8) ?_).2.2;exact (rT A7 A1 (fun _ h_=>h_.1)));(case side4=>exact (Kd.R_reads' A7.out).2.1);(case side5=>refine (Kd.R_reads' (e:=50) (base:=w.heap.size) (ok:=fun k_=>(True∧some k_≠(.slice F3 t482.length F4:Value).ownBlock)) (n:=t492.length) (c:=C9) ?_).2.2;exact (rT B0 A1 (fun _ h_=>h_.1)));(case side6=>exact (Kd.R_reads' B0.out).2.1);rintro e w57 ⟨rfl,hb⟩;refine ⟨_,rfl,?_⟩;replace A2:=rF A2 A1 hb;replace A4:=rF A4 A1 hb;replace A5:=rF A5 A1 hb;replace A6:=rF A6 A1 hb;replace A7:=rF A7 A1 hb;replace B0:=rF B0 A1 hb;replace A0:=bB A0 hb;replace A1:=bP (o:=.cells #[.slice D5 t486.length C7,.slice D6 t489.length C8,.slice D7 t492.length C9] 36 (0,0)) A1 hb;replace HB:=hS HB hb;(try clear hb);(try clear hb2);(try clear hk);(try clear hi)))
    replace A2:=Aside0.mk (Kd.R_drew A2.out)
    replace A4:=Aside0.mk (Kd.R_drew A4.out)
    replace A5:=Aside0.mk (Kd.R_drew A5.out)
    replace A6:=Aside0.mk (Kd.R_drew A6.out)
    replace A7:=Aside0.mk (Kd.R_drew A7.out)
    replace B0:=Aside0.mk (Kd.R_drew B0.out)
    replace A0:=Aside0.mk (blk_drew A0.out)
    replace A1:=Aside0.mk (blk_drew A1.out)
    replace HB:=Aside0.mk (below_drew1 HB.out)
    refine start_ (n:=5) (S:=fun w'=>w'.cell? ⟨C3,0,none⟩=some (.slice D5 t486.length C7)∧w'.cell? ⟨C3,1,none⟩=some (.slice D6 t489.length C8)∧w'.cell? ⟨C3,2,none⟩=some (.slice D7 t492.length C9)∧w'.cell? ⟨C2,0,none⟩=some (.slice A0_0 l0_0.length c0_0)∧w'.cell? ⟨C2,1,none⟩=some (.slice A0_1 l0_1.length c0_1)∧w'.cell? ⟨C2,2,none⟩=some (.slice A0_2 l0_2.length c0_2)) (ds:=[]) #[false,false,false,false,false] (by kernel_rfl) rfl rfl ⟨cz0 A1,cz1 A1,cz2 A1,cz0 A0,cz1 A0,cz2 A0⟩ (fun hHeld=> ?_)
    generalize w57.drew=w58 at A2 A4 A5 A6 A7 B0 A0 A1 HB hHeld ⊢
    refine takeK 0 26 rfl rfl hHeld ?_ laws_FnExactArityOf.a2
    refine takeK 1 27 rfl rfl hHeld ?_ laws_FnExactArityOf.a2
    refine one_ (i:=2) (N:=some 28) #[true,true,true,false,false] rfl rfl (by kernel_rfl) (by decide) (fun K hK=> ?_)
    refine goes_ Try.func10 (by kernel_rfl) rfl #[.agg #[.slice A0_0 l0_0.length c0_0,.slice A0_1 l0_1.length c0_1,.slice A0_2 l0_2.length c0_2]] (by rfl) rfl rfl laws_FnExactArityOf.a0 ?_
    with_reducible refine (laws_toSignature.calls k _ _ l0_0 _ _ l0_1 _ _ l0_2 t497 t500 t503 _ ?side1 ?side2 ?side3 ?side4 ?side5 ?side6 A13.out).mono ?_
    (case side1=>exact cB B1 HB)
    (case side2=>exact B2.out)
    (case side3=>exact cB B3 HB)
    (case side4=>exact B4.out)
    (case side5=>exact cB B5 HB)
    (case side6=>exact B6.out)
    rintro e w59 ⟨v498,v501,v504,rfl,ho0,ho1,ho2,hb⟩
    refine ⟨_,rfl,?_⟩
    have B7:=rL (rN (rN ho0 A2) A6) HB
    replace A2:=rE A2 ho0 hb
    replace A6:=rE A6 ho0 hb
    have B8:=rL (rN (rN ho1 A4) A7) HB
    replace A4:=rE A4 ho1 hb
    replace A7:=rE A7 ho1 hb
    have B9:=rL (rN (rN ho2 A5) B0) HB
    replace A5:=rE A5 ho2 hb
    replace B0:=rE B0 ho2 hb
    replace A0:=bB A0 hb
    replace A1:=bB A1 hb
    replace HB:=hS HB hb
    (try clear hb)
    (try clear hb2)
    (try clear hk)
    (try clear hi)
    (try clear ho0)
    (try clear ho1)
    (try clear ho2)
    obtain ⟨H3,H4,eo60⟩:=Kd.R_slice B7.out
    (first | subst eo60 | (injection eo60 with f1_ f2_ f3_;have f4_:=f1_.symm;have f5_:=f3_.symm;clear f1_ f2_ f3_;subst f4_;subst f5_))
    obtain ⟨H5,H6,eo61⟩:=Kd.R_slice B8.out
    (first | subst eo61 | (injection eo61 with f1_ f2_ f3_;have f4_:=f1_.symm;have f5_:=f3_.symm;clear f1_ f2_ f3_;subst f4_;subst f5_))
    obtain ⟨H7,H8,eo62⟩:=Kd.R_slice B9.out
    (first | subst eo62 | (injection eo62 with f1_ f2_ f3_;have f4_:=f1_.symm;have f5_:=f3_.symm;clear f1_ f2_ f3_;subst f4_;subst f5_))
    refine hK.out _ _ ⟨cz0 A1,cz1 A1,cz2 A1,cz0 A0,cz1 A0,cz2 A0⟩ (fun hHeld=> ?_)
    clear hK K
    refine norm_ (a':=?_) ?_ ?_
    rotate_left
    ·show Act.put _ (some 28) _=_
     simp only [Act.put,List.setIfInBounds_toArray,List.set_cons_zero,List.set_cons_succ,i64_w,i32_w]
     rfl
    refine one_ (i:=3) (N:=some 29) #[true,true,true,true,false] rfl rfl (by kernel_rfl) (by decide) (fun K hK=> ?_)
    refine goes_ Try.func12 (by kernel_rfl) rfl #[.agg #[.slice D5 t486.length C7,.slice D6 t489.length C8,.slice D7 t492.length C9],.agg #[.slice H3 t497.length H4,.slice H5 t500.length H6,.slice H7 t503.length H8]] (by rfl) rfl rfl laws_FnExactArityOf.a0 ?_
    with_reducible refine (laws_eqSignature.calls k _ _ t486 _ _ t489 _ _ t492 _ _ t497 _ _ t500 _ _ t503 false _ ?side1 ?side2 ?side3 ?side4 ?side5 ?side6 ?side7 ?side8 ?side9 ?side10 ?side11 ?side12 A14.out).mono ?_
    (case side1=>repeat (first | exact (Kd.R_reads' A6.out).2.2 | (with_reducible refine Kd.C_alloc ?_ _) | (with_reducible refine Kd.C_drewN ?_ _) | (with_reducible refine Kd.C_drew ?_)))
    (case side2=>exact (Kd.R_reads' A6.out).2.1)
    (case side3=>repeat (first | exact (Kd.R_reads' A7.out).2.2 | (with_reducible refine Kd.C_alloc ?_ _) | (with_reducible refine Kd.C_drewN ?_ _) | (with_reducible refine Kd.C_drew ?_)))
    (case side4=>exact (Kd.R_reads' A7.out).2.1)
    (case side5=>repeat (first | exact (Kd.R_reads' B0.out).2.2 | (with_reducible refine Kd.C_alloc ?_ _) | (with_reducible refine Kd.C_drewN ?_ _) | (with_reducible refine Kd.C_drew ?_)))
    (case side6=>exact (Kd.R_reads' B0.out).2.1)
    (case side7=>repeat (first | exact (Kd.R_reads' B7.out).2.2 | (with_reducible refine Kd.C_alloc ?_ _) | (with_reducible refine Kd.C_drewN ?_ _) | (with_reducible refine Kd.C_drew ?_)))
    (case side8=>exact (Kd.R_reads' B7.out).2.1)
    (case side9=>repeat (first | exact (Kd.R_reads' B8.out).2.2 | (with_reducible refine Kd.C_alloc ?_ _) | (with_reducible refine Kd.C_drewN ?_ _) | (with_reducible refine Kd.C_drew ?_)))
    (case side10=>exact (Kd.R_reads' B8.out).2.1)
    (case side11=>repeat (first | exact (Kd.R_reads' B9.out).2.2 | (with_reducible refine Kd.C_alloc ?_ _) | (with_reducible refine Kd.C_drewN ?_ _) | (with_reducible refine Kd.C_drew ?_)))
    (case side12=>exact (Kd.R_reads' B9.out).2.1)
    rintro e w63 ⟨rfl,hb⟩
    refine ⟨_,rfl,?_⟩
    replace A2:=rB A2 hb
    replace A4:=rB A4 hb
    replace A5:=rB A5 hb
    replace A6:=rB A6 hb
    replace A7:=rB A7 hb
    replace B0:=rB B0 hb
    replace B7:=rB B7 hb
    replace B8:=rB B8 hb
    replace B9:=rB B9 hb
    replace A0:=bB A0 hb
    replace A1:=bB A1 hb
    replace HB:=hS HB hb
    (try clear hb)
    (try clear hb2)
    (try clear hk)
    (try clear hi)
    refine hK.out _ _ ⟨cz0 A1,cz1 A1,cz2 A1,cz0 A0,cz1 A0,cz2 A0⟩ (fun hHeld=> ?_)
    clear hK K
    refine norm_ (a':=?_) ?_ ?_
    rotate_left
    ·show Act.put _ (some 29) _=_
     simp only [Act.put,List.setIfInBounds_toArray,List.set_cons_zero,List.set_cons_succ,i64_w,i32_w]
     rfl
    refine pureK 4 30 rfl rfl ?_
    refine done_ (by kernel_rfl) ?_
    try go_wp2
    go_ret
    exact ⟨laws_FnExactArityOf.a1,hV HB⟩
  ·rw [if_neg c12] at H
   have G4:(t496 == t485)=false:=beq_eq_false_iff_ne.mpr c12
   have G5:(t496 != t485)=true:=bne_iff_ne.mpr c12
   obtain rfl:=Option.some.inj H
   go_enter Try.func4,Try.ntmps4
   go_wp2_with (first | (refine bx 2 rfl #[.slice A0_0 l0_0.length c0_0,.slice A0_1 l0_1.length c0_1,.slice A0_2 l0_2.length c0_2] 28 ?_;intro C2 hg w64 hbox hb;have A0:=Aside0.mk (hbox);have D0:=hZ HB hg;have D1:=hZ HB hg;replace HB:=hS HB hb;clear hb hbox hg;obtain ⟨M7,M8,M9,N0,N1,N2⟩:=cf3 A0) | (refine goK 8 (some 11) rfl Try.func8 #[.agg #[.slice A0_0 l0_0.length c0_0,.slice A0_1 l0_1.length c0_1,.slice A0_2 l0_2.length c0_2],.int .i64 1048576] ?_;(with_reducible refine (laws_szSignature.calls k _ _ l0_0 _ _ l0_1 _ _ l0_2 1048576 t475 _ ?side1 ?side2 ?side3 ?side4 ?side5 ?side6 A3.out).mono ?_);(case side1=>exact cB B1 HB);(case side2=>exact B2.out);(case side3=>exact cB B3 HB);(case side4=>exact B4.out);(case side5=>exact cB B5 HB);(case side6=>exact B6.out);rintro e w66 ⟨rfl,hb⟩;refine ⟨_,rfl,?_⟩;replace A0:=bB A0 hb;replace HB:=hS HB hb;(try clear hb);(try clear hb2);(try clear hk);(try clear hi);obtain ⟨N3,N4,N5,N6,N7,N8⟩:=cf3 A0) | (refine goK 10 (some 15) rfl Try.func10 #[.agg #[.slice A0_0 l0_0.length c0_0,.slice A0_1 l0_1.length c0_1,.slice A0_2 l0_2.length c0_2]] ?_;(with_reducible refine (laws_toSignature.calls k _ _ l0_0 _ _ l0_1 _ _ l0_2 t476 t479 t482 _ ?side1 ?side2 ?side3 ?side4 ?side5 ?side6 A8.out).mono ?_);(case side1=>exact cB B1 HB);(case side2=>exact B2.out);(case side3=>exact cB B3 HB);(case side4=>exact B4.out);(case side5=>exact cB B5 HB);(case side6=>exact B6.out);rintro e w68 ⟨v477,v480,v483,rfl,ho0,ho1,ho2,hb⟩;refine ⟨_,rfl,?_⟩;have A2:=rL ho0 HB;have A4:=rL ho1 HB;have A5:=rL ho2 HB;replace A0:=bB A0 hb;replace HB:=hS HB hb;(try clear hb);(try clear hb2);(try clear hk);(try clear hi);(try clear ho0);(try clear ho1);(try clear ho2);obtain ⟨F5,F6,eo69⟩:=Kd.R_slice A2.out;subst eo69;obtain ⟨F7,F8,eo70⟩:=Kd.R_slice A4.out;subst eo70;obtain ⟨F9,G0,eo71⟩:=Kd.R_slice A5.out;subst eo71) | (refine goK 13 (some 17) rfl Try.func13 #[.agg #[.slice F5 t476.length F6,.slice F7 t479.length F8,.slice F9 t482.length G0],.int .i64 a1] ?_;(with_reducible refine (spec_ArityOf.calls k _ _ t476 _ _ t479 _ _ t482 a1 t485 _ ?side1 ?side2 ?side3 ?side4 ?side5 ?side6 A9.out).mono ?_);(case side1=>repeat (first | exact (Kd.R_reads' A2.out).2.2 | (with_reducible refine Kd.C_alloc ?_ _) | (with_reducible refine Kd.C_drewN ?_ _) | (with_reducible refine Kd.C_drew ?_)));(case side2=>exact (Kd.R_reads' A2.out).2.1);(case side3=>repeat (first | exact (Kd.R_reads' A4.out).2.2 | (with_reducible refine Kd.C_alloc ?_ _) | (with_reducible refine Kd.C_drewN ?_ _) | (with_reducible refine Kd.C_drew ?_)));(case side4=>exact (Kd.R_reads' A4.out).2.1);(case side5=>repeat (first | exact (Kd.R_reads' A5.out).2.2 | (with_reducible refine Kd.C_alloc ?_ _) | (with_reducible refine Kd.C_drewN ?_ _) | (with_reducible refine Kd.C_drew ?_)));(case side6=>exact (Kd.R_reads' A5.out).2.1);rintro e w72 ⟨rfl,hb⟩;refine ⟨_,rfl,?_⟩;replace A2:=rB A2 hb;replace A4:=rB A4 hb;replace A5:=rB A5 hb;replace A0:=bB A0 hb;replace HB:=hS HB hb;(try clear hb);(try clear hb2);(try clear hk);(try clear hi);obtain ⟨N9,O0,O1,O2,O3,O4⟩:=cf3 A0) | (refine goK 10 (some 19) rfl Try.func10 #[.agg #[.slice A0_0 l0_0.length c0_0,.slice A0_1 l0_1.length c0_1,.slice A0_2 l0_2.length c0_2]] ?_;(with_reducible refine (laws_toSignature.calls k _ _ l0_0 _ _ l0_1 _ _ l0_2 t486 t489 t492 _ ?side1 ?side2 ?side3 ?side4 ?side5 ?side6 A10.out).mono ?_);(case side1=>exact cB B1 HB);(case side2=>exact B2.out);(case side3=>exact cB B3 HB);(case side4=>exact B4.out);(case side5=>exact cB B5 HB);(case side6=>exact B6.out);rintro e w74 ⟨v487,v490,v493,rfl,ho0,ho1,ho2,hb⟩;refine ⟨_,rfl,?_⟩;have A6:=rL (rN ho0 A2) HB;replace A2:=rE A2 ho0 hb;have A7:=rL (rN ho1 A4) HB;replace A4:=rE A4 ho1 hb;have B0:=rL (rN ho2 A5) HB;replace A5:=rE A5 ho2 hb;replace A0:=bB A0 hb;replace HB:=hS HB hb;(try clear hb);(try clear hb2);(try clear hk);(try clear hi);(try clear ho0);(try clear ho1);(try clear ho2)) | (refine bx 7 rfl #[.slice none 0 0,.slice none 0 0,.slice none 0 0] 36 ?_;intro C3 hg w75 hbox hb;replace A2:=rB A2 hb;replace A4:=rB A4 hb;replace A5:=rB A5 hb;replace A6:=rB A6 hb;replace A7:=rB A7 hb;replace B0:=rB B0 hb;have A1:=Aside0.mk (hbox);have E1:=hZ HB hg;have E2:=hZ HB hg;replace HB:=hS HB hb;have C0:=nL A0 hg;have C1:=nG A0 hg;replace A0:=bB A0 hb;clear hb hbox hg;obtain ⟨G1,D8,eo76⟩:=Kd.R_slice A6.out;subst eo76;have Q1:=C1.out;have Q2:=C0.out;obtain ⟨O5,O6,O7,O8,O9,P0⟩:=cf3 A1;obtain ⟨G2,D9,eo79⟩:=Kd.R_slice A7.out;subst eo79;obtain ⟨G3,E0,eo80⟩:=Kd.R_slice B0.out;subst eo80) | (refine goK 14 (some 22) rfl Try.func14 #[.agg #[.slice G1 t486.length D8,.slice G2 t489.length D9,.slice G3 t492.length E0],.int .i64 a1] ?_;(with_reducible refine (impl_ArityOf.calls k _ _ t486 _ _ t489 _ _ t492 a1 t496 _ ?side1 ?side2 ?side3 ?side4 ?side5 ?side6 A11.out).mono ?_);(case side1=>refine (Kd.R_reads' (e:=9) (base:=w.heap.size) (ok:=fun k_=>(True∧some k_≠(.slice F5 t476.length F6:Value).ownBlock)) (n:=t486.length) (c:=D8) ?_).2.2;exact (rT A6 A1 (fun _ h_=>h_.1)));(case side2=>exact (Kd.R_reads' A6.out).2.1);(case side3=>refine (Kd.R_reads' (e:=89) (base:=w.heap.size) (ok:=fun k_=>(True∧some k_≠(.slice F7 t479.length F8:Value).ownBlock)) (n:=t489.length) (c:=D9) ?_).2.2;exact (rT A7 A1 (fun _ h_=>h_.1)));(case side4=>exact (Kd.R_reads' A7.out).2.1);(case side5=>refine (Kd.R_reads' (e:=50) (base:=w.heap.size) (ok:=fun k_=>(True∧some k_≠(.slice F9 t482.length G0:Value).ownBlock)) (n:=t492.length) (c:=E0) ?_).2.2;exact (rT B0 A1 (fun _ h_=>h_.1)));(case side6=>exact (Kd.R_reads' B0.out).2.1);rintro e w81 ⟨rfl,hb⟩;refine ⟨_,rfl,?_⟩;replace A2:=rF A2 A1 hb;replace A4:=rF A4 A1 hb;replace A5:=rF A5 A1 hb;replace A6:=rF A6 A1 hb;replace A7:=rF A7 A1 hb;replace B0:=rF B0 A1 hb;replace A0:=bB A0 hb;replace A1:=bP (o:=.cells #[.slice G1 t486.length D8,.slice G2 t489.length D9,.slice G3 t492.length E0] 36 (0,0)) A1 hb;replace HB:=hS HB hb;(try clear hb);(try clear hb2);(try clear hk);(try clear hi)))
   go_ret
   exact ⟨laws_FnExactArityOf.a1,hV HB⟩

/-! ### spec_IsFreeSignature: function 15 -/
/-! ### impl_IsFreeSignature: function 16 -/
end Go.Proofs.Ytpildjbakceicaa.Q

