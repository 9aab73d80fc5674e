/- Functions of the program as plain Lean functions,and that the calls come to what they say. -/
import Derived.Test.YtpildjbakceicaaZQx0hb61c0
import Derived.Test.YtpildjbakceicaaZShorth7b252
namespace Go.Proofs.Ytpildjbakceicaa.Q
open Go.RowKit Go.Proofs.YtpildjbakceicaaW.PrintWords Go.Proofs.YtpildjbakceicaaW.PrintLast Go.Proofs.YtpildjbakceicaaW.PrintMore
attribute [local go_sem] max2_int min2_int max_two min_two max_three min_three max_four min_four   -- for this text's walks alone
set_option linter.unusedVariables false
set_option linter.unusedSimpArgs false

/-! ### laws_szStringS: function 45 -/
theorem laws_szStringS.a0 {P_:Prop} (h_:P_:=by first | rfl | (simp;done) | (simp [*];done)):P_:=h_
theorem laws_szStringS.a1 {P_:Prop} (h_:P_:=by repeat (first | exact Drawn0.refl _ | apply Drawn0.step)):P_:=h_
def laws_szStringS.l0:Nat→List ByteArray→Int→Int→Option (Int)
 | 0,_,_,_=>none
 | k + 1,x0,x1,x5=>if x5 < (x0.length:Int) then (if 0≤x5 then (if (wrap64 (x1 - ((rdOf ByteArray.empty x0 x5).size:Int))) < 0 then (some (-1)) else (laws_szStringS.l0 k x0 (wrap64 (x1 - ((rdOf ByteArray.empty x0 x5).size:Int))) (wrap64 (x5 + 1)))) else (none)) else (some x1)
def laws_szStringS.f (k:Nat) (l0:List ByteArray) (a1:Int):Option (Int):=if (wrap64 (a1 - (l0.length:Int))) < 0 then (some (-1)) else (laws_szStringS.l0 k l0 (wrap64 (a1 - (l0.length:Int))) 0)
set_option maxHeartbeats 8000000 in
set_option maxRecDepth 100000 in
theorem laws_szStringS.calls (k:Nat) (A0:Option Addr) (c0:Nat) (l0:List ByteArray) (a1:Int) (r:Int) (w:World) (hr0:Kd.C Kd.string w A0 l0.length l0) (hc0:l0.length≤c0) (h:laws_szStringS.f k l0 a1=some r) :
  Calls Try.prog 45 #[.slice A0 l0.length c0,.int .i64 a1] w fun e w'=>e=.returned (.int .i64 r)∧Drawn0 w w':=by
 have A6:=Aside0.mk hr0
 have B0:=Aside0.mk hc0
 clear hr0 hc0
 have H:(if (wrap64 (a1 - (l0.length:Int))) < 0 then (some (-1)) else (laws_szStringS.l0 k l0 (wrap64 (a1 - (l0.length:Int))) 0))=some r:=h
 clear h
 by_cases c3:(wrap64 (a1 - (l0.length:Int))) < 0
 ·rw [if_pos c3] at H
  have A4:=decide_eq_true c3
  clear c3
  obtain rfl:=Option.some.inj H
  go_enter Try.func45,Try.ntmps45
  go_wp2
  go_ret
  exact ⟨laws_szStringS.a0,laws_szStringS.a1⟩
 rw [if_neg c3] at H
 have A4:=decide_eq_false c3
 clear c3
 have H':=Aside0.mk H
 clear H
 go_enter Try.func45,Try.ntmps45
 go_wp2
 go_loopg [1,5] k (fun kq v1 v5 w'=> ∃ (x1_1:Int) (x5_1:Int),v1=.int .i64 x1_1∧v5=.int .i64 x5_1∧Aside0 (laws_szStringS.l0 kq l0 x1_1 x5_1=some r)∧Aside0 (kq≤k)∧Drawn0 w w')
 case atStart=>exact ⟨(wrap64 (a1 - (l0.length:Int))),(0),laws_szStringS.a0,laws_szStringS.a0,H',⟨Nat.le_refl _⟩,laws_szStringS.a1⟩
 clear H'
 try clear c3
 try clear A4
 obtain ⟨x1_1,x5_1,rfl,rfl,HA,HK1,⟨m1,rfl⟩⟩:=hrel
 cases gk with
 | zero=>exact absurd HA.out (by simp [laws_szStringS.l0])
 | succ k1=>
  have H:=HA.out
  clear HA
  simp only [laws_szStringS.l0] at H
  by_cases c4:x5_1 < (l0.length:Int)
  rotate_left
  ·rw [if_neg c4] at H
   have A7:=decide_eq_false c4
   clear c4
   obtain rfl:=Option.some.inj H
   go_wp2
   go_ret
   exact ⟨laws_szStringS.a0,laws_szStringS.a1⟩

  rw [if_pos c4] at H
  have A7:=decide_eq_true c4
  clear c4
  by_cases c5:0≤x5_1
  rotate_left
  ·rw [if_neg c5] at H
   exact absurd H (by simp)
  rw [if_pos c5] at H
  have A9:=decide_eq_true c5
  clear c5
  by_cases c6:(wrap64 (x1_1 - ((rdOf ByteArray.empty l0 x5_1).size:Int))) < 0
  ·rw [if_pos c6] at H
   have A8:=decide_eq_true c6
   clear c6
   obtain rfl:=Option.some.inj H
   have A1:0≤(x5_1:Int):=dT
   have A2:x5_1 < (l0.length:Int):=dT
   obtain ⟨A5,e101,A3⟩:=Kd.at_string A6.out x5_1 A1 A2
   cases e101
   replace A1:=eq_true A1
   replace A2:=eq_true A2
   go_wp2
   go_ret
   exact ⟨laws_szStringS.a0,laws_szStringS.a1⟩
  ·rw [if_neg c6] at H
   have A8:=decide_eq_false c6
   clear c6
   have H':=Aside0.mk H
   clear H
   have A1:0≤(x5_1:Int):=dT
   have A2:x5_1 < (l0.length:Int):=dT
   obtain ⟨A5,e101,A3⟩:=Kd.at_string A6.out x5_1 A1 A2
   cases e101
   replace A1:=eq_true A1
   replace A2:=eq_true A2
   go_wp2
   go_roundg k1
   case measure=>have:=HK1.out;omega
   case rel=>exact ⟨(wrap64 (x1_1 - ((rdOf ByteArray.empty l0 x5_1).size:Int))),(wrap64 (x5_1 + 1)),laws_szStringS.a0,laws_szStringS.a0,H',⟨by have:=HK1.out;omega⟩,laws_szStringS.a1⟩
/-! ### laws_szSubS: function 46 -/
def laws_szSubS.f (l0:List (S107)) (a1:Int):Option (Int):=if (wrap64 (a1 - (l0.length:Int))) < 0 then (some (-1)) else (some (wrap64 (a1 - (l0.length:Int))))
set_option maxHeartbeats 8000000 in
set_option maxRecDepth 100000 in
theorem laws_szSubS.calls (A0:Option Addr) (c0:Nat) (l0:List (S107)) (a1:Int) (r:Int) (w:World) (hr0:Kd.C k107 w A0 l0.length l0) (hc0:l0.length≤c0) (h:laws_szSubS.f l0 a1=some r) :
    Calls Try.prog 46 #[.slice A0 l0.length c0,.int .i64 a1] w fun e w'=>e=.returned (.int .i64 r)∧Drawn0 w w':=by
  have A2:=Aside0.mk hr0
  have A3:=Aside0.mk hc0
  clear hr0 hc0
  have H:(if (wrap64 (a1 - (l0.length:Int))) < 0 then (some (-1)) else (some (wrap64 (a1 - (l0.length:Int)))))=some r:=h
  clear h
  by_cases c3:(wrap64 (a1 - (l0.length:Int))) < 0
  · rw [if_pos c3] at H
    have A1:=decide_eq_true c3
    clear c3
    obtain rfl:=Option.some.inj H
    go_enter Try.func46,Try.ntmps46
    go_wp2
    go_ret
    exact ⟨by first | rfl | (simp;done) | (simp [*];done),by repeat (first | exact Drawn0.refl _ | apply Drawn0.step)⟩
  rw [if_neg c3] at H
  have A1:=decide_eq_false c3
  clear c3
  obtain rfl:=Option.some.inj H
  go_enter Try.func46,Try.ntmps46
  go_wp2
  go_ret
  exact ⟨by first | rfl | (simp;done) | (simp [*];done),by repeat (first | exact Drawn0.refl _ | apply Drawn0.step)⟩

/-! ### laws_szSorts: function 21 -/
theorem laws_szSorts.a0 {P_:Prop} (h_:P_:=by first | rfl | (simp [errW_none,errW_some] <;> rfl) | (simp [*,errW_none,errW_some] <;> rfl)):P_:=h_
def laws_szSorts.f (k:Nat) (l0_0:List ByteArray) (l0_1:List (S107)) (a1:Int):Option (Int):=(laws_szStringS.f k l0_0 a1).bind fun t103=>(if t103 < 0 then (some (-1)) else ((laws_szSubS.f l0_1 t103).bind fun t104=>(if t104 < 0 then (some (-1)) else (some t104))))
set_option maxHeartbeats 8000000 in
set_option maxRecDepth 100000 in
theorem laws_szSorts.calls (k:Nat) (A0_0:Option Addr) (c0_0:Nat) (l0_0:List ByteArray) (A0_1:Option Addr) (c0_1:Nat) (l0_1:List (S107)) (a1:Int) (r:Int) (w:World) (hr0_0:Kd.C Kd.string w A0_0 l0_0.length l0_0) (hc0_0:l0_0.length≤c0_0) (hr0_1:Kd.C k107 w A0_1 l0_1.length l0_1) (hc0_1:l0_1.length≤c0_1) (h:laws_szSorts.f k l0_0 l0_1 a1=some r) :
  Calls Try.prog 21 #[.agg #[.slice A0_0 l0_0.length c0_0,.slice A0_1 l0_1.length c0_1],.int .i64 a1] w fun e w'=>e=.returned (.int .i64 r)∧Below w.heap.size w w':=by
 have hu25:=Try.underlying25
 have A1:=Aside0.mk hr0_0
 have A2:=Aside0.mk hc0_0
 clear hr0_0 hc0_0
 have A4:=Aside0.mk hr0_1
 have A5:=Aside0.mk hc0_1
 clear hr0_1 hc0_1
 have HB:=Aside0.mk (Below.refl w.heap.size w)
 have H:((laws_szStringS.f k l0_0 a1).bind fun t103=>(if t103 < 0 then (some (-1)) else ((laws_szSubS.f l0_1 t103).bind fun t104=>(if t104 < 0 then (some (-1)) else (some t104)))))=some r:=h
 clear h
 replace H:=Option.bind_eq_some_iff.mp H
 obtain ⟨t103,A30,H⟩:=H
 replace H:(if t103 < 0 then (some (-1)) else ((laws_szSubS.f l0_1 t103).bind fun t104=>(if t104 < 0 then (some (-1)) else (some t104))))=some r:=H
 have A3:=Aside0.mk A30
 clear A30
 by_cases c4:t103 < 0
 ·rw [if_pos c4] at H
  have B0:=decide_eq_true c4
  clear c4
  obtain rfl:=Option.some.inj H
  go_enter Try.func21,Try.ntmps21
  go_wp2_with (first | (refine bx 2 rfl #[.slice A0_0 l0_0.length c0_0,.slice A0_1 l0_1.length c0_1] 25 ?_;intro A6 hg w5 hbox hb;have A0:=Aside0.mk (hbox);have A8:=hZ HB hg;have A9:=hZ HB hg;replace HB:=hS HB hb;clear hb hbox hg;obtain ⟨C0,C1,C2,C3⟩:=cf2 A0) | (refine goK 45 (some 8) rfl Try.func45 #[.slice A0_0 l0_0.length c0_0,.int .i64 a1] ?_;(with_reducible refine (laws_szStringS.calls k _ _ l0_0 a1 t103 _ ?side1 ?side2 A3.out).mono ?_);(case side1=>exact cB A1 HB);(case side2=>exact A2.out);rintro e w' ⟨rfl,⟨nd,rfl⟩⟩;refine ⟨_,rfl,?_⟩))
  go_ret
  exact ⟨laws_szSorts.a0,hV HB⟩
 rw [if_neg c4] at H
 have B0:=decide_eq_false c4
 clear c4
 replace H:=Option.bind_eq_some_iff.mp H
 obtain ⟨t104,A70,H⟩:=H
 replace H:(if t104 < 0 then (some (-1)) else (some t104))=some r:=H
 have A7:=Aside0.mk A70
 clear A70
 by_cases c8:t104 < 0
 ·rw [if_pos c8] at H
  have B1:=decide_eq_true c8
  clear c8
  obtain rfl:=Option.some.inj H
  go_enter Try.func21,Try.ntmps21
  go_wp2_with (first | (refine bx 2 rfl #[.slice A0_0 l0_0.length c0_0,.slice A0_1 l0_1.length c0_1] 25 ?_;intro A6 hg w9 hbox hb;have A0:=Aside0.mk (hbox);have A8:=hZ HB hg;have A9:=hZ HB hg;replace HB:=hS HB hb;clear hb hbox hg;obtain ⟨B2,B3,B4,B5⟩:=cf2 A0) | (refine goK 45 (some 8) rfl Try.func45 #[.slice A0_0 l0_0.length c0_0,.int .i64 a1] ?_;(with_reducible refine (laws_szStringS.calls k _ _ l0_0 a1 t103 _ ?side1 ?side2 A3.out).mono ?_);(case side1=>exact cB A1 HB);(case side2=>exact A2.out);rintro e w' ⟨rfl,⟨nd,rfl⟩⟩;refine ⟨_,rfl,?_⟩) | (refine goK 46 (some 14) rfl Try.func46 #[.slice A0_1 l0_1.length c0_1,.int .i64 t103] ?_;(with_reducible refine (laws_szSubS.calls _ _ l0_1 t103 t104 _ ?side1 ?side2 A7.out).mono ?_);(case side1=>repeat (first | exact (Kd.C_below A4.out (hV HB)) | (with_reducible refine Kd.C_alloc ?_ _) | (with_reducible refine Kd.C_drewN ?_ _) | (with_reducible refine Kd.C_drew ?_)));(case side2=>exact A5.out);rintro e w' ⟨rfl,⟨nd,rfl⟩⟩;refine ⟨_,rfl,?_⟩))
  go_ret
  exact ⟨laws_szSorts.a0,hV HB⟩
 rw [if_neg c8] at H
 have B1:=decide_eq_false c8
 clear c8
 obtain rfl:=Option.some.inj H
 go_enter Try.func21,Try.ntmps21
 go_wp2_with (first | (refine bx 2 rfl #[.slice A0_0 l0_0.length c0_0,.slice A0_1 l0_1.length c0_1] 25 ?_;intro A6 hg w11 hbox hb;have A0:=Aside0.mk (hbox);have A8:=hZ HB hg;have A9:=hZ HB hg;replace HB:=hS HB hb;clear hb hbox hg;obtain ⟨B6,B7,B8,B9⟩:=cf2 A0) | (refine goK 45 (some 8) rfl Try.func45 #[.slice A0_0 l0_0.length c0_0,.int .i64 a1] ?_;(with_reducible refine (laws_szStringS.calls k _ _ l0_0 a1 t103 _ ?side1 ?side2 A3.out).mono ?_);(case side1=>exact cB A1 HB);(case side2=>exact A2.out);rintro e w' ⟨rfl,⟨nd,rfl⟩⟩;refine ⟨_,rfl,?_⟩) | (refine goK 46 (some 14) rfl Try.func46 #[.slice A0_1 l0_1.length c0_1,.int .i64 t103] ?_;(with_reducible refine (laws_szSubS.calls _ _ l0_1 t103 t104 _ ?side1 ?side2 A7.out).mono ?_);(case side1=>repeat (first | exact (Kd.C_below A4.out (hV HB)) | (with_reducible refine Kd.C_alloc ?_ _) | (with_reducible refine Kd.C_drewN ?_ _) | (with_reducible refine Kd.C_drew ?_)));(case side2=>exact A5.out);rintro e w' ⟨rfl,⟨nd,rfl⟩⟩;refine ⟨_,rfl,?_⟩))
 go_ret
 exact ⟨laws_szSorts.a0,hV HB⟩

/-! ### laws_szIntS: function 82 -/
def laws_szIntS.f (l0:List Int) (a1:Int):Option (Int):=if (wrap64 (a1 - (l0.length:Int))) < 0 then (some (-1)) else (some (wrap64 (a1 - (l0.length:Int))))
set_option maxHeartbeats 8000000 in
set_option maxRecDepth 100000 in
theorem laws_szIntS.calls (A0:Option Addr) (c0:Nat) (l0:List Int) (a1:Int) (r:Int) (w:World) (hr0:Kd.C (Kd.int .i64) w A0 l0.length l0) (hc0:l0.length≤c0) (h:laws_szIntS.f l0 a1=some r) :
    Calls Try.prog 82 #[.slice A0 l0.length c0,.int .i64 a1] w fun e w'=>e=.returned (.int .i64 r)∧Drawn0 w w':=by
  have A2:=Aside0.mk hr0
  have A3:=Aside0.mk hc0
  clear hr0 hc0
  have H:(if (wrap64 (a1 - (l0.length:Int))) < 0 then (some (-1)) else (some (wrap64 (a1 - (l0.length:Int)))))=some r:=h
  clear h
  by_cases c3:(wrap64 (a1 - (l0.length:Int))) < 0
  · rw [if_pos c3] at H
    have A1:=decide_eq_true c3
    clear c3
    obtain rfl:=Option.some.inj H
    go_enter Try.func82,Try.ntmps82
    go_wp2
    go_ret
    exact ⟨by first | rfl | (simp;done) | (simp [*];done),by repeat (first | exact Drawn0.refl _ | apply Drawn0.step)⟩
  rw [if_neg c3] at H
  have A1:=decide_eq_false c3
  clear c3
  obtain rfl:=Option.some.inj H
  go_enter Try.func82,Try.ntmps82
  go_wp2
  go_ret
  exact ⟨by first | rfl | (simp;done) | (simp [*];done),by repeat (first | exact Drawn0.refl _ | apply Drawn0.step)⟩

/-! ### laws_szDecl: function 77 -/
def laws_szDecl.f (l0_0:List Int) (a0_1:Int) (a1:Int):Option (Int):=(laws_szIntS.f l0_0 a1).bind fun t106=>(if t106 < 0 then (some (-1)) else (some t106))
set_option maxHeartbeats 8000000 in
set_option maxRecDepth 100000 in
theorem laws_szDecl.calls (A0_0:Option Addr) (c0_0:Nat) (l0_0:List Int) (a0_1:Int) (a1:Int) (r:Int) (w:World) (hr0_0:Kd.C (Kd.int .i64) w A0_0 l0_0.length l0_0) (hc0_0:l0_0.length≤c0_0) (h:laws_szDecl.f l0_0 a0_1 a1=some r) :
    Calls Try.prog 77 #[.agg #[.slice A0_0 l0_0.length c0_0,.int .i64 a0_1],.int .i64 a1] w fun e w'=>e=.returned (.int .i64 r)∧Below w.heap.size w w':=by
  have hu113:=Try.underlying113
  have A1:=Aside0.mk hr0_0
  have A2:=Aside0.mk hc0_0
  clear hr0_0 hc0_0
  have HB:=Aside0.mk (Below.refl w.heap.size w)
  have H:((laws_szIntS.f l0_0 a1).bind fun t106=>(if t106 < 0 then (some (-1)) else (some t106)))=some r:=h
  clear h
  replace H:=Option.bind_eq_some_iff.mp H
  obtain ⟨t106,A30,H⟩:=H
  replace H:(if t106 < 0 then (some (-1)) else (some t106))=some r:=H
  have A3:=Aside0.mk A30
  clear A30
  by_cases c4:t106 < 0
  · rw [if_pos c4] at H
    have A7:=decide_eq_true c4
    clear c4
    obtain rfl:=Option.some.inj H
    go_enter Try.func77,Try.ntmps77
    go_wp2_with (first | (refine bx 2 rfl #[.slice A0_0 l0_0.length c0_0,.int .i64 a0_1] 113 ?_;intro A4 hg w5 hbox hb;have A0:=Aside0.mk (hbox);have A5:=hZ HB hg;have A6:=hZ HB hg;replace HB:=hS HB hb;clear hb hbox hg;obtain ⟨A8,A9,B0,B1⟩:=cf2 A0) | (refine goK 82 (some 8) rfl Try.func82 #[.slice A0_0 l0_0.length c0_0,.int .i64 a1] ?_;(with_reducible refine (laws_szIntS.calls _ _ l0_0 a1 t106 _ ?side1 ?side2 A3.out).mono ?_);(case side1=>exact cB A1 HB);(case side2=>exact A2.out);rintro e w' ⟨rfl,⟨nd,rfl⟩⟩;refine ⟨_,rfl,?_⟩))
    go_ret
    exact ⟨by first | rfl | (simp [errW_none,errW_some] <;> rfl) | (simp [*,errW_none,errW_some] <;> rfl),hV HB⟩
  rw [if_neg c4] at H
  have A7:=decide_eq_false c4
  clear c4
  obtain rfl:=Option.some.inj H
  go_enter Try.func77,Try.ntmps77
  go_wp2_with (first | (refine bx 2 rfl #[.slice A0_0 l0_0.length c0_0,.int .i64 a0_1] 113 ?_;intro A4 hg w7 hbox hb;have A0:=Aside0.mk (hbox);have A5:=hZ HB hg;have A6:=hZ HB hg;replace HB:=hS HB hb;clear hb hbox hg;obtain ⟨B2,B3,B4,B5⟩:=cf2 A0) | (refine goK 82 (some 8) rfl Try.func82 #[.slice A0_0 l0_0.length c0_0,.int .i64 a1] ?_;(with_reducible refine (laws_szIntS.calls _ _ l0_0 a1 t106 _ ?side1 ?side2 A3.out).mono ?_);(case side1=>exact cB A1 HB);(case side2=>exact A2.out);rintro e w' ⟨rfl,⟨nd,rfl⟩⟩;refine ⟨_,rfl,?_⟩))
  go_ret
  exact ⟨by first | rfl | (simp [errW_none,errW_some] <;> rfl) | (simp [*,errW_none,errW_some] <;> rfl),hV HB⟩

/-! ### laws_szDeclS: function 66 -/
theorem laws_szDeclS.a0 {P_:Prop} (h_:P_:=by first | rfl | (simp [errW_none,errW_some] <;> rfl) | (simp [*,errW_none,errW_some] <;> rfl)):P_:=h_
def laws_szDeclS.l0:Nat→List (S113)→Int→Int→Option (Int)
 | 0,_,_,_=>none
 | k + 1,x0,x1,x5=>if x5 < (x0.length:Int) then (if 0≤x5 then ((laws_szDecl.f ((rd_T113 x0 x5).f0) ((rd_T113 x0 x5).f1) x1).bind fun t108=>(if t108 < 0 then (some (-1)) else (laws_szDeclS.l0 k x0 t108 (wrap64 (x5 + 1))))) else (none)) else (some x1)
def laws_szDeclS.f (k:Nat) (l0:List (S113)) (a1:Int):Option (Int):=if (wrap64 (a1 - (l0.length:Int))) < 0 then (some (-1)) else (laws_szDeclS.l0 k l0 (wrap64 (a1 - (l0.length:Int))) 0)
set_option maxHeartbeats 8000000 in
set_option maxRecDepth 100000 in
theorem laws_szDeclS.calls (k:Nat) (A0:Option Addr) (c0:Nat) (l0:List (S113)) (a1:Int) (r:Int) (w:World) (hr0:Kd.C k113 w A0 l0.length l0) (hc0:l0.length≤c0) (h:laws_szDeclS.f k l0 a1=some r) :
  Calls Try.prog 66 #[.slice A0 l0.length c0,.int .i64 a1] w fun e w'=>e=.returned (.int .i64 r)∧Below w.heap.size w w':=by
 have hu113:=Try.underlying113
 have B2:=Aside0.mk hr0
 have B6:=Aside0.mk hc0
 clear hr0 hc0
 have HB:=Aside0.mk (Below.refl w.heap.size w)
 have H:(if (wrap64 (a1 - (l0.length:Int))) < 0 then (some (-1)) else (laws_szDeclS.l0 k l0 (wrap64 (a1 - (l0.length:Int))) 0))=some r:=h
 clear h
 by_cases c3:(wrap64 (a1 - (l0.length:Int))) < 0
 ·rw [if_pos c3] at H
  have B0:=decide_eq_true c3
  clear c3
  obtain rfl:=Option.some.inj H
  go_enter Try.func66,Try.ntmps66
  go_wp2
  go_ret
  exact ⟨laws_szDeclS.a0,hV HB⟩
 rw [if_neg c3] at H
 have B0:=decide_eq_false c3
 clear c3
 have H':=Aside0.mk H
 clear H
 go_enter Try.func66,Try.ntmps66
 go_wp2
 go_loopg [1,5] k (fun kq v1 v5 w'=> ∃ (x1_1:Int) (x5_1:Int),v1=.int .i64 x1_1∧v5=.int .i64 x5_1∧Aside0 (laws_szDeclS.l0 kq l0 x1_1 x5_1=some r)∧Aside0 (kq≤k)∧Aside0 (Below w.heap.size w w'))
 case atStart=>exact ⟨(wrap64 (a1 - (l0.length:Int))),(0),(by first | rfl | (simp;done) | (simp [*];done)),(by first | rfl | (simp;done) | (simp [*];done)),H',⟨Nat.le_refl _⟩,⟨hV HB⟩⟩
 clear H'
 try clear c3
 try clear B0
 obtain ⟨x1_1,x5_1,rfl,rfl,HA,HK1,HB⟩:=hrel
 cases gk with
 | zero=>exact absurd HA.out (by simp [laws_szDeclS.l0])
 | succ k1=>
  have H:=HA.out
  clear HA
  simp only [laws_szDeclS.l0] at H
  by_cases c4:x5_1 < (l0.length:Int)
  rotate_left
  ·rw [if_neg c4] at H
   have B3:=decide_eq_false c4
   clear c4
   obtain rfl:=Option.some.inj H
   go_wp2
   go_ret
   exact ⟨laws_szDeclS.a0,hV HB⟩

  rw [if_pos c4] at H
  have B3:=decide_eq_true c4
  clear c4
  by_cases c5:0≤x5_1
  rotate_left
  ·rw [if_neg c5] at H
   exact absurd H (by simp)
  rw [if_pos c5] at H
  have B5:=decide_eq_true c5
  clear c5
  replace H:=Option.bind_eq_some_iff.mp H
  obtain ⟨t108,A60,H⟩:=H
  replace H:(if t108 < 0 then (some (-1)) else (laws_szDeclS.l0 k1 l0 t108 (wrap64 (x5_1 + 1))))=some r:=H
  have A6:=Aside0.mk A60
  clear A60
  by_cases c7:t108 < 0
  ·rw [if_pos c7] at H
   have B4:=decide_eq_true c7
   clear c7
   obtain rfl:=Option.some.inj H
   have A5:0≤(x5_1:Int):=dT
   have A7:x5_1 < (l0.length:Int):=dT
   obtain ⟨B1,A107_0,c107_0,e107,A1,A2,A3,A4⟩:=at_T113 B2.out x5_1 A5 A7
   cases e107
   replace A1:=xc HB A1
   replace A2:=xc HB A2
   have A8:=Aside0.mk A4
   have A9:=Aside0.mk A3
   clear A4 A3
   replace A5:=eq_true A5
   replace A7:=eq_true A7
   go_wp2_with (first | (refine goK 77 (some 23) rfl Try.func77 #[.agg #[.slice A107_0 ((rd_T113 l0 x5_1).f0).length c107_0,.int .i64 ((rd_T113 l0 x5_1).f1)],.int .i64 x1_1] ?_;(with_reducible refine (laws_szDecl.calls _ _ ((rd_T113 l0 x5_1).f0) ((rd_T113 l0 x5_1).f1) x1_1 t108 _ ?side1 ?side2 A6.out).mono ?_);(case side1=>exact cB A8 HB);(case side2=>exact A9.out);rintro e w8 ⟨rfl,hb⟩;refine ⟨_,rfl,?_⟩;replace HB:=hS HB hb;(try clear hb);(try clear hb2);(try clear hk);(try clear hi)))
   go_ret
   exact ⟨laws_szDeclS.a0,hV HB⟩
  ·rw [if_neg c7] at H
   have B4:=decide_eq_false c7
   clear c7
   have H':=Aside0.mk H
   clear H
   have A5:0≤(x5_1:Int):=dT
   have A7:x5_1 < (l0.length:Int):=dT
   obtain ⟨B1,A107_0,c107_0,e107,A1,A2,A3,A4⟩:=at_T113 B2.out x5_1 A5 A7
   cases e107
   replace A1:=xc HB A1
   replace A2:=xc HB A2
   have A8:=Aside0.mk A4
   have A9:=Aside0.mk A3
   clear A4 A3
   replace A5:=eq_true A5
   replace A7:=eq_true A7
   go_wp2_with (first | (refine goK 77 (some 23) rfl Try.func77 #[.agg #[.slice A107_0 ((rd_T113 l0 x5_1).f0).length c107_0,.int .i64 ((rd_T113 l0 x5_1).f1)],.int .i64 x1_1] ?_;(with_reducible refine (laws_szDecl.calls _ _ ((rd_T113 l0 x5_1).f0) ((rd_T113 l0 x5_1).f1) x1_1 t108 _ ?side1 ?side2 A6.out).mono ?_);(case side1=>exact cB A8 HB);(case side2=>exact A9.out);rintro e w9 ⟨rfl,hb⟩;refine ⟨_,rfl,?_⟩;replace HB:=hS HB hb;(try clear hb);(try clear hb2);(try clear hk);(try clear hi)))
   go_roundg k1
   case measure=>have:=HK1.out;omega
   case rel=>exact ⟨(t108),(wrap64 (x5_1 + 1)),(by first | rfl | (simp;done) | (simp [*];done)),(by first | rfl | (simp;done) | (simp [*];done)),H',⟨by have:=HK1.out;omega⟩,⟨hV HB⟩⟩
/-! ### laws_szOp: function 47 -/
theorem laws_szOp.a0 {P_:Prop} (h_:P_:=by first | rfl | (simp [errW_none,errW_some] <;> rfl) | (simp [*,errW_none,errW_some] <;> rfl)):P_:=h_
def laws_szOp.f (k:Nat) (a0_0:ByteArray) (l0_1:List (S113)) (a0_2:Bool) (a0_3:Bool) (a0_4:Int) (a1:Int):Option (Int):=if (wrap64 (a1 - (a0_0.size:Int))) < 0 then (some (-1)) else ((laws_szDeclS.f k l0_1 (wrap64 (a1 - (a0_0.size:Int)))).bind fun t110=>(if t110 < 0 then (some (-1)) else (some t110)))
set_option maxHeartbeats 8000000 in
set_option maxRecDepth 100000 in
theorem laws_szOp.calls (k:Nat) (a0_0:ByteArray) (A0_1:Option Addr) (c0_1:Nat) (l0_1:List (S113)) (a0_2:Bool) (a0_3:Bool) (a0_4:Int) (a1:Int) (r:Int) (w:World) (hr0_1:Kd.C k113 w A0_1 l0_1.length l0_1) (hc0_1:l0_1.length≤c0_1) (h:laws_szOp.f k a0_0 l0_1 a0_2 a0_3 a0_4 a1=some r) :
  Calls Try.prog 47 #[.agg #[.string a0_0,.slice A0_1 l0_1.length c0_1,.bool a0_2,.bool a0_3,.int .i64 a0_4],.int .i64 a1] w fun e w'=>e=.returned (.int .i64 r)∧Below w.heap.size w w':=by
 have hu86:=Try.underlying86
 have A1:=Aside0.mk hr0_1
 have A2:=Aside0.mk hc0_1
 clear hr0_1 hc0_1
 have HB:=Aside0.mk (Below.refl w.heap.size w)
 have H:(if (wrap64 (a1 - (a0_0.size:Int))) < 0 then (some (-1)) else ((laws_szDeclS.f k l0_1 (wrap64 (a1 - (a0_0.size:Int)))).bind fun t110=>(if t110 < 0 then (some (-1)) else (some t110))))=some r:=h
 clear h
 by_cases c3:(wrap64 (a1 - (a0_0.size:Int))) < 0
 ·rw [if_pos c3] at H
  have A7:=decide_eq_true c3
  clear c3
  obtain rfl:=Option.some.inj H
  go_enter Try.func47,Try.ntmps47
  go_wp2_with (first | (refine bx 2 rfl #[.string a0_0,.slice A0_1 l0_1.length c0_1,.bool a0_2,.bool a0_3,.int .i64 a0_4] 86 ?_;intro A3 hg w4 hbox hb;have A0:=Aside0.mk (hbox);have A4:=hZ HB hg;have A5:=hZ HB hg;replace HB:=hS HB hb;clear hb hbox hg;obtain ⟨B9,C0,C1,C2,C3,C4,C5,C6,C7,C8⟩:=cf5 A0))
  go_ret
  exact ⟨laws_szOp.a0,hV HB⟩
 rw [if_neg c3] at H
 have A7:=decide_eq_false c3
 clear c3
 replace H:=Option.bind_eq_some_iff.mp H
 obtain ⟨t110,A60,H⟩:=H
 replace H:(if t110 < 0 then (some (-1)) else (some t110))=some r:=H
 have A6:=Aside0.mk A60
 clear A60
 by_cases c7:t110 < 0
 ·rw [if_pos c7] at H
  have A8:=decide_eq_true c7
  clear c7
  obtain rfl:=Option.some.inj H
  go_enter Try.func47,Try.ntmps47
  go_wp2_with (first | (refine bx 2 rfl #[.string a0_0,.slice A0_1 l0_1.length c0_1,.bool a0_2,.bool a0_3,.int .i64 a0_4] 86 ?_;intro A3 hg w8 hbox hb;have A0:=Aside0.mk (hbox);have A4:=hZ HB hg;have A5:=hZ HB hg;replace HB:=hS HB hb;clear hb hbox hg;obtain ⟨C9,D0,D1,D2,D3,D4,D5,D6,D7,D8⟩:=cf5 A0) | (refine goK 66 (some 15) rfl Try.func66 #[.slice A0_1 l0_1.length c0_1,.int .i64 (wrap64 (a1 - (a0_0.size:Int)))] ?_;(with_reducible refine (laws_szDeclS.calls k _ _ l0_1 (wrap64 (a1 - (a0_0.size:Int))) t110 _ ?side1 ?side2 A6.out).mono ?_);(case side1=>exact cB A1 HB);(case side2=>exact A2.out);rintro e w10 ⟨rfl,hb⟩;refine ⟨_,rfl,?_⟩;replace A0:=bB A0 hb;replace HB:=hS HB hb;(try clear hb);(try clear hb2);(try clear hk);(try clear hi)))
  go_ret
  exact ⟨laws_szOp.a0,hV HB⟩
 rw [if_neg c7] at H
 have A8:=decide_eq_false c7
 clear c7
 obtain rfl:=Option.some.inj H
 go_enter Try.func47,Try.ntmps47
 go_wp2_with (first | (refine bx 2 rfl #[.string a0_0,.slice A0_1 l0_1.length c0_1,.bool a0_2,.bool a0_3,.int .i64 a0_4] 86 ?_;intro A3 hg w11 hbox hb;have A0:=Aside0.mk (hbox);have A4:=hZ HB hg;have A5:=hZ HB hg;replace HB:=hS HB hb;clear hb hbox hg;obtain ⟨A9,B0,B1,B2,B3,B4,B5,B6,B7,B8⟩:=cf5 A0) | (refine goK 66 (some 15) rfl Try.func66 #[.slice A0_1 l0_1.length c0_1,.int .i64 (wrap64 (a1 - (a0_0.size:Int)))] ?_;(with_reducible refine (laws_szDeclS.calls k _ _ l0_1 (wrap64 (a1 - (a0_0.size:Int))) t110 _ ?side1 ?side2 A6.out).mono ?_);(case side1=>exact cB A1 HB);(case side2=>exact A2.out);rintro e w13 ⟨rfl,hb⟩;refine ⟨_,rfl,?_⟩;replace A0:=bB A0 hb;replace HB:=hS HB hb;(try clear hb);(try clear hb2);(try clear hk);(try clear hi)))
 go_ret
 exact ⟨laws_szOp.a0,hV HB⟩

/-! ### laws_szOpS: function 22 -/
theorem laws_szOpS.a0 {P_:Prop} (h_:P_:=by first | rfl | (simp [errW_none,errW_some] <;> rfl) | (simp [*,errW_none,errW_some] <;> rfl)):P_:=h_
def laws_szOpS.l0:Nat→List (S86)→Int→Int→Option (Int)
 | 0,_,_,_=>none
 | k + 1,x0,x1,x5=>if x5 < (x0.length:Int) then (if 0≤x5 then ((laws_szOp.f k ((rd_T86 x0 x5).f0) ((rd_T86 x0 x5).f1) ((rd_T86 x0 x5).f2) ((rd_T86 x0 x5).f3) ((rd_T86 x0 x5).f4) x1).bind fun t112=>(if t112 < 0 then (some (-1)) else (laws_szOpS.l0 k x0 t112 (wrap64 (x5 + 1))))) else (none)) else (some x1)
def laws_szOpS.f (k:Nat) (l0:List (S86)) (a1:Int):Option (Int):=if (wrap64 (a1 - (l0.length:Int))) < 0 then (some (-1)) else (laws_szOpS.l0 k l0 (wrap64 (a1 - (l0.length:Int))) 0)
set_option maxHeartbeats 8000000 in
set_option maxRecDepth 100000 in
theorem laws_szOpS.calls (k:Nat) (A0:Option Addr) (c0:Nat) (l0:List (S86)) (a1:Int) (r:Int) (w:World) (hr0:Kd.C k86 w A0 l0.length l0) (hc0:l0.length≤c0) (h:laws_szOpS.f k l0 a1=some r) :
  Calls Try.prog 22 #[.slice A0 l0.length c0,.int .i64 a1] w fun e w'=>e=.returned (.int .i64 r)∧Below w.heap.size w w':=by
 have hu86:=Try.underlying86
 have B5:=Aside0.mk hr0
 have B9:=Aside0.mk hc0
 clear hr0 hc0
 have HB:=Aside0.mk (Below.refl w.heap.size w)
 have H:(if (wrap64 (a1 - (l0.length:Int))) < 0 then (some (-1)) else (laws_szOpS.l0 k l0 (wrap64 (a1 - (l0.length:Int))) 0))=some r:=h
 clear h
 by_cases c3:(wrap64 (a1 - (l0.length:Int))) < 0
 ·rw [if_pos c3] at H
  have B3:=decide_eq_true c3
  clear c3
  obtain rfl:=Option.some.inj H
  go_enter Try.func22,Try.ntmps22
  go_wp2
  go_ret
  exact ⟨laws_szOpS.a0,hV HB⟩
 rw [if_neg c3] at H
 have B3:=decide_eq_false c3
 clear c3
 have H':=Aside0.mk H
 clear H
 go_enter Try.func22,Try.ntmps22
 go_wp2
 go_loopg [1,5] k (fun kq v1 v5 w'=> ∃ (x1_1:Int) (x5_1:Int),v1=.int .i64 x1_1∧v5=.int .i64 x5_1∧Aside0 (laws_szOpS.l0 kq l0 x1_1 x5_1=some r)∧Aside0 (kq≤k)∧Aside0 (Below w.heap.size w w'))
 case atStart=>exact ⟨(wrap64 (a1 - (l0.length:Int))),(0),(by first | rfl | (simp;done) | (simp [*];done)),(by first | rfl | (simp;done) | (simp [*];done)),H',⟨Nat.le_refl _⟩,⟨hV HB⟩⟩
 clear H'
 try clear c3
 try clear B3
 obtain ⟨x1_1,x5_1,rfl,rfl,HA,HK1,HB⟩:=hrel
 cases gk with
 | zero=>exact absurd HA.out (by simp [laws_szOpS.l0])
 | succ k1=>
  have H:=HA.out
  clear HA
  simp only [laws_szOpS.l0] at H
  by_cases c4:x5_1 < (l0.length:Int)
  rotate_left
  ·rw [if_neg c4] at H
   have B6:=decide_eq_false c4
   clear c4
   obtain rfl:=Option.some.inj H
   go_wp2
   go_ret
   exact ⟨laws_szOpS.a0,hV HB⟩

  rw [if_pos c4] at H
  have B6:=decide_eq_true c4
  clear c4
  by_cases c5:0≤x5_1
  rotate_left
  ·rw [if_neg c5] at H
   exact absurd H (by simp)
  rw [if_pos c5] at H
  have B8:=decide_eq_true c5
  clear c5
  replace H:=Option.bind_eq_some_iff.mp H
  obtain ⟨t112,A60,H⟩:=H
  replace H:(if t112 < 0 then (some (-1)) else (laws_szOpS.l0 k1 l0 t112 (wrap64 (x5_1 + 1))))=some r:=H
  have A6:=Aside0.mk A60
  clear A60
  by_cases c7:t112 < 0
  ·rw [if_pos c7] at H
   have B7:=decide_eq_true c7
   clear c7
   obtain rfl:=Option.some.inj H
   have A9:0≤(x5_1:Int):=dT
   have B0:x5_1 < (l0.length:Int):=dT
   obtain ⟨B4,A111_1,c111_1,e111,A1,A2,A3,A4,A5,A7,A8⟩:=at_T86 B5.out x5_1 A9 B0
   cases e111
   replace A1:=xc HB A1
   replace A2:=xc HB A2
   replace A3:=xc HB A3
   replace A4:=xc HB A4
   replace A5:=xc HB A5
   have B1:=Aside0.mk A8
   have B2:=Aside0.mk A7
   clear A8 A7
   replace A9:=eq_true A9
   replace B0:=eq_true B0
   go_wp2_with (first | (refine goK 47 (some 23) rfl Try.func47 #[.agg #[.string ((rd_T86 l0 x5_1).f0),.slice A111_1 ((rd_T86 l0 x5_1).f1).length c111_1,.bool ((rd_T86 l0 x5_1).f2),.bool ((rd_T86 l0 x5_1).f3),.int .i64 ((rd_T86 l0 x5_1).f4)],.int .i64 x1_1] ?_;(with_reducible refine (laws_szOp.calls k1 ((rd_T86 l0 x5_1).f0) _ _ ((rd_T86 l0 x5_1).f1) ((rd_T86 l0 x5_1).f2) ((rd_T86 l0 x5_1).f3) ((rd_T86 l0 x5_1).f4) x1_1 t112 _ ?side1 ?side2 A6.out).mono ?_);(case side1=>exact cB B1 HB);(case side2=>exact B2.out);rintro e w8 ⟨rfl,hb⟩;refine ⟨_,rfl,?_⟩;replace HB:=hS HB hb;(try clear hb);(try clear hb2);(try clear hk);(try clear hi)))
   go_ret
   exact ⟨laws_szOpS.a0,hV HB⟩
  ·rw [if_neg c7] at H
   have B7:=decide_eq_false c7
   clear c7
   have H':=Aside0.mk H
   clear H
   have A9:0≤(x5_1:Int):=dT
   have B0:x5_1 < (l0.length:Int):=dT
   obtain ⟨B4,A111_1,c111_1,e111,A1,A2,A3,A4,A5,A7,A8⟩:=at_T86 B5.out x5_1 A9 B0
   cases e111
   replace A1:=xc HB A1
   replace A2:=xc HB A2
   replace A3:=xc HB A3
   replace A4:=xc HB A4
   replace A5:=xc HB A5
   have B1:=Aside0.mk A8
   have B2:=Aside0.mk A7
   clear A8 A7
   replace A9:=eq_true A9
   replace B0:=eq_true B0
   go_wp2_with (first | (refine goK 47 (some 23) rfl Try.func47 #[.agg #[.string ((rd_T86 l0 x5_1).f0),.slice A111_1 ((rd_T86 l0 x5_1).f1).length c111_1,.bool ((rd_T86 l0 x5_1).f2),.bool ((rd_T86 l0 x5_1).f3),.int .i64 ((rd_T86 l0 x5_1).f4)],.int .i64 x1_1] ?_;(with_reducible refine (laws_szOp.calls k1 ((rd_T86 l0 x5_1).f0) _ _ ((rd_T86 l0 x5_1).f1) ((rd_T86 l0 x5_1).f2) ((rd_T86 l0 x5_1).f3) ((rd_T86 l0 x5_1).f4) x1_1 t112 _ ?side1 ?side2 A6.out).mono ?_);(case side1=>exact cB B1 HB);(case side2=>exact B2.out);rintro e w9 ⟨rfl,hb⟩;refine ⟨_,rfl,?_⟩;replace HB:=hS HB hb;(try clear hb);(try clear hb2);(try clear hk);(try clear hi)))
   go_roundg k1
   case measure=>have:=HK1.out;omega
   case rel=>exact ⟨(t112),(wrap64 (x5_1 + 1)),(by first | rfl | (simp;done) | (simp [*];done)),(by first | rfl | (simp;done) | (simp [*];done)),H',⟨by have:=HK1.out;omega⟩,⟨hV HB⟩⟩
/-! ### laws_szSignature: function 8 -/
theorem laws_szSignature.a0 {P_:Prop} (h_:P_:=by first | rfl | (simp [errW_none,errW_some] <;> rfl) | (simp [*,errW_none,errW_some] <;> rfl)):P_:=h_
def laws_szSignature.f (k:Nat) (l0_0:List ByteArray) (l0_1:List (S107)) (l0_2:List (S86)) (a1:Int):Option (Int):=(laws_szSorts.f k l0_0 l0_1 a1).bind fun t114=>(if t114 < 0 then (some (-1)) else ((laws_szOpS.f k l0_2 t114).bind fun t115=>(if t115 < 0 then (some (-1)) else (some t115))))
set_option maxHeartbeats 8000000 in
set_option maxRecDepth 100000 in
theorem laws_szSignature.calls (k:Nat) (A0_0:Option Addr) (c0_0:Nat) (l0_0:List ByteArray) (A0_1:Option Addr) (c0_1:Nat) (l0_1:List (S107)) (A0_2:Option Addr) (c0_2:Nat) (l0_2:List (S86)) (a1:Int) (r:Int) (w:World) (hr0_0:Kd.C Kd.string w A0_0 l0_0.length l0_0) (hc0_0:l0_0.length≤c0_0) (hr0_1:Kd.C k107 w A0_1 l0_1.length l0_1) (hc0_1:l0_1.length≤c0_1) (hr0_2:Kd.C k86 w A0_2 l0_2.length l0_2) (hc0_2:l0_2.length≤c0_2) (h:laws_szSignature.f k l0_0 l0_1 l0_2 a1=some r) :
  Calls Try.prog 8 #[.agg #[.slice A0_0 l0_0.length c0_0,.slice A0_1 l0_1.length c0_1,.slice A0_2 l0_2.length c0_2],.int .i64 a1] w fun e w'=>e=.returned (.int .i64 r)∧Below w.heap.size w w':=by
 have hu28:=Try.underlying28
 have hu25:=Try.underlying25
 have A1:=Aside0.mk hr0_0
 have A2:=Aside0.mk hc0_0
 clear hr0_0 hc0_0
 have A4:=Aside0.mk hr0_1
 have A5:=Aside0.mk hc0_1
 clear hr0_1 hc0_1
 have A6:=Aside0.mk hr0_2
 have A7:=Aside0.mk hc0_2
 clear hr0_2 hc0_2
 have HB:=Aside0.mk (Below.refl w.heap.size w)
 have H:((laws_szSorts.f k l0_0 l0_1 a1).bind fun t114=>(if t114 < 0 then (some (-1)) else ((laws_szOpS.f k l0_2 t114).bind fun t115=>(if t115 < 0 then (some (-1)) else (some t115)))))=some r:=h
 clear h
 replace H:=Option.bind_eq_some_iff.mp H
 obtain ⟨t114,A30,H⟩:=H
 replace H:(if t114 < 0 then (some (-1)) else ((laws_szOpS.f k l0_2 t114).bind fun t115=>(if t115 < 0 then (some (-1)) else (some t115))))=some r:=H
 have A3:=Aside0.mk A30
 clear A30
 by_cases c4:t114 < 0
 ·rw [if_pos c4] at H
  have B2:=decide_eq_true c4
  clear c4
  obtain rfl:=Option.some.inj H
  go_enter Try.func8,Try.ntmps8
  go_wp2_with (first | (refine bx 2 rfl #[.slice A0_0 l0_0.length c0_0,.slice A0_1 l0_1.length c0_1,.slice A0_2 l0_2.length c0_2] 28 ?_;intro A9 hg w5 hbox hb;have A0:=Aside0.mk (hbox);have B0:=hZ HB hg;have B1:=hZ HB hg;replace HB:=hS HB hb;clear hb hbox hg;obtain ⟨D8,D9,E0,E1,E2,E3⟩:=cf3 A0) | (refine goK 21 (some 8) rfl Try.func21 #[.agg #[.slice A0_0 l0_0.length c0_0,.slice A0_1 l0_1.length c0_1],.int .i64 a1] ?_;(with_reducible refine (laws_szSorts.calls k _ _ l0_0 _ _ l0_1 a1 t114 _ ?side1 ?side2 ?side3 ?side4 A3.out).mono ?_);(case side1=>exact cB A1 HB);(case side2=>exact A2.out);(case side3=>exact cB A4 HB);(case side4=>exact A5.out);rintro e w7 ⟨rfl,hb⟩;refine ⟨_,rfl,?_⟩;replace A0:=bB A0 hb;replace HB:=hS HB hb;(try clear hb);(try clear hb2);(try clear hk);(try clear hi)))
  go_ret
  exact ⟨laws_szSignature.a0,hV HB⟩
 rw [if_neg c4] at H
 have B2:=decide_eq_false c4
 clear c4
 replace H:=Option.bind_eq_some_iff.mp H
 obtain ⟨t115,A80,H⟩:=H
 replace H:(if t115 < 0 then (some (-1)) else (some t115))=some r:=H
 have A8:=Aside0.mk A80
 clear A80
 by_cases c9:t115 < 0
 ·rw [if_pos c9] at H
  have B3:=decide_eq_true c9
  clear c9
  obtain rfl:=Option.some.inj H
  go_enter Try.func8,Try.ntmps8
  go_wp2_with (first | (refine bx 2 rfl #[.slice A0_0 l0_0.length c0_0,.slice A0_1 l0_1.length c0_1,.slice A0_2 l0_2.length c0_2] 28 ?_;intro A9 hg w10 hbox hb;have A0:=Aside0.mk (hbox);have B0:=hZ HB hg;have B1:=hZ HB hg;replace HB:=hS HB hb;clear hb hbox hg;obtain ⟨B4,B5,B6,B7,B8,B9⟩:=cf3 A0) | (refine goK 21 (some 8) rfl Try.func21 #[.agg #[.slice A0_0 l0_0.length c0_0,.slice A0_1 l0_1.length c0_1],.int .i64 a1] ?_;(with_reducible refine (laws_szSorts.calls k _ _ l0_0 _ _ l0_1 a1 t114 _ ?side1 ?side2 ?side3 ?side4 A3.out).mono ?_);(case side1=>exact cB A1 HB);(case side2=>exact A2.out);(case side3=>exact cB A4 HB);(case side4=>exact A5.out);rintro e w12 ⟨rfl,hb⟩;refine ⟨_,rfl,?_⟩;replace A0:=bB A0 hb;replace HB:=hS HB hb;(try clear hb);(try clear hb2);(try clear hk);(try clear hi);obtain ⟨C0,C1,C2,C3,C4,C5⟩:=cf3 A0) | (refine goK 22 (some 14) rfl Try.func22 #[.slice A0_2 l0_2.length c0_2,.int .i64 t114] ?_;(with_reducible refine (laws_szOpS.calls k _ _ l0_2 t114 t115 _ ?side1 ?side2 A8.out).mono ?_);(case side1=>exact cB A6 HB);(case side2=>exact A7.out);rintro e w14 ⟨rfl,hb⟩;refine ⟨_,rfl,?_⟩;replace A0:=bB A0 hb;replace HB:=hS HB hb;(try clear hb);(try clear hb2);(try clear hk);(try clear hi)))
  go_ret
  exact ⟨laws_szSignature.a0,hV HB⟩
 rw [if_neg c9] at H
 have B3:=decide_eq_false c9
 clear c9
 obtain rfl:=Option.some.inj H
 go_enter Try.func8,Try.ntmps8
 go_wp2_with (first | (refine bx 2 rfl #[.slice A0_0 l0_0.length c0_0,.slice A0_1 l0_1.length c0_1,.slice A0_2 l0_2.length c0_2] 28 ?_;intro A9 hg w15 hbox hb;have A0:=Aside0.mk (hbox);have B0:=hZ HB hg;have B1:=hZ HB hg;replace HB:=hS HB hb;clear hb hbox hg;obtain ⟨C6,C7,C8,C9,D0,D1⟩:=cf3 A0) | (refine goK 21 (some 8) rfl Try.func21 #[.agg #[.slice A0_0 l0_0.length c0_0,.slice A0_1 l0_1.length c0_1],.int .i64 a1] ?_;(with_reducible refine (laws_szSorts.calls k _ _ l0_0 _ _ l0_1 a1 t114 _ ?side1 ?side2 ?side3 ?side4 A3.out).mono ?_);(case side1=>exact cB A1 HB);(case side2=>exact A2.out);(case side3=>exact cB A4 HB);(case side4=>exact A5.out);rintro e w17 ⟨rfl,hb⟩;refine ⟨_,rfl,?_⟩;replace A0:=bB A0 hb;replace HB:=hS HB hb;(try clear hb);(try clear hb2);(try clear hk);(try clear hi);obtain ⟨D2,D3,D4,D5,D6,D7⟩:=cf3 A0) | (refine goK 22 (some 14) rfl Try.func22 #[.slice A0_2 l0_2.length c0_2,.int .i64 t114] ?_;(with_reducible refine (laws_szOpS.calls k _ _ l0_2 t114 t115 _ ?side1 ?side2 A8.out).mono ?_);(case side1=>exact cB A6 HB);(case side2=>exact A7.out);rintro e w19 ⟨rfl,hb⟩;refine ⟨_,rfl,?_⟩;replace A0:=bB A0 hb;replace HB:=hS HB hb;(try clear hb);(try clear hb2);(try clear hk);(try clear hi)))
 go_ret
 exact ⟨laws_szSignature.a0,hV HB⟩

end Go.Proofs.Ytpildjbakceicaa.Q

