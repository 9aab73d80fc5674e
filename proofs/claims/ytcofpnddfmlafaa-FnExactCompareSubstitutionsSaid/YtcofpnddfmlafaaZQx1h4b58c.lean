/- Functions of the program as plain Lean functions,and that the calls come to what they say. -/
import Derived.Test.YtcofpnddfmlafaaZQx0hd86e5
import Derived.Test.YtcofpnddfmlafaaZShorth79069
namespace Go.Proofs.Ytcofpnddfmlafaa.Q
open Go.RowKit Go.Proofs.YtcofpnddfmlafaaW.PrintWords Go.Proofs.YtcofpnddfmlafaaW.PrintLast Go.Proofs.YtcofpnddfmlafaaW.PrintMore
attribute [local go_sem] max2_int min2_int max_two min_two max_three min_three max_four min_four   -- for this text's walks alone
set_option linter.unusedVariables false
set_option linter.unusedSimpArgs false

theorem laws_szTerm.a0 {P_:Prop} (h_:P_:=by first | rfl | (simp [errW_none,errW_some] <;> rfl) | (simp [*,errW_none,errW_some] <;> rfl)):P_:=h_
mutual
def laws_szTerm.f:Nat→Int→ByteArray→Int→List (S24)→Int→Option (Int)
 | 0,_,_,_,_,_=>none
 | k + 1,a0_0,a0_1,a0_2,l0_3,a1=>if (wrap64 (a1 - (a0_1.size:Int))) < 0 then (some (-1)) else ((laws_szTermS.f k l0_3 (wrap64 (a1 - (a0_1.size:Int)))).bind fun t104=>(if t104 < 0 then (some (-1)) else (some t104)))
def laws_szTermS.l0:Nat→List (S24)→Int→Int→Option (Int)
 | 0,_,_,_=>none
 | k + 1,x0,x1,x5=>if x5 < (x0.length:Int) then (if 0≤x5 then ((laws_szTerm.f k ((rd_T24 x0 x5).f0) ((rd_T24 x0 x5).f1) ((rd_T24 x0 x5).f2) ((rd_T24 x0 x5).f3) x1).bind fun t102=>(if t102 < 0 then (some (-1)) else (laws_szTermS.l0 k x0 t102 (wrap64 (x5 + 1))))) else (none)) else (some x1)
def laws_szTermS.f:Nat→List (S24)→Int→Option (Int)
 | 0,_,_=>none
 | k + 1,l0,a1=>if (wrap64 (a1 - (l0.length:Int))) < 0 then (some (-1)) else (laws_szTermS.l0 k l0 (wrap64 (a1 - (l0.length:Int))) 0)
end
def laws_szTerm.Said (k:Nat):Prop:=∀ (a0_0:Int) (a0_1:ByteArray) (a0_2:Int) (A0_3:Option Addr) (c0_3:Nat) (l0_3:List (S24)) (a1:Int) (r:Int) (w:World) (hr0_3:Kd.C k24 w A0_3 l0_3.length l0_3) (hc0_3:l0_3.length≤c0_3) (_:laws_szTerm.f k a0_0 a0_1 a0_2 l0_3 a1=some r),
  Calls Try.prog 11 #[.agg #[.int .i64 a0_0,.string a0_1,.int .i64 a0_2,.slice A0_3 l0_3.length c0_3],.int .i64 a1] w fun e w'=>e=.returned (.int .i64 r)∧Below w.heap.size w w'

def laws_szTermS.Said (k:Nat):Prop:=∀ (A0:Option Addr) (c0:Nat) (l0:List (S24)) (a1:Int) (r:Int) (w:World) (hr0:Kd.C k24 w A0 l0.length l0) (hc0:l0.length≤c0) (_:laws_szTermS.f k l0 a1=some r),
  Calls Try.prog 18 #[.slice A0 l0.length c0,.int .i64 a1] w fun e w'=>e=.returned (.int .i64 r)∧Below w.heap.size w w'

/-! ### laws_szTerm: function 11 -/
set_option maxHeartbeats 8000000 in
set_option maxRecDepth 100000 in
theorem laws_szTerm.calls_ (k:Nat) (ih_11:∀ m,m < k→∀ (a0_0:Int) (a0_1:ByteArray) (a0_2:Int) (A0_3:Option Addr) (c0_3:Nat) (l0_3:List (S24)) (a1:Int) (r:Int) (w:World) (hr0_3:Kd.C k24 w A0_3 l0_3.length l0_3) (hc0_3:l0_3.length≤c0_3) (_:laws_szTerm.f m a0_0 a0_1 a0_2 l0_3 a1=some r),
  Calls Try.prog 11 #[.agg #[.int .i64 a0_0,.string a0_1,.int .i64 a0_2,.slice A0_3 l0_3.length c0_3],.int .i64 a1] w fun e w'=>e=.returned (.int .i64 r)∧Below w.heap.size w w') (ih_18:∀ m,m < k→∀ (A0:Option Addr) (c0:Nat) (l0:List (S24)) (a1:Int) (r:Int) (w:World) (hr0:Kd.C k24 w A0 l0.length l0) (hc0:l0.length≤c0) (_:laws_szTermS.f m l0 a1=some r),
  Calls Try.prog 18 #[.slice A0 l0.length c0,.int .i64 a1] w fun e w'=>e=.returned (.int .i64 r)∧Below w.heap.size w w'):∀ (a0_0:Int) (a0_1:ByteArray) (a0_2:Int) (A0_3:Option Addr) (c0_3:Nat) (l0_3:List (S24)) (a1:Int) (r:Int) (w:World) (hr0_3:Kd.C k24 w A0_3 l0_3.length l0_3) (hc0_3:l0_3.length≤c0_3) (h:laws_szTerm.f k a0_0 a0_1 a0_2 l0_3 a1=some r),
  Calls Try.prog 11 #[.agg #[.int .i64 a0_0,.string a0_1,.int .i64 a0_2,.slice A0_3 l0_3.length c0_3],.int .i64 a1] w fun e w'=>e=.returned (.int .i64 r)∧Below w.heap.size w w':=by
 intro a0_0 a0_1 a0_2 A0_3 c0_3 l0_3 a1 r w hr0_3 hc0_3 h
 cases k with
 | zero=>exact absurd h (by simp [laws_szTerm.f])
 | succ k=>
 simp only [laws_szTerm.f] at h
 have hu24:=Try.underlying24
 have B5:=Aside0.mk hr0_3
 have B6:=Aside0.mk hc0_3
 clear hr0_3 hc0_3
 have HB:=Aside0.mk (Below.refl w.heap.size w)
 have H:(if (wrap64 (a1 - (a0_1.size:Int))) < 0 then (some (-1)) else ((laws_szTermS.f k l0_3 (wrap64 (a1 - (a0_1.size:Int)))).bind fun t104=>(if t104 < 0 then (some (-1)) else (some t104))))=some r:=h
 clear h
 by_cases c3:(wrap64 (a1 - (a0_1.size:Int))) < 0
 ·rw [if_pos c3] at H
  have B3:=decide_eq_true c3
  clear c3
  obtain rfl:=Option.some.inj H
  go_enter Try.func11,Try.ntmps11
  go_wp2_with (first | (refine bx 2 rfl #[.int .i64 a0_0,.string a0_1,.int .i64 a0_2,.slice A0_3 l0_3.length c0_3] 24 ?_;intro B7 hg w4 hbox hb;have A1:=Aside0.mk (hbox);have B8:=hZ HB hg;have B9:=hZ HB hg;replace HB:=hS HB hb;clear hb hbox hg;obtain ⟨D1,D2,D3,D4,D5,D6,D7,D8⟩:=cf4 A1))
  go_ret
  exact ⟨laws_szTerm.a0,hV HB⟩
 rw [if_neg c3] at H
 have B3:=decide_eq_false c3
 clear c3
 replace H:=Option.bind_eq_some_iff.mp H
 obtain ⟨t104,A60,H⟩:=H
 replace H:(if t104 < 0 then (some (-1)) else (some t104))=some r:=H
 have A6:=Aside0.mk A60
 clear A60
 by_cases c7:t104 < 0
 ·rw [if_pos c7] at H
  have B4:=decide_eq_true c7
  clear c7
  obtain rfl:=Option.some.inj H
  go_enter Try.func11,Try.ntmps11
  go_wp2_with (first | (refine bx 2 rfl #[.int .i64 a0_0,.string a0_1,.int .i64 a0_2,.slice A0_3 l0_3.length c0_3] 24 ?_;intro B7 hg w8 hbox hb;have A1:=Aside0.mk (hbox);have B8:=hZ HB hg;have B9:=hZ HB hg;replace HB:=hS HB hb;clear hb hbox hg;obtain ⟨D9,E0,E1,E2,E3,E4,E5,E6⟩:=cf4 A1) | (refine goK 18 (some 15) rfl Try.func18 #[.slice A0_3 l0_3.length c0_3,.int .i64 (wrap64 (a1 - (a0_1.size:Int)))] ?_;(with_reducible refine (ih_18 k (by omega) _ _ l0_3 (wrap64 (a1 - (a0_1.size:Int))) t104 _ ?side1 ?side2 A6.out).mono ?_);(case side1=>exact cB B5 HB);(case side2=>exact B6.out);rintro e w10 ⟨rfl,hb⟩;refine ⟨_,rfl,?_⟩;replace A1:=bB A1 hb;replace HB:=hS HB hb;(try clear hb);(try clear hb2);(try clear hk);(try clear hi)))
  go_ret
  exact ⟨laws_szTerm.a0,hV HB⟩
 rw [if_neg c7] at H
 have B4:=decide_eq_false c7
 clear c7
 obtain rfl:=Option.some.inj H
 go_enter Try.func11,Try.ntmps11
 go_wp2_with (first | (refine bx 2 rfl #[.int .i64 a0_0,.string a0_1,.int .i64 a0_2,.slice A0_3 l0_3.length c0_3] 24 ?_;intro B7 hg w11 hbox hb;have A1:=Aside0.mk (hbox);have B8:=hZ HB hg;have B9:=hZ HB hg;replace HB:=hS HB hb;clear hb hbox hg;obtain ⟨C3,C4,C5,C6,C7,C8,C9,D0⟩:=cf4 A1) | (refine goK 18 (some 15) rfl Try.func18 #[.slice A0_3 l0_3.length c0_3,.int .i64 (wrap64 (a1 - (a0_1.size:Int)))] ?_;(with_reducible refine (ih_18 k (by omega) _ _ l0_3 (wrap64 (a1 - (a0_1.size:Int))) t104 _ ?side1 ?side2 A6.out).mono ?_);(case side1=>exact cB B5 HB);(case side2=>exact B6.out);rintro e w13 ⟨rfl,hb⟩;refine ⟨_,rfl,?_⟩;replace A1:=bB A1 hb;replace HB:=hS HB hb;(try clear hb);(try clear hb2);(try clear hk);(try clear hi)))
 go_ret
 exact ⟨laws_szTerm.a0,hV HB⟩

/-! ### laws_szTermS: function 18 -/
set_option maxHeartbeats 8000000 in
set_option maxRecDepth 100000 in
theorem laws_szTermS.calls_ (k:Nat) (ih_11:∀ m,m < k→∀ (a0_0:Int) (a0_1:ByteArray) (a0_2:Int) (A0_3:Option Addr) (c0_3:Nat) (l0_3:List (S24)) (a1:Int) (r:Int) (w:World) (hr0_3:Kd.C k24 w A0_3 l0_3.length l0_3) (hc0_3:l0_3.length≤c0_3) (_:laws_szTerm.f m a0_0 a0_1 a0_2 l0_3 a1=some r),
  Calls Try.prog 11 #[.agg #[.int .i64 a0_0,.string a0_1,.int .i64 a0_2,.slice A0_3 l0_3.length c0_3],.int .i64 a1] w fun e w'=>e=.returned (.int .i64 r)∧Below w.heap.size w w') (ih_18:∀ m,m < k→∀ (A0:Option Addr) (c0:Nat) (l0:List (S24)) (a1:Int) (r:Int) (w:World) (hr0:Kd.C k24 w A0 l0.length l0) (hc0:l0.length≤c0) (_:laws_szTermS.f m l0 a1=some r),
  Calls Try.prog 18 #[.slice A0 l0.length c0,.int .i64 a1] w fun e w'=>e=.returned (.int .i64 r)∧Below w.heap.size w w'):∀ (A0:Option Addr) (c0:Nat) (l0:List (S24)) (a1:Int) (r:Int) (w:World) (hr0:Kd.C k24 w A0 l0.length l0) (hc0:l0.length≤c0) (h:laws_szTermS.f k l0 a1=some r),
  Calls Try.prog 18 #[.slice A0 l0.length c0,.int .i64 a1] w fun e w'=>e=.returned (.int .i64 r)∧Below w.heap.size w w':=by
 intro A0 c0 l0 a1 r w hr0 hc0 h
 cases k with
 | zero=>exact absurd h (by simp [laws_szTermS.f])
 | succ k=>
 simp only [laws_szTermS.f] at h
 have hu24:=Try.underlying24
 have C1:=Aside0.mk hr0
 have E8:=Aside0.mk hc0
 clear hr0 hc0
 have HB:=Aside0.mk (Below.refl w.heap.size w)
 have H:(if (wrap64 (a1 - (l0.length:Int))) < 0 then (some (-1)) else (laws_szTermS.l0 k l0 (wrap64 (a1 - (l0.length:Int))) 0))=some r:=h
 clear h
 by_cases c3:(wrap64 (a1 - (l0.length:Int))) < 0
 ·rw [if_pos c3] at H
  have B3:=decide_eq_true c3
  clear c3
  obtain rfl:=Option.some.inj H
  go_enter Try.func18,Try.ntmps18
  go_wp2
  go_ret
  exact ⟨laws_szTerm.a0,hV HB⟩
 rw [if_neg c3] at H
 have B3:=decide_eq_false c3
 clear c3
 have H':=Aside0.mk H
 clear H
 go_enter Try.func18,Try.ntmps18
 go_wp2
 go_loopg [1,5] k (fun kq v1 v5 w'=> ∃ (x1_1:Int) (x5_1:Int),v1=.int .i64 x1_1∧v5=.int .i64 x5_1∧Aside0 (laws_szTermS.l0 kq l0 x1_1 x5_1=some r)∧Aside0 (kq≤k)∧Aside0 (Below w.heap.size w w'))
 case atStart=>exact ⟨(wrap64 (a1 - (l0.length:Int))),(0),(by first | rfl | (simp;done) | (simp [*];done)),(by first | rfl | (simp;done) | (simp [*];done)),H',⟨Nat.le_refl _⟩,⟨hV HB⟩⟩
 clear H'
 try clear c3
 try clear B3
 obtain ⟨x1_1,x5_1,rfl,rfl,HA,HK1,HB⟩:=hrel
 cases gk with
 | zero=>exact absurd HA.out (by simp [laws_szTermS.l0])
 | succ k1=>
  have H:=HA.out
  clear HA
  simp only [laws_szTermS.l0] at H
  by_cases c4:x5_1 < (l0.length:Int)
  rotate_left
  ·rw [if_neg c4] at H
   have C2:=decide_eq_false c4
   clear c4
   obtain rfl:=Option.some.inj H
   go_wp2
   go_ret
   exact ⟨laws_szTerm.a0,hV HB⟩

  rw [if_pos c4] at H
  have C2:=decide_eq_true c4
  clear c4
  by_cases c5:0≤x5_1
  rotate_left
  ·rw [if_neg c5] at H
   exact absurd H (by simp)
  rw [if_pos c5] at H
  have E7:=decide_eq_true c5
  clear c5
  replace H:=Option.bind_eq_some_iff.mp H
  obtain ⟨t102,A60,H⟩:=H
  replace H:(if t102 < 0 then (some (-1)) else (laws_szTermS.l0 k1 l0 t102 (wrap64 (x5_1 + 1))))=some r:=H
  have A6:=Aside0.mk A60
  clear A60
  by_cases c7:t102 < 0
  ·rw [if_pos c7] at H
   have B4:=decide_eq_true c7
   clear c7
   obtain rfl:=Option.some.inj H
   have A9:0≤(x5_1:Int):=dT
   have B0:x5_1 < (l0.length:Int):=dT
   obtain ⟨C0,A101_3,c101_3,e101,A2,A3,A4,A5,A7,A8⟩:=at_T24 C1.out x5_1 A9 B0
   cases e101
   replace A2:=xc HB A2
   replace A3:=xc HB A3
   replace A4:=xc HB A4
   replace A5:=xc HB A5
   have B1:=Aside0.mk A8
   have B2:=Aside0.mk A7
   clear A8 A7
   replace A9:=eq_true A9
   replace B0:=eq_true B0
   go_wp2_with (first | (refine goK 11 (some 23) rfl Try.func11 #[.agg #[.int .i64 ((rd_T24 l0 x5_1).f0),.string ((rd_T24 l0 x5_1).f1),.int .i64 ((rd_T24 l0 x5_1).f2),.slice A101_3 ((rd_T24 l0 x5_1).f3).length c101_3],.int .i64 x1_1] ?_;(with_reducible refine (ih_11 k1 (by have:=HK1.out;omega) ((rd_T24 l0 x5_1).f0) ((rd_T24 l0 x5_1).f1) ((rd_T24 l0 x5_1).f2) _ _ ((rd_T24 l0 x5_1).f3) x1_1 t102 _ ?side1 ?side2 A6.out).mono ?_);(case side1=>exact cB B1 HB);(case side2=>exact B2.out);rintro e w8 ⟨rfl,hb⟩;refine ⟨_,rfl,?_⟩;replace HB:=hS HB hb;(try clear hb);(try clear hb2);(try clear hk);(try clear hi)))
   go_ret
   exact ⟨laws_szTerm.a0,hV HB⟩
  ·rw [if_neg c7] at H
   have B4:=decide_eq_false c7
   clear c7
   have H':=Aside0.mk H
   clear H
   have A9:0≤(x5_1:Int):=dT
   have B0:x5_1 < (l0.length:Int):=dT
   obtain ⟨C0,A101_3,c101_3,e101,A2,A3,A4,A5,A7,A8⟩:=at_T24 C1.out x5_1 A9 B0
   cases e101
   replace A2:=xc HB A2
   replace A3:=xc HB A3
   replace A4:=xc HB A4
   replace A5:=xc HB A5
   have B1:=Aside0.mk A8
   have B2:=Aside0.mk A7
   clear A8 A7
   replace A9:=eq_true A9
   replace B0:=eq_true B0
   go_wp2_with (first | (refine goK 11 (some 23) rfl Try.func11 #[.agg #[.int .i64 ((rd_T24 l0 x5_1).f0),.string ((rd_T24 l0 x5_1).f1),.int .i64 ((rd_T24 l0 x5_1).f2),.slice A101_3 ((rd_T24 l0 x5_1).f3).length c101_3],.int .i64 x1_1] ?_;(with_reducible refine (ih_11 k1 (by have:=HK1.out;omega) ((rd_T24 l0 x5_1).f0) ((rd_T24 l0 x5_1).f1) ((rd_T24 l0 x5_1).f2) _ _ ((rd_T24 l0 x5_1).f3) x1_1 t102 _ ?side1 ?side2 A6.out).mono ?_);(case side1=>exact cB B1 HB);(case side2=>exact B2.out);rintro e w9 ⟨rfl,hb⟩;refine ⟨_,rfl,?_⟩;replace HB:=hS HB hb;(try clear hb);(try clear hb2);(try clear hk);(try clear hi)))
   go_roundg k1
   case measure=>have:=HK1.out;omega
   case rel=>exact ⟨(t102),(wrap64 (x5_1 + 1)),(by first | rfl | (simp;done) | (simp [*];done)),(by first | rfl | (simp;done) | (simp [*];done)),H',⟨by have:=HK1.out;omega⟩,⟨hV HB⟩⟩
theorem laws_szTerm.group.calls (k:Nat):laws_szTerm.Said k∧laws_szTermS.Said k:=by
 induction k using Nat.strongRecOn with
 | _ k ih=>
 exact ⟨laws_szTerm.calls_ k (fun m hm=>(ih m hm).1) (fun m hm=>(ih m hm).2),laws_szTermS.calls_ k (fun m hm=>(ih m hm).1) (fun m hm=>(ih m hm).2)⟩
theorem laws_szTerm.calls (k:Nat):∀ (a0_0:Int) (a0_1:ByteArray) (a0_2:Int) (A0_3:Option Addr) (c0_3:Nat) (l0_3:List (S24)) (a1:Int) (r:Int) (w:World) (hr0_3:Kd.C k24 w A0_3 l0_3.length l0_3) (hc0_3:l0_3.length≤c0_3) (_:laws_szTerm.f k a0_0 a0_1 a0_2 l0_3 a1=some r),
  Calls Try.prog 11 #[.agg #[.int .i64 a0_0,.string a0_1,.int .i64 a0_2,.slice A0_3 l0_3.length c0_3],.int .i64 a1] w fun e w'=>e=.returned (.int .i64 r)∧Below w.heap.size w w':=(laws_szTerm.group.calls k).1
/-! ### spec_CompareTerms: function 12 -/
theorem spec_CompareTerms.a0 {P_:Prop} (h_:P_:=by first | rfl | (simp [errW_none,errW_some] <;> rfl) | (simp [*,errW_none,errW_some] <;> rfl)):P_:=h_
theorem spec_CompareTerms.a1 {P_:Prop} (h_:P_:=by rintro w' ⟨s0,s1,s2,s3,s4,s5,s6,s7,s8,s9,s10,s11,s12,s13,s14,s15⟩;go_simp;with_reducible rfl):P_:=h_
mutual
def spec_CompareTerms.l0:Nat→Int→Int→ByteArray→Int→List (S29)→Int→ByteArray→Int→List (S29)→Option (Int)
 | 0,_,_,_,_,_,_,_,_,_=>none
 | k + 1,x5,x106000,x106001,x106002,x106003,x107000,x107001,x107002,x107003=>if x5 < (x106003.length:Int) then (spec_CompareTerms.j1 k x5 (decide (x5 < (x107003.length:Int))) x106000 x106001 x106002 x106003 x107000 x107001 x107002 x107003) else (spec_CompareTerms.j1 k x5 false x106000 x106001 x106002 x106003 x107000 x107001 x107002 x107003)
def spec_CompareTerms.j1:Nat→Int→Bool→Int→ByteArray→Int→List (S29)→Int→ByteArray→Int→List (S29)→Option (Int)
 | 0,_,_,_,_,_,_,_,_,_,_=>none
 | k + 1,x5,x48,x106000,x106001,x106002,x106003,x107000,x107001,x107002,x107003=>if x48=true then (if 0≤x5 then (if x5 < (x106003.length:Int) then (if x5 < (x107003.length:Int) then ((spec_CompareTerms.f k ((rd_T29 x106003 x5).f0) ((rd_T29 x106003 x5).f1) ((rd_T29 x106003 x5).f2) ((rd_T29 x106003 x5).f3) ((rd_T29 x107003 x5).f0) ((rd_T29 x107003 x5).f1) ((rd_T29 x107003 x5).f2) ((rd_T29 x107003 x5).f3)).bind fun t109=>(if t109=0 then (spec_CompareTerms.l0 k (wrap64 (x5 + 1)) x106000 x106001 x106002 x106003 x107000 x107001 x107002 x107003) else (some t109))) else (none)) else (none)) else (none)) else (if (x106003.length:Int) < (x107003.length:Int) then (some (-1)) else (if (x106003.length:Int) > (x107003.length:Int) then (some 1) else (some 0)))
def spec_CompareTerms.f:Nat→Int→ByteArray→Int→List (S29)→Int→ByteArray→Int→List (S29)→Option (Int)
 | 0,_,_,_,_,_,_,_,_=>none
 | k + 1,a0_0,a0_1,a0_2,l0_3,a1_0,a1_1,a1_2,l1_3=>if a0_0=a1_0 then (if a0_1.toList=a1_1.toList then (if a0_2=a1_2 then (spec_CompareTerms.l0 k 0 a0_0 a0_1 a0_2 l0_3 a1_0 a1_1 a1_2 l1_3) else (if a0_2 < a1_2 then (some (-1)) else (some 1))) else (if (Op.bytesLess a0_1.toList a1_1.toList)=true then (some (-1)) else (some 1))) else (if a0_0 < a1_0 then (some (-1)) else (some 1))
end
def spec_CompareTerms.T16:Bool × List (List Nat × List Nat):=(true,[([],[]),([0],[0]),([],[]),([1,2],[1,2]),([3],[3]),([],[]),([5],[5]),([],[]),([6,7],[6,7]),([8],[8]),([4,9],[4,9]),([10,10,0,1,2,3,4,5,6,7,8,9,10],[10])])
def spec_CompareTerms.B16:List Nat:=[0,1,0,7,15,0,32,0,224,480,1023,2047]
theorem spec_CompareTerms.tab16:rtab .any (opsOf Try.f12 16)=spec_CompareTerms.T16:=by kernel_rfl
theorem spec_CompareTerms.bits16:waitsOk spec_CompareTerms.T16.2 spec_CompareTerms.B16=true:=by kernel_rfl
set_option maxHeartbeats 8000000 in
set_option maxRecDepth 100000 in
theorem spec_CompareTerms.calls (k:Nat):∀ (a0_0:Int) (a0_1:ByteArray) (a0_2:Int) (A0_3:Option Addr) (c0_3:Nat) (l0_3:List (S29)) (a1_0:Int) (a1_1:ByteArray) (a1_2:Int) (A1_3:Option Addr) (c1_3:Nat) (l1_3:List (S29)) (r:Int) (w:World) (hr0_3:Kd.C k29 w A0_3 l0_3.length l0_3) (hc0_3:l0_3.length≤c0_3) (hr1_3:Kd.C k29 w A1_3 l1_3.length l1_3) (hc1_3:l1_3.length≤c1_3) (h:spec_CompareTerms.f k a0_0 a0_1 a0_2 l0_3 a1_0 a1_1 a1_2 l1_3=some r),
  Calls Try.prog 12 #[.agg #[.int .i64 a0_0,.string a0_1,.int .i64 a0_2,.slice A0_3 l0_3.length c0_3],.agg #[.int .i64 a1_0,.string a1_1,.int .i64 a1_2,.slice A1_3 l1_3.length c1_3]] w fun e w'=>e=.returned (.int .i64 r)∧Below w.heap.size w w':=by
 induction k using Nat.strongRecOn with
 | _ k ih=>
 intro a0_0 a0_1 a0_2 A0_3 c0_3 l0_3 a1_0 a1_1 a1_2 A1_3 c1_3 l1_3 r w hr0_3 hc0_3 hr1_3 hc1_3 h
 cases k with
 | zero=>exact absurd h (by simp [spec_CompareTerms.f])
 | succ k=>
 simp only [spec_CompareTerms.f] at h
 have hu29:=Try.underlying29
 have G4:=Aside0.mk hr0_3
 have Y3:=Aside0.mk hc0_3
 clear hr0_3 hc0_3
 have G5:=Aside0.mk hr1_3
 have Y4:=Aside0.mk hc1_3
 clear hr1_3 hc1_3
 have HB:=Aside0.mk (Below.refl w.heap.size w)
 have H:(if a0_0=a1_0 then (if a0_1.toList=a1_1.toList then (if a0_2=a1_2 then (spec_CompareTerms.l0 k 0 a0_0 a0_1 a0_2 l0_3 a1_0 a1_1 a1_2 l1_3) else (if a0_2 < a1_2 then (some (-1)) else (some 1))) else (if (Op.bytesLess a0_1.toList a1_1.toList)=true then (some (-1)) else (some 1))) else (if a0_0 < a1_0 then (some (-1)) else (some 1)))=some r:=h
 clear h
 by_cases c3:a0_0=a1_0
 ·rw [if_pos c3] at H
  have F7:(a0_0 == a1_0)=true:=beq_iff_eq.mpr c3
  have F8:(a0_0 != a1_0)=false:=bne_eq_false_iff_eq.mpr c3
  clear c3
  by_cases c4:a0_1.toList=a1_1.toList
  ·rw [if_pos c4] at H
   have F9:(a0_1.toList == a1_1.toList)=true:=beq_iff_eq.mpr c4
   have G0:(a0_1.toList != a1_1.toList)=false:=bne_eq_false_iff_eq.mpr c4
   clear c4
   by_cases c5:a0_2=a1_2
   ·rw [if_pos c5] at H
    have G1:(a0_2 == a1_2)=true:=beq_iff_eq.mpr c5
    have G2:(a0_2 != a1_2)=false:=bne_eq_false_iff_eq.mpr c5
    clear c5
    have H':=Aside0.mk H
    clear H
    go_enter Try.func12,Try.ntmps12
    go_wp2_with (first | ((with_reducible refine gate_dst (N:=2) rfl ?_);(try (refine gate_guard (by rfl) ?_;dsimp only));refine bx 2 rfl #[.int .i64 a0_0,.string a0_1,.int .i64 a0_2,.slice A0_3 l0_3.length c0_3] 29 ?_;intro A6 hg w6 hbox hb;have A0:=Aside0.mk (hbox);have D0:=hZ HB hg;have D1:=hZ HB hg;replace HB:=hS HB hb;clear hb hbox hg) | ((with_reducible refine gate_dst (N:=3) rfl ?_);(try (refine gate_guard (by rfl) ?_;dsimp only));refine bx 3 rfl #[.int .i64 a1_0,.string a1_1,.int .i64 a1_2,.slice A1_3 l1_3.length c1_3] 29 ?_;intro A7 hg w7 hbox hb;have A1:=Aside0.mk (hbox);have D2:=hZ HB hg;have D3:=hZ HB hg;replace HB:=hS HB hb;have A2:=nL A0 hg;have A3:=nG A0 hg;replace A0:=bB A0 hb;clear hb hbox hg;have b8:=A2.out;have b9:=A3.out;obtain ⟨E9,F0,F1,F2,F3,F4,F5,F6⟩:=cf4 A0;obtain ⟨E1,E2,E3,E4,E5,E6,E7,E8⟩:=cf4 A1))
    go_loopg [5] k (fun kq v5 w'=> ∃ (x5_1:Int),v5=.int .i64 x5_1∧Aside0 (spec_CompareTerms.l0 kq x5_1 a0_0 a0_1 a0_2 l0_3 a1_0 a1_1 a1_2 l1_3=some r)∧Aside0 (kq≤k)∧Aside0 (w'.heap[A6]? = some (.cells #[.int .i64 a0_0,.string a0_1,.int .i64 a0_2,(.slice A0_3 l0_3.length c0_3)] 29 (0,0)))∧Aside0 (w'.heap[A7]? = some (.cells #[.int .i64 a1_0,.string a1_1,.int .i64 a1_2,(.slice A1_3 l1_3.length c1_3)] 29 (0,0)))∧Aside0 (Below w.heap.size w w'))
    case atStart=>exact ⟨(0),(by first | rfl | (simp;done) | (simp [*];done)),H',⟨Nat.le_refl _⟩,⟨vB A0⟩,⟨vB A1⟩,⟨hV HB⟩⟩
    clear H'
    try clear c3
    try clear F7
    try clear F8
    try clear c4
    try clear F9
    try clear G0
    try clear c5
    try clear G1
    try clear G2
    try clear E1
    try clear E3
    try clear E5
    try clear E7
    try clear E9
    try clear F1
    try clear F3
    try clear F5
    try clear E2
    try clear E4
    try clear E6
    try clear E8
    try clear F0
    try clear F2
    try clear F4
    try clear F6
    obtain ⟨x5_1,rfl,HA,HK1,A0,A1,HB⟩:=hrel
    cases gk with
    | zero=>exact absurd HA.out (by simp [spec_CompareTerms.l0])
    | succ k1=>
     have H:=HA.out
     clear HA
     simp only [spec_CompareTerms.l0] at H
     have G3:=Aside0.mk H
     clear H
     go_upto_region 14 with (fail)
     go_cut [48] (fun v48 wc=> ∃ (kq:Nat) (x48_10:Bool),v48=.bool x48_10∧Aside0 (spec_CompareTerms.j1 kq x5_1 x48_10 a0_0 a0_1 a0_2 l0_3 a1_0 a1_1 a1_2 l1_3=some r)∧Aside0 (kq≤k1)∧Aside0 (wc.heap[A6]? = some (.cells #[.int .i64 a0_0,.string a0_1,.int .i64 a0_2,(.slice A0_3 l0_3.length c0_3)] 29 (0,0)))∧Aside0 (wc.heap[A7]? = some (.cells #[.int .i64 a1_0,.string a1_1,.int .i64 a1_2,(.slice A1_3 l1_3.length c1_3)] 29 (0,0)))∧Aside0 (Below w.heap.size w wc))
     case first=>
      have H:=G3.out
      clear G3
      by_cases c12:x5_1 < (l0_3.length:Int)
      ·rw [if_pos c12] at H
       have D8:=decide_eq_true c12
       clear c12
       (first | rw [D8] | (simp only [i64_w,i32_w];rw [D8]) | skip)
       have H':=Aside0.mk H
       clear H
       have Y5:=A2.out
       have Y6:=A3.out
       obtain ⟨H5,H6,H7,H8,H9,I0,I1,I2⟩:=cf4 A0
       obtain ⟨I3,I4,I5,I6,I7,I8,I9,J0⟩:=cf4 A1
       go_wp2
       go_meet
       case rel=>exact ⟨_,(decide (x5_1 < (l1_3.length:Int))),(by first | rfl | (simp;done) | (simp [*];done)),H',⟨by have:=HK1.out;first | omega | exact Nat.le_refl _⟩,⟨vB A0⟩,⟨vB A1⟩,⟨hV HB⟩⟩
      ·rw [if_neg c12] at H
       have D8:=decide_eq_false c12
       clear c12
       (first | rw [D8] | (simp only [i64_w,i32_w];rw [D8]) | skip)
       have H':=Aside0.mk H
       clear H
       have Y7:=A2.out
       have Y8:=A3.out
       obtain ⟨J1,J2,J3,J4,J5,J6,J7,J8⟩:=cf4 A0
       go_wp2
       go_meet
       case rel=>exact ⟨_,(false),(by first | rfl | (simp;done) | (simp [*];done)),H',⟨by have:=HK1.out;first | omega | exact Nat.le_refl _⟩,⟨vB A0⟩,⟨vB A1⟩,⟨hV HB⟩⟩
     clear G3
     try clear c3
     try clear F7
     try clear F8
     try clear c4
     try clear F9
     try clear G0
     try clear c5
     try clear G1
     try clear G2
     try clear E1
     try clear E3
     try clear E5
     try clear E7
     try clear E9
     try clear F1
     try clear F3
     try clear F5
     try clear E2
     try clear E4
     try clear E6
     try clear E8
     try clear F0
     try clear F2
     try clear F4
     try clear F6
     obtain ⟨kq,x48_10,rfl,HA,HJ10,A0,A1,HB⟩:=hcut
     cases kq with
     | zero=>exact absurd HA.out (by simp [spec_CompareTerms.j1])
     | succ kj10=>
      have H:=HA.out
      clear HA
      simp only [spec_CompareTerms.j1] at H
      by_cases c18:x48_10=true
      ·subst c18
       rw [if_pos rfl] at H
       by_cases c19:0≤x5_1
       rotate_left
       ·rw [if_neg c19] at H
        exact absurd H (by simp)
       rw [if_pos c19] at H
       have Y9:=decide_eq_true c19
       clear c19
       by_cases c20:x5_1 < (l0_3.length:Int)
       rotate_left
       ·rw [if_neg c20] at H
        exact absurd H (by simp)
       rw [if_pos c20] at H
       have Z0:=decide_eq_true c20
       clear c20
       by_cases c21:x5_1 < (l1_3.length:Int)
       rotate_left
       ·rw [if_neg c21] at H
        exact absurd H (by simp)
       rw [if_pos c21] at H
       have Z1:=decide_eq_true c21
       clear c21
       replace H:=Option.bind_eq_some_iff.mp H
       obtain ⟨t109,A220,H⟩:=H
       replace H:(if t109=0 then (spec_CompareTerms.l0 kj10 (wrap64 (x5_1 + 1)) a0_0 a0_1 a0_2 l0_3 a1_0 a1_1 a1_2 l1_3) else (some t109))=some r:=H
       have A22:=Aside0.mk A220
       clear A220
       by_cases c23:t109=0
       ·rw [if_pos c23] at H
        have G6:(t109 == 0)=true:=beq_iff_eq.mpr c23
        have G7:(t109 != 0)=false:=bne_eq_false_iff_eq.mpr c23
        clear c23
        have H':=Aside0.mk H
        clear H
        try go_wp2
        replace A0:=Aside0.mk (blk_drew A0.out)
        replace A1:=Aside0.mk (blk_drew A1.out)
        replace HB:=Aside0.mk (below_drew1 HB.out)
        have D4:0≤(x5_1:Int):=dT
        have D5:x5_1 < (l0_3.length:Int):=dT
        obtain ⟨A4,A107_3,c107_3,e107,A8,A9,B0,B1,C4,C5⟩:=at_T29 G4.out x5_1 D4 D5
        have B2:=B1
        have B3:=B0
        have B4:=A9
        have B5:=A8
        cases e107
        replace A8:=xc HB A8
        replace A9:=xc HB A9
        replace B0:=xc HB B0
        replace B1:=xc HB B1
        have C6:=Aside0.mk C5
        have D9:=Aside0.mk C4
        clear C5 C4
        replace D4:=eq_true D4
        replace D5:=eq_true D5
        have D6:0≤(x5_1:Int):=dT
        have D7:x5_1 < (l1_3.length:Int):=dT
        obtain ⟨A5,A108_3,c108_3,e108,B6,B7,B8,B9,C7,C8⟩:=at_T29 G5.out x5_1 D6 D7
        have C0:=B9
        have C1:=B8
        have C2:=B7
        have C3:=B6
        cases e108
        replace B6:=xc HB B6
        replace B7:=xc HB B7
        replace B8:=xc HB B8
        replace B9:=xc HB B9
        have C9:=Aside0.mk C8
        have E0:=Aside0.mk C7
        clear C8 C7
        replace D6:=eq_true D6
        replace D7:=eq_true D7
        refine start_ (n:=12) (S:=fun w'=>w'.cell? ⟨A6,0,none⟩=some (.int .i64 a0_0)∧w'.cell? ⟨A6,1,none⟩=some (.string a0_1)∧w'.cell? ⟨A6,2,none⟩=some (.int .i64 a0_2)∧w'.cell? ⟨A6,3,none⟩=some (.slice (some A4) l0_3.length c0_3)∧w'.cell? ⟨A7,0,none⟩=some (.int .i64 a1_0)∧w'.cell? ⟨A7,1,none⟩=some (.string a1_1)∧w'.cell? ⟨A7,2,none⟩=some (.int .i64 a1_2)∧w'.cell? ⟨A7,3,none⟩=some (.slice (some A5) l1_3.length c1_3)∧w'.cell? (A4.add ((x5_1).toNat * 4))=some (.int .i64 ((rd_T29 l0_3 x5_1).f0))∧w'.cell? ⟨(A4.add ((x5_1).toNat * 4)).block,(A4.add ((x5_1).toNat * 4)).off + 1,none⟩=some (.string ((rd_T29 l0_3 x5_1).f1))∧w'.cell? ⟨(A4.add ((x5_1).toNat * 4)).block,(A4.add ((x5_1).toNat * 4)).off + 2,none⟩=some (.int .i64 ((rd_T29 l0_3 x5_1).f2))∧w'.cell? ⟨(A4.add ((x5_1).toNat * 4)).block,(A4.add ((x5_1).toNat * 4)).off + 3,none⟩=some (.slice A107_3 ((rd_T29 l0_3 x5_1).f3).length c107_3)∧w'.cell? (A5.add ((x5_1).toNat * 4))=some (.int .i64 ((rd_T29 l1_3 x5_1).f0))∧w'.cell? ⟨(A5.add ((x5_1).toNat * 4)).block,(A5.add ((x5_1).toNat * 4)).off + 1,none⟩=some (.string ((rd_T29 l1_3 x5_1).f1))∧w'.cell? ⟨(A5.add ((x5_1).toNat * 4)).block,(A5.add ((x5_1).toNat * 4)).off + 2,none⟩=some (.int .i64 ((rd_T29 l1_3 x5_1).f2))∧w'.cell? ⟨(A5.add ((x5_1).toNat * 4)).block,(A5.add ((x5_1).toNat * 4)).off + 3,none⟩=some (.slice A108_3 ((rd_T29 l1_3 x5_1).f3).length c108_3)) (ds:=[]) #[false,false,false,false,false,false,false,false,false,false,false,false] (by kernel_rfl) rfl rfl ⟨cz0 A0,cz1 A0,cz2 A0,cz3 A0,cz0 A1,cz1 A1,cz2 A1,cz3 A1,((HB.out.cell (World.block_lt_of_cell? w _ B5)).trans B5),((HB.out.cell (World.block_lt_of_cell? w _ B4)).trans B4),((HB.out.cell (World.block_lt_of_cell? w _ B3)).trans B3),((HB.out.cell (World.block_lt_of_cell? w _ B2)).trans B2),((HB.out.cell (World.block_lt_of_cell? w _ C3)).trans C3),((HB.out.cell (World.block_lt_of_cell? w _ C2)).trans C2),((HB.out.cell (World.block_lt_of_cell? w _ C1)).trans C1),((HB.out.cell (World.block_lt_of_cell? w _ C0)).trans C0)⟩ (fun hHeld=> ?_);refine with_tabW spec_CompareTerms.tab16 spec_CompareTerms.bits16 (fun HT_ HW_=> ?_)
        generalize wc.drew=w24 at A0 A1 HB C6 C9 A8 A9 B0 B1 B6 B7 B8 B9 hHeld ⊢
        refine pureS 0 51 HT_ rfl rfl ?_
        refine pureS 2 53 HT_ rfl rfl ?_
        refine pureS 5 56 HT_ rfl rfl ?_
        refine pureS 7 58 HT_ rfl rfl ?_
        refine takeS 1 52 HT_ HW_ rfl rfl hHeld ?_ spec_CompareTerms.a1
        refine pureS 3 54 HT_ rfl rfl ?_
        refine takeS 4 55 HT_ HW_ rfl rfl hHeld ?_ spec_CompareTerms.a1
        refine takeS 6 57 HT_ HW_ rfl rfl hHeld ?_ spec_CompareTerms.a1
        refine pureS 8 59 HT_ rfl rfl ?_
        refine takeS 9 60 HT_ HW_ rfl rfl hHeld ?_ spec_CompareTerms.a1
        refine one_ (i:=10) (N:=some 61) #[true,true,true,true,true,true,true,true,true,true,true,false] rfl rfl (one_of HT_.out (by kernel_rfl)) (by decide) (fun K hK=> ?_)
        refine goes_ Try.func12 (by kernel_rfl) rfl #[.agg #[.int .i64 ((rd_T29 l0_3 x5_1).f0),.string ((rd_T29 l0_3 x5_1).f1),.int .i64 ((rd_T29 l0_3 x5_1).f2),.slice A107_3 ((rd_T29 l0_3 x5_1).f3).length c107_3],.agg #[.int .i64 ((rd_T29 l1_3 x5_1).f0),.string ((rd_T29 l1_3 x5_1).f1),.int .i64 ((rd_T29 l1_3 x5_1).f2),.slice A108_3 ((rd_T29 l1_3 x5_1).f3).length c108_3]] (by rfl) rfl rfl (by (try simp only [List.map_toArray,List.map_cons,List.map_nil]);first | done | rfl | (simp only [List.length_drop,List.length_take];rfl)) ?_
        with_reducible refine (ih kj10 (by have:=HK1.out;have:=HJ10.out;omega) ((rd_T29 l0_3 x5_1).f0) ((rd_T29 l0_3 x5_1).f1) ((rd_T29 l0_3 x5_1).f2) _ _ ((rd_T29 l0_3 x5_1).f3) ((rd_T29 l1_3 x5_1).f0) ((rd_T29 l1_3 x5_1).f1) ((rd_T29 l1_3 x5_1).f2) _ _ ((rd_T29 l1_3 x5_1).f3) t109 _ ?side1 ?side2 ?side3 ?side4 A22.out).mono ?_
        (case side1=>exact cB C6 HB)
        (case side2=>exact D9.out)
        (case side3=>exact cB C9 HB)
        (case side4=>exact E0.out)
        rintro e w25 ⟨rfl,hb⟩
        refine ⟨_,rfl,?_⟩
        replace A0:=bB A0 hb
        replace A1:=bB A1 hb
        replace HB:=hS HB hb
        (try clear hb)
        (try clear hb2)
        (try clear hk)
        (try clear hi)
        refine hK.out _ _ ⟨cz0 A0,cz1 A0,cz2 A0,cz3 A0,cz0 A1,cz1 A1,cz2 A1,cz3 A1,((HB.out.cell (World.block_lt_of_cell? w _ B5)).trans B5),((HB.out.cell (World.block_lt_of_cell? w _ B4)).trans B4),((HB.out.cell (World.block_lt_of_cell? w _ B3)).trans B3),((HB.out.cell (World.block_lt_of_cell? w _ B2)).trans B2),((HB.out.cell (World.block_lt_of_cell? w _ C3)).trans C3),((HB.out.cell (World.block_lt_of_cell? w _ C2)).trans C2),((HB.out.cell (World.block_lt_of_cell? w _ C1)).trans C1),((HB.out.cell (World.block_lt_of_cell? w _ C0)).trans C0)⟩ (fun hHeld=> ?_)
        clear hK K
        refine norm_ (a':=?_) ?_ ?_
        rotate_left
        ·show Act.put _ (some 61) _=_
         simp only [Act.put,List.setIfInBounds_toArray,List.set_cons_zero,List.set_cons_succ,i64_w,i32_w]
         rfl
        refine pureS 11 6 HT_ rfl rfl ?_
        refine done_ (done_of HT_.out (by kernel_rfl)) ?_
        try go_wp2
        go_roundg kj10
        case measure=>have:=HK1.out;have:=HJ10.out;omega
        case rel=>exact ⟨(wrap64 (x5_1 + 1)),(by first | rfl | (simp;done) | (simp [*];done)),H',⟨by have:=HK1.out;have:=HJ10.out;omega⟩,⟨vB A0⟩,⟨vB A1⟩,⟨hV HB⟩⟩
       ·rw [if_neg c23] at H
        have G6:(t109 == 0)=false:=beq_eq_false_iff_ne.mpr c23
        have G7:(t109 != 0)=true:=bne_iff_ne.mpr c23
        obtain rfl:=Option.some.inj H
        try go_wp2
        replace A0:=Aside0.mk (blk_drew A0.out)
        replace A1:=Aside0.mk (blk_drew A1.out)
        replace HB:=Aside0.mk (below_drew1 HB.out)
        have D4:0≤(x5_1:Int):=dT
        have D5:x5_1 < (l0_3.length:Int):=dT
        obtain ⟨A4,A107_3,c107_3,e107,A8,A9,B0,B1,C4,C5⟩:=at_T29 G4.out x5_1 D4 D5
        have B2:=B1
        have B3:=B0
        have B4:=A9
        have B5:=A8
        cases e107
        replace A8:=xc HB A8
        replace A9:=xc HB A9
        replace B0:=xc HB B0
        replace B1:=xc HB B1
        have C6:=Aside0.mk C5
        have D9:=Aside0.mk C4
        clear C5 C4
        replace D4:=eq_true D4
        replace D5:=eq_true D5
        have D6:0≤(x5_1:Int):=dT
        have D7:x5_1 < (l1_3.length:Int):=dT
        obtain ⟨A5,A108_3,c108_3,e108,B6,B7,B8,B9,C7,C8⟩:=at_T29 G5.out x5_1 D6 D7
        have C0:=B9
        have C1:=B8
        have C2:=B7
        have C3:=B6
        cases e108
        replace B6:=xc HB B6
        replace B7:=xc HB B7
        replace B8:=xc HB B8
        replace B9:=xc HB B9
        have C9:=Aside0.mk C8
        have E0:=Aside0.mk C7
        clear C8 C7
        replace D6:=eq_true D6
        replace D7:=eq_true D7
        refine start_ (n:=12) (S:=fun w'=>w'.cell? ⟨A6,0,none⟩=some (.int .i64 a0_0)∧w'.cell? ⟨A6,1,none⟩=some (.string a0_1)∧w'.cell? ⟨A6,2,none⟩=some (.int .i64 a0_2)∧w'.cell? ⟨A6,3,none⟩=some (.slice (some A4) l0_3.length c0_3)∧w'.cell? ⟨A7,0,none⟩=some (.int .i64 a1_0)∧w'.cell? ⟨A7,1,none⟩=some (.string a1_1)∧w'.cell? ⟨A7,2,none⟩=some (.int .i64 a1_2)∧w'.cell? ⟨A7,3,none⟩=some (.slice (some A5) l1_3.length c1_3)∧w'.cell? (A4.add ((x5_1).toNat * 4))=some (.int .i64 ((rd_T29 l0_3 x5_1).f0))∧w'.cell? ⟨(A4.add ((x5_1).toNat * 4)).block,(A4.add ((x5_1).toNat * 4)).off + 1,none⟩=some (.string ((rd_T29 l0_3 x5_1).f1))∧w'.cell? ⟨(A4.add ((x5_1).toNat * 4)).block,(A4.add ((x5_1).toNat * 4)).off + 2,none⟩=some (.int .i64 ((rd_T29 l0_3 x5_1).f2))∧w'.cell? ⟨(A4.add ((x5_1).toNat * 4)).block,(A4.add ((x5_1).toNat * 4)).off + 3,none⟩=some (.slice A107_3 ((rd_T29 l0_3 x5_1).f3).length c107_3)∧w'.cell? (A5.add ((x5_1).toNat * 4))=some (.int .i64 ((rd_T29 l1_3 x5_1).f0))∧w'.cell? ⟨(A5.add ((x5_1).toNat * 4)).block,(A5.add ((x5_1).toNat * 4)).off + 1,none⟩=some (.string ((rd_T29 l1_3 x5_1).f1))∧w'.cell? ⟨(A5.add ((x5_1).toNat * 4)).block,(A5.add ((x5_1).toNat * 4)).off + 2,none⟩=some (.int .i64 ((rd_T29 l1_3 x5_1).f2))∧w'.cell? ⟨(A5.add ((x5_1).toNat * 4)).block,(A5.add ((x5_1).toNat * 4)).off + 3,none⟩=some (.slice A108_3 ((rd_T29 l1_3 x5_1).f3).length c108_3)) (ds:=[]) #[false,false,false,false,false,false,false,false,false,false,false,false] (by kernel_rfl) rfl rfl ⟨cz0 A0,cz1 A0,cz2 A0,cz3 A0,cz0 A1,cz1 A1,cz2 A1,cz3 A1,((HB.out.cell (World.block_lt_of_cell? w _ B5)).trans B5),((HB.out.cell (World.block_lt_of_cell? w _ B4)).trans B4),((HB.out.cell (World.block_lt_of_cell? w _ B3)).trans B3),((HB.out.cell (World.block_lt_of_cell? w _ B2)).trans B2),((HB.out.cell (World.block_lt_of_cell? w _ C3)).trans C3),((HB.out.cell (World.block_lt_of_cell? w _ C2)).trans C2),((HB.out.cell (World.block_lt_of_cell? w _ C1)).trans C1),((HB.out.cell (World.block_lt_of_cell? w _ C0)).trans C0)⟩ (fun hHeld=> ?_);refine with_tabW spec_CompareTerms.tab16 spec_CompareTerms.bits16 (fun HT_ HW_=> ?_)
        generalize wc.drew=w26 at A0 A1 HB C6 C9 A8 A9 B0 B1 B6 B7 B8 B9 hHeld ⊢
        refine pureS 0 51 HT_ rfl rfl ?_
        refine pureS 2 53 HT_ rfl rfl ?_
        refine pureS 5 56 HT_ rfl rfl ?_
        refine pureS 7 58 HT_ rfl rfl ?_
        refine takeS 1 52 HT_ HW_ rfl rfl hHeld ?_ spec_CompareTerms.a1
        refine pureS 3 54 HT_ rfl rfl ?_
        refine takeS 4 55 HT_ HW_ rfl rfl hHeld ?_ spec_CompareTerms.a1
        refine takeS 6 57 HT_ HW_ rfl rfl hHeld ?_ spec_CompareTerms.a1
        refine pureS 8 59 HT_ rfl rfl ?_
        refine takeS 9 60 HT_ HW_ rfl rfl hHeld ?_ spec_CompareTerms.a1
        refine one_ (i:=10) (N:=some 61) #[true,true,true,true,true,true,true,true,true,true,true,false] rfl rfl (one_of HT_.out (by kernel_rfl)) (by decide) (fun K hK=> ?_)
        refine goes_ Try.func12 (by kernel_rfl) rfl #[.agg #[.int .i64 ((rd_T29 l0_3 x5_1).f0),.string ((rd_T29 l0_3 x5_1).f1),.int .i64 ((rd_T29 l0_3 x5_1).f2),.slice A107_3 ((rd_T29 l0_3 x5_1).f3).length c107_3],.agg #[.int .i64 ((rd_T29 l1_3 x5_1).f0),.string ((rd_T29 l1_3 x5_1).f1),.int .i64 ((rd_T29 l1_3 x5_1).f2),.slice A108_3 ((rd_T29 l1_3 x5_1).f3).length c108_3]] (by rfl) rfl rfl (by (try simp only [List.map_toArray,List.map_cons,List.map_nil]);first | done | rfl | (simp only [List.length_drop,List.length_take];rfl)) ?_
        with_reducible refine (ih kj10 (by have:=HK1.out;have:=HJ10.out;omega) ((rd_T29 l0_3 x5_1).f0) ((rd_T29 l0_3 x5_1).f1) ((rd_T29 l0_3 x5_1).f2) _ _ ((rd_T29 l0_3 x5_1).f3) ((rd_T29 l1_3 x5_1).f0) ((rd_T29 l1_3 x5_1).f1) ((rd_T29 l1_3 x5_1).f2) _ _ ((rd_T29 l1_3 x5_1).f3) t109 _ ?side1 ?side2 ?side3 ?side4 A22.out).mono ?_
        (case side1=>exact cB C6 HB)
        (case side2=>exact D9.out)
        (case side3=>exact cB C9 HB)
        (case side4=>exact E0.out)
        rintro e w27 ⟨rfl,hb⟩
        refine ⟨_,rfl,?_⟩
        replace A0:=bB A0 hb
        replace A1:=bB A1 hb
        replace HB:=hS HB hb
        (try clear hb)
        (try clear hb2)
        (try clear hk)
        (try clear hi)
        refine hK.out _ _ ⟨cz0 A0,cz1 A0,cz2 A0,cz3 A0,cz0 A1,cz1 A1,cz2 A1,cz3 A1,((HB.out.cell (World.block_lt_of_cell? w _ B5)).trans B5),((HB.out.cell (World.block_lt_of_cell? w _ B4)).trans B4),((HB.out.cell (World.block_lt_of_cell? w _ B3)).trans B3),((HB.out.cell (World.block_lt_of_cell? w _ B2)).trans B2),((HB.out.cell (World.block_lt_of_cell? w _ C3)).trans C3),((HB.out.cell (World.block_lt_of_cell? w _ C2)).trans C2),((HB.out.cell (World.block_lt_of_cell? w _ C1)).trans C1),((HB.out.cell (World.block_lt_of_cell? w _ C0)).trans C0)⟩ (fun hHeld=> ?_)
        clear hK K
        refine norm_ (a':=?_) ?_ ?_
        rotate_left
        ·show Act.put _ (some 61) _=_
         simp only [Act.put,List.setIfInBounds_toArray,List.set_cons_zero,List.set_cons_succ,i64_w,i32_w]
         rfl
        refine pureS 11 6 HT_ rfl rfl ?_
        refine done_ (done_of HT_.out (by kernel_rfl)) ?_
        try go_wp2
        go_ret
        exact ⟨spec_CompareTerms.a0,hV HB⟩
      ·replace c18:=Bool.eq_false_iff.mpr c18
       subst c18
       rw [if_neg (show ¬ (false=true) by decide)] at H
       by_cases c28:(l0_3.length:Int) < (l1_3.length:Int)
       ·rw [if_pos c28] at H
        have G8:=decide_eq_true c28
        have G9:decide (l0_3.length < l1_3.length)=true:=decide_eq_true (Int.ofNat_lt.mp c28)
        clear c28
        obtain rfl:=Option.some.inj H
        have Z2:=A2.out
        have Z3:=A3.out
        obtain ⟨J9,K0,K1,K2,K3,K4,K5,K6⟩:=cf4 A0
        obtain ⟨K7,K8,K9,L0,L1,L2,L3,L4⟩:=cf4 A1
        go_wp2
        go_ret
        exact ⟨spec_CompareTerms.a0,hV HB⟩
       ·rw [if_neg c28] at H
        have G8:=decide_eq_false c28
        have G9:decide (l0_3.length < l1_3.length)=false:=decide_eq_false (fun h=>c28 (Int.ofNat_lt.mpr h))
        clear c28
        by_cases c32:(l0_3.length:Int) > (l1_3.length:Int)
        ·rw [if_pos c32] at H
         have H0:=decide_eq_true c32
         have H1:decide (l1_3.length < l0_3.length)=true:=decide_eq_true (Int.ofNat_lt.mp c32)
         clear c32
         obtain rfl:=Option.some.inj H
         have Z4:=A2.out
         have Z5:=A3.out
         obtain ⟨L5,L6,L7,L8,L9,M0,M1,M2⟩:=cf4 A0
         obtain ⟨M3,M4,M5,M6,M7,M8,M9,N0⟩:=cf4 A1
         go_wp2
         go_ret
         exact ⟨spec_CompareTerms.a0,hV HB⟩
        ·rw [if_neg c32] at H
         have H0:=decide_eq_false c32
         have H1:decide (l1_3.length < l0_3.length)=false:=decide_eq_false (fun h=>c32 (Int.ofNat_lt.mpr h))
         clear c32
         obtain rfl:=Option.some.inj H
         have Z6:=A2.out
         have Z7:=A3.out
         obtain ⟨N1,N2,N3,N4,N5,N6,N7,N8⟩:=cf4 A0
         obtain ⟨N9,O0,O1,O2,O3,O4,O5,O6⟩:=cf4 A1
         go_wp2
         go_ret
         exact ⟨spec_CompareTerms.a0,hV HB⟩
   ·rw [if_neg c5] at H
    have G1:(a0_2 == a1_2)=false:=beq_eq_false_iff_ne.mpr c5
    have G2:(a0_2 != a1_2)=true:=bne_iff_ne.mpr c5
    by_cases c39:a0_2 < a1_2
    rotate_left
    ·rw [if_neg c39] at H
     have H2:=decide_eq_false c39
     clear c39
     obtain rfl:=Option.some.inj H
     go_enter Try.func12,Try.ntmps12
     go_wp2_with (first | ((with_reducible refine gate_dst (N:=2) rfl ?_);(try (refine gate_guard (by rfl) ?_;dsimp only));refine bx 2 rfl #[.int .i64 a0_0,.string a0_1,.int .i64 a0_2,.slice A0_3 l0_3.length c0_3] 29 ?_;intro A6 hg w45 hbox hb;have A0:=Aside0.mk (hbox);have D0:=hZ HB hg;have D1:=hZ HB hg;replace HB:=hS HB hb;clear hb hbox hg) | ((with_reducible refine gate_dst (N:=3) rfl ?_);(try (refine gate_guard (by rfl) ?_;dsimp only));refine bx 3 rfl #[.int .i64 a1_0,.string a1_1,.int .i64 a1_2,.slice A1_3 l1_3.length c1_3] 29 ?_;intro A7 hg w46 hbox hb;have A1:=Aside0.mk (hbox);have D2:=hZ HB hg;have D3:=hZ HB hg;replace HB:=hS HB hb;have A2:=nL A0 hg;have A3:=nG A0 hg;replace A0:=bB A0 hb;clear hb hbox hg;have Z8:=A2.out;have Z9:=A3.out;obtain ⟨O7,O8,O9,P0,P1,P2,P3,P4⟩:=cf4 A0;obtain ⟨P5,P6,P7,P8,P9,Q0,Q1,Q2⟩:=cf4 A1))
     go_ret
     exact ⟨spec_CompareTerms.a0,hV HB⟩
    rw [if_pos c39] at H
    have H2:=decide_eq_true c39
    clear c39
    obtain rfl:=Option.some.inj H
    go_enter Try.func12,Try.ntmps12
    go_wp2_with (first | ((with_reducible refine gate_dst (N:=2) rfl ?_);(try (refine gate_guard (by rfl) ?_;dsimp only));refine bx 2 rfl #[.int .i64 a0_0,.string a0_1,.int .i64 a0_2,.slice A0_3 l0_3.length c0_3] 29 ?_;intro A6 hg w40 hbox hb;have A0:=Aside0.mk (hbox);have D0:=hZ HB hg;have D1:=hZ HB hg;replace HB:=hS HB hb;clear hb hbox hg) | ((with_reducible refine gate_dst (N:=3) rfl ?_);(try (refine gate_guard (by rfl) ?_;dsimp only));refine bx 3 rfl #[.int .i64 a1_0,.string a1_1,.int .i64 a1_2,.slice A1_3 l1_3.length c1_3] 29 ?_;intro A7 hg w41 hbox hb;have A1:=Aside0.mk (hbox);have D2:=hZ HB hg;have D3:=hZ HB hg;replace HB:=hS HB hb;have A2:=nL A0 hg;have A3:=nG A0 hg;replace A0:=bB A0 hb;clear hb hbox hg;have a8:=A2.out;have a9:=A3.out;obtain ⟨Q3,Q4,Q5,Q6,Q7,Q8,Q9,R0⟩:=cf4 A0;obtain ⟨R1,R2,R3,R4,R5,R6,R7,R8⟩:=cf4 A1))
    go_ret
    exact ⟨spec_CompareTerms.a0,hV HB⟩
  ·rw [if_neg c4] at H
   have F9:(a0_1.toList == a1_1.toList)=false:=beq_eq_false_iff_ne.mpr c4
   have G0:(a0_1.toList != a1_1.toList)=true:=bne_iff_ne.mpr c4
   by_cases c50:(Op.bytesLess a0_1.toList a1_1.toList)=true
   rotate_left
   ·rw [if_neg c50] at H
    have H3:(Op.bytesLess a0_1.toList a1_1.toList)=false:=by simpa using c50
    clear c50
    obtain rfl:=Option.some.inj H
    go_enter Try.func12,Try.ntmps12
    go_wp2_with (first | ((with_reducible refine gate_dst (N:=2) rfl ?_);(try (refine gate_guard (by rfl) ?_;dsimp only));refine bx 2 rfl #[.int .i64 a0_0,.string a0_1,.int .i64 a0_2,.slice A0_3 l0_3.length c0_3] 29 ?_;intro A6 hg w56 hbox hb;have A0:=Aside0.mk (hbox);have D0:=hZ HB hg;have D1:=hZ HB hg;replace HB:=hS HB hb;clear hb hbox hg) | ((with_reducible refine gate_dst (N:=3) rfl ?_);(try (refine gate_guard (by rfl) ?_;dsimp only));refine bx 3 rfl #[.int .i64 a1_0,.string a1_1,.int .i64 a1_2,.slice A1_3 l1_3.length c1_3] 29 ?_;intro A7 hg w57 hbox hb;have A1:=Aside0.mk (hbox);have D2:=hZ HB hg;have D3:=hZ HB hg;replace HB:=hS HB hb;have A2:=nL A0 hg;have A3:=nG A0 hg;replace A0:=bB A0 hb;clear hb hbox hg;have b0:=A2.out;have b1:=A3.out;obtain ⟨R9,S0,S1,S2,S3,S4,S5,S6⟩:=cf4 A0;obtain ⟨S7,S8,S9,T0,T1,T2,T3,T4⟩:=cf4 A1))
    go_ret
    exact ⟨spec_CompareTerms.a0,hV HB⟩
   rw [if_pos c50] at H
   have H3:(Op.bytesLess a0_1.toList a1_1.toList)=true:=c50
   clear c50
   obtain rfl:=Option.some.inj H
   go_enter Try.func12,Try.ntmps12
   go_wp2_with (first | ((with_reducible refine gate_dst (N:=2) rfl ?_);(try (refine gate_guard (by rfl) ?_;dsimp only));refine bx 2 rfl #[.int .i64 a0_0,.string a0_1,.int .i64 a0_2,.slice A0_3 l0_3.length c0_3] 29 ?_;intro A6 hg w51 hbox hb;have A0:=Aside0.mk (hbox);have D0:=hZ HB hg;have D1:=hZ HB hg;replace HB:=hS HB hb;clear hb hbox hg) | ((with_reducible refine gate_dst (N:=3) rfl ?_);(try (refine gate_guard (by rfl) ?_;dsimp only));refine bx 3 rfl #[.int .i64 a1_0,.string a1_1,.int .i64 a1_2,.slice A1_3 l1_3.length c1_3] 29 ?_;intro A7 hg w52 hbox hb;have A1:=Aside0.mk (hbox);have D2:=hZ HB hg;have D3:=hZ HB hg;replace HB:=hS HB hb;have A2:=nL A0 hg;have A3:=nG A0 hg;replace A0:=bB A0 hb;clear hb hbox hg;have b2:=A2.out;have b3:=A3.out;obtain ⟨T5,T6,T7,T8,T9,U0,U1,U2⟩:=cf4 A0;obtain ⟨U3,U4,U5,U6,U7,U8,U9,V0⟩:=cf4 A1))
   go_ret
   exact ⟨spec_CompareTerms.a0,hV HB⟩
 ·rw [if_neg c3] at H
  have F7:(a0_0 == a1_0)=false:=beq_eq_false_iff_ne.mpr c3
  have F8:(a0_0 != a1_0)=true:=bne_iff_ne.mpr c3
  by_cases c61:a0_0 < a1_0
  ·rw [if_pos c61] at H
   have H4:=decide_eq_true c61
   clear c61
   obtain rfl:=Option.some.inj H
   go_enter Try.func12,Try.ntmps12
   go_wp2_with (first | ((with_reducible refine gate_dst (N:=2) rfl ?_);(try (refine gate_guard (by rfl) ?_;dsimp only));refine bx 2 rfl #[.int .i64 a0_0,.string a0_1,.int .i64 a0_2,.slice A0_3 l0_3.length c0_3] 29 ?_;intro A6 hg w62 hbox hb;have A0:=Aside0.mk (hbox);have D0:=hZ HB hg;have D1:=hZ HB hg;replace HB:=hS HB hb;clear hb hbox hg) | ((with_reducible refine gate_dst (N:=3) rfl ?_);(try (refine gate_guard (by rfl) ?_;dsimp only));refine bx 3 rfl #[.int .i64 a1_0,.string a1_1,.int .i64 a1_2,.slice A1_3 l1_3.length c1_3] 29 ?_;intro A7 hg w63 hbox hb;have A1:=Aside0.mk (hbox);have D2:=hZ HB hg;have D3:=hZ HB hg;replace HB:=hS HB hb;have A2:=nL A0 hg;have A3:=nG A0 hg;replace A0:=bB A0 hb;clear hb hbox hg;have b4:=A2.out;have b5:=A3.out;obtain ⟨V1,V2,V3,V4,V5,V6,V7,V8⟩:=cf4 A0;obtain ⟨V9,W0,W1,W2,W3,W4,W5,W6⟩:=cf4 A1))
   go_ret
   exact ⟨spec_CompareTerms.a0,hV HB⟩
  rw [if_neg c61] at H
  have H4:=decide_eq_false c61
  clear c61
  obtain rfl:=Option.some.inj H
  go_enter Try.func12,Try.ntmps12
  go_wp2_with (first | ((with_reducible refine gate_dst (N:=2) rfl ?_);(try (refine gate_guard (by rfl) ?_;dsimp only));refine bx 2 rfl #[.int .i64 a0_0,.string a0_1,.int .i64 a0_2,.slice A0_3 l0_3.length c0_3] 29 ?_;intro A6 hg w67 hbox hb;have A0:=Aside0.mk (hbox);have D0:=hZ HB hg;have D1:=hZ HB hg;replace HB:=hS HB hb;clear hb hbox hg) | ((with_reducible refine gate_dst (N:=3) rfl ?_);(try (refine gate_guard (by rfl) ?_;dsimp only));refine bx 3 rfl #[.int .i64 a1_0,.string a1_1,.int .i64 a1_2,.slice A1_3 l1_3.length c1_3] 29 ?_;intro A7 hg w68 hbox hb;have A1:=Aside0.mk (hbox);have D2:=hZ HB hg;have D3:=hZ HB hg;replace HB:=hS HB hb;have A2:=nL A0 hg;have A3:=nG A0 hg;replace A0:=bB A0 hb;clear hb hbox hg;have b6:=A2.out;have b7:=A3.out;obtain ⟨W7,W8,W9,X0,X1,X2,X3,X4⟩:=cf4 A0;obtain ⟨X5,X6,X7,X8,X9,Y0,Y1,Y2⟩:=cf4 A1))
  go_ret
  exact ⟨spec_CompareTerms.a0,hV HB⟩

end Go.Proofs.Ytcofpnddfmlafaa.Q

