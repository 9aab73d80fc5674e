/- Functions of the program as plain Lean functions,and that the calls come to what they say. -/
import Derived.Test.YtpildjbakceicaaZQx0hb61c0
import Derived.Test.YtpildjbakceicaaZQx1h27402
import Derived.Test.YtpildjbakceicaaZQx2hbf1bc
import Derived.Test.YtpildjbakceicaaZQx6hca9c4
import Derived.Test.YtpildjbakceicaaZQx8ha6c9f
import Derived.Test.YtpildjbakceicaaZQx9h5fb00
import Derived.Test.YtpildjbakceicaaZQx16h0fe0e
import Derived.Test.YtpildjbakceicaaZQx17h80bc8
import Derived.Test.YtpildjbakceicaaZShorth7b252
namespace Go.Proofs.Ytpildjbakceicaa.Q
open Go.RowKit Go.Proofs.YtpildjbakceicaaW.PrintWords Go.Proofs.YtpildjbakceicaaW.PrintLast Go.Proofs.YtpildjbakceicaaW.PrintMore
attribute [local go_sem] max2_int min2_int max_two min_two max_three min_three max_four min_four   -- for this text's walks alone
set_option linter.unusedVariables false
set_option linter.unusedSimpArgs false

/-! ### laws_eqOpS: function 34 -/
theorem laws_eqOpS.a0 {P_:Prop} (h_:P_:=by rintro w' ⟨s0,s1,s2,s3,s4,s5,s6,s7,s8,s9⟩;go_simp;with_reducible rfl):P_:=h_
theorem laws_eqOpS.a1 {P_:Prop} (h_:P_:=by first | rfl | (simp [errW_none,errW_some] <;> rfl) | (simp [*,errW_none,errW_some] <;> rfl)):P_:=h_
def laws_eqOpS.l0:Nat→List (S50)→List (S50)→Int→Option (Bool)
 | 0,_,_,_=>none
 | k + 1,x0,x1,x5=>if x5 < (x0.length:Int) then (if 0≤x5 then (if x5 < (x1.length:Int) then ((laws_eqOp.f k ((rd_T50 x0 x5).f0) ((rd_T50 x0 x5).f1) ((rd_T50 x0 x5).f2) ((rd_T50 x0 x5).f3) ((rd_T50 x0 x5).f4) ((rd_T50 x1 x5).f0) ((rd_T50 x1 x5).f1) ((rd_T50 x1 x5).f2) ((rd_T50 x1 x5).f3) ((rd_T50 x1 x5).f4)).bind fun t427=>(if t427=true then (laws_eqOpS.l0 k x0 x1 (wrap64 (x5 + 1))) else (some false))) else (none)) else (none)) else (some true)
def laws_eqOpS.f (k:Nat) (l0:List (S50)) (l1:List (S50)):Option (Bool):=if (l0.length:Int)=(l1.length:Int) then (laws_eqOpS.l0 k l0 l1 0) else (some false)
def laws_eqOpS.T6:Bool × List (List Nat × List Nat):=(true,[([],[]),([],[]),([0,1],[0,1]),([2],[2]),([],[]),([],[]),([4,5],[4,5]),([6],[6]),([3,7],[3,7]),([8],[8])])
def laws_eqOpS.B6:List Nat:=[0,0,3,7,0,0,48,112,255,511]
theorem laws_eqOpS.tab6:rtab .any (opsOf Try.f34 6)=laws_eqOpS.T6:=by kernel_rfl
theorem laws_eqOpS.bits6:waitsOk laws_eqOpS.T6.2 laws_eqOpS.B6=true:=by kernel_rfl
set_option maxHeartbeats 8000000 in
set_option maxRecDepth 100000 in
theorem laws_eqOpS.calls (k:Nat) (A0:Option Addr) (c0:Nat) (l0:List (S50)) (A1:Option Addr) (c1:Nat) (l1:List (S50)) (r:Bool) (w:World) (hr0:Kd.C k50 w A0 l0.length l0) (hc0:l0.length≤c0) (hr1:Kd.C k50 w A1 l1.length l1) (hc1:l1.length≤c1) (h:laws_eqOpS.f k l0 l1=some r) :
  Calls Try.prog 34 #[.slice A0 l0.length c0,.slice A1 l1.length c1] w fun e w'=>e=.returned (.bool r)∧Below w.heap.size w w':=by
 have hu50:=Try.underlying50
 have E1:=Aside0.mk hr0
 have E6:=Aside0.mk hc0
 clear hr0 hc0
 have E2:=Aside0.mk hr1
 have E7:=Aside0.mk hc1
 clear hr1 hc1
 have HB:=Aside0.mk (Below.refl w.heap.size w)
 have H:(if (l0.length:Int)=(l1.length:Int) then (laws_eqOpS.l0 k l0 l1 0) else (some false))=some r:=h
 clear h
 by_cases c3:(l0.length:Int)=(l1.length:Int)
 rotate_left
 ·rw [if_neg c3] at H
  have D8:((l0.length:Int) == (l1.length:Int))=false:=beq_eq_false_iff_ne.mpr c3
  have D9:((l0.length:Int) != (l1.length:Int))=true:=bne_iff_ne.mpr c3
  have E0:(l0.length == l1.length)=false:=by first | simpa using c3 | (simp at c3 ⊢;omega)
  obtain rfl:=Option.some.inj H
  go_enter Try.func34,Try.ntmps34
  go_wp2
  go_ret
  exact ⟨laws_eqOpS.a1,hV HB⟩

 rw [if_pos c3] at H
 have D8:((l0.length:Int) == (l1.length:Int))=true:=beq_iff_eq.mpr c3
 have D9:((l0.length:Int) != (l1.length:Int))=false:=bne_eq_false_iff_eq.mpr c3
 have E0:(l0.length == l1.length)=true:=by first | simpa using c3 | (simp at c3 ⊢;omega)
 clear c3
 have H':=Aside0.mk H
 clear H
 go_enter Try.func34,Try.ntmps34
 go_wp2
 go_loopg [5] k (fun kq v5 w'=> ∃ (x5_1:Int),v5=.int .i64 x5_1∧Aside0 (laws_eqOpS.l0 kq l0 l1 x5_1=some r)∧Aside0 (kq≤k)∧Aside0 (Below w.heap.size w w'))
 case atStart=>exact ⟨(0),(by first | rfl | (simp;done) | (simp [*];done)),H',⟨Nat.le_refl _⟩,⟨hV HB⟩⟩
 clear H'
 try clear c1
 try clear c3
 try clear D8
 try clear D9
 try clear E0
 obtain ⟨x5_1,rfl,HA,HK1,HB⟩:=hrel
 cases gk with
 | zero=>exact absurd HA.out (by simp [laws_eqOpS.l0])
 | succ k1=>
  have H:=HA.out
  clear HA
  simp only [laws_eqOpS.l0] at H
  by_cases c4:x5_1 < (l0.length:Int)
  rotate_left
  ·rw [if_neg c4] at H
   have E3:=decide_eq_false c4
   clear c4
   obtain rfl:=Option.some.inj H
   go_wp2
   go_ret
   exact ⟨laws_eqOpS.a1,hV HB⟩
  rw [if_pos c4] at H
  have E3:=decide_eq_true c4
  clear c4
  by_cases c5:0≤x5_1
  rotate_left
  ·rw [if_neg c5] at H
   exact absurd H (by simp)
  rw [if_pos c5] at H
  have E4:=decide_eq_true c5
  clear c5
  by_cases c6:x5_1 < (l1.length:Int)
  rotate_left
  ·rw [if_neg c6] at H
   exact absurd H (by simp)
  rw [if_pos c6] at H
  have E5:=decide_eq_true c6
  clear c6
  replace H:=Option.bind_eq_some_iff.mp H
  obtain ⟨t427,A70,H⟩:=H
  replace H:(if t427=true then (laws_eqOpS.l0 k1 l0 l1 (wrap64 (x5_1 + 1))) else (some false))=some r:=H
  have A7:=Aside0.mk A70
  clear A70
  by_cases c8:t427=true
  ·subst c8
   rw [if_pos rfl] at H
   have H':=Aside0.mk H
   clear H
   try go_wp2
   replace HB:=Aside0.mk (below_drew1 HB.out)
   have D2:0≤(x5_1:Int):=dT
   have D3:x5_1 < (l0.length:Int):=dT
   obtain ⟨A2,A425_1,c425_1,e425,A4,A5,A6,A8,A9,C6,C7⟩:=at_T50 E1.out x5_1 D2 D3
   have B0:=A9
   have B1:=A8
   have B2:=A6
   have B3:=A5
   have B4:=A4
   cases e425
   replace A4:=xc HB A4
   replace A5:=xc HB A5
   replace A6:=xc HB A6
   replace A8:=xc HB A8
   replace A9:=xc HB A9
   have C8:=Aside0.mk C7
   have D6:=Aside0.mk C6
   clear C7 C6
   replace D2:=eq_true D2
   replace D3:=eq_true D3
   have D4:0≤(x5_1:Int):=dT
   have D5:x5_1 < (l1.length:Int):=dT
   obtain ⟨A3,A426_1,c426_1,e426,B5,B7,B8,B9,C0,C9,D0⟩:=at_T50 E2.out x5_1 D4 D5
   have C1:=C0
   have C2:=B9
   have C3:=B8
   have C4:=B7
   have C5:=B5
   cases e426
   replace B5:=xc HB B5
   replace B7:=xc HB B7
   replace B8:=xc HB B8
   replace B9:=xc HB B9
   replace C0:=xc HB C0
   have D1:=Aside0.mk D0
   have D7:=Aside0.mk C9
   clear D0 C9
   replace D4:=eq_true D4
   replace D5:=eq_true D5
   refine start_ (n:=10) (S:=fun w'=>w'.cell? (A2.add ((x5_1).toNat * 5))=some (.string ((rd_T50 l0 x5_1).f0))∧w'.cell? ⟨(A2.add ((x5_1).toNat * 5)).block,(A2.add ((x5_1).toNat * 5)).off + 1,none⟩=some (.slice A425_1 ((rd_T50 l0 x5_1).f1).length c425_1)∧w'.cell? ⟨(A2.add ((x5_1).toNat * 5)).block,(A2.add ((x5_1).toNat * 5)).off + 2,none⟩=some (.bool ((rd_T50 l0 x5_1).f2))∧w'.cell? ⟨(A2.add ((x5_1).toNat * 5)).block,(A2.add ((x5_1).toNat * 5)).off + 3,none⟩=some (.bool ((rd_T50 l0 x5_1).f3))∧w'.cell? ⟨(A2.add ((x5_1).toNat * 5)).block,(A2.add ((x5_1).toNat * 5)).off + 4,none⟩=some (.int .i64 ((rd_T50 l0 x5_1).f4))∧w'.cell? (A3.add ((x5_1).toNat * 5))=some (.string ((rd_T50 l1 x5_1).f0))∧w'.cell? ⟨(A3.add ((x5_1).toNat * 5)).block,(A3.add ((x5_1).toNat * 5)).off + 1,none⟩=some (.slice A426_1 ((rd_T50 l1 x5_1).f1).length c426_1)∧w'.cell? ⟨(A3.add ((x5_1).toNat * 5)).block,(A3.add ((x5_1).toNat * 5)).off + 2,none⟩=some (.bool ((rd_T50 l1 x5_1).f2))∧w'.cell? ⟨(A3.add ((x5_1).toNat * 5)).block,(A3.add ((x5_1).toNat * 5)).off + 3,none⟩=some (.bool ((rd_T50 l1 x5_1).f3))∧w'.cell? ⟨(A3.add ((x5_1).toNat * 5)).block,(A3.add ((x5_1).toNat * 5)).off + 4,none⟩=some (.int .i64 ((rd_T50 l1 x5_1).f4))) (ds:=[]) #[false,false,false,false,false,false,false,false,false,false] (by kernel_rfl) rfl rfl ⟨((HB.out.cell (World.block_lt_of_cell? w _ B4)).trans B4),((HB.out.cell (World.block_lt_of_cell? w _ B3)).trans B3),((HB.out.cell (World.block_lt_of_cell? w _ B2)).trans B2),((HB.out.cell (World.block_lt_of_cell? w _ B1)).trans B1),((HB.out.cell (World.block_lt_of_cell? w _ B0)).trans B0),((HB.out.cell (World.block_lt_of_cell? w _ C5)).trans C5),((HB.out.cell (World.block_lt_of_cell? w _ C4)).trans C4),((HB.out.cell (World.block_lt_of_cell? w _ C3)).trans C3),((HB.out.cell (World.block_lt_of_cell? w _ C2)).trans C2),((HB.out.cell (World.block_lt_of_cell? w _ C1)).trans C1)⟩ (fun hHeld=> ?_);refine with_tabW laws_eqOpS.tab6 laws_eqOpS.bits6 (fun HT_ HW_=> ?_)
   generalize wr.drew=w9 at HB C8 D1 A4 A5 A6 A8 A9 B5 B7 B8 B9 C0 hHeld ⊢
   refine pureS 0 17 HT_ rfl rfl ?_
   refine pureS 1 18 HT_ rfl rfl ?_
   refine pureS 2 19 HT_ rfl rfl ?_
   refine pureS 4 21 HT_ rfl rfl ?_
   refine pureS 5 22 HT_ rfl rfl ?_
   refine pureS 6 23 HT_ rfl rfl ?_
   refine takeS 3 20 HT_ HW_ rfl rfl hHeld ?_ laws_eqOpS.a0
   refine takeS 7 24 HT_ HW_ rfl rfl hHeld ?_ laws_eqOpS.a0
   refine one_ (i:=8) (N:=some 25) #[true,true,true,true,true,true,true,true,true,false] rfl rfl (one_of HT_.out (by kernel_rfl)) (by decide) (fun K hK=> ?_)
   refine goes_ Try.func62 (by kernel_rfl) rfl #[.agg #[.string ((rd_T50 l0 x5_1).f0),.slice A425_1 ((rd_T50 l0 x5_1).f1).length c425_1,.bool ((rd_T50 l0 x5_1).f2),.bool ((rd_T50 l0 x5_1).f3),.int .i64 ((rd_T50 l0 x5_1).f4)],.agg #[.string ((rd_T50 l1 x5_1).f0),.slice A426_1 ((rd_T50 l1 x5_1).f1).length c426_1,.bool ((rd_T50 l1 x5_1).f2),.bool ((rd_T50 l1 x5_1).f3),.int .i64 ((rd_T50 l1 x5_1).f4)]] (by rfl) rfl rfl (by (try simp only [List.map_toArray,List.map_cons,List.map_nil]);first | done | rfl | (simp only [List.length_drop,List.length_take];rfl)) ?_
   with_reducible refine (laws_eqOp.calls k1 ((rd_T50 l0 x5_1).f0) _ _ ((rd_T50 l0 x5_1).f1) ((rd_T50 l0 x5_1).f2) ((rd_T50 l0 x5_1).f3) ((rd_T50 l0 x5_1).f4) ((rd_T50 l1 x5_1).f0) _ _ ((rd_T50 l1 x5_1).f1) ((rd_T50 l1 x5_1).f2) ((rd_T50 l1 x5_1).f3) ((rd_T50 l1 x5_1).f4) true _ ?side1 ?side2 ?side3 ?side4 A7.out).mono ?_
   (case side1=>exact cB C8 HB)
   (case side2=>exact D6.out)
   (case side3=>exact cB D1 HB)
   (case side4=>exact D7.out)
   rintro e w10 ⟨rfl,hb⟩
   refine ⟨_,rfl,?_⟩
   replace HB:=hS HB hb
   (try clear hb)
   (try clear hb2)
   (try clear hk)
   (try clear hi)
   refine hK.out _ _ ⟨((HB.out.cell (World.block_lt_of_cell? w _ B4)).trans B4),((HB.out.cell (World.block_lt_of_cell? w _ B3)).trans B3),((HB.out.cell (World.block_lt_of_cell? w _ B2)).trans B2),((HB.out.cell (World.block_lt_of_cell? w _ B1)).trans B1),((HB.out.cell (World.block_lt_of_cell? w _ B0)).trans B0),((HB.out.cell (World.block_lt_of_cell? w _ C5)).trans C5),((HB.out.cell (World.block_lt_of_cell? w _ C4)).trans C4),((HB.out.cell (World.block_lt_of_cell? w _ C3)).trans C3),((HB.out.cell (World.block_lt_of_cell? w _ C2)).trans C2),((HB.out.cell (World.block_lt_of_cell? w _ C1)).trans C1)⟩ (fun hHeld=> ?_)
   clear hK K
   refine norm_ (a':=?_) ?_ ?_
   rotate_left
   ·show Act.put _ (some 25) _=_
    simp only [Act.put,List.setIfInBounds_toArray,List.set_cons_zero,List.set_cons_succ,i64_w,i32_w]
    rfl
   refine pureS 9 26 HT_ rfl rfl ?_
   refine done_ (done_of HT_.out (by kernel_rfl)) ?_
   try go_wp2
   go_roundg k1
   case measure=>have:=HK1.out;omega
   case rel=>exact ⟨(wrap64 (x5_1 + 1)),(by first | rfl | (simp;done) | (simp [*];done)),H',⟨by have:=HK1.out;omega⟩,⟨hV HB⟩⟩
  ·replace c8:=Bool.eq_false_iff.mpr c8
   subst c8
   rw [if_neg (show ¬ (false=true) by decide)] at H
   obtain rfl:=Option.some.inj H
   try go_wp2
   replace HB:=Aside0.mk (below_drew1 HB.out)
   have D2:0≤(x5_1:Int):=dT
   have D3:x5_1 < (l0.length:Int):=dT
   obtain ⟨A2,A425_1,c425_1,e425,A4,A5,A6,A8,A9,C6,C7⟩:=at_T50 E1.out x5_1 D2 D3
   have B0:=A9
   have B1:=A8
   have B2:=A6
   have B3:=A5
   have B4:=A4
   cases e425
   replace A4:=xc HB A4
   replace A5:=xc HB A5
   replace A6:=xc HB A6
   replace A8:=xc HB A8
   replace A9:=xc HB A9
   have C8:=Aside0.mk C7
   have D6:=Aside0.mk C6
   clear C7 C6
   replace D2:=eq_true D2
   replace D3:=eq_true D3
   have D4:0≤(x5_1:Int):=dT
   have D5:x5_1 < (l1.length:Int):=dT
   obtain ⟨A3,A426_1,c426_1,e426,B5,B7,B8,B9,C0,C9,D0⟩:=at_T50 E2.out x5_1 D4 D5
   have C1:=C0
   have C2:=B9
   have C3:=B8
   have C4:=B7
   have C5:=B5
   cases e426
   replace B5:=xc HB B5
   replace B7:=xc HB B7
   replace B8:=xc HB B8
   replace B9:=xc HB B9
   replace C0:=xc HB C0
   have D1:=Aside0.mk D0
   have D7:=Aside0.mk C9
   clear D0 C9
   replace D4:=eq_true D4
   replace D5:=eq_true D5
   refine start_ (n:=10) (S:=fun w'=>w'.cell? (A2.add ((x5_1).toNat * 5))=some (.string ((rd_T50 l0 x5_1).f0))∧w'.cell? ⟨(A2.add ((x5_1).toNat * 5)).block,(A2.add ((x5_1).toNat * 5)).off + 1,none⟩=some (.slice A425_1 ((rd_T50 l0 x5_1).f1).length c425_1)∧w'.cell? ⟨(A2.add ((x5_1).toNat * 5)).block,(A2.add ((x5_1).toNat * 5)).off + 2,none⟩=some (.bool ((rd_T50 l0 x5_1).f2))∧w'.cell? ⟨(A2.add ((x5_1).toNat * 5)).block,(A2.add ((x5_1).toNat * 5)).off + 3,none⟩=some (.bool ((rd_T50 l0 x5_1).f3))∧w'.cell? ⟨(A2.add ((x5_1).toNat * 5)).block,(A2.add ((x5_1).toNat * 5)).off + 4,none⟩=some (.int .i64 ((rd_T50 l0 x5_1).f4))∧w'.cell? (A3.add ((x5_1).toNat * 5))=some (.string ((rd_T50 l1 x5_1).f0))∧w'.cell? ⟨(A3.add ((x5_1).toNat * 5)).block,(A3.add ((x5_1).toNat * 5)).off + 1,none⟩=some (.slice A426_1 ((rd_T50 l1 x5_1).f1).length c426_1)∧w'.cell? ⟨(A3.add ((x5_1).toNat * 5)).block,(A3.add ((x5_1).toNat * 5)).off + 2,none⟩=some (.bool ((rd_T50 l1 x5_1).f2))∧w'.cell? ⟨(A3.add ((x5_1).toNat * 5)).block,(A3.add ((x5_1).toNat * 5)).off + 3,none⟩=some (.bool ((rd_T50 l1 x5_1).f3))∧w'.cell? ⟨(A3.add ((x5_1).toNat * 5)).block,(A3.add ((x5_1).toNat * 5)).off + 4,none⟩=some (.int .i64 ((rd_T50 l1 x5_1).f4))) (ds:=[]) #[false,false,false,false,false,false,false,false,false,false] (by kernel_rfl) rfl rfl ⟨((HB.out.cell (World.block_lt_of_cell? w _ B4)).trans B4),((HB.out.cell (World.block_lt_of_cell? w _ B3)).trans B3),((HB.out.cell (World.block_lt_of_cell? w _ B2)).trans B2),((HB.out.cell (World.block_lt_of_cell? w _ B1)).trans B1),((HB.out.cell (World.block_lt_of_cell? w _ B0)).trans B0),((HB.out.cell (World.block_lt_of_cell? w _ C5)).trans C5),((HB.out.cell (World.block_lt_of_cell? w _ C4)).trans C4),((HB.out.cell (World.block_lt_of_cell? w _ C3)).trans C3),((HB.out.cell (World.block_lt_of_cell? w _ C2)).trans C2),((HB.out.cell (World.block_lt_of_cell? w _ C1)).trans C1)⟩ (fun hHeld=> ?_);refine with_tabW laws_eqOpS.tab6 laws_eqOpS.bits6 (fun HT_ HW_=> ?_)
   generalize wr.drew=w11 at HB C8 D1 A4 A5 A6 A8 A9 B5 B7 B8 B9 C0 hHeld ⊢
   refine pureS 0 17 HT_ rfl rfl ?_
   refine pureS 1 18 HT_ rfl rfl ?_
   refine pureS 2 19 HT_ rfl rfl ?_
   refine pureS 4 21 HT_ rfl rfl ?_
   refine pureS 5 22 HT_ rfl rfl ?_
   refine pureS 6 23 HT_ rfl rfl ?_
   refine takeS 3 20 HT_ HW_ rfl rfl hHeld ?_ laws_eqOpS.a0
   refine takeS 7 24 HT_ HW_ rfl rfl hHeld ?_ laws_eqOpS.a0
   refine one_ (i:=8) (N:=some 25) #[true,true,true,true,true,true,true,true,true,false] rfl rfl (one_of HT_.out (by kernel_rfl)) (by decide) (fun K hK=> ?_)
   refine goes_ Try.func62 (by kernel_rfl) rfl #[.agg #[.string ((rd_T50 l0 x5_1).f0),.slice A425_1 ((rd_T50 l0 x5_1).f1).length c425_1,.bool ((rd_T50 l0 x5_1).f2),.bool ((rd_T50 l0 x5_1).f3),.int .i64 ((rd_T50 l0 x5_1).f4)],.agg #[.string ((rd_T50 l1 x5_1).f0),.slice A426_1 ((rd_T50 l1 x5_1).f1).length c426_1,.bool ((rd_T50 l1 x5_1).f2),.bool ((rd_T50 l1 x5_1).f3),.int .i64 ((rd_T50 l1 x5_1).f4)]] (by rfl) rfl rfl (by (try simp only [List.map_toArray,List.map_cons,List.map_nil]);first | done | rfl | (simp only [List.length_drop,List.length_take];rfl)) ?_
   with_reducible refine (laws_eqOp.calls k1 ((rd_T50 l0 x5_1).f0) _ _ ((rd_T50 l0 x5_1).f1) ((rd_T50 l0 x5_1).f2) ((rd_T50 l0 x5_1).f3) ((rd_T50 l0 x5_1).f4) ((rd_T50 l1 x5_1).f0) _ _ ((rd_T50 l1 x5_1).f1) ((rd_T50 l1 x5_1).f2) ((rd_T50 l1 x5_1).f3) ((rd_T50 l1 x5_1).f4) false _ ?side1 ?side2 ?side3 ?side4 A7.out).mono ?_
   (case side1=>exact cB C8 HB)
   (case side2=>exact D6.out)
   (case side3=>exact cB D1 HB)
   (case side4=>exact D7.out)
   rintro e w12 ⟨rfl,hb⟩
   refine ⟨_,rfl,?_⟩
   replace HB:=hS HB hb
   (try clear hb)
   (try clear hb2)
   (try clear hk)
   (try clear hi)
   refine hK.out _ _ ⟨((HB.out.cell (World.block_lt_of_cell? w _ B4)).trans B4),((HB.out.cell (World.block_lt_of_cell? w _ B3)).trans B3),((HB.out.cell (World.block_lt_of_cell? w _ B2)).trans B2),((HB.out.cell (World.block_lt_of_cell? w _ B1)).trans B1),((HB.out.cell (World.block_lt_of_cell? w _ B0)).trans B0),((HB.out.cell (World.block_lt_of_cell? w _ C5)).trans C5),((HB.out.cell (World.block_lt_of_cell? w _ C4)).trans C4),((HB.out.cell (World.block_lt_of_cell? w _ C3)).trans C3),((HB.out.cell (World.block_lt_of_cell? w _ C2)).trans C2),((HB.out.cell (World.block_lt_of_cell? w _ C1)).trans C1)⟩ (fun hHeld=> ?_)
   clear hK K
   refine norm_ (a':=?_) ?_ ?_
   rotate_left
   ·show Act.put _ (some 25) _=_
    simp only [Act.put,List.setIfInBounds_toArray,List.set_cons_zero,List.set_cons_succ,i64_w,i32_w]
    rfl
   refine pureS 9 26 HT_ rfl rfl ?_
   refine done_ (done_of HT_.out (by kernel_rfl)) ?_
   try go_wp2
   go_ret
   exact ⟨laws_eqOpS.a1,hV HB⟩
/-! ### laws_eqSignature: function 12 -/
theorem laws_eqSignature.a0 {P_:Prop} (h_:P_:=by first | rfl | (simp [errW_none,errW_some] <;> rfl) | (simp [*,errW_none,errW_some] <;> rfl)):P_:=h_
def laws_eqSignature.f (k:Nat) (l0_0:List ByteArray) (l0_1:List (S89)) (l0_2:List (S50)) (l1_0:List ByteArray) (l1_1:List (S89)) (l1_2:List (S50)):Option (Bool):=(laws_eqSorts.f k l0_0 l0_1 l1_0 l1_1).bind fun t430=>(if t430=true then ((laws_eqOpS.f k l0_2 l1_2).bind fun t431=>(if t431=true then (some true) else (some false))) else (some false))
set_option maxHeartbeats 8000000 in
set_option maxRecDepth 100000 in
theorem laws_eqSignature.calls (k:Nat) (A0_0:Option Addr) (c0_0:Nat) (l0_0:List ByteArray) (A0_1:Option Addr) (c0_1:Nat) (l0_1:List (S89)) (A0_2:Option Addr) (c0_2:Nat) (l0_2:List (S50)) (A1_0:Option Addr) (c1_0:Nat) (l1_0:List ByteArray) (A1_1:Option Addr) (c1_1:Nat) (l1_1:List (S89)) (A1_2:Option Addr) (c1_2:Nat) (l1_2:List (S50)) (r:Bool) (w:World) (hr0_0:Kd.C Kd.string w A0_0 l0_0.length l0_0) (hc0_0:l0_0.length≤c0_0) (hr0_1:Kd.C k89 w A0_1 l0_1.length l0_1) (hc0_1:l0_1.length≤c0_1) (hr0_2:Kd.C k50 w A0_2 l0_2.length l0_2) (hc0_2:l0_2.length≤c0_2) (hr1_0:Kd.C Kd.string w A1_0 l1_0.length l1_0) (hc1_0:l1_0.length≤c1_0) (hr1_1:Kd.C k89 w A1_1 l1_1.length l1_1) (hc1_1:l1_1.length≤c1_1) (hr1_2:Kd.C k50 w A1_2 l1_2.length l1_2) (hc1_2:l1_2.length≤c1_2) (h:laws_eqSignature.f k l0_0 l0_1 l0_2 l1_0 l1_1 l1_2=some r) :
  Calls Try.prog 12 #[.agg #[.slice A0_0 l0_0.length c0_0,.slice A0_1 l0_1.length c0_1,.slice A0_2 l0_2.length c0_2],.agg #[.slice A1_0 l1_0.length c1_0,.slice A1_1 l1_1.length c1_1,.slice A1_2 l1_2.length c1_2]] w fun e w'=>e=.returned (.bool r)∧Below w.heap.size w w':=by
 have hu36:=Try.underlying36
 have hu33:=Try.underlying33
 have A6:=Aside0.mk hr0_0
 have A7:=Aside0.mk hc0_0
 clear hr0_0 hc0_0
 have A8:=Aside0.mk hr0_1
 have A9:=Aside0.mk hc0_1
 clear hr0_1 hc0_1
 have B4:=Aside0.mk hr0_2
 have B5:=Aside0.mk hc0_2
 clear hr0_2 hc0_2
 have B0:=Aside0.mk hr1_0
 have B1:=Aside0.mk hc1_0
 clear hr1_0 hc1_0
 have B2:=Aside0.mk hr1_1
 have B3:=Aside0.mk hc1_1
 clear hr1_1 hc1_1
 have B6:=Aside0.mk hr1_2
 have B7:=Aside0.mk hc1_2
 clear hr1_2 hc1_2
 have HB:=Aside0.mk (Below.refl w.heap.size w)
 have H:((laws_eqSorts.f k l0_0 l0_1 l1_0 l1_1).bind fun t430=>(if t430=true then ((laws_eqOpS.f k l0_2 l1_2).bind fun t431=>(if t431=true then (some true) else (some false))) else (some false)))=some r:=h
 clear h
 replace H:=Option.bind_eq_some_iff.mp H
 obtain ⟨t430,A30,H⟩:=H
 replace H:(if t430=true then ((laws_eqOpS.f k l0_2 l1_2).bind fun t431=>(if t431=true then (some true) else (some false))) else (some false))=some r:=H
 have A3:=Aside0.mk A30
 clear A30
 by_cases c4:t430=true
 rotate_left
 ·replace c4:=Bool.eq_false_iff.mpr c4
  subst c4
  rw [if_neg (show ¬ (false=true) by decide)] at H
  obtain rfl:=Option.some.inj H
  go_enter Try.func12,Try.ntmps12
  go_wp2_with (first | (refine bx 2 rfl #[.slice A0_0 l0_0.length c0_0,.slice A0_1 l0_1.length c0_1,.slice A0_2 l0_2.length c0_2] 36 ?_;intro B8 hg w25 hbox hb;have A0:=Aside0.mk (hbox);have B9:=hZ HB hg;have C0:=hZ HB hg;replace HB:=hS HB hb;clear hb hbox hg) | (refine bx 3 rfl #[.slice A1_0 l1_0.length c1_0,.slice A1_1 l1_1.length c1_1,.slice A1_2 l1_2.length c1_2] 36 ?_;intro C1 hg w26 hbox hb;have A1:=Aside0.mk (hbox);have C2:=hZ HB hg;have C3:=hZ HB hg;replace HB:=hS HB hb;have A2:=nL A0 hg;have A4:=nG A0 hg;replace A0:=bB A0 hb;clear hb hbox hg;have I4:=A2.out;have I5:=A4.out;obtain ⟨C4,C5,C6,C7,C8,C9⟩:=cf3 A0;obtain ⟨D0,D1,D2,D3,D4,D5⟩:=cf3 A1) | (refine goK 33 (some 9) rfl Try.func33 #[.agg #[.slice A0_0 l0_0.length c0_0,.slice A0_1 l0_1.length c0_1],.agg #[.slice A1_0 l1_0.length c1_0,.slice A1_1 l1_1.length c1_1]] ?_;(with_reducible refine (laws_eqSorts.calls k _ _ l0_0 _ _ l0_1 _ _ l1_0 _ _ l1_1 false _ ?side1 ?side2 ?side3 ?side4 ?side5 ?side6 ?side7 ?side8 A3.out).mono ?_);(case side1=>exact cB A6 HB);(case side2=>exact A7.out);(case side3=>exact cB A8 HB);(case side4=>exact A9.out);(case side5=>exact cB B0 HB);(case side6=>exact B1.out);(case side7=>exact cB B2 HB);(case side8=>exact B3.out);rintro e w30 ⟨rfl,hb⟩;refine ⟨_,rfl,?_⟩;replace A0:=bB A0 hb;replace A1:=bB A1 hb;replace HB:=hS HB hb;(try clear hb);(try clear hb2);(try clear hk);(try clear hi)))
  go_ret
  exact ⟨laws_eqSignature.a0,hV HB⟩

 subst c4
 rw [if_pos rfl] at H
 replace H:=Option.bind_eq_some_iff.mp H
 obtain ⟨t431,A50,H⟩:=H
 replace H:(if t431=true then (some true) else (some false))=some r:=H
 have A5:=Aside0.mk A50
 clear A50
 by_cases c6:t431=true
 ·subst c6
  rw [if_pos rfl] at H
  obtain rfl:=Option.some.inj H
  go_enter Try.func12,Try.ntmps12
  go_wp2_with (first | (refine bx 2 rfl #[.slice A0_0 l0_0.length c0_0,.slice A0_1 l0_1.length c0_1,.slice A0_2 l0_2.length c0_2] 36 ?_;intro B8 hg w7 hbox hb;have A0:=Aside0.mk (hbox);have B9:=hZ HB hg;have C0:=hZ HB hg;replace HB:=hS HB hb;clear hb hbox hg) | (refine bx 3 rfl #[.slice A1_0 l1_0.length c1_0,.slice A1_1 l1_1.length c1_1,.slice A1_2 l1_2.length c1_2] 36 ?_;intro C1 hg w8 hbox hb;have A1:=Aside0.mk (hbox);have C2:=hZ HB hg;have C3:=hZ HB hg;replace HB:=hS HB hb;have A2:=nL A0 hg;have A4:=nG A0 hg;replace A0:=bB A0 hb;clear hb hbox hg;have I8:=A2.out;have I9:=A4.out;obtain ⟨D6,D7,D8,D9,E0,E1⟩:=cf3 A0;obtain ⟨E2,E3,E4,E5,E6,E7⟩:=cf3 A1) | (refine goK 33 (some 9) rfl Try.func33 #[.agg #[.slice A0_0 l0_0.length c0_0,.slice A0_1 l0_1.length c0_1],.agg #[.slice A1_0 l1_0.length c1_0,.slice A1_1 l1_1.length c1_1]] ?_;(with_reducible refine (laws_eqSorts.calls k _ _ l0_0 _ _ l0_1 _ _ l1_0 _ _ l1_1 true _ ?side1 ?side2 ?side3 ?side4 ?side5 ?side6 ?side7 ?side8 A3.out).mono ?_);(case side1=>exact cB A6 HB);(case side2=>exact A7.out);(case side3=>exact cB A8 HB);(case side4=>exact A9.out);(case side5=>exact cB B0 HB);(case side6=>exact B1.out);(case side7=>exact cB B2 HB);(case side8=>exact B3.out);rintro e w12 ⟨rfl,hb⟩;refine ⟨_,rfl,?_⟩;replace A0:=bB A0 hb;replace A1:=bB A1 hb;replace HB:=hS HB hb;(try clear hb);(try clear hb2);(try clear hk);(try clear hi);obtain ⟨E8,E9,F0,F1,F2,F3⟩:=cf3 A0;obtain ⟨F4,F5,F6,F7,F8,F9⟩:=cf3 A1) | (refine goK 34 (some 15) rfl Try.func34 #[.slice A0_2 l0_2.length c0_2,.slice A1_2 l1_2.length c1_2] ?_;(with_reducible refine (laws_eqOpS.calls k _ _ l0_2 _ _ l1_2 true _ ?side1 ?side2 ?side3 ?side4 A5.out).mono ?_);(case side1=>exact cB B4 HB);(case side2=>exact B5.out);(case side3=>exact cB B6 HB);(case side4=>exact B7.out);rintro e w15 ⟨rfl,hb⟩;refine ⟨_,rfl,?_⟩;replace A0:=bB A0 hb;replace A1:=bB A1 hb;replace HB:=hS HB hb;(try clear hb);(try clear hb2);(try clear hk);(try clear hi)))
  go_ret
  exact ⟨laws_eqSignature.a0,hV HB⟩
 replace c6:=Bool.eq_false_iff.mpr c6
 subst c6
 rw [if_neg (show ¬ (false=true) by decide)] at H
 obtain rfl:=Option.some.inj H
 go_enter Try.func12,Try.ntmps12
 go_wp2_with (first | (refine bx 2 rfl #[.slice A0_0 l0_0.length c0_0,.slice A0_1 l0_1.length c0_1,.slice A0_2 l0_2.length c0_2] 36 ?_;intro B8 hg w16 hbox hb;have A0:=Aside0.mk (hbox);have B9:=hZ HB hg;have C0:=hZ HB hg;replace HB:=hS HB hb;clear hb hbox hg) | (refine bx 3 rfl #[.slice A1_0 l1_0.length c1_0,.slice A1_1 l1_1.length c1_1,.slice A1_2 l1_2.length c1_2] 36 ?_;intro C1 hg w17 hbox hb;have A1:=Aside0.mk (hbox);have C2:=hZ HB hg;have C3:=hZ HB hg;replace HB:=hS HB hb;have A2:=nL A0 hg;have A4:=nG A0 hg;replace A0:=bB A0 hb;clear hb hbox hg;have I6:=A2.out;have I7:=A4.out;obtain ⟨G0,G1,G2,G3,G4,G5⟩:=cf3 A0;obtain ⟨G6,G7,G8,G9,H0,H1⟩:=cf3 A1) | (refine goK 33 (some 9) rfl Try.func33 #[.agg #[.slice A0_0 l0_0.length c0_0,.slice A0_1 l0_1.length c0_1],.agg #[.slice A1_0 l1_0.length c1_0,.slice A1_1 l1_1.length c1_1]] ?_;(with_reducible refine (laws_eqSorts.calls k _ _ l0_0 _ _ l0_1 _ _ l1_0 _ _ l1_1 true _ ?side1 ?side2 ?side3 ?side4 ?side5 ?side6 ?side7 ?side8 A3.out).mono ?_);(case side1=>exact cB A6 HB);(case side2=>exact A7.out);(case side3=>exact cB A8 HB);(case side4=>exact A9.out);(case side5=>exact cB B0 HB);(case side6=>exact B1.out);(case side7=>exact cB B2 HB);(case side8=>exact B3.out);rintro e w21 ⟨rfl,hb⟩;refine ⟨_,rfl,?_⟩;replace A0:=bB A0 hb;replace A1:=bB A1 hb;replace HB:=hS HB hb;(try clear hb);(try clear hb2);(try clear hk);(try clear hi);obtain ⟨H2,H3,H4,H5,H6,H7⟩:=cf3 A0;obtain ⟨H8,H9,I0,I1,I2,I3⟩:=cf3 A1) | (refine goK 34 (some 15) rfl Try.func34 #[.slice A0_2 l0_2.length c0_2,.slice A1_2 l1_2.length c1_2] ?_;(with_reducible refine (laws_eqOpS.calls k _ _ l0_2 _ _ l1_2 false _ ?side1 ?side2 ?side3 ?side4 A5.out).mono ?_);(case side1=>exact cB B4 HB);(case side2=>exact B5.out);(case side3=>exact cB B6 HB);(case side4=>exact B7.out);rintro e w24 ⟨rfl,hb⟩;refine ⟨_,rfl,?_⟩;replace A0:=bB A0 hb;replace A1:=bB A1 hb;replace HB:=hS HB hb;(try clear hb);(try clear hb2);(try clear hk);(try clear hi)))
 go_ret
 exact ⟨laws_eqSignature.a0,hV HB⟩
/-! ### laws_FnExactIsSignature: function 3 -/
/-! ### spec_ArityOf: function 13 -/
/-! ### impl_ArityOf: function 14 -/
end Go.Proofs.Ytpildjbakceicaa.Q

