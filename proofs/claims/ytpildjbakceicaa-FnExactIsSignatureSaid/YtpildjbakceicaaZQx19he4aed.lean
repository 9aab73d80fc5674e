/- Functions of the program as plain Lean functions,and that the calls come to what they say. -/
import Derived.Test.YtpildjbakceicaaZQx0hb61c0
import Derived.Test.YtpildjbakceicaaZQx1h3e7cd
import Derived.Test.YtpildjbakceicaaZQx2hbedb0
import Derived.Test.YtpildjbakceicaaZQx6hc99f5
import Derived.Test.YtpildjbakceicaaZQx8h91bd6
import Derived.Test.YtpildjbakceicaaZQx9h74e80
import Derived.Test.YtpildjbakceicaaZQx17h31d5f
import Derived.Test.YtpildjbakceicaaZQx18h59beb
import Derived.Test.YtpildjbakceicaaZShorthc96c8
namespace Go.Proofs.Ytpildjbakceicaa.Q
open Go.RowKit Go.Proofs.YtpildjbakceicaaW.PrintWords Go.Proofs.YtpildjbakceicaaW.PrintLast Go.Proofs.YtpildjbakceicaaW.PrintMore
attribute [local go_sem] max2_int min2_int max_two min_two max_three min_three max_four min_four   -- for this text's walks alone
set_option linter.unusedVariables false
set_option linter.unusedSimpArgs false

/-! ### laws_eqOpS: function 34 -/
theorem laws_eqOpS.a0 {P_:Prop} (h_:P_:=by rintro w' ⟨s0,s1,s2,s3,s4,s5,s6,s7,s8,s9⟩;go_simp;with_reducible rfl):P_:=h_
theorem laws_eqOpS.a1 {P_:Prop} (h_:P_:=by first | rfl | (simp [errW_none,errW_some] <;> rfl) | (simp [*,errW_none,errW_some] <;> rfl)):P_:=h_
def laws_eqOpS.l0:Nat→List (S50)→List (S50)→Int→Option (Bool)
 | 0,_,_,_=>none
 | k + 1,x0,x1,x5=>if x5 < (x0.length:Int) then (if 0≤x5 then (if x5 < (x1.length:Int) then ((laws_eqOp.f k ((rd_T50 x0 x5).f0) ((rd_T50 x0 x5).f1) ((rd_T50 x0 x5).f2) ((rd_T50 x0 x5).f3) ((rd_T50 x0 x5).f4) ((rd_T50 x1 x5).f0) ((rd_T50 x1 x5).f1) ((rd_T50 x1 x5).f2) ((rd_T50 x1 x5).f3) ((rd_T50 x1 x5).f4)).bind fun t427=>(if t427=true then (laws_eqOpS.l0 k x0 x1 (wrap64 (x5 + 1))) else (some false))) else (none)) else (none)) else (some true)
def laws_eqOpS.f (k:Nat) (l0:List (S50)) (l1:List (S50)):Option (Bool):=if (l0.length:Int)=(l1.length:Int) then (laws_eqOpS.l0 k l0 l1 0) else (some false)
def laws_eqOpS.T6:Bool × List (List Nat × List Nat):=(true,[([],[]),([],[]),([0,1],[0,1]),([2],[2]),([],[]),([],[]),([4,5],[4,5]),([6],[6]),([3,7],[3,7]),([8],[8])])
def laws_eqOpS.B6:List Nat:=[0,0,3,7,0,0,48,112,255,511]
theorem laws_eqOpS.tab6:rtab .any (opsOf Try.f34 6)=laws_eqOpS.T6:=by kernel_rfl
theorem laws_eqOpS.bits6:waitsOk laws_eqOpS.T6.2 laws_eqOpS.B6=true:=by kernel_rfl
set_option maxHeartbeats 8000000 in
set_option maxRecDepth 100000 in
theorem laws_eqOpS.calls (k:Nat) (A0:Option Addr) (c0:Nat) (l0:List (S50)) (A1:Option Addr) (c1:Nat) (l1:List (S50)) (r:Bool) (w:World) (hr0:Kd.C k50 w A0 l0.length l0) (hc0:l0.length≤c0) (hr1:Kd.C k50 w A1 l1.length l1) (hc1:l1.length≤c1) (h:laws_eqOpS.f k l0 l1=some r) :
  Calls Try.prog 34 #[.slice A0 l0.length c0,.slice A1 l1.length c1] w fun e w'=>e=.returned (.bool r)∧Below w.heap.size w w':=by
 have hu50:=Try.underlying50
 have E1:=Aside0.mk hr0
 have E6:=Aside0.mk hc0
 clear hr0 hc0
 have E2:=Aside0.mk hr1
 have E7:=Aside0.mk hc1
 clear hr1 hc1
 have HB:=Aside0.mk (Below.refl w.heap.size w)
 have H:(if (l0.length:Int)=(l1.length:Int) then (laws_eqOpS.l0 k l0 l1 0) else (some false))=some r:=h
 clear h
 by_cases c3:(l0.length:Int)=(l1.length:Int)
 ·rw [if_pos c3] at H
  have D8:((l0.length:Int) == (l1.length:Int))=true:=beq_iff_eq.mpr c3
  have D9:((l0.length:Int) != (l1.length:Int))=false:=bne_eq_false_iff_eq.mpr c3
  have E0:(l0.length == l1.length)=true:=by first | simpa using c3 | (simp at c3 ⊢;omega)
  clear c3
  have H':=Aside0.mk H
  clear H
  go_enter Try.func34,Try.ntmps34
  go_wp2
  go_loopg [5] k (fun kq v5 w'=> ∃ (x5_1:Int),v5=.int .i64 x5_1∧Aside0 (laws_eqOpS.l0 kq l0 l1 x5_1=some r)∧Aside0 (kq≤k)∧Aside0 (Below w.heap.size w w'))
  case atStart=>exact ⟨(0),(by first | rfl | (simp;done) | (simp [*];done)),H',⟨Nat.le_refl _⟩,⟨hV HB⟩⟩
  case round=>
   clear H'
   try clear c1
   try clear c3
   try clear D8
   try clear D9
   try clear E0
   obtain ⟨x5_1,rfl,HA,HK1,HB⟩:=hrel
   cases gk with
   | zero=>exact absurd HA.out (by simp [laws_eqOpS.l0])
   | succ k1=>
    have H:=HA.out
    clear HA
    simp only [laws_eqOpS.l0] at H
    by_cases c4:x5_1 < (l0.length:Int)
    ·rw [if_pos c4] at H
     have E3:=decide_eq_true c4
     clear c4
     by_cases c5:0≤x5_1
     ·rw [if_pos c5] at H
      have E4:=decide_eq_true c5
      clear c5
      by_cases c6:x5_1 < (l1.length:Int)
      ·rw [if_pos c6] at H
       have E5:=decide_eq_true c6
       clear c6
       replace H:=Option.bind_eq_some_iff.mp H
       obtain ⟨t427,A70,H⟩:=H
       replace H:(if t427=true then (laws_eqOpS.l0 k1 l0 l1 (wrap64 (x5_1 + 1))) else (some false))=some r:=H
       have A7:=Aside0.mk A70
       clear A70
       by_cases c8:t427=true
       ·subst c8
        rw [if_pos rfl] at H
        have H':=Aside0.mk H
        clear H
        try go_wp2
        replace HB:=Aside0.mk (below_drew1 HB.out)
        have D2:0≤(x5_1:Int):=dT
        have D3:x5_1 < (l0.length:Int):=dT
        obtain ⟨A2,A425_1,c425_1,e425,A4,A5,A6,A8,A9,C6,C7⟩:=at_T50 E1.out x5_1 D2 D3
        have B0:=A9
        have B1:=A8
        have B2:=A6
        have B3:=A5
        have B4:=A4
        cases e425
        replace A4:=xc HB A4
        replace A5:=xc HB A5
        replace A6:=xc HB A6
        replace A8:=xc HB A8
        replace A9:=xc HB A9
        have C8:=Aside0.mk C7
        have D6:=Aside0.mk C6
        clear C7 C6
        replace D2:=eq_true D2
        replace D3:=eq_true D3
        have D4:0≤(x5_1:Int):=dT
        have D5:x5_1 < (l1.length:Int):=dT
        obtain ⟨A3,A426_1,c426_1,e426,B5,B7,B8,B9,C0,C9,D0⟩:=at_T50 E2.out x5_1 D4 D5
        have C1:=C0
        have C2:=B9
        have C3:=B8
        have C4:=B7
        have C5:=B5
        cases e426
        replace B5:=xc HB B5
        replace B7:=xc HB B7
        replace B8:=xc HB B8
        replace B9:=xc HB B9
        replace C0:=xc HB C0
        have D1:=Aside0.mk D0
        have D7:=Aside0.mk C9
        clear D0 C9
        replace D4:=eq_true D4
        replace D5:=eq_true D5
        refine start_ (n:=10) (S:=fun w'=>w'.cell? (A2.add ((x5_1).toNat * 5))=some (.string ((rd_T50 l0 x5_1).f0))∧w'.cell? ⟨(A2.add ((x5_1).toNat * 5)).block,(A2.add ((x5_1).toNat * 5)).off + 1,none⟩=some (.slice A425_1 ((rd_T50 l0 x5_1).f1).length c425_1)∧w'.cell? ⟨(A2.add ((x5_1).toNat * 5)).block,(A2.add ((x5_1).toNat * 5)).off + 2,none⟩=some (.bool ((rd_T50 l0 x5_1).f2))∧w'.cell? ⟨(A2.add ((x5_1).toNat * 5)).block,(A2.add ((x5_1).toNat * 5)).off + 3,none⟩=some (.bool ((rd_T50 l0 x5_1).f3))∧w'.cell? ⟨(A2.add ((x5_1).toNat * 5)).block,(A2.add ((x5_1).toNat * 5)).off + 4,none⟩=some (.int .i64 ((rd_T50 l0 x5_1).f4))∧w'.cell? (A3.add ((x5_1).toNat * 5))=some (.string ((rd_T50 l1 x5_1).f0))∧w'.cell? ⟨(A3.add ((x5_1).toNat * 5)).block,(A3.add ((x5_1).toNat * 5)).off + 1,none⟩=some (.slice A426_1 ((rd_T50 l1 x5_1).f1).length c426_1)∧w'.cell? ⟨(A3.add ((x5_1).toNat * 5)).block,(A3.add ((x5_1).toNat * 5)).off + 2,none⟩=some (.bool ((rd_T50 l1 x5_1).f2))∧w'.cell? ⟨(A3.add ((x5_1).toNat * 5)).block,(A3.add ((x5_1).toNat * 5)).off + 3,none⟩=some (.bool ((rd_T50 l1 x5_1).f3))∧w'.cell? ⟨(A3.add ((x5_1).toNat * 5)).block,(A3.add ((x5_1).toNat * 5)).off + 4,none⟩=some (.int .i64 ((rd_T50 l1 x5_1).f4))) (ds:=[]) #[false,false,false,false,false,false,false,false,false,false] (by kernel_rfl) rfl rfl ⟨((HB.out.cell (World.block_lt_of_cell? w _ B4)).trans B4),((HB.out.cell (World.block_lt_of_cell? w _ B3)).trans B3),((HB.out.cell (World.block_lt_of_cell? w _ B2)).trans B2),((HB.out.cell (World.block_lt_of_cell? w _ B1)).trans B1),((HB.out.cell (World.block_lt_of_cell? w _ B0)).trans B0),((HB.out.cell (World.block_lt_of_cell? w _ C5)).trans C5),((HB.out.cell (World.block_lt_of_cell? w _ C4)).trans C4),((HB.out.cell (World.block_lt_of_cell? w _ C3)).trans C3),((HB.out.cell (World.block_lt_of_cell? w _ C2)).trans C2),((HB.out.cell (World.block_lt_of_cell? w _ C1)).trans C1)⟩ (fun hHeld=> ?_);refine with_tabW laws_eqOpS.tab6 laws_eqOpS.bits6 (fun HT_ HW_=> ?_)
        generalize wr.drew=w9 at HB C8 D1 A4 A5 A6 A8 A9 B5 B7 B8 B9 C0 hHeld ⊢
        refine pureS 0 17 HT_ rfl rfl ?_
        refine pureS 1 18 HT_ rfl rfl ?_
        refine pureS 2 19 HT_ rfl rfl ?_
        refine pureS 4 21 HT_ rfl rfl ?_
        refine pureS 5 22 HT_ rfl rfl ?_
        refine pureS 6 23 HT_ rfl rfl ?_
        refine takeS 3 20 HT_ HW_ rfl rfl hHeld ?_ laws_eqOpS.a0
        refine takeS 7 24 HT_ HW_ rfl rfl hHeld ?_ laws_eqOpS.a0
        refine one_ (i:=8) (N:=some 25) #[true,true,true,true,true,true,true,true,true,false] rfl rfl (one_of HT_.out (by kernel_rfl)) (by decide) (fun K hK=> ?_)
        refine goes_ Try.func62 (by kernel_rfl) rfl #[.agg #[.string ((rd_T50 l0 x5_1).f0),.slice A425_1 ((rd_T50 l0 x5_1).f1).length c425_1,.bool ((rd_T50 l0 x5_1).f2),.bool ((rd_T50 l0 x5_1).f3),.int .i64 ((rd_T50 l0 x5_1).f4)],.agg #[.string ((rd_T50 l1 x5_1).f0),.slice A426_1 ((rd_T50 l1 x5_1).f1).length c426_1,.bool ((rd_T50 l1 x5_1).f2),.bool ((rd_T50 l1 x5_1).f3),.int .i64 ((rd_T50 l1 x5_1).f4)]] (by rfl) rfl rfl (by (try simp only [List.map_toArray,List.map_cons,List.map_nil]);first | done | rfl | (simp only [List.length_drop,List.length_take];rfl)) ?_
        with_reducible refine (laws_eqOp.calls k1 ((rd_T50 l0 x5_1).f0) _ _ ((rd_T50 l0 x5_1).f1) ((rd_T50 l0 x5_1).f2) ((rd_T50 l0 x5_1).f3) ((rd_T50 l0 x5_1).f4) ((rd_T50 l1 x5_1).f0) _ _ ((rd_T50 l1 x5_1).f1) ((rd_T50 l1 x5_1).f2) ((rd_T50 l1 x5_1).f3) ((rd_T50 l1 x5_1).f4) true _ ?side1 ?side2 ?side3 ?side4 A7.out).mono ?_
        (case side1=>exact cB C8 HB)
        (case side2=>exact D6.out)
        (case side3=>exact cB D1 HB)
        (case side4=>exact D7.out)
        rintro e w10 ⟨rfl,hb⟩
        refine ⟨_,rfl,?_⟩
        replace HB:=hS HB hb
        (try clear hb)
        (try clear hb2)
        (try clear hk)
        (try clear hi)
        refine hK.out _ _ ⟨((HB.out.cell (World.block_lt_of_cell? w _ B4)).trans B4),((HB.out.cell (World.block_lt_of_cell? w _ B3)).trans B3),((HB.out.cell (World.block_lt_of_cell? w _ B2)).trans B2),((HB.out.cell (World.block_lt_of_cell? w _ B1)).trans B1),((HB.out.cell (World.block_lt_of_cell? w _ B0)).trans B0),((HB.out.cell (World.block_lt_of_cell? w _ C5)).trans C5),((HB.out.cell (World.block_lt_of_cell? w _ C4)).trans C4),((HB.out.cell (World.block_lt_of_cell? w _ C3)).trans C3),((HB.out.cell (World.block_lt_of_cell? w _ C2)).trans C2),((HB.out.cell (World.block_lt_of_cell? w _ C1)).trans C1)⟩ (fun hHeld=> ?_)
        clear hK K
        refine norm_ (a':=?_) ?_ ?_
        rotate_left
        ·show Act.put _ (some 25) _=_
         simp only [Act.put,List.setIfInBounds_toArray,List.set_cons_zero,List.set_cons_succ,i64_w,i32_w]
         rfl
        refine pureS 9 26 HT_ rfl rfl ?_
        refine done_ (done_of HT_.out (by kernel_rfl)) ?_
        try go_wp2
        go_roundg k1
        case measure=>have:=HK1.out;omega
        case rel=>exact ⟨(wrap64 (x5_1 + 1)),(by first | rfl | (simp;done) | (simp [*];done)),H',⟨by have:=HK1.out;omega⟩,⟨hV HB⟩⟩
       ·replace c8:=Bool.eq_false_iff.mpr c8
        subst c8
        rw [if_neg (show ¬ (false=true) by decide)] at H
        obtain rfl:=Option.some.inj H
        try go_wp2
        replace HB:=Aside0.mk (below_drew1 HB.out)
        have D2:0≤(x5_1:Int):=dT
        have D3:x5_1 < (l0.length:Int):=dT
        obtain ⟨A2,A425_1,c425_1,e425,A4,A5,A6,A8,A9,C6,C7⟩:=at_T50 E1.out x5_1 D2 D3
        have B0:=A9
        have B1:=A8
        have B2:=A6
        have B3:=A5
        have B4:=A4
        cases e425
        replace A4:=xc HB A4
        replace A5:=xc HB A5
        replace A6:=xc HB A6
        replace A8:=xc HB A8
        replace A9:=xc HB A9
        have C8:=Aside0.mk C7
        have D6:=Aside0.mk C6
        clear C7 C6
        replace D2:=eq_true D2
        replace D3:=eq_true D3
        have D4:0≤(x5_1:Int):=dT
        have D5:x5_1 < (l1.length:Int):=dT
        obtain ⟨A3,A426_1,c426_1,e426,B5,B7,B8,B9,C0,C9,D0⟩:=at_T50 E2.out x5_1 D4 D5
        have C1:=C0
        have C2:=B9
        have C3:=B8
        have C4:=B7
        have C5:=B5
        cases e426
        replace B5:=xc HB B5
        replace B7:=xc HB B7
        replace B8:=xc HB B8
        replace B9:=xc HB B9
        replace C0:=xc HB C0
        have D1:=Aside0.mk D0
        have D7:=Aside0.mk C9
        clear D0 C9
        replace D4:=eq_true D4
        replace D5:=eq_true D5
        refine start_ (n:=10) (S:=fun w'=>w'.cell? (A2.add ((x5_1).toNat * 5))=some (.string ((rd_T50 l0 x5_1).f0))∧w'.cell? ⟨(A2.add ((x5_1).toNat * 5)).block,(A2.add ((x5_1).toNat * 5)).off + 1,none⟩=some (.slice A425_1 ((rd_T50 l0 x5_1).f1).length c425_1)∧w'.cell? ⟨(A2.add ((x5_1).toNat * 5)).block,(A2.add ((x5_1).toNat * 5)).off + 2,none⟩=some (.bool ((rd_T50 l0 x5_1).f2))∧w'.cell? ⟨(A2.add ((x5_1).toNat * 5)).block,(A2.add ((x5_1).toNat * 5)).off + 3,none⟩=some (.bool ((rd_T50 l0 x5_1).f3))∧w'.cell? ⟨(A2.add ((x5_1).toNat * 5)).block,(A2.add ((x5_1).toNat * 5)).off + 4,none⟩=some (.int .i64 ((rd_T50 l0 x5_1).f4))∧w'.cell? (A3.add ((x5_1).toNat * 5))=some (.string ((rd_T50 l1 x5_1).f0))∧w'.cell? ⟨(A3.add ((x5_1).toNat * 5)).block,(A3.add ((x5_1).toNat * 5)).off + 1,none⟩=some (.slice A426_1 ((rd_T50 l1 x5_1).f1).length c426_1)∧w'.cell? ⟨(A3.add ((x5_1).toNat * 5)).block,(A3.add ((x5_1).toNat * 5)).off + 2,none⟩=some (.bool ((rd_T50 l1 x5_1).f2))∧w'.cell? ⟨(A3.add ((x5_1).toNat * 5)).block,(A3.add ((x5_1).toNat * 5)).off + 3,none⟩=some (.bool ((rd_T50 l1 x5_1).f3))∧w'.cell? ⟨(A3.add ((x5_1).toNat * 5)).block,(A3.add ((x5_1).toNat * 5)).off + 4,none⟩=some (.int .i64 ((rd_T50 l1 x5_1).f4))) (ds:=[]) #[false,false,false,false,false,false,false,false,false,false] (by kernel_rfl) rfl rfl ⟨((HB.out.cell (World.block_lt_of_cell? w _ B4)).trans B4),((HB.out.cell (World.block_lt_of_cell? w _ B3)).trans B3),((HB.out.cell (World.block_lt_of_cell? w _ B2)).trans B2),((HB.out.cell (World.block_lt_of_cell? w _ B1)).trans B1),((HB.out.cell (World.block_lt_of_cell? w _ B0)).trans B0),((HB.out.cell (World.block_lt_of_cell? w _ C5)).trans C5),((HB.out.cell (World.block_lt_of_cell? w _ C4)).trans C4),((HB.out.cell (World.block_lt_of_cell? w _ C3)).trans C3),((HB.out.cell (World.block_lt_of_cell? w _ C2)).trans C2),((HB.out.cell (World.block_lt_of_cell? w _ C1)).trans C1)⟩ (fun hHeld=> ?_);refine with_tabW laws_eqOpS.tab6 laws_eqOpS.bits6 (fun HT_ HW_=> ?_)
        generalize wr.drew=w11 at HB C8 D1 A4 A5 A6 A8 A9 B5 B7 B8 B9 C0 hHeld ⊢
        refine pureS 0 17 HT_ rfl rfl ?_
        refine pureS 1 18 HT_ rfl rfl ?_
        refine pureS 2 19 HT_ rfl rfl ?_
        refine pureS 4 21 HT_ rfl rfl ?_
        refine pureS 5 22 HT_ rfl rfl ?_
        refine pureS 6 23 HT_ rfl rfl ?_
        refine takeS 3 20 HT_ HW_ rfl rfl hHeld ?_ laws_eqOpS.a0
        refine takeS 7 24 HT_ HW_ rfl rfl hHeld ?_ laws_eqOpS.a0
        refine one_ (i:=8) (N:=some 25) #[true,true,true,true,true,true,true,true,true,false] rfl rfl (one_of HT_.out (by kernel_rfl)) (by decide) (fun K hK=> ?_)
        refine goes_ Try.func62 (by kernel_rfl) rfl #[.agg #[.string ((rd_T50 l0 x5_1).f0),.slice A425_1 ((rd_T50 l0 x5_1).f1).length c425_1,.bool ((rd_T50 l0 x5_1).f2),.bool ((rd_T50 l0 x5_1).f3),.int .i64 ((rd_T50 l0 x5_1).f4)],.agg #[.string ((rd_T50 l1 x5_1).f0),.slice A426_1 ((rd_T50 l1 x5_1).f1).length c426_1,.bool ((rd_T50 l1 x5_1).f2),.bool ((rd_T50 l1 x5_1).f3),.int .i64 ((rd_T50 l1 x5_1).f4)]] (by rfl) rfl rfl (by (try simp only [List.map_toArray,List.map_cons,List.map_nil]);first | done | rfl | (simp only [List.length_drop,List.length_take];rfl)) ?_
        with_reducible refine (laws_eqOp.calls k1 ((rd_T50 l0 x5_1).f0) _ _ ((rd_T50 l0 x5_1).f1) ((rd_T50 l0 x5_1).f2) ((rd_T50 l0 x5_1).f3) ((rd_T50 l0 x5_1).f4) ((rd_T50 l1 x5_1).f0) _ _ ((rd_T50 l1 x5_1).f1) ((rd_T50 l1 x5_1).f2) ((rd_T50 l1 x5_1).f3) ((rd_T50 l1 x5_1).f4) false _ ?side1 ?side2 ?side3 ?side4 A7.out).mono ?_
        (case side1=>exact cB C8 HB)
        (case side2=>exact D6.out)
        (case side3=>exact cB D1 HB)
        (case side4=>exact D7.out)
        rintro e w12 ⟨rfl,hb⟩
        refine ⟨_,rfl,?_⟩
        replace HB:=hS HB hb
        (try clear hb)
        (try clear hb2)
        (try clear hk)
        (try clear hi)
        refine hK.out _ _ ⟨((HB.out.cell (World.block_lt_of_cell? w _ B4)).trans B4),((HB.out.cell (World.block_lt_of_cell? w _ B3)).trans B3),((HB.out.cell (World.block_lt_of_cell? w _ B2)).trans B2),((HB.out.cell (World.block_lt_of_cell? w _ B1)).trans B1),((HB.out.cell (World.block_lt_of_cell? w _ B0)).trans B0),((HB.out.cell (World.block_lt_of_cell? w _ C5)).trans C5),((HB.out.cell (World.block_lt_of_cell? w _ C4)).trans C4),((HB.out.cell (World.block_lt_of_cell? w _ C3)).trans C3),((HB.out.cell (World.block_lt_of_cell? w _ C2)).trans C2),((HB.out.cell (World.block_lt_of_cell? w _ C1)).trans C1)⟩ (fun hHeld=> ?_)
        clear hK K
        refine norm_ (a':=?_) ?_ ?_
        rotate_left
        ·show Act.put _ (some 25) _=_
         simp only [Act.put,List.setIfInBounds_toArray,List.set_cons_zero,List.set_cons_succ,i64_w,i32_w]
         rfl
        refine pureS 9 26 HT_ rfl rfl ?_
        refine done_ (done_of HT_.out (by kernel_rfl)) ?_
        try go_wp2
        go_ret
        exact ⟨laws_eqOpS.a1,hV HB⟩
      ·rw [if_neg c6] at H
       exact absurd H (by simp)
     ·rw [if_neg c5] at H
      exact absurd H (by simp)
    ·rw [if_neg c4] at H
     have E3:=decide_eq_false c4
     clear c4
     obtain rfl:=Option.some.inj H
     go_wp2
     go_ret
     exact ⟨laws_eqOpS.a1,hV HB⟩
 ·rw [if_neg c3] at H
  have D8:((l0.length:Int) == (l1.length:Int))=false:=beq_eq_false_iff_ne.mpr c3
  have D9:((l0.length:Int) != (l1.length:Int))=true:=bne_iff_ne.mpr c3
  have E0:(l0.length == l1.length)=false:=by first | simpa using c3 | (simp at c3 ⊢;omega)
  obtain rfl:=Option.some.inj H
  go_enter Try.func34,Try.ntmps34
  go_wp2
  go_ret
  exact ⟨laws_eqOpS.a1,hV HB⟩

/-! ### laws_eqSignature: function 12 -/
theorem laws_eqSignature.a0 {P_:Prop} (h_:P_:=by first | rfl | (simp [errW_none,errW_some] <;> rfl) | (simp [*,errW_none,errW_some] <;> rfl)):P_:=h_
def laws_eqSignature.f (k:Nat) (l0_0:List ByteArray) (l0_1:List (S89)) (l0_2:List (S50)) (l1_0:List ByteArray) (l1_1:List (S89)) (l1_2:List (S50)):Option (Bool):=(laws_eqSorts.f k l0_0 l0_1 l1_0 l1_1).bind fun t430=>(if t430=true then ((laws_eqOpS.f k l0_2 l1_2).bind fun t431=>(if t431=true then (some true) else (some false))) else (some false))
set_option maxHeartbeats 8000000 in
set_option maxRecDepth 100000 in
theorem laws_eqSignature.calls (k:Nat) (A0_0:Option Addr) (c0_0:Nat) (l0_0:List ByteArray) (A0_1:Option Addr) (c0_1:Nat) (l0_1:List (S89)) (A0_2:Option Addr) (c0_2:Nat) (l0_2:List (S50)) (A1_0:Option Addr) (c1_0:Nat) (l1_0:List ByteArray) (A1_1:Option Addr) (c1_1:Nat) (l1_1:List (S89)) (A1_2:Option Addr) (c1_2:Nat) (l1_2:List (S50)) (r:Bool) (w:World) (hr0_0:Kd.C Kd.string w A0_0 l0_0.length l0_0) (hc0_0:l0_0.length≤c0_0) (hr0_1:Kd.C k89 w A0_1 l0_1.length l0_1) (hc0_1:l0_1.length≤c0_1) (hr0_2:Kd.C k50 w A0_2 l0_2.length l0_2) (hc0_2:l0_2.length≤c0_2) (hr1_0:Kd.C Kd.string w A1_0 l1_0.length l1_0) (hc1_0:l1_0.length≤c1_0) (hr1_1:Kd.C k89 w A1_1 l1_1.length l1_1) (hc1_1:l1_1.length≤c1_1) (hr1_2:Kd.C k50 w A1_2 l1_2.length l1_2) (hc1_2:l1_2.length≤c1_2) (h:laws_eqSignature.f k l0_0 l0_1 l0_2 l1_0 l1_1 l1_2=some r) :
  Calls Try.prog 12 #[.agg #[.slice A0_0 l0_0.length c0_0,.slice A0_1 l0_1.length c0_1,.slice A0_2 l0_2.length c0_2],.agg #[.slice A1_0 l1_0.length c1_0,.slice A1_1 l1_1.length c1_1,.slice A1_2 l1_2.length c1_2]] w fun e w'=>e=.returned (.bool r)∧Below w.heap.size w w':=by
 have hu36:=Try.underlying36
 have hu33:=Try.underlying33
 have A6:=Aside0.mk hr0_0
 have A7:=Aside0.mk hc0_0
 clear hr0_0 hc0_0
 have A8:=Aside0.mk hr0_1
 have A9:=Aside0.mk hc0_1
 clear hr0_1 hc0_1
 have B4:=Aside0.mk hr0_2
 have B5:=Aside0.mk hc0_2
 clear hr0_2 hc0_2
 have B0:=Aside0.mk hr1_0
 have B1:=Aside0.mk hc1_0
 clear hr1_0 hc1_0
 have B2:=Aside0.mk hr1_1
 have B3:=Aside0.mk hc1_1
 clear hr1_1 hc1_1
 have B6:=Aside0.mk hr1_2
 have B7:=Aside0.mk hc1_2
 clear hr1_2 hc1_2
 have HB:=Aside0.mk (Below.refl w.heap.size w)
 have H:((laws_eqSorts.f k l0_0 l0_1 l1_0 l1_1).bind fun t430=>(if t430=true then ((laws_eqOpS.f k l0_2 l1_2).bind fun t431=>(if t431=true then (some true) else (some false))) else (some false)))=some r:=h
 clear h
 replace H:=Option.bind_eq_some_iff.mp H
 obtain ⟨t430,A30,H⟩:=H
 replace H:(if t430=true then ((laws_eqOpS.f k l0_2 l1_2).bind fun t431=>(if t431=true then (some true) else (some false))) else (some false))=some r:=H
 have A3:=Aside0.mk A30
 clear A30
 by_cases c4:t430=true
 ·subst c4
  rw [if_pos rfl] at H
  replace H:=Option.bind_eq_some_iff.mp H
  obtain ⟨t431,A50,H⟩:=H
  replace H:(if t431=true then (some true) else (some false))=some r:=H
  have A5:=Aside0.mk A50
  clear A50
  by_cases c6:t431=true
  ·subst c6
   rw [if_pos rfl] at H
   obtain rfl:=Option.some.inj H
   go_enter Try.func12,Try.ntmps12
   go_wp2_with (first | (refine bx 2 rfl #[.slice A0_0 l0_0.length c0_0,.slice A0_1 l0_1.length c0_1,.slice A0_2 l0_2.length c0_2] 36 ?_;intro B8 hg w7 hbox hb;have A0:=Aside0.mk (hbox);have B9:=hZ HB hg;have C0:=hZ HB hg;replace HB:=hS HB hb;clear hb hbox hg) | (refine bx 3 rfl #[.slice A1_0 l1_0.length c1_0,.slice A1_1 l1_1.length c1_1,.slice A1_2 l1_2.length c1_2] 36 ?_;intro C1 hg w8 hbox hb;have A1:=Aside0.mk (hbox);have C2:=hZ HB hg;have C3:=hZ HB hg;replace HB:=hS HB hb;have A2:=nL A0 hg;have A4:=nG A0 hg;replace A0:=bB A0 hb;clear hb hbox hg;have I8:=A2.out;have I9:=A4.out;obtain ⟨C4,C5,C6,C7,C8,C9⟩:=cf3 A0;obtain ⟨D0,D1,D2,D3,D4,D5⟩:=cf3 A1) | (refine goK 33 (some 9) rfl Try.func33 #[.agg #[.slice A0_0 l0_0.length c0_0,.slice A0_1 l0_1.length c0_1],.agg #[.slice A1_0 l1_0.length c1_0,.slice A1_1 l1_1.length c1_1]] ?_;(with_reducible refine (laws_eqSorts.calls k _ _ l0_0 _ _ l0_1 _ _ l1_0 _ _ l1_1 true _ ?side1 ?side2 ?side3 ?side4 ?side5 ?side6 ?side7 ?side8 A3.out).mono ?_);(case side1=>exact cB A6 HB);(case side2=>exact A7.out);(case side3=>exact cB A8 HB);(case side4=>exact A9.out);(case side5=>exact cB B0 HB);(case side6=>exact B1.out);(case side7=>exact cB B2 HB);(case side8=>exact B3.out);rintro e w12 ⟨rfl,hb⟩;refine ⟨_,rfl,?_⟩;replace A0:=bB A0 hb;replace A1:=bB A1 hb;replace HB:=hS HB hb;(try clear hb);(try clear hb2);(try clear hk);(try clear hi);obtain ⟨D6,D7,D8,D9,E0,E1⟩:=cf3 A0;obtain ⟨E2,E3,E4,E5,E6,E7⟩:=cf3 A1) | (refine goK 34 (some 15) rfl Try.func34 #[.slice A0_2 l0_2.length c0_2,.slice A1_2 l1_2.length c1_2] ?_;(with_reducible refine (laws_eqOpS.calls k _ _ l0_2 _ _ l1_2 true _ ?side1 ?side2 ?side3 ?side4 A5.out).mono ?_);(case side1=>exact cB B4 HB);(case side2=>exact B5.out);(case side3=>exact cB B6 HB);(case side4=>exact B7.out);rintro e w15 ⟨rfl,hb⟩;refine ⟨_,rfl,?_⟩;replace A0:=bB A0 hb;replace A1:=bB A1 hb;replace HB:=hS HB hb;(try clear hb);(try clear hb2);(try clear hk);(try clear hi)))
   go_ret
   exact ⟨laws_eqSignature.a0,hV HB⟩
  ·replace c6:=Bool.eq_false_iff.mpr c6
   subst c6
   rw [if_neg (show ¬ (false=true) by decide)] at H
   obtain rfl:=Option.some.inj H
   go_enter Try.func12,Try.ntmps12
   go_wp2_with (first | (refine bx 2 rfl #[.slice A0_0 l0_0.length c0_0,.slice A0_1 l0_1.length c0_1,.slice A0_2 l0_2.length c0_2] 36 ?_;intro B8 hg w16 hbox hb;have A0:=Aside0.mk (hbox);have B9:=hZ HB hg;have C0:=hZ HB hg;replace HB:=hS HB hb;clear hb hbox hg) | (refine bx 3 rfl #[.slice A1_0 l1_0.length c1_0,.slice A1_1 l1_1.length c1_1,.slice A1_2 l1_2.length c1_2] 36 ?_;intro C1 hg w17 hbox hb;have A1:=Aside0.mk (hbox);have C2:=hZ HB hg;have C3:=hZ HB hg;replace HB:=hS HB hb;have A2:=nL A0 hg;have A4:=nG A0 hg;replace A0:=bB A0 hb;clear hb hbox hg;have I4:=A2.out;have I5:=A4.out;obtain ⟨E8,E9,F0,F1,F2,F3⟩:=cf3 A0;obtain ⟨F4,F5,F6,F7,F8,F9⟩:=cf3 A1) | (refine goK 33 (some 9) rfl Try.func33 #[.agg #[.slice A0_0 l0_0.length c0_0,.slice A0_1 l0_1.length c0_1],.agg #[.slice A1_0 l1_0.length c1_0,.slice A1_1 l1_1.length c1_1]] ?_;(with_reducible refine (laws_eqSorts.calls k _ _ l0_0 _ _ l0_1 _ _ l1_0 _ _ l1_1 true _ ?side1 ?side2 ?side3 ?side4 ?side5 ?side6 ?side7 ?side8 A3.out).mono ?_);(case side1=>exact cB A6 HB);(case side2=>exact A7.out);(case side3=>exact cB A8 HB);(case side4=>exact A9.out);(case side5=>exact cB B0 HB);(case side6=>exact B1.out);(case side7=>exact cB B2 HB);(case side8=>exact B3.out);rintro e w21 ⟨rfl,hb⟩;refine ⟨_,rfl,?_⟩;replace A0:=bB A0 hb;replace A1:=bB A1 hb;replace HB:=hS HB hb;(try clear hb);(try clear hb2);(try clear hk);(try clear hi);obtain ⟨G0,G1,G2,G3,G4,G5⟩:=cf3 A0;obtain ⟨G6,G7,G8,G9,H0,H1⟩:=cf3 A1) | (refine goK 34 (some 15) rfl Try.func34 #[.slice A0_2 l0_2.length c0_2,.slice A1_2 l1_2.length c1_2] ?_;(with_reducible refine (laws_eqOpS.calls k _ _ l0_2 _ _ l1_2 false _ ?side1 ?side2 ?side3 ?side4 A5.out).mono ?_);(case side1=>exact cB B4 HB);(case side2=>exact B5.out);(case side3=>exact cB B6 HB);(case side4=>exact B7.out);rintro e w24 ⟨rfl,hb⟩;refine ⟨_,rfl,?_⟩;replace A0:=bB A0 hb;replace A1:=bB A1 hb;replace HB:=hS HB hb;(try clear hb);(try clear hb2);(try clear hk);(try clear hi)))
   go_ret
   exact ⟨laws_eqSignature.a0,hV HB⟩
 ·replace c4:=Bool.eq_false_iff.mpr c4
  subst c4
  rw [if_neg (show ¬ (false=true) by decide)] at H
  obtain rfl:=Option.some.inj H
  go_enter Try.func12,Try.ntmps12
  go_wp2_with (first | (refine bx 2 rfl #[.slice A0_0 l0_0.length c0_0,.slice A0_1 l0_1.length c0_1,.slice A0_2 l0_2.length c0_2] 36 ?_;intro B8 hg w25 hbox hb;have A0:=Aside0.mk (hbox);have B9:=hZ HB hg;have C0:=hZ HB hg;replace HB:=hS HB hb;clear hb hbox hg) | (refine bx 3 rfl #[.slice A1_0 l1_0.length c1_0,.slice A1_1 l1_1.length c1_1,.slice A1_2 l1_2.length c1_2] 36 ?_;intro C1 hg w26 hbox hb;have A1:=Aside0.mk (hbox);have C2:=hZ HB hg;have C3:=hZ HB hg;replace HB:=hS HB hb;have A2:=nL A0 hg;have A4:=nG A0 hg;replace A0:=bB A0 hb;clear hb hbox hg;have I6:=A2.out;have I7:=A4.out;obtain ⟨H2,H3,H4,H5,H6,H7⟩:=cf3 A0;obtain ⟨H8,H9,I0,I1,I2,I3⟩:=cf3 A1) | (refine goK 33 (some 9) rfl Try.func33 #[.agg #[.slice A0_0 l0_0.length c0_0,.slice A0_1 l0_1.length c0_1],.agg #[.slice A1_0 l1_0.length c1_0,.slice A1_1 l1_1.length c1_1]] ?_;(with_reducible refine (laws_eqSorts.calls k _ _ l0_0 _ _ l0_1 _ _ l1_0 _ _ l1_1 false _ ?side1 ?side2 ?side3 ?side4 ?side5 ?side6 ?side7 ?side8 A3.out).mono ?_);(case side1=>exact cB A6 HB);(case side2=>exact A7.out);(case side3=>exact cB A8 HB);(case side4=>exact A9.out);(case side5=>exact cB B0 HB);(case side6=>exact B1.out);(case side7=>exact cB B2 HB);(case side8=>exact B3.out);rintro e w30 ⟨rfl,hb⟩;refine ⟨_,rfl,?_⟩;replace A0:=bB A0 hb;replace A1:=bB A1 hb;replace HB:=hS HB hb;(try clear hb);(try clear hb2);(try clear hk);(try clear hi)))
  go_ret
  exact ⟨laws_eqSignature.a0,hV HB⟩

/-! ### laws_FnExactIsSignature: function 3 -/
theorem laws_FnExactIsSignature.a0 {P_:Prop} (h_:P_:=by (try simp only [List.map_toArray,List.map_cons,List.map_nil]);first | done | rfl | (simp only [List.length_drop,List.length_take];rfl)):P_:=h_
theorem laws_FnExactIsSignature.a1 {P_:Prop} (h_:P_:=by first | rfl | (simp [errW_none,errW_some] <;> rfl) | (simp [*,errW_none,errW_some] <;> rfl)):P_:=h_
theorem laws_FnExactIsSignature.a2 {P_:Prop} (h_:P_:=by rintro w' ⟨s0,s1,s2,s3,s4,s5⟩;go_simp;with_reducible rfl):P_:=h_
def laws_FnExactIsSignature.f (k:Nat) (l0_0:List ByteArray) (l0_1:List (S107)) (l0_2:List (S86)):Option (Bool):=(laws_szSignature.f k l0_0 l0_1 l0_2 1048576).bind fun t433=>(if t433 < 0 then (some true) else ((laws_toSignature.f k l0_0 l0_1 l0_2).bind fun bt434=>((spec_IsSignature.f k bt434.1 bt434.2.1 bt434.2.2).bind fun t443=>((laws_toSignature.f k l0_0 l0_1 l0_2).bind fun bt444=>((impl_IsSignature.f k bt444.1 bt444.2.1 bt444.2.2).bind fun t454=>(if (t454 != t443)=true then (some false) else ((laws_toSignature.f k l0_0 l0_1 l0_2).bind fun bt455=>((laws_eqSignature.f k bt444.1 bt444.2.1 bt444.2.2 bt455.1 bt455.2.1 bt455.2.2).bind fun t464=>(if t464=true then (some true) else (some false))))))))))
set_option maxHeartbeats 8000000 in
set_option maxRecDepth 100000 in
theorem laws_FnExactIsSignature.calls (k:Nat) (A0_0:Option Addr) (c0_0:Nat) (l0_0:List ByteArray) (A0_1:Option Addr) (c0_1:Nat) (l0_1:List (S107)) (A0_2:Option Addr) (c0_2:Nat) (l0_2:List (S86)) (r:Bool) (w:World) (hr0_0:Kd.C Kd.string w A0_0 l0_0.length l0_0) (hc0_0:l0_0.length≤c0_0) (hr0_1:Kd.C k107 w A0_1 l0_1.length l0_1) (hc0_1:l0_1.length≤c0_1) (hr0_2:Kd.C k86 w A0_2 l0_2.length l0_2) (hc0_2:l0_2.length≤c0_2) (h:laws_FnExactIsSignature.f k l0_0 l0_1 l0_2=some r) :
  Calls Try.prog 3 #[.agg #[.slice A0_0 l0_0.length c0_0,.slice A0_1 l0_1.length c0_1,.slice A0_2 l0_2.length c0_2]] w fun e w'=>e=.returned (.bool r)∧Below w.heap.size w w':=by
 have hu28:=Try.underlying28
 have hu36:=Try.underlying36
 have B2:=Aside0.mk hr0_0
 have B3:=Aside0.mk hc0_0
 clear hr0_0 hc0_0
 have B4:=Aside0.mk hr0_1
 have B5:=Aside0.mk hc0_1
 clear hr0_1 hc0_1
 have B6:=Aside0.mk hr0_2
 have B7:=Aside0.mk hc0_2
 clear hr0_2 hc0_2
 have HB:=Aside0.mk (Below.refl w.heap.size w)
 have H:((laws_szSignature.f k l0_0 l0_1 l0_2 1048576).bind fun t433=>(if t433 < 0 then (some true) else ((laws_toSignature.f k l0_0 l0_1 l0_2).bind fun bt434=>((spec_IsSignature.f k bt434.1 bt434.2.1 bt434.2.2).bind fun t443=>((laws_toSignature.f k l0_0 l0_1 l0_2).bind fun bt444=>((impl_IsSignature.f k bt444.1 bt444.2.1 bt444.2.2).bind fun t454=>(if (t454 != t443)=true then (some false) else ((laws_toSignature.f k l0_0 l0_1 l0_2).bind fun bt455=>((laws_eqSignature.f k bt444.1 bt444.2.1 bt444.2.2 bt455.1 bt455.2.1 bt455.2.2).bind fun t464=>(if t464=true then (some true) else (some false)))))))))))=some r:=h
 clear h
 replace H:=Option.bind_eq_some_iff.mp H
 obtain ⟨t433,A20,H⟩:=H
 replace H:(if t433 < 0 then (some true) else ((laws_toSignature.f k l0_0 l0_1 l0_2).bind fun bt434=>((spec_IsSignature.f k bt434.1 bt434.2.1 bt434.2.2).bind fun t443=>((laws_toSignature.f k l0_0 l0_1 l0_2).bind fun bt444=>((impl_IsSignature.f k bt444.1 bt444.2.1 bt444.2.2).bind fun t454=>(if (t454 != t443)=true then (some false) else ((laws_toSignature.f k l0_0 l0_1 l0_2).bind fun bt455=>((laws_eqSignature.f k bt444.1 bt444.2.1 bt444.2.2 bt455.1 bt455.2.1 bt455.2.2).bind fun t464=>(if t464=true then (some true) else (some false))))))))))=some r:=H
 have A2:=Aside0.mk A20
 clear A20
 by_cases c3:t433 < 0
 ·rw [if_pos c3] at H
  have G8:=decide_eq_true c3
  clear c3
  obtain rfl:=Option.some.inj H
  go_enter Try.func3,Try.ntmps3
  go_wp2_with (first | (refine bx 1 rfl #[.slice A0_0 l0_0.length c0_0,.slice A0_1 l0_1.length c0_1,.slice A0_2 l0_2.length c0_2] 28 ?_;intro C3 hg w4 hbox hb;have A0:=Aside0.mk (hbox);have D1:=hZ HB hg;have D2:=hZ HB hg;replace HB:=hS HB hb;clear hb hbox hg;obtain ⟨P3,P4,P5,P6,P7,P8⟩:=cf3 A0) | (refine goK 8 (some 9) rfl Try.func8 #[.agg #[.slice A0_0 l0_0.length c0_0,.slice A0_1 l0_1.length c0_1,.slice A0_2 l0_2.length c0_2],.int .i64 1048576] ?_;(with_reducible refine (laws_szSignature.calls k _ _ l0_0 _ _ l0_1 _ _ l0_2 1048576 t433 _ ?side1 ?side2 ?side3 ?side4 ?side5 ?side6 A2.out).mono ?_);(case side1=>exact cB B2 HB);(case side2=>exact B3.out);(case side3=>exact cB B4 HB);(case side4=>exact B5.out);(case side5=>exact cB B6 HB);(case side6=>exact B7.out);rintro e w6 ⟨rfl,hb⟩;refine ⟨_,rfl,?_⟩;replace A0:=bB A0 hb;replace HB:=hS HB hb;(try clear hb);(try clear hb2);(try clear hk);(try clear hi)))
  go_ret
  exact ⟨laws_FnExactIsSignature.a1,hV HB⟩
 ·rw [if_neg c3] at H
  have G8:=decide_eq_false c3
  clear c3
  replace H:=Option.bind_eq_some_iff.mp H
  obtain ⟨⟨t434,t437,t440⟩,A70,H⟩:=H
  replace H:((spec_IsSignature.f k t434 t437 t440).bind fun t443=>((laws_toSignature.f k l0_0 l0_1 l0_2).bind fun bt444=>((impl_IsSignature.f k bt444.1 bt444.2.1 bt444.2.2).bind fun t454=>(if (t454 != t443)=true then (some false) else ((laws_toSignature.f k l0_0 l0_1 l0_2).bind fun bt455=>((laws_eqSignature.f k bt444.1 bt444.2.1 bt444.2.2 bt455.1 bt455.2.1 bt455.2.2).bind fun t464=>(if t464=true then (some true) else (some false))))))))=some r:=H
  have A7:=Aside0.mk A70
  clear A70
  replace H:=Option.bind_eq_some_iff.mp H
  obtain ⟨t443,A80,H⟩:=H
  replace H:((laws_toSignature.f k l0_0 l0_1 l0_2).bind fun bt444=>((impl_IsSignature.f k bt444.1 bt444.2.1 bt444.2.2).bind fun t454=>(if (t454 != t443)=true then (some false) else ((laws_toSignature.f k l0_0 l0_1 l0_2).bind fun bt455=>((laws_eqSignature.f k bt444.1 bt444.2.1 bt444.2.2 bt455.1 bt455.2.1 bt455.2.2).bind fun t464=>(if t464=true then (some true) else (some false)))))))=some r:=H
  have A8:=Aside0.mk A80
  clear A80
  replace H:=Option.bind_eq_some_iff.mp H
  obtain ⟨⟨t444,t447,t450⟩,A90,H⟩:=H
  replace H:((impl_IsSignature.f k t444 t447 t450).bind fun t454=>(if (t454 != t443)=true then (some false) else ((laws_toSignature.f k l0_0 l0_1 l0_2).bind fun bt455=>((laws_eqSignature.f k t444 t447 t450 bt455.1 bt455.2.1 bt455.2.2).bind fun t464=>(if t464=true then (some true) else (some false))))))=some r:=H
  have A9:=Aside0.mk A90
  clear A90
  replace H:=Option.bind_eq_some_iff.mp H
  obtain ⟨t454,A100,H⟩:=H
  replace H:(if (t454 != t443)=true then (some false) else ((laws_toSignature.f k l0_0 l0_1 l0_2).bind fun bt455=>((laws_eqSignature.f k t444 t447 t450 bt455.1 bt455.2.1 bt455.2.2).bind fun t464=>(if t464=true then (some true) else (some false)))))=some r:=H
  have A10:=Aside0.mk A100
  clear A100
  by_cases c11:(t454 != t443)=true
  ·rw [if_pos c11] at H
   have G5:(t454 != t443)=true:=c11
   (try (have G6:decide (t454=t443)=false:=by simpa using c11))
   (try (have G7:(t454 == t443)=false:=by simpa using c11))
   (try (have P9 : ¬ (t454=t443):=by simpa using c11))
   clear c11
   obtain rfl:=Option.some.inj H
   go_enter Try.func3,Try.ntmps3
   go_wp2_with (first | (refine bx 1 rfl #[.slice A0_0 l0_0.length c0_0,.slice A0_1 l0_1.length c0_1,.slice A0_2 l0_2.length c0_2] 28 ?_;intro C3 hg w12 hbox hb;have A0:=Aside0.mk (hbox);have D1:=hZ HB hg;have D2:=hZ HB hg;replace HB:=hS HB hb;clear hb hbox hg;obtain ⟨I1,I2,I3,I4,I5,I6⟩:=cf3 A0) | (refine goK 8 (some 9) rfl Try.func8 #[.agg #[.slice A0_0 l0_0.length c0_0,.slice A0_1 l0_1.length c0_1,.slice A0_2 l0_2.length c0_2],.int .i64 1048576] ?_;(with_reducible refine (laws_szSignature.calls k _ _ l0_0 _ _ l0_1 _ _ l0_2 1048576 t433 _ ?side1 ?side2 ?side3 ?side4 ?side5 ?side6 A2.out).mono ?_);(case side1=>exact cB B2 HB);(case side2=>exact B3.out);(case side3=>exact cB B4 HB);(case side4=>exact B5.out);(case side5=>exact cB B6 HB);(case side6=>exact B7.out);rintro e w14 ⟨rfl,hb⟩;refine ⟨_,rfl,?_⟩;replace A0:=bB A0 hb;replace HB:=hS HB hb;(try clear hb);(try clear hb2);(try clear hk);(try clear hi);obtain ⟨I7,I8,I9,J0,J1,J2⟩:=cf3 A0) | (refine goK 10 (some 13) rfl Try.func10 #[.agg #[.slice A0_0 l0_0.length c0_0,.slice A0_1 l0_1.length c0_1,.slice A0_2 l0_2.length c0_2]] ?_;(with_reducible refine (laws_toSignature.calls k _ _ l0_0 _ _ l0_1 _ _ l0_2 t434 t437 t440 _ ?side1 ?side2 ?side3 ?side4 ?side5 ?side6 A7.out).mono ?_);(case side1=>exact cB B2 HB);(case side2=>exact B3.out);(case side3=>exact cB B4 HB);(case side4=>exact B5.out);(case side5=>exact cB B6 HB);(case side6=>exact B7.out);rintro e w16 ⟨v435,v438,v441,rfl,ho0,ho1,ho2,hb⟩;refine ⟨_,rfl,?_⟩;have A3:=rL ho0 HB;have A4:=rL ho1 HB;have A5:=rL ho2 HB;replace A0:=bB A0 hb;replace HB:=hS HB hb;(try clear hb);(try clear hb2);(try clear hk);(try clear hi);(try clear ho0);(try clear ho1);(try clear ho2);obtain ⟨E4,E5,eo17⟩:=Kd.R_slice A3.out;subst eo17;obtain ⟨E6,E7,eo18⟩:=Kd.R_slice A4.out;subst eo18;obtain ⟨E8,E9,eo19⟩:=Kd.R_slice A5.out;subst eo19) | (refine goK 9 (some 14) rfl Try.func9 #[.agg #[.slice E4 t434.length E5,.slice E6 t437.length E7,.slice E8 t440.length E9]] ?_;(with_reducible refine (spec_IsSignature.calls k _ _ t434 _ _ t437 _ _ t440 t443 _ ?side1 ?side2 ?side3 ?side4 ?side5 ?side6 A8.out).mono ?_);(case side1=>repeat (first | exact (Kd.R_reads' A3.out).2.2 | (with_reducible refine Kd.C_alloc ?_ _) | (with_reducible refine Kd.C_drewN ?_ _) | (with_reducible refine Kd.C_drew ?_)));(case side2=>exact (Kd.R_reads' A3.out).2.1);(case side3=>repeat (first | exact (Kd.R_reads' A4.out).2.2 | (with_reducible refine Kd.C_alloc ?_ _) | (with_reducible refine Kd.C_drewN ?_ _) | (with_reducible refine Kd.C_drew ?_)));(case side4=>exact (Kd.R_reads' A4.out).2.1);(case side5=>repeat (first | exact (Kd.R_reads' A5.out).2.2 | (with_reducible refine Kd.C_alloc ?_ _) | (with_reducible refine Kd.C_drewN ?_ _) | (with_reducible refine Kd.C_drew ?_)));(case side6=>exact (Kd.R_reads' A5.out).2.1);rintro e w20 ⟨rfl,hb⟩;refine ⟨_,rfl,?_⟩;replace A3:=rB A3 hb;replace A4:=rB A4 hb;replace A5:=rB A5 hb;replace A0:=bB A0 hb;replace HB:=hS HB hb;(try clear hb);(try clear hb2);(try clear hk);(try clear hi);obtain ⟨J3,J4,J5,J6,J7,J8⟩:=cf3 A0) | (refine goK 10 (some 16) rfl Try.func10 #[.agg #[.slice A0_0 l0_0.length c0_0,.slice A0_1 l0_1.length c0_1,.slice A0_2 l0_2.length c0_2]] ?_;(with_reducible refine (laws_toSignature.calls k _ _ l0_0 _ _ l0_1 _ _ l0_2 t444 t447 t450 _ ?side1 ?side2 ?side3 ?side4 ?side5 ?side6 A9.out).mono ?_);(case side1=>exact cB B2 HB);(case side2=>exact B3.out);(case side3=>exact cB B4 HB);(case side4=>exact B5.out);(case side5=>exact cB B6 HB);(case side6=>exact B7.out);rintro e w22 ⟨v445,v448,v451,rfl,ho0,ho1,ho2,hb⟩;refine ⟨_,rfl,?_⟩;have A6:=rL (rN ho0 A3) HB;replace A3:=rE A3 ho0 hb;have B0:=rL (rN ho1 A4) HB;replace A4:=rE A4 ho1 hb;have B1:=rL (rN ho2 A5) HB;replace A5:=rE A5 ho2 hb;replace A0:=bB A0 hb;replace HB:=hS HB hb;(try clear hb);(try clear hb2);(try clear hk);(try clear hi);(try clear ho0);(try clear ho1);(try clear ho2)) | (refine bx 5 rfl #[.slice none 0 0,.slice none 0 0,.slice none 0 0] 36 ?_;intro C4 hg w23 hbox hb;replace A3:=rB A3 hb;replace A4:=rB A4 hb;replace A5:=rB A5 hb;replace A6:=rB A6 hb;replace B0:=rB B0 hb;replace B1:=rB B1 hb;have A1:=Aside0.mk (hbox);have E2:=hZ HB hg;have E3:=hZ HB hg;replace HB:=hS HB hb;have C1:=nL A0 hg;have C2:=nG A0 hg;replace A0:=bB A0 hb;clear hb hbox hg;obtain ⟨F0,D9,eo24⟩:=Kd.R_slice A6.out;subst eo24;have Q0:=C2.out;have Q1:=C1.out;obtain ⟨J9,K0,K1,K2,K3,K4⟩:=cf3 A1;obtain ⟨F1,E0,eo27⟩:=Kd.R_slice B0.out;subst eo27;obtain ⟨F2,E1,eo28⟩:=Kd.R_slice B1.out;subst eo28) | (refine goK 11 (some 18) rfl Try.func11 #[.agg #[.slice F0 t444.length D9,.slice F1 t447.length E0,.slice F2 t450.length E1]] ?_;(with_reducible refine (impl_IsSignature.calls k _ _ t444 _ _ t447 _ _ t450 t454 _ ?side1 ?side2 ?side3 ?side4 ?side5 ?side6 A10.out).mono ?_);(case side1=>refine (Kd.R_reads' (e:=9) (base:=w.heap.size) (ok:=fun k_=>(True∧some k_≠(.slice E4 t434.length E5:Value).ownBlock)) (n:=t444.length) (c:=D9) ?_).2.2;exact (rT A6 A1 (fun _ h_=>h_.1)));(case side2=>exact (Kd.R_reads' A6.out).2.1);(case side3=>refine (Kd.R_reads' (e:=89) (base:=w.heap.size) (ok:=fun k_=>(True∧some k_≠(.slice E6 t437.length E7:Value).ownBlock)) (n:=t447.length) (c:=E0) ?_).2.2;exact (rT B0 A1 (fun _ h_=>h_.1)));(case side4=>exact (Kd.R_reads' B0.out).2.1);(case side5=>refine (Kd.R_reads' (e:=50) (base:=w.heap.size) (ok:=fun k_=>(True∧some k_≠(.slice E8 t440.length E9:Value).ownBlock)) (n:=t450.length) (c:=E1) ?_).2.2;exact (rT B1 A1 (fun _ h_=>h_.1)));(case side6=>exact (Kd.R_reads' B1.out).2.1);rintro e w29 ⟨rfl,hb⟩;refine ⟨_,rfl,?_⟩;replace A3:=rF A3 A1 hb;replace A4:=rF A4 A1 hb;replace A5:=rF A5 A1 hb;replace A6:=rF A6 A1 hb;replace B0:=rF B0 A1 hb;replace B1:=rF B1 A1 hb;replace A0:=bB A0 hb;replace A1:=bP (o:=.cells #[.slice F0 t444.length D9,.slice F1 t447.length E0,.slice F2 t450.length E1] 36 (0,0)) A1 hb;replace HB:=hS HB hb;(try clear hb);(try clear hb2);(try clear hk);(try clear hi)))
   go_ret
   exact ⟨laws_FnExactIsSignature.a1,hV HB⟩
  ·rw [if_neg c11] at H
   have G5:(t454 != t443)=false:=by simpa using c11
   (try (have G6:decide (t454=t443)=true:=by simpa using c11))
   (try (have G7:(t454 == t443)=true:=by simpa using c11))
   clear c11
   replace H:=Option.bind_eq_some_iff.mp H
   obtain ⟨⟨t455,t458,t461⟩,A300,H⟩:=H
   replace H:((laws_eqSignature.f k t444 t447 t450 t455 t458 t461).bind fun t464=>(if t464=true then (some true) else (some false)))=some r:=H
   have A30:=Aside0.mk A300
   clear A300
   replace H:=Option.bind_eq_some_iff.mp H
   obtain ⟨t464,A310,H⟩:=H
   replace H:(if t464=true then (some true) else (some false))=some r:=H
   have A31:=Aside0.mk A310
   clear A310
   by_cases c32:t464=true
   ·subst c32
    rw [if_pos rfl] at H
    obtain rfl:=Option.some.inj H
    go_enter Try.func3,Try.ntmps3
    try go_wp2_with (first | (refine bx 1 rfl #[.slice A0_0 l0_0.length c0_0,.slice A0_1 l0_1.length c0_1,.slice A0_2 l0_2.length c0_2] 28 ?_;intro C3 hg w33 hbox hb;have A0:=Aside0.mk (hbox);have D1:=hZ HB hg;have D2:=hZ HB hg;replace HB:=hS HB hb;clear hb hbox hg;obtain ⟨K5,K6,K7,K8,K9,L0⟩:=cf3 A0) | (refine goK 8 (some 9) rfl Try.func8 #[.agg #[.slice A0_0 l0_0.length c0_0,.slice A0_1 l0_1.length c0_1,.slice A0_2 l0_2.length c0_2],.int .i64 1048576] ?_;(with_reducible refine (laws_szSignature.calls k _ _ l0_0 _ _ l0_1 _ _ l0_2 1048576 t433 _ ?side1 ?side2 ?side3 ?side4 ?side5 ?side6 A2.out).mono ?_);(case side1=>exact cB B2 HB);(case side2=>exact B3.out);(case side3=>exact cB B4 HB);(case side4=>exact B5.out);(case side5=>exact cB B6 HB);(case side6=>exact B7.out);rintro e w35 ⟨rfl,hb⟩;refine ⟨_,rfl,?_⟩;replace A0:=bB A0 hb;replace HB:=hS HB hb;(try clear hb);(try clear hb2);(try clear hk);(try clear hi);obtain ⟨L1,L2,L3,L4,L5,L6⟩:=cf3 A0) | (refine goK 10 (some 13) rfl Try.func10 #[.agg #[.slice A0_0 l0_0.length c0_0,.slice A0_1 l0_1.length c0_1,.slice A0_2 l0_2.length c0_2]] ?_;(with_reducible refine (laws_toSignature.calls k _ _ l0_0 _ _ l0_1 _ _ l0_2 t434 t437 t440 _ ?side1 ?side2 ?side3 ?side4 ?side5 ?side6 A7.out).mono ?_);(case side1=>exact cB B2 HB);(case side2=>exact B3.out);(case side3=>exact cB B4 HB);(case side4=>exact B5.out);(case side5=>exact cB B6 HB);(case side6=>exact B7.out);rintro e w37 ⟨v435,v438,v441,rfl,ho0,ho1,ho2,hb⟩;refine ⟨_,rfl,?_⟩;have A3:=rL ho0 HB;have A4:=rL ho1 HB;have A5:=rL ho2 HB;replace A0:=bB A0 hb;replace HB:=hS HB hb;(try clear hb);(try clear hb2);(try clear hk);(try clear hi);(try clear ho0);(try clear ho1);(try clear ho2);obtain ⟨F3,F4,eo38⟩:=Kd.R_slice A3.out;subst eo38;obtain ⟨F5,F6,eo39⟩:=Kd.R_slice A4.out;subst eo39;obtain ⟨F7,F8,eo40⟩:=Kd.R_slice A5.out;subst eo40) | (refine goK 9 (some 14) rfl Try.func9 #[.agg #[.slice F3 t434.length F4,.slice F5 t437.length F6,.slice F7 t440.length F8]] ?_;(with_reducible refine (spec_IsSignature.calls k _ _ t434 _ _ t437 _ _ t440 t443 _ ?side1 ?side2 ?side3 ?side4 ?side5 ?side6 A8.out).mono ?_);(case side1=>repeat (first | exact (Kd.R_reads' A3.out).2.2 | (with_reducible refine Kd.C_alloc ?_ _) | (with_reducible refine Kd.C_drewN ?_ _) | (with_reducible refine Kd.C_drew ?_)));(case side2=>exact (Kd.R_reads' A3.out).2.1);(case side3=>repeat (first | exact (Kd.R_reads' A4.out).2.2 | (with_reducible refine Kd.C_alloc ?_ _) | (with_reducible refine Kd.C_drewN ?_ _) | (with_reducible refine Kd.C_drew ?_)));(case side4=>exact (Kd.R_reads' A4.out).2.1);(case side5=>repeat (first | exact (Kd.R_reads' A5.out).2.2 | (with_reducible refine Kd.C_alloc ?_ _) | (with_reducible refine Kd.C_drewN ?_ _) | (with_reducible refine Kd.C_drew ?_)));(case side6=>exact (Kd.R_reads' A5.out).2.1);rintro e w41 ⟨rfl,hb⟩;refine ⟨_,rfl,?_⟩;replace A3:=rB A3 hb;replace A4:=rB A4 hb;replace A5:=rB A5 hb;replace A0:=bB A0 hb;replace HB:=hS HB hb;(try clear hb);(try clear hb2);(try clear hk);(try clear hi);obtain ⟨L7,L8,L9,M0,M1,M2⟩:=cf3 A0) | (refine goK 10 (some 16) rfl Try.func10 #[.agg #[.slice A0_0 l0_0.length c0_0,.slice A0_1 l0_1.length c0_1,.slice A0_2 l0_2.length c0_2]] ?_;(with_reducible refine (laws_toSignature.calls k _ _ l0_0 _ _ l0_1 _ _ l0_2 t444 t447 t450 _ ?side1 ?side2 ?side3 ?side4 ?side5 ?side6 A9.out).mono ?_);(case side1=>exact cB B2 HB);(case side2=>exact B3.out);(case side3=>exact cB B4 HB);(case side4=>exact B5.out);(case side5=>exact cB B6 HB);(case side6=>exact B7.out);rintro e w43 ⟨v445,v448,v451,rfl,ho0,ho1,ho2,hb⟩;refine ⟨_,rfl,?_⟩;have A6:=rL (rN ho0 A3) HB;replace A3:=rE A3 ho0 hb;have B0:=rL (rN ho1 A4) HB;replace A4:=rE A4 ho1 hb;have B1:=rL (rN ho2 A5) HB;replace A5:=rE A5 ho2 hb;replace A0:=bB A0 hb;replace HB:=hS HB hb;(try clear hb);(try clear hb2);(try clear hk);(try clear hi);(try clear ho0);(try clear ho1);(try clear ho2)) | (refine bx 5 rfl #[.slice none 0 0,.slice none 0 0,.slice none 0 0] 36 ?_;intro C4 hg w44 hbox hb;replace A3:=rB A3 hb;replace A4:=rB A4 hb;replace A5:=rB A5 hb;replace A6:=rB A6 hb;replace B0:=rB B0 hb;replace B1:=rB B1 hb;have A1:=Aside0.mk (hbox);have E2:=hZ HB hg;have E3:=hZ HB hg;replace HB:=hS HB hb;have C1:=nL A0 hg;have C2:=nG A0 hg;replace A0:=bB A0 hb;clear hb hbox hg;obtain ⟨D3,C5,eo45⟩:=Kd.R_slice A6.out;subst eo45;have Q2:=C2.out;have Q3:=C1.out;obtain ⟨M3,M4,M5,M6,M7,M8⟩:=cf3 A1;obtain ⟨D4,C6,eo48⟩:=Kd.R_slice B0.out;subst eo48;obtain ⟨D5,C7,eo49⟩:=Kd.R_slice B1.out;subst eo49) | (refine goK 11 (some 18) rfl Try.func11 #[.agg #[.slice D3 t444.length C5,.slice D4 t447.length C6,.slice D5 t450.length C7]] ?_;(with_reducible refine (impl_IsSignature.calls k _ _ t444 _ _ t447 _ _ t450 t454 _ ?side1 ?side2 ?side3 ?side4 ?side5 ?side6 A10.out).mono ?_);(case side1=>refine (Kd.R_reads' (e:=9) (base:=w.heap.size) (ok:=fun k_=>(True∧some k_≠(.slice F3 t434.length F4:Value).ownBlock)) (n:=t444.length) (c:=C5) ?_).2.2;exact (rT A6 A1 (fun _ h_=>h_.1)));(case side2=>exact (Kd.R_reads' A6.out).2.1);(case side3=>refine (Kd.R_reads' (e:=89) (base:=w.heap.size) (ok:=fun k_=>(True∧some k_≠(.slice F5 t437.length F6:Value).ownBlock)) (n:=t447.length) (c:=C6) ?_).2.2;exact (rT B0 A1 (fun _ h_=>h_.1)));(case side4=>exact (Kd.R_reads' B0.out).2.1);(case side5=>refine (Kd.R_reads' (e:=50) (base:=w.heap.size) (ok:=fun k_=>(True∧some k_≠(.slice F7 t440.length F8:Value).ownBlock)) (n:=t450.length) (c:=C7) ?_).2.2;exact (rT B1 A1 (fun _ h_=>h_.1)));(case side6=>exact (Kd.R_reads' B1.out).2.1);rintro e w50 ⟨rfl,hb⟩;refine ⟨_,rfl,?_⟩;replace A3:=rF A3 A1 hb;replace A4:=rF A4 A1 hb;replace A5:=rF A5 A1 hb;replace A6:=rF A6 A1 hb;replace B0:=rF B0 A1 hb;replace B1:=rF B1 A1 hb;replace A0:=bB A0 hb;replace A1:=bP (o:=.cells #[.slice D3 t444.length C5,.slice D4 t447.length C6,.slice D5 t450.length C7] 36 (0,0)) A1 hb;replace HB:=hS HB hb;(try clear hb);(try clear hb2);(try clear hk);(try clear hi)))
    replace A3:=Aside0.mk (Kd.R_drew A3.out)
    replace A4:=Aside0.mk (Kd.R_drew A4.out)
    replace A5:=Aside0.mk (Kd.R_drew A5.out)
    replace A6:=Aside0.mk (Kd.R_drew A6.out)
    replace B0:=Aside0.mk (Kd.R_drew B0.out)
    replace B1:=Aside0.mk (Kd.R_drew B1.out)
    replace A0:=Aside0.mk (blk_drew A0.out)
    replace A1:=Aside0.mk (blk_drew A1.out)
    replace HB:=Aside0.mk (below_drew1 HB.out)
    refine start_ (n:=5) (S:=fun w'=>w'.cell? ⟨C4,0,none⟩=some (.slice D3 t444.length C5)∧w'.cell? ⟨C4,1,none⟩=some (.slice D4 t447.length C6)∧w'.cell? ⟨C4,2,none⟩=some (.slice D5 t450.length C7)∧w'.cell? ⟨C3,0,none⟩=some (.slice A0_0 l0_0.length c0_0)∧w'.cell? ⟨C3,1,none⟩=some (.slice A0_1 l0_1.length c0_1)∧w'.cell? ⟨C3,2,none⟩=some (.slice A0_2 l0_2.length c0_2)) (ds:=[]) #[false,false,false,false,false] (by kernel_rfl) rfl rfl ⟨cz0 A1,cz1 A1,cz2 A1,cz0 A0,cz1 A0,cz2 A0⟩ (fun hHeld=> ?_)
    generalize w50.drew=w51 at A3 A4 A5 A6 B0 B1 A0 A1 HB hHeld ⊢
    refine takeK 0 22 rfl rfl hHeld ?_ laws_FnExactIsSignature.a2
    refine takeK 1 23 rfl rfl hHeld ?_ laws_FnExactIsSignature.a2
    refine one_ (i:=2) (N:=some 24) #[true,true,true,false,false] rfl rfl (by kernel_rfl) (by decide) (fun K hK=> ?_)
    refine goes_ Try.func10 (by kernel_rfl) rfl #[.agg #[.slice A0_0 l0_0.length c0_0,.slice A0_1 l0_1.length c0_1,.slice A0_2 l0_2.length c0_2]] (by rfl) rfl rfl laws_FnExactIsSignature.a0 ?_
    with_reducible refine (laws_toSignature.calls k _ _ l0_0 _ _ l0_1 _ _ l0_2 t455 t458 t461 _ ?side1 ?side2 ?side3 ?side4 ?side5 ?side6 A30.out).mono ?_
    (case side1=>exact cB B2 HB)
    (case side2=>exact B3.out)
    (case side3=>exact cB B4 HB)
    (case side4=>exact B5.out)
    (case side5=>exact cB B6 HB)
    (case side6=>exact B7.out)
    rintro e w52 ⟨v456,v459,v462,rfl,ho0,ho1,ho2,hb⟩
    refine ⟨_,rfl,?_⟩
    have B8:=rL (rN (rN ho0 A3) A6) HB
    replace A3:=rE A3 ho0 hb
    replace A6:=rE A6 ho0 hb
    have B9:=rL (rN (rN ho1 A4) B0) HB
    replace A4:=rE A4 ho1 hb
    replace B0:=rE B0 ho1 hb
    have C0:=rL (rN (rN ho2 A5) B1) HB
    replace A5:=rE A5 ho2 hb
    replace B1:=rE B1 ho2 hb
    replace A0:=bB A0 hb
    replace A1:=bB A1 hb
    replace HB:=hS HB hb
    (try clear hb)
    (try clear hb2)
    (try clear hk)
    (try clear hi)
    (try clear ho0)
    (try clear ho1)
    (try clear ho2)
    obtain ⟨G9,H0,eo53⟩:=Kd.R_slice B8.out
    (first | subst eo53 | (injection eo53 with f1_ f2_ f3_;have f4_:=f1_.symm;have f5_:=f3_.symm;clear f1_ f2_ f3_;subst f4_;subst f5_))
    obtain ⟨H1,H2,eo54⟩:=Kd.R_slice B9.out
    (first | subst eo54 | (injection eo54 with f1_ f2_ f3_;have f4_:=f1_.symm;have f5_:=f3_.symm;clear f1_ f2_ f3_;subst f4_;subst f5_))
    obtain ⟨H3,H4,eo55⟩:=Kd.R_slice C0.out
    (first | subst eo55 | (injection eo55 with f1_ f2_ f3_;have f4_:=f1_.symm;have f5_:=f3_.symm;clear f1_ f2_ f3_;subst f4_;subst f5_))
    refine hK.out _ _ ⟨cz0 A1,cz1 A1,cz2 A1,cz0 A0,cz1 A0,cz2 A0⟩ (fun hHeld=> ?_)
    clear hK K
    refine norm_ (a':=?_) ?_ ?_
    rotate_left
    ·show Act.put _ (some 24) _=_
     simp only [Act.put,List.setIfInBounds_toArray,List.set_cons_zero,List.set_cons_succ,i64_w,i32_w]
     rfl
    refine one_ (i:=3) (N:=some 25) #[true,true,true,true,false] rfl rfl (by kernel_rfl) (by decide) (fun K hK=> ?_)
    refine goes_ Try.func12 (by kernel_rfl) rfl #[.agg #[.slice D3 t444.length C5,.slice D4 t447.length C6,.slice D5 t450.length C7],.agg #[.slice G9 t455.length H0,.slice H1 t458.length H2,.slice H3 t461.length H4]] (by rfl) rfl rfl laws_FnExactIsSignature.a0 ?_
    with_reducible refine (laws_eqSignature.calls k _ _ t444 _ _ t447 _ _ t450 _ _ t455 _ _ t458 _ _ t461 true _ ?side1 ?side2 ?side3 ?side4 ?side5 ?side6 ?side7 ?side8 ?side9 ?side10 ?side11 ?side12 A31.out).mono ?_
    (case side1=>repeat (first | exact (Kd.R_reads' A6.out).2.2 | (with_reducible refine Kd.C_alloc ?_ _) | (with_reducible refine Kd.C_drewN ?_ _) | (with_reducible refine Kd.C_drew ?_)))
    (case side2=>exact (Kd.R_reads' A6.out).2.1)
    (case side3=>repeat (first | exact (Kd.R_reads' B0.out).2.2 | (with_reducible refine Kd.C_alloc ?_ _) | (with_reducible refine Kd.C_drewN ?_ _) | (with_reducible refine Kd.C_drew ?_)))
    (case side4=>exact (Kd.R_reads' B0.out).2.1)
    (case side5=>repeat (first | exact (Kd.R_reads' B1.out).2.2 | (with_reducible refine Kd.C_alloc ?_ _) | (with_reducible refine Kd.C_drewN ?_ _) | (with_reducible refine Kd.C_drew ?_)))
    (case side6=>exact (Kd.R_reads' B1.out).2.1)
    (case side7=>repeat (first | exact (Kd.R_reads' B8.out).2.2 | (with_reducible refine Kd.C_alloc ?_ _) | (with_reducible refine Kd.C_drewN ?_ _) | (with_reducible refine Kd.C_drew ?_)))
    (case side8=>exact (Kd.R_reads' B8.out).2.1)
    (case side9=>repeat (first | exact (Kd.R_reads' B9.out).2.2 | (with_reducible refine Kd.C_alloc ?_ _) | (with_reducible refine Kd.C_drewN ?_ _) | (with_reducible refine Kd.C_drew ?_)))
    (case side10=>exact (Kd.R_reads' B9.out).2.1)
    (case side11=>repeat (first | exact (Kd.R_reads' C0.out).2.2 | (with_reducible refine Kd.C_alloc ?_ _) | (with_reducible refine Kd.C_drewN ?_ _) | (with_reducible refine Kd.C_drew ?_)))
    (case side12=>exact (Kd.R_reads' C0.out).2.1)
    rintro e w56 ⟨rfl,hb⟩
    refine ⟨_,rfl,?_⟩
    replace A3:=rB A3 hb
    replace A4:=rB A4 hb
    replace A5:=rB A5 hb
    replace A6:=rB A6 hb
    replace B0:=rB B0 hb
    replace B1:=rB B1 hb
    replace B8:=rB B8 hb
    replace B9:=rB B9 hb
    replace C0:=rB C0 hb
    replace A0:=bB A0 hb
    replace A1:=bB A1 hb
    replace HB:=hS HB hb
    (try clear hb)
    (try clear hb2)
    (try clear hk)
    (try clear hi)
    refine hK.out _ _ ⟨cz0 A1,cz1 A1,cz2 A1,cz0 A0,cz1 A0,cz2 A0⟩ (fun hHeld=> ?_)
    clear hK K
    refine norm_ (a':=?_) ?_ ?_
    rotate_left
    ·show Act.put _ (some 25) _=_
     simp only [Act.put,List.setIfInBounds_toArray,List.set_cons_zero,List.set_cons_succ,i64_w,i32_w]
     rfl
    refine pureK 4 26 rfl rfl ?_
    refine done_ (by kernel_rfl) ?_
    try go_wp2
    go_ret
    exact ⟨laws_FnExactIsSignature.a1,hV HB⟩
   ·replace c32:=Bool.eq_false_iff.mpr c32
    subst c32
    rw [if_neg (show ¬ (false=true) by decide)] at H
    obtain rfl:=Option.some.inj H
    go_enter Try.func3,Try.ntmps3
    try go_wp2_with (first | (refine bx 1 rfl #[.slice A0_0 l0_0.length c0_0,.slice A0_1 l0_1.length c0_1,.slice A0_2 l0_2.length c0_2] 28 ?_;intro C3 hg w57 hbox hb;have A0:=Aside0.mk (hbox);have D1:=hZ HB hg;have D2:=hZ HB hg;replace HB:=hS HB hb;clear hb hbox hg;obtain ⟨M9,N0,N1,N2,N3,N4⟩:=cf3 A0) | (refine goK 8 (some 9) rfl Try.func8 #[.agg #[.slice A0_0 l0_0.length c0_0,.slice A0_1 l0_1.length c0_1,.slice A0_2 l0_2.length c0_2],.int .i64 1048576] ?_;(with_reducible refine (laws_szSignature.calls k _ _ l0_0 _ _ l0_1 _ _ l0_2 1048576 t433 _ ?side1 ?side2 ?side3 ?side4 ?side5 ?side6 A2.out).mono ?_);(case side1=>exact cB B2 HB);(case side2=>exact B3.out);(case side3=>exact cB B4 HB);(case side4=>exact B5.out);(case side5=>exact cB B6 HB);(case side6=>exact B7.out);rintro e w59 ⟨rfl,hb⟩;refine ⟨_,rfl,?_⟩;replace A0:=bB A0 hb;replace HB:=hS HB hb;(try clear hb);(try clear hb2);(try clear hk);(try clear hi);obtain ⟨N5,N6,N7,N8,N9,O0⟩:=cf3 A0) | (refine goK 10 (some 13) rfl Try.func10 #[.agg #[.slice A0_0 l0_0.length c0_0,.slice A0_1 l0_1.length c0_1,.slice A0_2 l0_2.length c0_2]] ?_;(with_reducible refine (laws_toSignature.calls k _ _ l0_0 _ _ l0_1 _ _ l0_2 t434 t437 t440 _ ?side1 ?side2 ?side3 ?side4 ?side5 ?side6 A7.out).mono ?_);(case side1=>exact cB B2 HB);(case side2=>exact B3.out);(case side3=>exact cB B4 HB);(case side4=>exact B5.out);(case side5=>exact cB B6 HB);(case side6=>exact B7.out);rintro e w61 ⟨v435,v438,v441,rfl,ho0,ho1,ho2,hb⟩;refine ⟨_,rfl,?_⟩;have A3:=rL ho0 HB;have A4:=rL ho1 HB;have A5:=rL ho2 HB;replace A0:=bB A0 hb;replace HB:=hS HB hb;(try clear hb);(try clear hb2);(try clear hk);(try clear hi);(try clear ho0);(try clear ho1);(try clear ho2);obtain ⟨F9,G0,eo62⟩:=Kd.R_slice A3.out;subst eo62;obtain ⟨G1,G2,eo63⟩:=Kd.R_slice A4.out;subst eo63;obtain ⟨G3,G4,eo64⟩:=Kd.R_slice A5.out;subst eo64) | (refine goK 9 (some 14) rfl Try.func9 #[.agg #[.slice F9 t434.length G0,.slice G1 t437.length G2,.slice G3 t440.length G4]] ?_;(with_reducible refine (spec_IsSignature.calls k _ _ t434 _ _ t437 _ _ t440 t443 _ ?side1 ?side2 ?side3 ?side4 ?side5 ?side6 A8.out).mono ?_);(case side1=>repeat (first | exact (Kd.R_reads' A3.out).2.2 | (with_reducible refine Kd.C_alloc ?_ _) | (with_reducible refine Kd.C_drewN ?_ _) | (with_reducible refine Kd.C_drew ?_)));(case side2=>exact (Kd.R_reads' A3.out).2.1);(case side3=>repeat (first | exact (Kd.R_reads' A4.out).2.2 | (with_reducible refine Kd.C_alloc ?_ _) | (with_reducible refine Kd.C_drewN ?_ _) | (with_reducible refine Kd.C_drew ?_)));(case side4=>exact (Kd.R_reads' A4.out).2.1);(case side5=>repeat (first | exact (Kd.R_reads' A5.out).2.2 | (with_reducible refine Kd.C_alloc ?_ _) | (with_reducible refine Kd.C_drewN ?_ _) | (with_reducible refine Kd.C_drew ?_)));(case side6=>exact (Kd.R_reads' A5.out).2.1);rintro e w65 ⟨rfl,hb⟩;refine ⟨_,rfl,?_⟩;replace A3:=rB A3 hb;replace A4:=rB A4 hb;replace A5:=rB A5 hb;replace A0:=bB A0 hb;replace HB:=hS HB hb;(try clear hb);(try clear hb2);(try clear hk);(try clear hi);obtain ⟨O1,O2,O3,O4,O5,O6⟩:=cf3 A0) | (refine goK 10 (some 16) rfl Try.func10 #[.agg #[.slice A0_0 l0_0.length c0_0,.slice A0_1 l0_1.length c0_1,.slice A0_2 l0_2.length c0_2]] ?_;(with_reducible refine (laws_toSignature.calls k _ _ l0_0 _ _ l0_1 _ _ l0_2 t444 t447 t450 _ ?side1 ?side2 ?side3 ?side4 ?side5 ?side6 A9.out).mono ?_);(case side1=>exact cB B2 HB);(case side2=>exact B3.out);(case side3=>exact cB B4 HB);(case side4=>exact B5.out);(case side5=>exact cB B6 HB);(case side6=>exact B7.out);rintro e w67 ⟨v445,v448,v451,rfl,ho0,ho1,ho2,hb⟩;refine ⟨_,rfl,?_⟩;have A6:=rL (rN ho0 A3) HB;replace A3:=rE A3 ho0 hb;have B0:=rL (rN ho1 A4) HB;replace A4:=rE A4 ho1 hb;have B1:=rL (rN ho2 A5) HB;replace A5:=rE A5 ho2 hb;replace A0:=bB A0 hb;replace HB:=hS HB hb;(try clear hb);(try clear hb2);(try clear hk);(try clear hi);(try clear ho0);(try clear ho1);(try clear ho2)) | (refine bx 5 rfl #[.slice none 0 0,.slice none 0 0,.slice none 0 0] 36 ?_;intro C4 hg w68 hbox hb;replace A3:=rB A3 hb;replace A4:=rB A4 hb;replace A5:=rB A5 hb;replace A6:=rB A6 hb;replace B0:=rB B0 hb;replace B1:=rB B1 hb;have A1:=Aside0.mk (hbox);have E2:=hZ HB hg;have E3:=hZ HB hg;replace HB:=hS HB hb;have C1:=nL A0 hg;have C2:=nG A0 hg;replace A0:=bB A0 hb;clear hb hbox hg;obtain ⟨D6,C8,eo69⟩:=Kd.R_slice A6.out;subst eo69;have Q4:=C2.out;have Q5:=C1.out;obtain ⟨O7,O8,O9,P0,P1,P2⟩:=cf3 A1;obtain ⟨D7,C9,eo72⟩:=Kd.R_slice B0.out;subst eo72;obtain ⟨D8,D0,eo73⟩:=Kd.R_slice B1.out;subst eo73) | (refine goK 11 (some 18) rfl Try.func11 #[.agg #[.slice D6 t444.length C8,.slice D7 t447.length C9,.slice D8 t450.length D0]] ?_;(with_reducible refine (impl_IsSignature.calls k _ _ t444 _ _ t447 _ _ t450 t454 _ ?side1 ?side2 ?side3 ?side4 ?side5 ?side6 A10.out).mono ?_);(case side1=>refine (Kd.R_reads' (e:=9) (base:=w.heap.size) (ok:=fun k_=>(True∧some k_≠(.slice F9 t434.length G0:Value).ownBlock)) (n:=t444.length) (c:=C8) ?_).2.2;exact (rT A6 A1 (fun _ h_=>h_.1)));(case side2=>exact (Kd.R_reads' A6.out).2.1);(case side3=>refine (Kd.R_reads' (e:=89) (base:=w.heap.size) (ok:=fun k_=>(True∧some k_≠(.slice G1 t437.length G2:Value).ownBlock)) (n:=t447.length) (c:=C9) ?_).2.2;exact (rT B0 A1 (fun _ h_=>h_.1)));(case side4=>exact (Kd.R_reads' B0.out).2.1);(case side5=>refine (Kd.R_reads' (e:=50) (base:=w.heap.size) (ok:=fun k_=>(True∧some k_≠(.slice G3 t440.length G4:Value).ownBlock)) (n:=t450.length) (c:=D0) ?_).2.2;exact (rT B1 A1 (fun _ h_=>h_.1)));(case side6=>exact (Kd.R_reads' B1.out).2.1);rintro e w74 ⟨rfl,hb⟩;refine ⟨_,rfl,?_⟩;replace A3:=rF A3 A1 hb;replace A4:=rF A4 A1 hb;replace A5:=rF A5 A1 hb;replace A6:=rF A6 A1 hb;replace B0:=rF B0 A1 hb;replace B1:=rF B1 A1 hb;replace A0:=bB A0 hb;replace A1:=bP (o:=.cells #[.slice D6 t444.length C8,.slice D7 t447.length C9,.slice D8 t450.length D0] 36 (0,0)) A1 hb;replace HB:=hS HB hb;(try clear hb);(try clear hb2);(try clear hk);(try clear hi)))
    replace A3:=Aside0.mk (Kd.R_drew A3.out)
    replace A4:=Aside0.mk (Kd.R_drew A4.out)
    replace A5:=Aside0.mk (Kd.R_drew A5.out)
    replace A6:=Aside0.mk (Kd.R_drew A6.out)
    replace B0:=Aside0.mk (Kd.R_drew B0.out)
    replace B1:=Aside0.mk (Kd.R_drew B1.out)
    replace A0:=Aside0.mk (blk_drew A0.out)
    replace A1:=Aside0.mk (blk_drew A1.out)
    replace HB:=Aside0.mk (below_drew1 HB.out)
    refine start_ (n:=5) (S:=fun w'=>w'.cell? ⟨C4,0,none⟩=some (.slice D6 t444.length C8)∧w'.cell? ⟨C4,1,none⟩=some (.slice D7 t447.length C9)∧w'.cell? ⟨C4,2,none⟩=some (.slice D8 t450.length D0)∧w'.cell? ⟨C3,0,none⟩=some (.slice A0_0 l0_0.length c0_0)∧w'.cell? ⟨C3,1,none⟩=some (.slice A0_1 l0_1.length c0_1)∧w'.cell? ⟨C3,2,none⟩=some (.slice A0_2 l0_2.length c0_2)) (ds:=[]) #[false,false,false,false,false] (by kernel_rfl) rfl rfl ⟨cz0 A1,cz1 A1,cz2 A1,cz0 A0,cz1 A0,cz2 A0⟩ (fun hHeld=> ?_)
    generalize w74.drew=w75 at A3 A4 A5 A6 B0 B1 A0 A1 HB hHeld ⊢
    refine takeK 0 22 rfl rfl hHeld ?_ laws_FnExactIsSignature.a2
    refine takeK 1 23 rfl rfl hHeld ?_ laws_FnExactIsSignature.a2
    refine one_ (i:=2) (N:=some 24) #[true,true,true,false,false] rfl rfl (by kernel_rfl) (by decide) (fun K hK=> ?_)
    refine goes_ Try.func10 (by kernel_rfl) rfl #[.agg #[.slice A0_0 l0_0.length c0_0,.slice A0_1 l0_1.length c0_1,.slice A0_2 l0_2.length c0_2]] (by rfl) rfl rfl laws_FnExactIsSignature.a0 ?_
    with_reducible refine (laws_toSignature.calls k _ _ l0_0 _ _ l0_1 _ _ l0_2 t455 t458 t461 _ ?side1 ?side2 ?side3 ?side4 ?side5 ?side6 A30.out).mono ?_
    (case side1=>exact cB B2 HB)
    (case side2=>exact B3.out)
    (case side3=>exact cB B4 HB)
    (case side4=>exact B5.out)
    (case side5=>exact cB B6 HB)
    (case side6=>exact B7.out)
    rintro e w76 ⟨v456,v459,v462,rfl,ho0,ho1,ho2,hb⟩
    refine ⟨_,rfl,?_⟩
    have B8:=rL (rN (rN ho0 A3) A6) HB
    replace A3:=rE A3 ho0 hb
    replace A6:=rE A6 ho0 hb
    have B9:=rL (rN (rN ho1 A4) B0) HB
    replace A4:=rE A4 ho1 hb
    replace B0:=rE B0 ho1 hb
    have C0:=rL (rN (rN ho2 A5) B1) HB
    replace A5:=rE A5 ho2 hb
    replace B1:=rE B1 ho2 hb
    replace A0:=bB A0 hb
    replace A1:=bB A1 hb
    replace HB:=hS HB hb
    (try clear hb)
    (try clear hb2)
    (try clear hk)
    (try clear hi)
    (try clear ho0)
    (try clear ho1)
    (try clear ho2)
    obtain ⟨H5,H6,eo77⟩:=Kd.R_slice B8.out
    (first | subst eo77 | (injection eo77 with f1_ f2_ f3_;have f4_:=f1_.symm;have f5_:=f3_.symm;clear f1_ f2_ f3_;subst f4_;subst f5_))
    obtain ⟨H7,H8,eo78⟩:=Kd.R_slice B9.out
    (first | subst eo78 | (injection eo78 with f1_ f2_ f3_;have f4_:=f1_.symm;have f5_:=f3_.symm;clear f1_ f2_ f3_;subst f4_;subst f5_))
    obtain ⟨H9,I0,eo79⟩:=Kd.R_slice C0.out
    (first | subst eo79 | (injection eo79 with f1_ f2_ f3_;have f4_:=f1_.symm;have f5_:=f3_.symm;clear f1_ f2_ f3_;subst f4_;subst f5_))
    refine hK.out _ _ ⟨cz0 A1,cz1 A1,cz2 A1,cz0 A0,cz1 A0,cz2 A0⟩ (fun hHeld=> ?_)
    clear hK K
    refine norm_ (a':=?_) ?_ ?_
    rotate_left
    ·show Act.put _ (some 24) _=_
     simp only [Act.put,List.setIfInBounds_toArray,List.set_cons_zero,List.set_cons_succ,i64_w,i32_w]
     rfl
    refine one_ (i:=3) (N:=some 25) #[true,true,true,true,false] rfl rfl (by kernel_rfl) (by decide) (fun K hK=> ?_)
    refine goes_ Try.func12 (by kernel_rfl) rfl #[.agg #[.slice D6 t444.length C8,.slice D7 t447.length C9,.slice D8 t450.length D0],.agg #[.slice H5 t455.length H6,.slice H7 t458.length H8,.slice H9 t461.length I0]] (by rfl) rfl rfl laws_FnExactIsSignature.a0 ?_
    with_reducible refine (laws_eqSignature.calls k _ _ t444 _ _ t447 _ _ t450 _ _ t455 _ _ t458 _ _ t461 false _ ?side1 ?side2 ?side3 ?side4 ?side5 ?side6 ?side7 ?side8 ?side9 ?side10 ?side11 ?side12 A31.out).mono ?_
    (case side1=>repeat (first | exact (Kd.R_reads' A6.out).2.2 | (with_reducible refine Kd.C_alloc ?_ _) | (with_reducible refine Kd.C_drewN ?_ _) | (with_reducible refine Kd.C_drew ?_)))
    (case side2=>exact (Kd.R_reads' A6.out).2.1)
    (case side3=>repeat (first | exact (Kd.R_reads' B0.out).2.2 | (with_reducible refine Kd.C_alloc ?_ _) | (with_reducible refine Kd.C_drewN ?_ _) | (with_reducible refine Kd.C_drew ?_)))
    (case side4=>exact (Kd.R_reads' B0.out).2.1)
    (case side5=>repeat (first | exact (Kd.R_reads' B1.out).2.2 | (with_reducible refine Kd.C_alloc ?_ _) | (with_reducible refine Kd.C_drewN ?_ _) | (with_reducible refine Kd.C_drew ?_)))
    (case side6=>exact (Kd.R_reads' B1.out).2.1)
    (case side7=>repeat (first | exact (Kd.R_reads' B8.out).2.2 | (with_reducible refine Kd.C_alloc ?_ _) | (with_reducible refine Kd.C_drewN ?_ _) | (with_reducible refine Kd.C_drew ?_)))
    (case side8=>exact (Kd.R_reads' B8.out).2.1)
    (case side9=>repeat (first | exact (Kd.R_reads' B9.out).2.2 | (with_reducible refine Kd.C_alloc ?_ _) | (with_reducible refine Kd.C_drewN ?_ _) | (with_reducible refine Kd.C_drew ?_)))
    (case side10=>exact (Kd.R_reads' B9.out).2.1)
    (case side11=>repeat (first | exact (Kd.R_reads' C0.out).2.2 | (with_reducible refine Kd.C_alloc ?_ _) | (with_reducible refine Kd.C_drewN ?_ _) | (with_reducible refine Kd.C_drew ?_)))
    (case side12=>exact (Kd.R_reads' C0.out).2.1)
    rintro e w80 ⟨rfl,hb⟩
    refine ⟨_,rfl,?_⟩
    replace A3:=rB A3 hb
    replace A4:=rB A4 hb
    replace A5:=rB A5 hb
    replace A6:=rB A6 hb
    replace B0:=rB B0 hb
    replace B1:=rB B1 hb
    replace B8:=rB B8 hb
    replace B9:=rB B9 hb
    replace C0:=rB C0 hb
    replace A0:=bB A0 hb
    replace A1:=bB A1 hb
    replace HB:=hS HB hb
    (try clear hb)
    (try clear hb2)
    (try clear hk)
    (try clear hi)
    refine hK.out _ _ ⟨cz0 A1,cz1 A1,cz2 A1,cz0 A0,cz1 A0,cz2 A0⟩ (fun hHeld=> ?_)
    clear hK K
    refine norm_ (a':=?_) ?_ ?_
    rotate_left
    ·show Act.put _ (some 25) _=_
     simp only [Act.put,List.setIfInBounds_toArray,List.set_cons_zero,List.set_cons_succ,i64_w,i32_w]
     rfl
    refine pureK 4 26 rfl rfl ?_
    refine done_ (by kernel_rfl) ?_
    try go_wp2
    go_ret
    exact ⟨laws_FnExactIsSignature.a1,hV HB⟩

/-! ### spec_ArityOf: function 13 -/
theorem spec_ArityOf.a0 {P_:Prop} (h_:P_:=by first | rfl | (simp [errW_none,errW_some] <;> rfl) | (simp [*,errW_none,errW_some] <;> rfl)):P_:=h_
def spec_ArityOf.f (k:Nat) (l0_0:List ByteArray) (l0_1:List (S89)) (l0_2:List (S50)) (a1:Int):Option (Int):=(spec_IsSignature.f k l0_0 l0_1 l0_2).bind fun t466=>(if t466=true then ((spec_l1In.f a1 0 (wrap64 ((l0_2.length:Int) - 1))).bind fun t467=>(if t467=true then (if 0≤a1 then (if a1 < (l0_2.length:Int) then ((spec_l4Arity.f ((rd_T50 l0_2 a1).f0) ((rd_T50 l0_2 a1).f1) ((rd_T50 l0_2 a1).f2) ((rd_T50 l0_2 a1).f3) ((rd_T50 l0_2 a1).f4)).bind fun t469=>(some t469)) else (none)) else (none)) else (some (-1)))) else (some (-1)))
set_option maxHeartbeats 8000000 in
set_option maxRecDepth 100000 in
theorem spec_ArityOf.calls (k:Nat) (A0_0:Option Addr) (c0_0:Nat) (l0_0:List ByteArray) (A0_1:Option Addr) (c0_1:Nat) (l0_1:List (S89)) (A0_2:Option Addr) (c0_2:Nat) (l0_2:List (S50)) (a1:Int) (r:Int) (w:World) (hr0_0:Kd.C Kd.string w A0_0 l0_0.length l0_0) (hc0_0:l0_0.length≤c0_0) (hr0_1:Kd.C k89 w A0_1 l0_1.length l0_1) (hc0_1:l0_1.length≤c0_1) (hr0_2:Kd.C k50 w A0_2 l0_2.length l0_2) (hc0_2:l0_2.length≤c0_2) (h:spec_ArityOf.f k l0_0 l0_1 l0_2 a1=some r) :
  Calls Try.prog 13 #[.agg #[.slice A0_0 l0_0.length c0_0,.slice A0_1 l0_1.length c0_1,.slice A0_2 l0_2.length c0_2],.int .i64 a1] w fun e w'=>e=.returned (.int .i64 r)∧Below w.heap.size w w':=by
 have hu36:=Try.underlying36
 have hu50:=Try.underlying50
 have B2:=Aside0.mk hr0_0
 have B3:=Aside0.mk hc0_0
 clear hr0_0 hc0_0
 have B4:=Aside0.mk hr0_1
 have B5:=Aside0.mk hc0_1
 clear hr0_1 hc0_1
 have A1:=Aside0.mk hr0_2
 have B6:=Aside0.mk hc0_2
 clear hr0_2 hc0_2
 have HB:=Aside0.mk (Below.refl w.heap.size w)
 have H:((spec_IsSignature.f k l0_0 l0_1 l0_2).bind fun t466=>(if t466=true then ((spec_l1In.f a1 0 (wrap64 ((l0_2.length:Int) - 1))).bind fun t467=>(if t467=true then (if 0≤a1 then (if a1 < (l0_2.length:Int) then ((spec_l4Arity.f ((rd_T50 l0_2 a1).f0) ((rd_T50 l0_2 a1).f1) ((rd_T50 l0_2 a1).f2) ((rd_T50 l0_2 a1).f3) ((rd_T50 l0_2 a1).f4)).bind fun t469=>(some t469)) else (none)) else (none)) else (some (-1)))) else (some (-1))))=some r:=h
 clear h
 replace H:=Option.bind_eq_some_iff.mp H
 obtain ⟨t466,A30,H⟩:=H
 replace H:(if t466=true then ((spec_l1In.f a1 0 (wrap64 ((l0_2.length:Int) - 1))).bind fun t467=>(if t467=true then (if 0≤a1 then (if a1 < (l0_2.length:Int) then ((spec_l4Arity.f ((rd_T50 l0_2 a1).f0) ((rd_T50 l0_2 a1).f1) ((rd_T50 l0_2 a1).f2) ((rd_T50 l0_2 a1).f3) ((rd_T50 l0_2 a1).f4)).bind fun t469=>(some t469)) else (none)) else (none)) else (some (-1)))) else (some (-1)))=some r:=H
 have A3:=Aside0.mk A30
 clear A30
 by_cases c4:t466=true
 ·subst c4
  rw [if_pos rfl] at H
  replace H:=Option.bind_eq_some_iff.mp H
  obtain ⟨t467,A50,H⟩:=H
  replace H:(if t467=true then (if 0≤a1 then (if a1 < (l0_2.length:Int) then ((spec_l4Arity.f ((rd_T50 l0_2 a1).f0) ((rd_T50 l0_2 a1).f1) ((rd_T50 l0_2 a1).f2) ((rd_T50 l0_2 a1).f3) ((rd_T50 l0_2 a1).f4)).bind fun t469=>(some t469)) else (none)) else (none)) else (some (-1)))=some r:=H
  have A5:=Aside0.mk A50
  clear A50
  by_cases c6:t467=true
  ·subst c6
   rw [if_pos rfl] at H
   by_cases c7:0≤a1
   ·rw [if_pos c7] at H
    have F5:=decide_eq_true c7
    clear c7
    by_cases c8:a1 < (l0_2.length:Int)
    ·rw [if_pos c8] at H
     have F6:=decide_eq_true c8
     clear c8
     replace H:=Option.bind_eq_some_iff.mp H
     obtain ⟨t469,A90,H⟩:=H
     replace H:(some t469)=some r:=H
     have A9:=Aside0.mk A90
     clear A90
     obtain rfl:=Option.some.inj H
     go_enter Try.func13,Try.ntmps13
     go_wp2_with (first | ((with_reducible refine gate_dst (N:=2) rfl ?_);(try (refine gate_guard (by rfl) ?_;dsimp only));refine bx 2 rfl #[.slice A0_0 l0_0.length c0_0,.slice A0_1 l0_1.length c0_1,.slice A0_2 l0_2.length c0_2] 36 ?_;intro B9 hg w10 hbox hb;have A0:=Aside0.mk (hbox);have C0:=hZ HB hg;have C1:=hZ HB hg;replace HB:=hS HB hb;clear hb hbox hg;obtain ⟨C4,C5,C6,C7,C8,C9⟩:=cf3 A0) | (refine goK 9 (some 6) rfl Try.func9 #[.agg #[.slice A0_0 l0_0.length c0_0,.slice A0_1 l0_1.length c0_1,.slice A0_2 l0_2.length c0_2]] ?_;(with_reducible refine (spec_IsSignature.calls k _ _ l0_0 _ _ l0_1 _ _ l0_2 true _ ?side1 ?side2 ?side3 ?side4 ?side5 ?side6 A3.out).mono ?_);(case side1=>exact cB B2 HB);(case side2=>exact B3.out);(case side3=>exact cB B4 HB);(case side4=>exact B5.out);(case side5=>exact cB A1 HB);(case side6=>exact B6.out);rintro e w12 ⟨rfl,hb⟩;refine ⟨_,rfl,?_⟩;replace A0:=bB A0 hb;replace HB:=hS HB hb;(try clear hb);(try clear hb2);(try clear hk);(try clear hi);obtain ⟨D0,D1,D2,D3,D4,D5⟩:=cf3 A0) | (go_at_call 35;(with_reducible refine (spec_l1In.calls a1 0 (wrap64 ((l0_2.length:Int) - 1)) true _ A5.out).mono ?_);rintro e w' ⟨rfl,⟨nd,rfl⟩⟩;have B7:0≤(a1:Int):=dT;have B8:a1 < (l0_2.length:Int):=dT;obtain ⟨F4,A468_1,c468_1,e468,A2,A4,A6,A7,A8,B0,B1⟩:=at_T50 A1.out a1 B7 B8;cases e468;replace A2:=xc HB A2;replace A4:=xc HB A4;replace A6:=xc HB A6;replace A7:=xc HB A7;replace A8:=xc HB A8;have C2:=Aside0.mk B1;have C3:=Aside0.mk B0;clear B1 B0;replace B7:=eq_true B7;replace B8:=eq_true B8) | (refine goK 36 (some 22) rfl Try.func36 #[.agg #[.string ((rd_T50 l0_2 a1).f0),.slice A468_1 ((rd_T50 l0_2 a1).f1).length c468_1,.bool ((rd_T50 l0_2 a1).f2),.bool ((rd_T50 l0_2 a1).f3),.int .i64 ((rd_T50 l0_2 a1).f4)]] ?_;(with_reducible refine (spec_l4Arity.calls ((rd_T50 l0_2 a1).f0) _ _ ((rd_T50 l0_2 a1).f1) ((rd_T50 l0_2 a1).f2) ((rd_T50 l0_2 a1).f3) ((rd_T50 l0_2 a1).f4) t469 _ ?side1 ?side2 A9.out).mono ?_);(case side1=>repeat (first | exact (Kd.C_below C2.out (hV HB)) | (with_reducible refine Kd.C_alloc ?_ _) | (with_reducible refine Kd.C_drewN ?_ _) | (with_reducible refine Kd.C_drew ?_)));(case side2=>exact C3.out);rintro e w14 ⟨rfl,hb⟩;refine ⟨_,rfl,?_⟩;replace A0:=bB A0 hb;replace HB:=hS HB hb;(try clear hb);(try clear hb2);(try clear hk);(try clear hi)))
     go_ret
     exact ⟨spec_ArityOf.a0,hV HB⟩
    ·rw [if_neg c8] at H
     exact absurd H (by simp)
   ·rw [if_neg c7] at H
    exact absurd H (by simp)
  ·replace c6:=Bool.eq_false_iff.mpr c6
   subst c6
   rw [if_neg (show ¬ (false=true) by decide)] at H
   obtain rfl:=Option.some.inj H
   go_enter Try.func13,Try.ntmps13
   go_wp2_with (first | ((with_reducible refine gate_dst (N:=2) rfl ?_);(try (refine gate_guard (by rfl) ?_;dsimp only));refine bx 2 rfl #[.slice A0_0 l0_0.length c0_0,.slice A0_1 l0_1.length c0_1,.slice A0_2 l0_2.length c0_2] 36 ?_;intro B9 hg w15 hbox hb;have A0:=Aside0.mk (hbox);have C0:=hZ HB hg;have C1:=hZ HB hg;replace HB:=hS HB hb;clear hb hbox hg;obtain ⟨D6,D7,D8,D9,E0,E1⟩:=cf3 A0) | (refine goK 9 (some 6) rfl Try.func9 #[.agg #[.slice A0_0 l0_0.length c0_0,.slice A0_1 l0_1.length c0_1,.slice A0_2 l0_2.length c0_2]] ?_;(with_reducible refine (spec_IsSignature.calls k _ _ l0_0 _ _ l0_1 _ _ l0_2 true _ ?side1 ?side2 ?side3 ?side4 ?side5 ?side6 A3.out).mono ?_);(case side1=>exact cB B2 HB);(case side2=>exact B3.out);(case side3=>exact cB B4 HB);(case side4=>exact B5.out);(case side5=>exact cB A1 HB);(case side6=>exact B6.out);rintro e w17 ⟨rfl,hb⟩;refine ⟨_,rfl,?_⟩;replace A0:=bB A0 hb;replace HB:=hS HB hb;(try clear hb);(try clear hb2);(try clear hk);(try clear hi);obtain ⟨E2,E3,E4,E5,E6,E7⟩:=cf3 A0) | (go_at_call 35;(with_reducible refine (spec_l1In.calls a1 0 (wrap64 ((l0_2.length:Int) - 1)) false _ A5.out).mono ?_);rintro e w' ⟨rfl,⟨nd,rfl⟩⟩))
   go_ret
   exact ⟨spec_ArityOf.a0,hV HB⟩
 ·replace c4:=Bool.eq_false_iff.mpr c4
  subst c4
  rw [if_neg (show ¬ (false=true) by decide)] at H
  obtain rfl:=Option.some.inj H
  go_enter Try.func13,Try.ntmps13
  go_wp2_with (first | ((with_reducible refine gate_dst (N:=2) rfl ?_);(try (refine gate_guard (by rfl) ?_;dsimp only));refine bx 2 rfl #[.slice A0_0 l0_0.length c0_0,.slice A0_1 l0_1.length c0_1,.slice A0_2 l0_2.length c0_2] 36 ?_;intro B9 hg w19 hbox hb;have A0:=Aside0.mk (hbox);have C0:=hZ HB hg;have C1:=hZ HB hg;replace HB:=hS HB hb;clear hb hbox hg;obtain ⟨E8,E9,F0,F1,F2,F3⟩:=cf3 A0) | (refine goK 9 (some 6) rfl Try.func9 #[.agg #[.slice A0_0 l0_0.length c0_0,.slice A0_1 l0_1.length c0_1,.slice A0_2 l0_2.length c0_2]] ?_;(with_reducible refine (spec_IsSignature.calls k _ _ l0_0 _ _ l0_1 _ _ l0_2 false _ ?side1 ?side2 ?side3 ?side4 ?side5 ?side6 A3.out).mono ?_);(case side1=>exact cB B2 HB);(case side2=>exact B3.out);(case side3=>exact cB B4 HB);(case side4=>exact B5.out);(case side5=>exact cB A1 HB);(case side6=>exact B6.out);rintro e w21 ⟨rfl,hb⟩;refine ⟨_,rfl,?_⟩;replace A0:=bB A0 hb;replace HB:=hS HB hb;(try clear hb);(try clear hb2);(try clear hk);(try clear hi)))
  go_ret
  exact ⟨spec_ArityOf.a0,hV HB⟩

/-! ### impl_ArityOf: function 14 -/
theorem impl_ArityOf.a0 {P_:Prop} (h_:P_:=by first | rfl | (simp [errW_none,errW_some] <;> rfl) | (simp [*,errW_none,errW_some] <;> rfl)):P_:=h_
def impl_ArityOf.f (k:Nat) (l0_0:List ByteArray) (l0_1:List (S89)) (l0_2:List (S50)) (a1:Int):Option (Int):=(impl_IsSignature.f k l0_0 l0_1 l0_2).bind fun t471=>(if t471=true then (if a1 < 0 then (some (-1)) else (if a1≥(l0_2.length:Int) then (some (-1)) else (if 0≤a1 then (if a1 < (l0_2.length:Int) then (if 0 < (((rd_T50 l0_2 a1).f1).length:Int) then (some (((rd_T68 ((rd_T50 l0_2 a1).f1) 0).f0).length:Int)) else (none)) else (none)) else (none)))) else (some (-1)))
set_option maxHeartbeats 8000000 in
set_option maxRecDepth 100000 in
theorem impl_ArityOf.calls (k:Nat) (A0_0:Option Addr) (c0_0:Nat) (l0_0:List ByteArray) (A0_1:Option Addr) (c0_1:Nat) (l0_1:List (S89)) (A0_2:Option Addr) (c0_2:Nat) (l0_2:List (S50)) (a1:Int) (r:Int) (w:World) (hr0_0:Kd.C Kd.string w A0_0 l0_0.length l0_0) (hc0_0:l0_0.length≤c0_0) (hr0_1:Kd.C k89 w A0_1 l0_1.length l0_1) (hc0_1:l0_1.length≤c0_1) (hr0_2:Kd.C k50 w A0_2 l0_2.length l0_2) (hc0_2:l0_2.length≤c0_2) (h:impl_ArityOf.f k l0_0 l0_1 l0_2 a1=some r) :
  Calls Try.prog 14 #[.agg #[.slice A0_0 l0_0.length c0_0,.slice A0_1 l0_1.length c0_1,.slice A0_2 l0_2.length c0_2],.int .i64 a1] w fun e w'=>e=.returned (.int .i64 r)∧Below w.heap.size w w':=by
 have hu36:=Try.underlying36
 have A5:=Aside0.mk hr0_0
 have A6:=Aside0.mk hc0_0
 clear hr0_0 hc0_0
 have A7:=Aside0.mk hr0_1
 have A8:=Aside0.mk hc0_1
 clear hr0_1 hc0_1
 have A4:=Aside0.mk hr0_2
 have A9:=Aside0.mk hc0_2
 clear hr0_2 hc0_2
 have HB:=Aside0.mk (Below.refl w.heap.size w)
 have H:((impl_IsSignature.f k l0_0 l0_1 l0_2).bind fun t471=>(if t471=true then (if a1 < 0 then (some (-1)) else (if a1≥(l0_2.length:Int) then (some (-1)) else (if 0≤a1 then (if a1 < (l0_2.length:Int) then (if 0 < (((rd_T50 l0_2 a1).f1).length:Int) then (some (((rd_T68 ((rd_T50 l0_2 a1).f1) 0).f0).length:Int)) else (none)) else (none)) else (none)))) else (some (-1))))=some r:=h
 clear h
 replace H:=Option.bind_eq_some_iff.mp H
 obtain ⟨t471,A30,H⟩:=H
 replace H:(if t471=true then (if a1 < 0 then (some (-1)) else (if a1≥(l0_2.length:Int) then (some (-1)) else (if 0≤a1 then (if a1 < (l0_2.length:Int) then (if 0 < (((rd_T50 l0_2 a1).f1).length:Int) then (some (((rd_T68 ((rd_T50 l0_2 a1).f1) 0).f0).length:Int)) else (none)) else (none)) else (none)))) else (some (-1)))=some r:=H
 have A3:=Aside0.mk A30
 clear A30
 by_cases c4:t471=true
 ·subst c4
  rw [if_pos rfl] at H
  by_cases c5:a1 < 0
  ·rw [if_pos c5] at H
   have C7:=decide_eq_true c5
   clear c5
   obtain rfl:=Option.some.inj H
   go_enter Try.func14,Try.ntmps14
   go_wp2_with (first | ((with_reducible refine gate_dst (N:=2) rfl ?_);(try (refine gate_guard (by rfl) ?_;dsimp only));refine bx 2 rfl #[.slice A0_0 l0_0.length c0_0,.slice A0_1 l0_1.length c0_1,.slice A0_2 l0_2.length c0_2] 36 ?_;intro B9 hg w6 hbox hb;have A0:=Aside0.mk (hbox);have C0:=hZ HB hg;have C1:=hZ HB hg;replace HB:=hS HB hb;clear hb hbox hg;obtain ⟨G2,G3,G4,G5,G6,G7⟩:=cf3 A0) | (refine goK 11 (some 6) rfl Try.func11 #[.agg #[.slice A0_0 l0_0.length c0_0,.slice A0_1 l0_1.length c0_1,.slice A0_2 l0_2.length c0_2]] ?_;(with_reducible refine (impl_IsSignature.calls k _ _ l0_0 _ _ l0_1 _ _ l0_2 true _ ?side1 ?side2 ?side3 ?side4 ?side5 ?side6 A3.out).mono ?_);(case side1=>exact cB A5 HB);(case side2=>exact A6.out);(case side3=>exact cB A7 HB);(case side4=>exact A8.out);(case side5=>exact cB A4 HB);(case side6=>exact A9.out);rintro e w8 ⟨rfl,hb⟩;refine ⟨_,rfl,?_⟩;replace A0:=bB A0 hb;replace HB:=hS HB hb;(try clear hb);(try clear hb2);(try clear hk);(try clear hi)))
   go_ret
   exact ⟨impl_ArityOf.a0,hV HB⟩
  ·rw [if_neg c5] at H
   have C7:=decide_eq_false c5
   clear c5
   by_cases c9:a1≥(l0_2.length:Int)
   ·rw [if_pos c9] at H
    have C8:=decide_eq_true c9
    clear c9
    obtain rfl:=Option.some.inj H
    go_enter Try.func14,Try.ntmps14
    go_wp2_with (first | ((with_reducible refine gate_dst (N:=2) rfl ?_);(try (refine gate_guard (by rfl) ?_;dsimp only));refine bx 2 rfl #[.slice A0_0 l0_0.length c0_0,.slice A0_1 l0_1.length c0_1,.slice A0_2 l0_2.length c0_2] 36 ?_;intro B9 hg w10 hbox hb;have A0:=Aside0.mk (hbox);have C0:=hZ HB hg;have C1:=hZ HB hg;replace HB:=hS HB hb;clear hb hbox hg;obtain ⟨C9,D0,D1,D2,D3,D4⟩:=cf3 A0) | (refine goK 11 (some 6) rfl Try.func11 #[.agg #[.slice A0_0 l0_0.length c0_0,.slice A0_1 l0_1.length c0_1,.slice A0_2 l0_2.length c0_2]] ?_;(with_reducible refine (impl_IsSignature.calls k _ _ l0_0 _ _ l0_1 _ _ l0_2 true _ ?side1 ?side2 ?side3 ?side4 ?side5 ?side6 A3.out).mono ?_);(case side1=>exact cB A5 HB);(case side2=>exact A6.out);(case side3=>exact cB A7 HB);(case side4=>exact A8.out);(case side5=>exact cB A4 HB);(case side6=>exact A9.out);rintro e w12 ⟨rfl,hb⟩;refine ⟨_,rfl,?_⟩;replace A0:=bB A0 hb;replace HB:=hS HB hb;(try clear hb);(try clear hb2);(try clear hk);(try clear hi);obtain ⟨D5,D6,D7,D8,D9,E0⟩:=cf3 A0))
    go_ret
    exact ⟨impl_ArityOf.a0,hV HB⟩
   ·rw [if_neg c9] at H
    have C8:=decide_eq_false c9
    clear c9
    by_cases c14:0≤a1
    ·rw [if_pos c14] at H
     have G8:=decide_eq_true c14
     clear c14
     by_cases c15:a1 < (l0_2.length:Int)
     ·rw [if_pos c15] at H
      have G9:=decide_eq_true c15
      clear c15
      by_cases c16:0 < (((rd_T50 l0_2 a1).f1).length:Int)
      ·rw [if_pos c16] at H
       have H0:=decide_eq_true c16
       have H1:decide (0 < ((rd_T50 l0_2 a1).f1).length)=true:=decide_eq_true (by omega)
       clear c16
       obtain rfl:=Option.some.inj H
       go_enter Try.func14,Try.ntmps14
       go_wp2_with (first | ((with_reducible refine gate_dst (N:=2) rfl ?_);(try (refine gate_guard (by rfl) ?_;dsimp only));refine bx 2 rfl #[.slice A0_0 l0_0.length c0_0,.slice A0_1 l0_1.length c0_1,.slice A0_2 l0_2.length c0_2] 36 ?_;intro B9 hg w17 hbox hb;have A0:=Aside0.mk (hbox);have C0:=hZ HB hg;have C1:=hZ HB hg;replace HB:=hS HB hb;clear hb hbox hg;obtain ⟨E1,E2,E3,E4,E5,E6⟩:=cf3 A0) | (refine goK 11 (some 6) rfl Try.func11 #[.agg #[.slice A0_0 l0_0.length c0_0,.slice A0_1 l0_1.length c0_1,.slice A0_2 l0_2.length c0_2]] ?_;(with_reducible refine (impl_IsSignature.calls k _ _ l0_0 _ _ l0_1 _ _ l0_2 true _ ?side1 ?side2 ?side3 ?side4 ?side5 ?side6 A3.out).mono ?_);(case side1=>exact cB A5 HB);(case side2=>exact A6.out);(case side3=>exact cB A7 HB);(case side4=>exact A8.out);(case side5=>exact cB A4 HB);(case side6=>exact A9.out);rintro e w19 ⟨rfl,hb⟩;refine ⟨_,rfl,?_⟩;replace A0:=bB A0 hb;replace HB:=hS HB hb;(try clear hb);(try clear hb2);(try clear hk);(try clear hi);obtain ⟨E7,E8,E9,F0,F1,F2⟩:=cf3 A0;have C2:0≤(a1:Int):=dT;have C3:a1 < (l0_2.length:Int):=dT;obtain ⟨H2,A472_1,c472_1,e472,B0,B1,B2,B3,B4,B5,B6⟩:=at_T50 A4.out a1 C2 C3;cases e472;replace B0:=xc HB B0;replace B1:=xc HB B1;replace B2:=xc HB B2;replace B3:=xc HB B3;replace B4:=xc HB B4;have C6:=Aside0.mk B6;have F3:=Aside0.mk B5;clear B6 B5;replace C2:=eq_true C2;replace C3:=eq_true C3;have C4:0≤(0:Int):=(by omega);have C5:0 < (((rd_T50 l0_2 a1).f1).length:Int):=dT;obtain ⟨H3,A473_0,c473_0,e473,A1,A2,B7,B8⟩:=at_T68 C6.out 0 C4 C5;cases e473;have H4:(0 < ((rd_T50 l0_2 a1).f1).length)=True:=eq_true (by omega);(try rw [show ((0:Int)).toNat=0 from rfl] at A1);(try rw [show 0 * 2=0 from rfl] at A1);(try rw [Addr.add_zero'] at A1);(try rw [show ((0:Int)).toNat=0 from rfl] at A2);(try rw [show 0 * 2=0 from rfl] at A2);(try rw [Addr.add_zero'] at A2);replace A1:=xc HB A1;replace A2:=xc HB A2;have F4:=Aside0.mk B8;have F5:=Aside0.mk B7;clear B8 B7;replace C4:=eq_true C4;replace C5:=eq_true C5))
       go_ret
       exact ⟨impl_ArityOf.a0,hV HB⟩
      ·rw [if_neg c16] at H
       exact absurd H (by simp)
     ·rw [if_neg c15] at H
      exact absurd H (by simp)
    ·rw [if_neg c14] at H
     exact absurd H (by simp)
 ·replace c4:=Bool.eq_false_iff.mpr c4
  subst c4
  rw [if_neg (show ¬ (false=true) by decide)] at H
  obtain rfl:=Option.some.inj H
  go_enter Try.func14,Try.ntmps14
  go_wp2_with (first | ((with_reducible refine gate_dst (N:=2) rfl ?_);(try (refine gate_guard (by rfl) ?_;dsimp only));refine bx 2 rfl #[.slice A0_0 l0_0.length c0_0,.slice A0_1 l0_1.length c0_1,.slice A0_2 l0_2.length c0_2] 36 ?_;intro B9 hg w21 hbox hb;have A0:=Aside0.mk (hbox);have C0:=hZ HB hg;have C1:=hZ HB hg;replace HB:=hS HB hb;clear hb hbox hg;obtain ⟨F6,F7,F8,F9,G0,G1⟩:=cf3 A0) | (refine goK 11 (some 6) rfl Try.func11 #[.agg #[.slice A0_0 l0_0.length c0_0,.slice A0_1 l0_1.length c0_1,.slice A0_2 l0_2.length c0_2]] ?_;(with_reducible refine (impl_IsSignature.calls k _ _ l0_0 _ _ l0_1 _ _ l0_2 false _ ?side1 ?side2 ?side3 ?side4 ?side5 ?side6 A3.out).mono ?_);(case side1=>exact cB A5 HB);(case side2=>exact A6.out);(case side3=>exact cB A7 HB);(case side4=>exact A8.out);(case side5=>exact cB A4 HB);(case side6=>exact A9.out);rintro e w23 ⟨rfl,hb⟩;refine ⟨_,rfl,?_⟩;replace A0:=bB A0 hb;replace HB:=hS HB hb;(try clear hb);(try clear hb2);(try clear hk);(try clear hi)))
  go_ret
  exact ⟨impl_ArityOf.a0,hV HB⟩

end Go.Proofs.Ytpildjbakceicaa.Q

