/- Functions of the program as plain Lean functions,and that the calls come to what they say. -/
import Derived.Test.YtpildjbakceicaaZQx0hb61c0
import Derived.Test.YtpildjbakceicaaZQx8ha6c9f
import Derived.Test.YtpildjbakceicaaZShorth7b252
namespace Go.Proofs.Ytpildjbakceicaa.Q
open Go.RowKit Go.Proofs.YtpildjbakceicaaW.PrintWords Go.Proofs.YtpildjbakceicaaW.PrintLast Go.Proofs.YtpildjbakceicaaW.PrintMore
attribute [local go_sem] max2_int min2_int max_two min_two max_three min_three max_four min_four   -- for this text's walks alone
set_option linter.unusedVariables false
set_option linter.unusedSimpArgs false

/-! ### laws_toSubS: function 53 -/
def laws_toSubS.l0:Nat→List (S107)→List (S89)→Int→Option ((List (S89)))
 | 0,_,_,_=>none
 | k + 1,x0,x3,x4=>if x4 < (x0.length:Int) then (if 0≤x4 then ((laws_toSub.f ((rd_T107 x0 x4).f0) ((rd_T107 x0 x4).f1)).bind fun bt226=>(if x4 < (x3.length:Int) then (laws_toSubS.l0 k x0 (x3.set (x4:Int).toNat (⟨bt226.1,bt226.2⟩:S89)) (wrap64 (x4 + 1))) else (none))) else (none)) else (some x3)
def laws_toSubS.f (k:Nat) (l0:List (S107)):Option ((List (S89))):=if 0≤(l0.length:Int) then (if ((l0.length:Int):Int).toNat≤17592186044416 then (laws_toSubS.l0 k l0 (List.replicate ((l0.length:Int):Int).toNat z89) 0) else (none)) else (none)
set_option maxHeartbeats 8000000 in
set_option maxRecDepth 100000 in
theorem laws_toSubS.calls (k:Nat) (A0:Option Addr) (c0:Nat) (l0:List (S107)) (r:List (S89)) (w:World) (hr0:Kd.C k107 w A0 l0.length l0) (hc0:l0.length≤c0) (h:laws_toSubS.f k l0=some r) :
  Calls Try.prog 53 #[.slice A0 l0.length c0] w fun e w'=> ∃ v0_:Value,e=.returned (v0_)∧Kd.R k89 89 w' w.heap.size (fun _=>True) v0_ r∧Below w.heap.size w w':=by
 have hu107:=Try.underlying107
 have hu89:=Try.underlying89
 have D5:=Aside0.mk hr0
 have E4:=Aside0.mk hc0
 clear hr0 hc0
 have HB:=Aside0.mk (Below.refl w.heap.size w)
 have H:(if 0≤(l0.length:Int) then (if ((l0.length:Int):Int).toNat≤17592186044416 then (laws_toSubS.l0 k l0 (List.replicate ((l0.length:Int):Int).toNat z89) 0) else (none)) else (none))=some r:=h
 clear h
 by_cases c2:0≤(l0.length:Int)
 rotate_left
 ·rw [if_neg c2] at H
  exact absurd H (by simp)

 rw [if_pos c2] at H
 have D0:=eq_true c2
 have D1:=decide_eq_true c2
 clear c2
 by_cases c3:((l0.length:Int):Int).toNat≤17592186044416
 rotate_left
 ·rw [if_neg c3] at H
  exact absurd H (by simp)
 rw [if_pos c3] at H
 have D2:=eq_true c3
 have D3:=decide_eq_true c3
 clear c3
 obtain ⟨y222,hy222⟩:∃ y_:List (S89),y_=(List.replicate ((l0.length:Int):Int).toNat z89):=⟨_,rfl⟩
 replace H:(laws_toSubS.l0 k l0 y222 0)=some r:=by first | (rw [hy222];with_reducible exact H) | (have H2_:=(Option.bind_some _ _).symm.trans H;rw [hy222];with_reducible exact H2_) | (have H2_:=(Option.bind_some _ _).symm.trans H;with_reducible exact H2_) | with_reducible exact H | (rw [hy222];exact H) | exact H
 have B3:=Aside0.mk hy222
 clear hy222
 have H':=Aside0.mk H
 clear H
 go_enter Try.func53,Try.ntmps53
 go_wp2_with (first | ((with_reducible refine gate_dst (N:=7) rfl ?_);refine Kd.R_make k89 _ 89 rfl (N:=7) rfl 31 _ _ rfl (l0.length:Int) rfl rfl Try.underlying31 (.agg #[(.int .i64 0),(.int .i64 0)]) 16 info89 rfl (by decide) (by omega) z89 (ok:=fun _=>True) (okp:=fun _=>True) (k89_mkM _ _ _ z89) (fun _ hk=>hk) trivial (dT) (Nat.le_trans (Nat.mul_le_mul_right _ (dT:(l0.length:Int).toNat≤17592186044416)) (by omega)) (Below.refl _ _) (Nat.le_refl _) ?_;intro v223 w4 ho5 hb hg_ hnew_;clear hg_ hnew_;(first | rw [← B3.out] at ho5 | (simp only [Int.reduceToNat] at ho5;rw [← B3.out] at ho5));have C7:=rL ho5 HB;replace HB:=hS HB hb;clear hb ho5))
 go_loopg [4] k (fun kq v4 w'=> ∃ (x3_1:List (S89)) (x4_1:Int),v4=.int .i64 x4_1∧Aside0 (laws_toSubS.l0 kq l0 x3_1 x4_1=some r)∧Aside0 (kq≤k)∧Aside0 (Kd.R k89 89 w' w.heap.size (fun _=>True) v223 x3_1)∧Aside0 (Below w.heap.size w w'))
 case atStart=>exact ⟨(y222),(0),(by first | rfl | (simp;done) | (simp [*];done)),H',⟨Nat.le_refl _⟩,⟨rV C7⟩,⟨hV HB⟩⟩
 clear H'
 try clear c2
 try clear D0
 try clear D1
 try clear c3
 try clear D2
 try clear D3
 obtain ⟨x3_1,x4_1,rfl,HA,HK1,A1,HB⟩:=hrel
 cases gk with
 | zero=>exact absurd HA.out (by simp [laws_toSubS.l0])
 | succ k1=>
  have H:=HA.out
  clear HA
  simp only [laws_toSubS.l0] at H
  by_cases c6:x4_1 < (l0.length:Int)
  rotate_left
  ·rw [if_neg c6] at H
   have D4:=decide_eq_false c6
   clear c6
   obtain rfl:=Option.some.inj H
   go_wp2
   go_ret
   exact ⟨_,by first | rfl | (simp [errW_none,errW_some] <;> rfl) | (simp [*,errW_none,errW_some] <;> rfl),rV A1,hV HB⟩
  rw [if_pos c6] at H
  have D4:=decide_eq_true c6
  clear c6
  by_cases c7:0≤x4_1
  rotate_left
  ·rw [if_neg c7] at H
   exact absurd H (by simp)
  rw [if_pos c7] at H
  have E1:=decide_eq_true c7
  clear c7
  replace H:=Option.bind_eq_some_iff.mp H
  obtain ⟨⟨t226,t227⟩,A80,H⟩:=H
  replace H:(if x4_1 < (x3_1.length:Int) then (laws_toSubS.l0 k1 l0 (x3_1.set (x4_1:Int).toNat (⟨t226,t227⟩:S89)) (wrap64 (x4_1 + 1))) else (none))=some r:=H
  have A8:=Aside0.mk A80
  clear A80
  by_cases c9:x4_1 < (x3_1.length:Int)
  rotate_left
  ·rw [if_neg c9] at H
   exact absurd H (by simp)
  rw [if_pos c9] at H
  have E2:=decide_eq_true c9
  clear c9
  obtain ⟨y228,hy228⟩:∃ y_:List (S89),y_=(x3_1.set (x4_1:Int).toNat (⟨t226,t227⟩:S89)):=⟨_,rfl⟩
  replace H:(laws_toSubS.l0 k1 l0 y228 (wrap64 (x4_1 + 1)))=some r:=by first | (rw [hy228];with_reducible exact H) | (have H2_:=(Option.bind_some _ _).symm.trans H;rw [hy228];with_reducible exact H2_) | (have H2_:=(Option.bind_some _ _).symm.trans H;with_reducible exact H2_) | with_reducible exact H | (rw [hy228];exact H) | exact H
  have C8:=Aside0.mk hy228
  clear hy228
  have H':=Aside0.mk H
  clear H
  have B0:0≤(x4_1:Int):=dT
  have B1:x4_1 < (l0.length:Int):=dT
  obtain ⟨E0,e225,A4,A5⟩:=at_T107 D5.out x4_1 B0 B1
  cases e225
  replace A4:=xc HB A4
  replace A5:=xc HB A5
  replace B0:=eq_true B0
  replace B1:=eq_true B1
  go_wp2_with (first | (refine goK 69 (some 20) rfl Try.func69 #[.agg #[.int .i64 ((rd_T107 l0 x4_1).f0),.int .i64 ((rd_T107 l0 x4_1).f1)]] ?_;(with_reducible refine (laws_toSub.calls ((rd_T107 l0 x4_1).f0) ((rd_T107 l0 x4_1).f1) t226 t227 _ A8.out).mono ?_);rintro e w11 ⟨rfl,hb⟩;refine ⟨_,rfl,?_⟩;replace A1:=rB A1 hb;replace HB:=hS HB hb;(try clear hb);(try clear hb2);(try clear hk);(try clear hi);have B5:0≤(x4_1:Int):=dT;have B6:(x4_1:Int) < ((x3_1.length:Int):Int):=dT;obtain ⟨A2,B7,eo10,B8,gl10,cl10,HG10⟩:=Kd.R_form A1.out (by omega);(first | cases eo10 | (injection eo10 with ea_ en_ ec_;(first | subst ea_ | (injection ea_ with ea_;subst ea_));subst ec_;clear en_));have B9:=Aside0.mk B8;have E3:=Aside0.mk HG10;clear B8 gl10 HG10;obtain ⟨ce10,C9,C0,A6,A7⟩:=Kd.R_elem A1.out z89 (x4_1:Int) B5 B6;obtain rfl:=k89_openM C0;have D6:w11.cell? ⟨A2,(x4_1:Int).toNat * 2,none⟩=some (.int .i64 ((rd_T89 x3_1 x4_1).f0)):=A6 0 _ rfl;have D7:w11.cell? ⟨A2,(x4_1:Int).toNat * 2 + 1,none⟩=some (.int .i64 ((rd_T89 x3_1 x4_1).f1)):=A6 1 _ rfl;have D8:w11.frozen? ⟨A2,(x4_1:Int).toNat * 2,none⟩=false:=A7 0;have D9:w11.frozen? ⟨A2,(x4_1:Int).toNat * 2 + 1,none⟩=false:=A7 1;clear C9 A6 A7 C0;replace B5:=eq_true B5;replace B6:=eq_true B6;have C1:=Aside0.mk (show Kd.R k89 89 w11 w.heap.size (fun _=>True) (.slice (some ⟨A2,0,none⟩) x3_1.length B7) x3_1 from (rV A1));obtain ⟨ce12,B4,C2,A3,A9⟩:=Kd.R_elem C1.out z89 (x4_1:Int) (dT) (by have h_:(x4_1:Int) < ((x3_1.length:Int):Int):=dT;first | exact h_ | (have e_:=(Kd.R_reads' A1.out).1;omega) | simpa using h_);obtain rfl:=k89_openM C2;have B2:=Kd.R_seg C1.out (x4_1:Int) (dT) (by have h_:(x4_1:Int) < ((x3_1.length:Int):Int):=dT;first | exact h_ | (have e_:=(Kd.R_reads' A1.out).1;omega) | simpa using h_) (seg:=[.int .i64 t226,.int .i64 t227]) (j:=0) B4 A3 (show 2≤2 from by decide) (x':=(⟨t226,t227⟩:S89)) (k89_mkM _ _ _ (⟨t226,t227⟩:S89)) (fun _ hk=>hk);have C3:=A3 0 _ rfl;(try simp only [show (k89).sz=2 from rfl,Nat.mul_one,Nat.add_zero] at C3);have C4:=A9 0;(try simp only [show (k89).sz=2 from rfl,Nat.mul_one,Nat.add_zero] at C4);have C5:=A3 1 _ rfl;(try simp only [show (k89).sz=2 from rfl,Nat.mul_one,Nat.add_zero] at C5);have C6:=A9 1;(try simp only [show (k89).sz=2 from rfl,Nat.mul_one,Nat.add_zero] at C6);clear B4 A3 A9 C2) | ((with_reducible refine gate_store (t:=89) (p:=21) rfl ?_);refine store_event (t:=89) (p:=21) (v:=?vo_w13) (w1:=((w11.setCell ⟨A2,(x4_1:Int).toNat * 2,none⟩ (.int .i64 t226)).setCell ⟨A2,(x4_1:Int).toNat * 2 + 1,none⟩ (.int .i64 t227))) ?hg ?ho ?hn ?hr ?_;(case ho=>rfl);(case hg=>rfl);(case hn=>rfl);(case hr=>first | (go_simp;done) | (go_simp;rfl));intro w13 hw;have hg:w11.grownBy w13 (some A2):=(by rw [hw];exact B2.2);have hp_:Kd.R k89 89 w13 w.heap.size (fun _=>True) (.slice (some ⟨A2,0,none⟩) x3_1.length B7) y228:=(by rw [hw,C8.out];exact B2.1);clear B2;replace A1:=Aside0.mk (hp_);replace HB:=Aside0.mk ((by rw [hw];exact below_set (below_set (HB.out) B9.out) B9.out:Below w.heap.size w w13));clear hg hw hp_))
  go_roundg k1
  case measure=>have:=HK1.out;omega
  case rel=>exact ⟨(y228),(wrap64 (x4_1 + 1)),(by first | rfl | (simp;done) | (simp [*];done)),H',⟨by have:=HK1.out;omega⟩,⟨rV A1⟩,⟨hV HB⟩⟩
/-! ### laws_toSorts: function 27 -/
def laws_toSorts.f (k:Nat) (l0_0:List ByteArray) (l0_1:List (S107)):Option (List ByteArray × (List (S89))):=(laws_toStringS.f k l0_0).bind fun t232=>((laws_toSubS.f k l0_1).bind fun t235=>(some (t232,t235)))
set_option maxHeartbeats 8000000 in
set_option maxRecDepth 100000 in
theorem laws_toSorts.calls (k:Nat) (A0_0:Option Addr) (c0_0:Nat) (l0_0:List ByteArray) (A0_1:Option Addr) (c0_1:Nat) (l0_1:List (S107)) (r1:List ByteArray) (r2:List (S89)) (w:World) (hr0_0:Kd.C Kd.string w A0_0 l0_0.length l0_0) (hc0_0:l0_0.length≤c0_0) (hr0_1:Kd.C k107 w A0_1 l0_1.length l0_1) (hc0_1:l0_1.length≤c0_1) (h:laws_toSorts.f k l0_0 l0_1=some (r1,r2)) :
  Calls Try.prog 27 #[.agg #[.slice A0_0 l0_0.length c0_0,.slice A0_1 l0_1.length c0_1]] w fun e w'=> ∃ v0_ v1_:Value,e=.returned (.agg #[v0_,v1_])∧Kd.R Kd.string 9 w' w.heap.size (fun _=>True) v0_ r1∧Kd.R k89 89 w' w.heap.size (fun _=>True) v1_ r2∧Below w.heap.size w w':=by
 have hu25:=Try.underlying25
 have hu33:=Try.underlying33
 have B9:=Aside0.mk hr0_0
 have C0:=Aside0.mk hc0_0
 clear hr0_0 hc0_0
 have C1:=Aside0.mk hr0_1
 have C2:=Aside0.mk hc0_1
 clear hr0_1 hc0_1
 have HB:=Aside0.mk (Below.refl w.heap.size w)
 have H:((laws_toStringS.f k l0_0).bind fun t232=>((laws_toSubS.f k l0_1).bind fun t235=>(some (t232,t235))))=some (r1,r2):=h
 clear h
 replace H:=Option.bind_eq_some_iff.mp H
 obtain ⟨t232,A20,H⟩:=H
 replace H:((laws_toSubS.f k l0_1).bind fun t235=>(some (t232,t235)))=some (r1,r2):=H
 have A2:=Aside0.mk A20
 clear A20
 replace H:=Option.bind_eq_some_iff.mp H
 obtain ⟨t235,A30,H⟩:=H
 replace H:(some (t232,t235))=some (r1,r2):=H
 have A3:=Aside0.mk A30
 clear A30
 simp only [Option.some.injEq,Prod.mk.injEq] at H
 obtain ⟨rfl,rfl⟩:=H
 go_enter Try.func27,Try.ntmps27
 go_wp2_with (first | (refine bx 1 rfl #[.slice A0_0 l0_0.length c0_0,.slice A0_1 l0_1.length c0_1] 25 ?_;intro E3 hg w4 hbox hb;have A0:=Aside0.mk (hbox);have E4:=hZ HB hg;have E5:=hZ HB hg;replace HB:=hS HB hb;clear hb hbox hg) | (refine bx 2 rfl #[.slice none 0 0,.slice none 0 0] 33 ?_;intro A5 hg w5 hbox hb;have A1:=Aside0.mk (hbox);have E6:=hZ HB hg;have E7:=hZ HB hg;replace HB:=hS HB hb;have B1:=nL A0 hg;have B2:=nG A0 hg;replace A0:=bB A0 hb;clear hb hbox hg) | (refine bx 3 rfl #[.slice none 0 0,.slice none 0 0] 33 ?_;intro B7 hg w6 hbox hb;have A4:=Aside0.mk (hbox);have E8:=hZ HB hg;have E9:=hZ HB hg;replace HB:=hS HB hb;have B3:=nL A0 hg;have B4:=nG A0 hg;replace A0:=bB A0 hb;have B5:=nL A1 hg;have B6:=nG A1 hg;replace A1:=bB A1 hb;clear hb hbox hg;have F2:=B1.out;have F3:=B2.out;have F4:=B3.out;have F5:=B4.out;obtain ⟨D9,E0,E1,E2⟩:=cf2 A0) | (refine goK 52 (some 6) rfl Try.func52 #[.slice A0_0 l0_0.length c0_0] ?_;(with_reducible refine (laws_toStringS.calls k _ _ l0_0 t232 _ ?side1 ?side2 A2.out).mono ?_);(case side1=>exact cB B9 HB);(case side2=>exact C0.out);rintro e w10 ⟨v233,rfl,ho0,hb⟩;refine ⟨_,rfl,?_⟩;have A6:=rL ho0 HB;replace A0:=bB A0 hb;replace A1:=bB A1 hb;replace A4:=bB A4 hb;replace HB:=hS HB hb;(try clear hb);(try clear hb2);(try clear hk);(try clear hi);(try clear ho0);obtain ⟨A9,B0,eo11⟩:=Kd.R_slice A6.out;subst eo11;have F0:=B6.out;have F1:=B5.out;obtain ⟨C3,C4,C5,C6⟩:=cf2 A4;obtain ⟨C7,C8,C9,D0⟩:=cf2 A0) | (refine goK 53 (some 10) rfl Try.func53 #[.slice A0_1 l0_1.length c0_1] ?_;(with_reducible refine (laws_toSubS.calls k _ _ l0_1 t235 _ ?side1 ?side2 A3.out).mono ?_);(case side1=>exact cV C1 HB);(case side2=>exact C2.out);rintro e w15 ⟨v236,rfl,ho0,hb⟩;refine ⟨_,rfl,?_⟩;replace A6:=rF A6 A4 hb;have B8:=rL ho0 HB;replace A0:=bB A0 hb;replace A1:=bB A1 hb;replace A4:=bP (o:=.cells #[.slice A9 t232.length B0,.slice none 0 0] 33 (0,0)) A4 hb;replace HB:=hS HB hb;(try clear hb);(try clear hb2);(try clear hk);(try clear hi);(try clear ho0);obtain ⟨A7,A8,eo16⟩:=Kd.R_slice B8.out;subst eo16;obtain ⟨D1,D2,D3,D4⟩:=cf2 A4;obtain ⟨D5,D6,D7,D8⟩:=cf2 A1))
 refine bodyPost_ret (results_cell_row rfl _ _ A5 33 #[.slice A9 t232.length B0,.slice A7 t235.length A8] (0,0) _ rfl (vP A1) Try.underlying33 rfl (by kernel_rfl)) rfl ?_
 exact ⟨_,_,by first | rfl | (simp [errW_none,errW_some] <;> rfl) | (simp [*,errW_none,errW_some] <;> rfl),by (with_reducible repeat (first | apply Kd.R_alloc | apply Kd.R_drewN | apply Kd.R_drew));exact Kd.R_mono (Kd.R_far (p:=⟨A5,1,none⟩) (Kd.R_far (p:=⟨A5,0,none⟩) (Kd.R_far (p:=⟨B7,1,none⟩) (Kd.R_types (Kd.R_types A6.out A4.out (by decide)) A1.out (by decide)) (fun _ hk=>hk.1.2) (.slice A7 t235.length A8)) (fun _ hk=>hk.2) (.slice A9 t232.length B0)) (fun _ hk=>hk.2) (.slice A7 t235.length A8)) (fun _ hk=>trivial),by (with_reducible repeat (first | apply Kd.R_alloc | apply Kd.R_drewN | apply Kd.R_drew));exact Kd.R_mono (Kd.R_far (p:=⟨A5,1,none⟩) (Kd.R_far (p:=⟨A5,0,none⟩) (Kd.R_far (p:=⟨B7,1,none⟩) (Kd.R_types (Kd.R_types B8.out A4.out (by decide)) A1.out (by decide)) (fun _ hk=>hk.1.2) (.slice A7 t235.length A8)) (fun _ hk=>hk.2) (.slice A9 t232.length B0)) (fun _ hk=>hk.2) (.slice A7 t235.length A8)) (fun _ hk=>trivial),hV HB⟩

/-! ### laws_toIntS: function 83 -/
def laws_toIntS.l0:Nat→List Int→List Int→Int→Option (List Int)
 | 0,_,_,_=>none
 | k + 1,x0,x3,x4=>if x4 < (x0.length:Int) then (if 0≤x4 then (if x4 < (x3.length:Int) then (laws_toIntS.l0 k x0 (x3.set (x4:Int).toNat (rd x0 x4)) (wrap64 (x4 + 1))) else (none)) else (none)) else (some x3)
def laws_toIntS.f (k:Nat) (l0:List Int):Option (List Int):=if 0≤(l0.length:Int) then (if ((l0.length:Int):Int).toNat≤35184372088832 then (laws_toIntS.l0 k l0 (List.replicate ((l0.length:Int):Int).toNat 0) 0) else (none)) else (none)
set_option maxHeartbeats 8000000 in
set_option maxRecDepth 100000 in
theorem laws_toIntS.calls (k:Nat) (A0:Option Addr) (c0:Nat) (l0:List Int) (r:List Int) (w:World) (hr0:Kd.C (Kd.int .i64) w A0 l0.length l0) (hc0:l0.length≤c0) (h:laws_toIntS.f k l0=some r) :
  Calls Try.prog 83 #[.slice A0 l0.length c0] w fun e w'=> ∃ v0_:Value,e=.returned (v0_)∧Kd.R (Kd.int .i64) 3 w' w.heap.size (fun _=>True) v0_ r∧Below w.heap.size w w':=by
 have B8:=Aside0.mk hr0
 have C6:=Aside0.mk hc0
 clear hr0 hc0
 have HB:=Aside0.mk (Below.refl w.heap.size w)
 have H:(if 0≤(l0.length:Int) then (if ((l0.length:Int):Int).toNat≤35184372088832 then (laws_toIntS.l0 k l0 (List.replicate ((l0.length:Int):Int).toNat 0) 0) else (none)) else (none))=some r:=h
 clear h
 by_cases c2:0≤(l0.length:Int)
 rotate_left
 ·rw [if_neg c2] at H
  exact absurd H (by simp)

 rw [if_pos c2] at H
 have B1:=eq_true c2
 have B2:=decide_eq_true c2
 clear c2
 by_cases c3:((l0.length:Int):Int).toNat≤35184372088832
 rotate_left
 ·rw [if_neg c3] at H
  exact absurd H (by simp)
 rw [if_pos c3] at H
 have B3:=eq_true c3
 have B4:=decide_eq_true c3
 clear c3
 obtain ⟨y238,hy238⟩:∃ y_:List Int,y_=(List.replicate ((l0.length:Int):Int).toNat 0):=⟨_,rfl⟩
 replace H:(laws_toIntS.l0 k l0 y238 0)=some r:=by first | (rw [hy238];with_reducible exact H) | (have H2_:=(Option.bind_some _ _).symm.trans H;rw [hy238];with_reducible exact H2_) | (have H2_:=(Option.bind_some _ _).symm.trans H;with_reducible exact H2_) | with_reducible exact H | (rw [hy238];exact H) | exact H
 have A6:=Aside0.mk hy238
 clear hy238
 have H':=Aside0.mk H
 clear H
 go_enter Try.func83,Try.ntmps83
 go_wp2_with (first | ((with_reducible refine gate_dst (N:=7) rfl ?_);refine Kd.R_make (Kd.int .i64) _ 3 rfl (N:=7) rfl 55 _ _ rfl (l0.length:Int) rfl rfl Try.underlying55 (.int .i64 0) 8 info3 rfl (by decide) (by omega) 0 (ok:=fun _=>True) (okp:=fun _=>True) rfl (fun _ hk=>hk) trivial (dT) (Nat.le_trans (Nat.mul_le_mul_right _ (dT:(l0.length:Int).toNat≤35184372088832)) (by omega)) (Below.refl _ _) (Nat.le_refl _) ?_;intro v239 w4 ho5 hb hg_ hnew_;clear hg_ hnew_;(first | rw [← A6.out] at ho5 | (simp only [Int.reduceToNat] at ho5;rw [← A6.out] at ho5));have A8:=rL ho5 HB;replace HB:=hS HB hb;clear hb ho5))
 go_loopg [4] k (fun kq v4 w'=> ∃ (x3_1:List Int) (x4_1:Int),v4=.int .i64 x4_1∧Aside0 (laws_toIntS.l0 kq l0 x3_1 x4_1=some r)∧Aside0 (kq≤k)∧Aside0 (Kd.R (Kd.int .i64) 3 w' w.heap.size (fun _=>True) v239 x3_1)∧Aside0 (Below w.heap.size w w'))
 case atStart=>exact ⟨(y238),(0),(by first | rfl | (simp;done) | (simp [*];done)),H',⟨Nat.le_refl _⟩,⟨rV A8⟩,⟨hV HB⟩⟩
 clear H'
 try clear c2
 try clear B1
 try clear B2
 try clear c3
 try clear B3
 try clear B4
 obtain ⟨x3_1,x4_1,rfl,HA,HK1,A1,HB⟩:=hrel
 cases gk with
 | zero=>exact absurd HA.out (by simp [laws_toIntS.l0])
 | succ k1=>
  have H:=HA.out
  clear HA
  simp only [laws_toIntS.l0] at H
  by_cases c6:x4_1 < (l0.length:Int)
  rotate_left
  ·rw [if_neg c6] at H
   have B5:=decide_eq_false c6
   clear c6
   obtain rfl:=Option.some.inj H
   go_wp2
   go_ret
   exact ⟨_,by first | rfl | (simp [errW_none,errW_some] <;> rfl) | (simp [*,errW_none,errW_some] <;> rfl),rV A1,hV HB⟩
  rw [if_pos c6] at H
  have B5:=decide_eq_true c6
  clear c6
  by_cases c7:0≤x4_1
  rotate_left
  ·rw [if_neg c7] at H
   exact absurd H (by simp)
  rw [if_pos c7] at H
  have C4:=decide_eq_true c7
  clear c7
  by_cases c8:x4_1 < (x3_1.length:Int)
  rotate_left
  ·rw [if_neg c8] at H
   exact absurd H (by simp)
  rw [if_pos c8] at H
  have C5:=decide_eq_true c8
  clear c8
  obtain ⟨y242,hy242⟩:∃ y_:List Int,y_=(x3_1.set (x4_1:Int).toNat (rd l0 x4_1)):=⟨_,rfl⟩
  replace H:(laws_toIntS.l0 k1 l0 y242 (wrap64 (x4_1 + 1)))=some r:=by first | (rw [hy242];with_reducible exact H) | (have H2_:=(Option.bind_some _ _).symm.trans H;rw [hy242];with_reducible exact H2_) | (have H2_:=(Option.bind_some _ _).symm.trans H;with_reducible exact H2_) | with_reducible exact H | (rw [hy242];exact H) | exact H
  have A9:=Aside0.mk hy242
  clear hy242
  have H':=Aside0.mk H
  clear H
  have A3:0≤(x4_1:Int):=dT
  have A4:x4_1 < (l0.length:Int):=dT
  obtain ⟨C1,e241,A2⟩:=Kd.at_int B8.out x4_1 A3 A4
  cases e241
  replace A2:=xc HB A2
  replace A3:=eq_true A3
  replace A4:=eq_true A4
  have p9:0≤(x4_1:Int):=dT
  have q9:(x4_1:Int) < ((x3_1.length:Int):Int):=dT
  obtain ⟨A7,B9,eo9,B0,gl9,cl9,HG9⟩:=Kd.R_form A1.out (by omega)
  (first | cases eo9 | (injection eo9 with ea_ en_ ec_;(first | subst ea_ | (injection ea_ with ea_;subst ea_));subst ec_;clear en_))
  have C0:=Aside0.mk B0
  have C7:=Aside0.mk HG9
  clear B0 gl9 HG9
  obtain ⟨C2,C3⟩:=Kd.R_celln 0 A1.out (x4_1:Int) p9 q9
  replace p9:=eq_true p9
  replace q9:=eq_true q9
  have A5:=Kd.R_putg A1.out (x4_1:Int) (rd l0 x4_1)
  go_wp2_with (first | ((with_reducible refine gate_store (t:=3) (p:=20) rfl ?_);refine store_event (t:=3) (p:=20) (v:=?vo_w11) (w1:=(wr.setCell ⟨A7,(x4_1:Int).toNat,none⟩ (.int .i64 (rd l0 x4_1)))) ?hg ?ho ?hn ?hr ?_;(case ho=>rfl);(case hg=>rfl);(case hn=>rfl);(case hr=>first | (go_simp;done) | (go_simp;rfl));intro w11 hw;have hg:wr.grownBy w11 (some A7):=(by rw [hw];exact A5.2);have hp_:Kd.R (Kd.int .i64) 3 w11 w.heap.size (fun _=>True) (.slice (some ⟨A7,0,none⟩) x3_1.length B9) y242:=(by rw [hw,A9.out];exact A5.1);clear A5;replace A1:=Aside0.mk (hp_);replace HB:=Aside0.mk ((by rw [hw];exact below_set (HB.out) C0.out:Below w.heap.size w w11));clear hg hw hp_))
  go_roundg k1
  case measure=>have:=HK1.out;omega
  case rel=>exact ⟨(y242),(wrap64 (x4_1 + 1)),(by first | rfl | (simp;done) | (simp [*];done)),H',⟨by have:=HK1.out;omega⟩,⟨rV A1⟩,⟨hV HB⟩⟩
/-! ### laws_toDecl: function 78 -/
def laws_toDecl.f (k:Nat) (l0_0:List Int) (a0_1:Int):Option (List Int × Int):=(laws_toIntS.f k l0_0).bind fun t246=>(some (t246,a0_1))
set_option maxHeartbeats 8000000 in
set_option maxRecDepth 100000 in
theorem laws_toDecl.calls (k:Nat) (A0_0:Option Addr) (c0_0:Nat) (l0_0:List Int) (a0_1:Int) (r1:List Int) (r2:Int) (w:World) (hr0_0:Kd.C (Kd.int .i64) w A0_0 l0_0.length l0_0) (hc0_0:l0_0.length≤c0_0) (h:laws_toDecl.f k l0_0 a0_1=some (r1,r2)) :
  Calls Try.prog 78 #[.agg #[.slice A0_0 l0_0.length c0_0,.int .i64 a0_1]] w fun e w'=> ∃ v0_:Value,e=.returned (.agg #[v0_,.int .i64 r2])∧Kd.R (Kd.int .i64) 3 w' w.heap.size (fun _=>True) v0_ r1∧Below w.heap.size w w':=by
 have hu113:=Try.underlying113
 have hu68:=Try.underlying68
 have B5:=Aside0.mk hr0_0
 have B6:=Aside0.mk hc0_0
 clear hr0_0 hc0_0
 have HB:=Aside0.mk (Below.refl w.heap.size w)
 have H:((laws_toIntS.f k l0_0).bind fun t246=>(some (t246,a0_1)))=some (r1,r2):=h
 clear h
 replace H:=Option.bind_eq_some_iff.mp H
 obtain ⟨t246,A20,H⟩:=H
 replace H:(some (t246,a0_1))=some (r1,r2):=H
 have A2:=Aside0.mk A20
 clear A20
 simp only [Option.some.injEq,Prod.mk.injEq] at H
 obtain ⟨rfl,rfl⟩:=H
 go_enter Try.func78,Try.ntmps78
 go_wp2_with (first | (refine bx 1 rfl #[.slice A0_0 l0_0.length c0_0,.int .i64 a0_1] 113 ?_;intro D3 hg w3 hbox hb;have A0:=Aside0.mk (hbox);have D4:=hZ HB hg;have D5:=hZ HB hg;replace HB:=hS HB hb;clear hb hbox hg) | (refine bx 2 rfl #[.slice none 0 0,.int .i64 0] 68 ?_;intro A4 hg w4 hbox hb;have A1:=Aside0.mk (hbox);have D6:=hZ HB hg;have D7:=hZ HB hg;replace HB:=hS HB hb;have A5:=nL A0 hg;have A6:=nG A0 hg;replace A0:=bB A0 hb;clear hb hbox hg) | (refine bx 3 rfl #[.slice none 0 0,.int .i64 0] 68 ?_;intro B3 hg w5 hbox hb;have A3:=Aside0.mk (hbox);have D8:=hZ HB hg;have D9:=hZ HB hg;replace HB:=hS HB hb;have A7:=nL A0 hg;have A8:=nG A0 hg;replace A0:=bB A0 hb;have A9:=nL A1 hg;have B0:=nG A1 hg;replace A1:=bB A1 hb;clear hb hbox hg;have E2:=A5.out;have E3:=A6.out;have E4:=A7.out;have E5:=A8.out;obtain ⟨C9,D0,D1,D2⟩:=cf2 A0) | (refine goK 83 (some 6) rfl Try.func83 #[.slice A0_0 l0_0.length c0_0] ?_;(with_reducible refine (laws_toIntS.calls k _ _ l0_0 t246 _ ?side1 ?side2 A2.out).mono ?_);(case side1=>exact cB B5 HB);(case side2=>exact B6.out);rintro e w9 ⟨v247,rfl,ho0,hb⟩;refine ⟨_,rfl,?_⟩;have B4:=rL ho0 HB;replace A0:=bB A0 hb;replace A1:=bB A1 hb;replace A3:=bB A3 hb;replace HB:=hS HB hb;(try clear hb);(try clear hb2);(try clear hk);(try clear hi);(try clear ho0);obtain ⟨B1,B2,eo10⟩:=Kd.R_slice B4.out;subst eo10;have E0:=B0.out;have E1:=A9.out;obtain ⟨B7,B8,B9,C0⟩:=cf2 A3;obtain ⟨C1,C2,C3,C4⟩:=cf2 A0;obtain ⟨C5,C6,C7,C8⟩:=cf2 A1))
 refine bodyPost_ret (results_cell_row rfl _ _ A4 68 #[.slice B1 t246.length B2,.int .i64 a0_1] (0,0) _ rfl (vP A1) Try.underlying68 rfl (by kernel_rfl)) rfl ?_
 exact ⟨_,by first | rfl | (simp [errW_none,errW_some] <;> rfl) | (simp [*,errW_none,errW_some] <;> rfl),by (with_reducible repeat (first | apply Kd.R_alloc | apply Kd.R_drewN | apply Kd.R_drew));exact Kd.R_mono (Kd.R_far (p:=⟨A4,1,none⟩) (Kd.R_far (p:=⟨A4,0,none⟩) (Kd.R_far (p:=⟨B3,1,none⟩) (Kd.R_far (p:=⟨B3,0,none⟩) (Kd.R_types (Kd.R_types B4.out A3.out (by decide)) A1.out (by decide)) (fun _ hk=>hk.1.2) (.slice B1 t246.length B2)) (fun _ hk=>hk.1.2) (.int .i64 a0_1)) (fun _ hk=>hk.2) (.slice B1 t246.length B2)) (fun _ hk=>hk.2) (.int .i64 a0_1)) (fun _ hk=>trivial),hV HB⟩

/-! ### laws_toDeclS: function 70 -/
theorem laws_toDeclS.a0 {P_:Prop} (h_:P_:=by (with_reducible repeat (first | apply Kd.S_alloc | apply Kd.S_drewN | apply Kd.S_drew));exact A1.out):P_:=h_
def laws_toDeclS.l0:Nat→List (S113)→List (S68)→Int→Option ((List (S68)))
 | 0,_,_,_=>none
 | k + 1,x0,x3,x4=>if x4 < (x0.length:Int) then (if 0≤x4 then ((laws_toDecl.f k ((rd_T113 x0 x4).f0) ((rd_T113 x0 x4).f1)).bind fun bt253=>(if x4 < (x3.length:Int) then (laws_toDeclS.l0 k x0 (x3.set (x4:Int).toNat (⟨bt253.1,bt253.2⟩:S68)) (wrap64 (x4 + 1))) else (none))) else (none)) else (some x3)
def laws_toDeclS.f (k:Nat) (l0:List (S113)):Option ((List (S68))):=if 0≤(l0.length:Int) then (if ((l0.length:Int):Int).toNat≤8796093022208 then (laws_toDeclS.l0 k l0 (List.replicate ((l0.length:Int):Int).toNat z68) 0) else (none)) else (none)
set_option maxHeartbeats 8000000 in
set_option maxRecDepth 100000 in
theorem laws_toDeclS.calls (k:Nat) (A0:Option Addr) (c0:Nat) (l0:List (S113)) (r:List (S68)) (w:World) (hr0:Kd.C k113 w A0 l0.length l0) (hc0:l0.length≤c0) (h:laws_toDeclS.f k l0=some r) :
  Calls Try.prog 70 #[.slice A0 l0.length c0] w fun e w'=> ∃ v0_:Value,e=.returned (v0_)∧Kd.S k68 68 w' w.heap.size (fun _=>True) v0_ r∧Below w.heap.size w w':=by
 have hu113:=Try.underlying113
 have hu68:=Try.underlying68
 have E0:=Aside0.mk hr0
 have E9:=Aside0.mk hc0
 clear hr0 hc0
 have HB:=Aside0.mk (Below.refl w.heap.size w)
 have H:(if 0≤(l0.length:Int) then (if ((l0.length:Int):Int).toNat≤8796093022208 then (laws_toDeclS.l0 k l0 (List.replicate ((l0.length:Int):Int).toNat z68) 0) else (none)) else (none))=some r:=h
 clear h
 by_cases c2:0≤(l0.length:Int)
 rotate_left
 ·rw [if_neg c2] at H
  exact absurd H (by simp)

 rw [if_pos c2] at H
 have D4:=eq_true c2
 have D5:=decide_eq_true c2
 clear c2
 by_cases c3:((l0.length:Int):Int).toNat≤8796093022208
 rotate_left
 ·rw [if_neg c3] at H
  exact absurd H (by simp)
 rw [if_pos c3] at H
 have D6:=eq_true c3
 have D7:=decide_eq_true c3
 clear c3
 obtain ⟨y249,hy249⟩:∃ y_:List (S68),y_=(List.replicate ((l0.length:Int):Int).toNat z68):=⟨_,rfl⟩
 replace H:(laws_toDeclS.l0 k l0 y249 0)=some r:=by first | (rw [hy249];with_reducible exact H) | (have H2_:=(Option.bind_some _ _).symm.trans H;rw [hy249];with_reducible exact H2_) | (have H2_:=(Option.bind_some _ _).symm.trans H;with_reducible exact H2_) | with_reducible exact H | (rw [hy249];exact H) | exact H
 have B6:=Aside0.mk hy249
 clear hy249
 have H':=Aside0.mk H
 clear H
 go_enter Try.func70,Try.ntmps70
 go_wp2_with (first | ((with_reducible refine gate_dst (N:=7) rfl ?_);refine Kd.S_make k68 _ 68 rfl (N:=7) rfl 48 _ _ rfl (l0.length:Int) rfl rfl Try.underlying48 (.agg #[(.slice none 0 0),(.int .i64 0)]) 32 info68 rfl (by decide) (by omega) z68 (ok:=fun _=>True) (okp:=fun _=>True) (k68_mkM _ _ _ z68 (Kd.R_nil _ _ _ _ _)) (fun _ hk=>hk) trivial (dT) (Nat.le_trans (Nat.mul_le_mul_right _ (dT:(l0.length:Int).toNat≤8796093022208)) (by omega)) (Below.refl _ _) (Nat.le_refl _) ?_;intro v250 w4 ho5 hb hg_ hnew_;clear hg_ hnew_;(first | rw [← B6.out] at ho5 | (simp only [Int.reduceToNat] at ho5;rw [← B6.out] at ho5));have D0:=Aside0.mk (Kd.S_lower ho5 (below_size (hV HB)));replace HB:=hS HB hb;clear hb ho5))
 go_loopg [4] k (fun kq v4 w'=> ∃ (x3_1:List (S68)) (x4_1:Int),v4=.int .i64 x4_1∧Aside0 (laws_toDeclS.l0 kq l0 x3_1 x4_1=some r)∧Aside0 (kq≤k)∧Aside0 (Kd.S k68 68 w' w.heap.size (fun _=>True) v250 x3_1)∧Aside0 (Below w.heap.size w w'))
 case atStart=>exact ⟨(y249),(0),(by first | rfl | (simp;done) | (simp [*];done)),H',⟨Nat.le_refl _⟩,⟨by (with_reducible repeat (first | apply Kd.S_alloc | apply Kd.S_drewN | apply Kd.S_drew));exact D0.out⟩,⟨hV HB⟩⟩
 clear H'
 try clear c2
 try clear D4
 try clear D5
 try clear c3
 try clear D6
 try clear D7
 obtain ⟨x3_1,x4_1,rfl,HA,HK1,A1,HB⟩:=hrel
 cases gk with
 | zero=>exact absurd HA.out (by simp [laws_toDeclS.l0])
 | succ k1=>
  have H:=HA.out
  clear HA
  simp only [laws_toDeclS.l0] at H
  by_cases c6:x4_1 < (l0.length:Int)
  rotate_left
  ·rw [if_neg c6] at H
   have D8:=decide_eq_false c6
   clear c6
   obtain rfl:=Option.some.inj H
   go_wp2
   go_ret
   exact ⟨_,by first | rfl | (simp [errW_none,errW_some] <;> rfl) | (simp [*,errW_none,errW_some] <;> rfl),laws_toDeclS.a0,hV HB⟩
  rw [if_pos c6] at H
  have D8:=decide_eq_true c6
  clear c6
  by_cases c7:0≤x4_1
  rotate_left
  ·rw [if_neg c7] at H
   exact absurd H (by simp)
  rw [if_pos c7] at H
  have E6:=decide_eq_true c7
  clear c7
  replace H:=Option.bind_eq_some_iff.mp H
  obtain ⟨⟨t253,t256⟩,A80,H⟩:=H
  replace H:(if x4_1 < (x3_1.length:Int) then (laws_toDeclS.l0 k1 l0 (x3_1.set (x4_1:Int).toNat (⟨t253,t256⟩:S68)) (wrap64 (x4_1 + 1))) else (none))=some r:=H
  have A8:=Aside0.mk A80
  clear A80
  by_cases c9:x4_1 < (x3_1.length:Int)
  rotate_left
  ·rw [if_neg c9] at H
   exact absurd H (by simp)
  rw [if_pos c9] at H
  have E7:=decide_eq_true c9
  clear c9
  obtain ⟨y257,hy257⟩:∃ y_:List (S68),y_=(x3_1.set (x4_1:Int).toNat (⟨t253,t256⟩:S68)):=⟨_,rfl⟩
  replace H:(laws_toDeclS.l0 k1 l0 y257 (wrap64 (x4_1 + 1)))=some r:=by first | (rw [hy257];with_reducible exact H) | (have H2_:=(Option.bind_some _ _).symm.trans H;rw [hy257];with_reducible exact H2_) | (have H2_:=(Option.bind_some _ _).symm.trans H;with_reducible exact H2_) | with_reducible exact H | (rw [hy257];exact H) | exact H
  have D1:=Aside0.mk hy257
  clear hy257
  have H':=Aside0.mk H
  clear H
  have B3:0≤(x4_1:Int):=dT
  have B4:x4_1 < (l0.length:Int):=dT
  obtain ⟨E5,A252_0,c252_0,e252,A4,A5,A6,A7⟩:=at_T113 E0.out x4_1 B3 B4
  cases e252
  replace A4:=xc HB A4
  replace A5:=xc HB A5
  have B7:=Aside0.mk A7
  have B8:=Aside0.mk A6
  clear A7 A6
  replace B3:=eq_true B3
  replace B4:=eq_true B4
  go_wp2_with (first | (refine goK 78 (some 20) rfl Try.func78 #[.agg #[.slice A252_0 ((rd_T113 l0 x4_1).f0).length c252_0,.int .i64 ((rd_T113 l0 x4_1).f1)]] ?_;(with_reducible refine (laws_toDecl.calls k1 _ _ ((rd_T113 l0 x4_1).f0) ((rd_T113 l0 x4_1).f1) t253 t256 _ ?side1 ?side2 A8.out).mono ?_);(case side1=>exact cB B7 HB);(case side2=>exact B8.out);rintro e w11 ⟨v254,rfl,ho0,hb⟩;refine ⟨_,rfl,?_⟩;replace A1:=Aside0.mk (Kd.S_elder' laws_toDeclS.a0 (Kd.R_base ho0) hb);have A3:=rL ho0 HB;replace HB:=hS HB hb;(try clear hb);(try clear hb2);(try clear hk);(try clear hi);(try clear ho0);have B9:0≤(x4_1:Int):=dT;have C0:(x4_1:Int) < ((x3_1.length:Int):Int):=dT;obtain ⟨A2,C1,eo10,C2,gl10,cl10,HG10⟩:=Kd.S_form A1.out (by omega);(first | cases eo10 | (injection eo10 with ea_ en_ ec_;(first | subst ea_ | (injection ea_ with ea_;subst ea_));subst ec_;clear en_));have C3:=Aside0.mk C2;have E8:=Aside0.mk HG10;clear C2 gl10 HG10;obtain ⟨_,ce10,D2,C4,A9,B0,_,_⟩:=Kd.S_elem A1.out z68 (x4_1:Int) B9 C0;obtain ⟨ve10_0,rfl,ge10_0⟩:=k68_openM C4;have E1:w11.cell? ⟨A2,(x4_1:Int).toNat * 2,none⟩=some (ve10_0):=A9 0 _ rfl;have E2:w11.cell? ⟨A2,(x4_1:Int).toNat * 2 + 1,none⟩=some (.int .i64 ((rd_T68 x3_1 x4_1).f1)):=A9 1 _ rfl;have E3:w11.frozen? ⟨A2,(x4_1:Int).toNat * 2,none⟩=false:=B0 0;have E4:w11.frozen? ⟨A2,(x4_1:Int).toNat * 2 + 1,none⟩=false:=B0 1;clear D2 A9 B0 C4;replace B9:=eq_true B9;replace C0:=eq_true C0;have n_:=Aside0.mk (Kd.S_mono (ok':=(fun k_=>some k_≠(v254:Value).ownBlock)) A1.out (fun k_ hk=>hk.2));clear A1;have A1:=n_;clear n_;have D9:=Aside0.mk (show Kd.S k68 68 w11 w.heap.size (fun k_=>((fun _=>True)) k_∧¬ ((fun k_=>some k_=(v254:Value).ownBlock)) k_) (.slice (some ⟨A2,0,none⟩) x3_1.length C1) x3_1 from (by (with_reducible repeat (first | apply Kd.S_alloc | apply Kd.S_drewN | apply Kd.S_drew));exact Kd.S_mono A1.out (fun k_ hk=>⟨trivial,fun e_=>hk e_⟩)));obtain ⟨oki12,ce12,D3,C5,B1,B2,hoki12,hH12⟩:=Kd.S_elem D9.out z68 (x4_1:Int) (dT) (by have h_:(x4_1:Int) < ((x3_1.length:Int):Int):=dT;first | exact h_ | (have e_:=(Kd.S_reads' A1.out).1;omega) | simpa using h_);obtain ⟨ve12_0,rfl,ge12_0⟩:=k68_openM C5;have B5:=Kd.S_seg hH12 (dT) (by have h_:(x4_1:Int) < ((x3_1.length:Int):Int):=dT;first | exact h_ | (have e_:=(Kd.S_reads' A1.out).1;omega) | simpa using h_) (seg:=[v254,.int .i64 t256]) (j:=0) (show 2≤2 from by decide) (x':=(⟨t253,t256⟩:S68)) (k68_mkM _ _ _ (⟨t253,t256⟩:S68) (Kd.R_mono (Kd.R_tight rfl (Kd.R_mono (ok':=fun k_=>((fun _=>True)) k_∧k_≠A2) (Kd.R_apart' (A3.out) (Kd.S_typed A1.out) (by decide)) (fun k_ hk=>⟨trivial,fun e_=>(hk.2) (by rw [e_];rfl)⟩))) (fun _ h_=>Or.inr (h_)))) (fun _ hk=>hk) (fun k_ hk_=>((Kd.R_mono (ok':=fun k_=>((fun _=>True)) k_∧k_≠A2) (Kd.R_apart' (A3.out) (Kd.S_typed A1.out) (by decide)) (fun k_ hk=>⟨trivial,fun e_=>(hk.2) (by rw [e_];rfl)⟩))).1 k_ hk_.symm);have C6:=B1 0 _ rfl;(try simp only [show (k68).sz=2 from rfl,Nat.mul_one,Nat.add_zero] at C6);have C7:=B2 0;(try simp only [show (k68).sz=2 from rfl,Nat.mul_one,Nat.add_zero] at C7);have C8:=B1 1 _ rfl;(try simp only [show (k68).sz=2 from rfl,Nat.mul_one,Nat.add_zero] at C8);have C9:=B2 1;(try simp only [show (k68).sz=2 from rfl,Nat.mul_one,Nat.add_zero] at C9);clear D3 B1 B2 C5 hoki12 hH12) | ((with_reducible refine gate_store (t:=68) (p:=21) rfl ?_);refine store_event (t:=68) (p:=21) (v:=?vo_w13) (w1:=((w11.setCell ⟨A2,(x4_1:Int).toNat * 2,none⟩ (v254)).setCell ⟨A2,(x4_1:Int).toNat * 2 + 1,none⟩ (.int .i64 t256))) ?hg ?ho ?hn ?hr ?_;(case ho=>rfl);(case hg=>rfl);(case hn=>rfl);(case hr=>first | (go_simp;done) | (go_simp;rfl) | (obtain ⟨a0_,c0_,e0_⟩:=Kd.R_slice A3.out;rw [e0_];first | (go_simp;done) | (go_simp;rfl)));intro w13 hw;have hg:w11.grownBy w13 (some A2):=(by rw [hw];exact B5.2);have hp_:Kd.S k68 68 w13 w.heap.size (fun _=>True) (.slice (some ⟨A2,0,none⟩) x3_1.length C1) y257:=(by rw [hw,D1.out];exact B5.1);clear B5;replace A1:=Aside0.mk (hp_);replace HB:=Aside0.mk ((by rw [hw];exact below_set (below_set (HB.out) C3.out) C3.out:Below w.heap.size w w13));clear A3;clear hg hw hp_))
  go_roundg k1
  case measure=>have:=HK1.out;omega
  case rel=>exact ⟨(y257),(wrap64 (x4_1 + 1)),(by first | rfl | (simp;done) | (simp [*];done)),H',⟨by have:=HK1.out;omega⟩,⟨laws_toDeclS.a0⟩,⟨hV HB⟩⟩
/-! ### laws_toOp: function 54 -/
def laws_toOp.f (k:Nat) (a0_0:ByteArray) (l0_1:List (S113)) (a0_2:Bool) (a0_3:Bool) (a0_4:Int):Option (ByteArray × (List (S68)) × Bool × Bool × Int):=(laws_toDeclS.f k l0_1).bind fun t261=>(some (a0_0,t261,a0_2,a0_3,a0_4))
set_option maxHeartbeats 8000000 in
set_option maxRecDepth 100000 in
theorem laws_toOp.calls (k:Nat) (a0_0:ByteArray) (A0_1:Option Addr) (c0_1:Nat) (l0_1:List (S113)) (a0_2:Bool) (a0_3:Bool) (a0_4:Int) (r1:ByteArray) (r2:List (S68)) (r3:Bool) (r4:Bool) (r5:Int) (w:World) (hr0_1:Kd.C k113 w A0_1 l0_1.length l0_1) (hc0_1:l0_1.length≤c0_1) (h:laws_toOp.f k a0_0 l0_1 a0_2 a0_3 a0_4=some (r1,r2,r3,r4,r5)) :
  Calls Try.prog 54 #[.agg #[.string a0_0,.slice A0_1 l0_1.length c0_1,.bool a0_2,.bool a0_3,.int .i64 a0_4]] w fun e w'=> ∃ v1_:Value,e=.returned (.agg #[.string r1,v1_,.bool r3,.bool r4,.int .i64 r5])∧Kd.S k68 68 w' w.heap.size (fun _=>True) v1_ r2∧Below w.heap.size w w':=by
 have hu86:=Try.underlying86
 have hu50:=Try.underlying50
 have B5:=Aside0.mk hr0_1
 have B6:=Aside0.mk hc0_1
 clear hr0_1 hc0_1
 have HB:=Aside0.mk (Below.refl w.heap.size w)
 have H:((laws_toDeclS.f k l0_1).bind fun t261=>(some (a0_0,t261,a0_2,a0_3,a0_4)))=some (r1,r2,r3,r4,r5):=h
 clear h
 replace H:=Option.bind_eq_some_iff.mp H
 obtain ⟨t261,A20,H⟩:=H
 replace H:(some (a0_0,t261,a0_2,a0_3,a0_4))=some (r1,r2,r3,r4,r5):=H
 have A2:=Aside0.mk A20
 clear A20
 simp only [Option.some.injEq,Prod.mk.injEq] at H
 obtain ⟨rfl,rfl,rfl,rfl,rfl⟩:=H
 go_enter Try.func54,Try.ntmps54
 go_wp2_with (first | (refine bx 1 rfl #[.string a0_0,.slice A0_1 l0_1.length c0_1,.bool a0_2,.bool a0_3,.int .i64 a0_4] 86 ?_;intro G7 hg w3 hbox hb;have A0:=Aside0.mk (hbox);have G8:=hZ HB hg;have G9:=hZ HB hg;replace HB:=hS HB hb;clear hb hbox hg) | (refine bx 2 rfl #[.string (⟨#[]⟩:ByteArray),.slice none 0 0,.bool false,.bool false,.int .i64 0] 50 ?_;intro A3 hg w4 hbox hb;have A1:=Aside0.mk (hbox);have H0:=hZ HB hg;have H1:=hZ HB hg;replace HB:=hS HB hb;have A6:=nL A0 hg;have A7:=nG A0 hg;replace A0:=bB A0 hb;clear hb hbox hg) | (refine bx 3 rfl #[.string (⟨#[]⟩:ByteArray),.slice none 0 0,.bool false,.bool false,.int .i64 0] 50 ?_;intro A5 hg w5 hbox hb;have A4:=Aside0.mk (hbox);have H2:=hZ HB hg;have H3:=hZ HB hg;replace HB:=hS HB hb;have A8:=nL A0 hg;have A9:=nG A0 hg;replace A0:=bB A0 hb;have B0:=nL A1 hg;have B1:=nG A1 hg;replace A1:=bB A1 hb;clear hb hbox hg;have H4:=A6.out;have H5:=A7.out;have H6:=A8.out;have H7:=A9.out;obtain ⟨F7,F8,F9,G0,G1,G2,G3,G4,G5,G6⟩:=cf5 A0;have H8:=B1.out;have H9:=B0.out;obtain ⟨B7,B8,B9,C0,C1,C2,C3,C4,C5,C6⟩:=cf5 A4) | (refine goK 70 (some 9) rfl Try.func70 #[.slice A0_1 l0_1.length c0_1] ?_;(with_reducible refine (laws_toDeclS.calls k _ _ l0_1 t261 _ ?side1 ?side2 A2.out).mono ?_);(case side1=>exact cV B5 HB);(case side2=>exact B6.out);rintro e w11 ⟨v262,rfl,ho0,hb⟩;refine ⟨_,rfl,?_⟩;have B4:=Aside0.mk (Kd.S_lower ho0 (below_size (hV HB)));replace A0:=bB A0 hb;replace A1:=bB A1 hb;replace A4:=bP (o:=.cells #[.string a0_0,.slice none 0 0,.bool false,.bool false,.int .i64 0] 50 (0,0)) A4 hb;replace HB:=hS HB hb;(try clear hb);(try clear hb2);(try clear hk);(try clear hi);(try clear ho0);obtain ⟨B2,B3,eo12⟩:=Kd.S_slice B4.out;subst eo12;obtain ⟨C7,C8,C9,D0,D1,D2,D3,D4,D5,D6⟩:=cf5 A4;obtain ⟨D7,D8,D9,E0,E1,E2,E3,E4,E5,E6⟩:=cf5 A0;obtain ⟨E7,E8,E9,F0,F1,F2,F3,F4,F5,F6⟩:=cf5 A1))
 refine bodyPost_ret (results_cell_row rfl _ _ A3 50 #[.string a0_0,.slice B2 t261.length B3,.bool a0_2,.bool a0_3,.int .i64 a0_4] (0,0) _ rfl (vP A1) Try.underlying50 rfl (by kernel_rfl)) rfl ?_
 exact ⟨_,by first | rfl | (simp [errW_none,errW_some] <;> rfl) | (simp [*,errW_none,errW_some] <;> rfl),by (with_reducible repeat (first | apply Kd.S_alloc | apply Kd.S_drewN | apply Kd.S_drew));exact Kd.S_mono (Kd.S_far (p:=⟨A3,4,none⟩) (Kd.S_far (p:=⟨A3,3,none⟩) (Kd.S_far (p:=⟨A3,2,none⟩) (Kd.S_far (p:=⟨A3,1,none⟩) (Kd.S_far (p:=⟨A3,0,none⟩) (Kd.S_far (p:=⟨A5,4,none⟩) (Kd.S_far (p:=⟨A5,3,none⟩) (Kd.S_far (p:=⟨A5,2,none⟩) (Kd.S_far (p:=⟨A5,1,none⟩) (Kd.S_types (Kd.S_types B4.out A4.out (by decide)) A1.out (by decide)) (fun _ hk=>hk.1.2) (.slice B2 t261.length B3)) (fun _ hk=>hk.1.2) (.bool a0_2)) (fun _ hk=>hk.1.2) (.bool a0_3)) (fun _ hk=>hk.1.2) (.int .i64 a0_4)) (fun _ hk=>hk.2) (.string a0_0)) (fun _ hk=>hk.2) (.slice B2 t261.length B3)) (fun _ hk=>hk.2) (.bool a0_2)) (fun _ hk=>hk.2) (.bool a0_3)) (fun _ hk=>hk.2) (.int .i64 a0_4)) (fun _ hk=>trivial),hV HB⟩

/-! ### laws_toOpS: function 28 -/
def laws_toOpS.l0:Nat→List (S86)→List (S50)→Int→Option ((List (S50)))
 | 0,_,_,_=>none
 | k + 1,x0,x3,x4=>if x4 < (x0.length:Int) then (if 0≤x4 then ((laws_toOp.f k ((rd_T86 x0 x4).f0) ((rd_T86 x0 x4).f1) ((rd_T86 x0 x4).f2) ((rd_T86 x0 x4).f3) ((rd_T86 x0 x4).f4)).bind fun bt268=>(if x4 < (x3.length:Int) then (laws_toOpS.l0 k x0 (x3.set (x4:Int).toNat (⟨bt268.1,bt268.2.1,bt268.2.2.1,bt268.2.2.2.1,bt268.2.2.2.2⟩:S50)) (wrap64 (x4 + 1))) else (none))) else (none)) else (some x3)
def laws_toOpS.f (k:Nat) (l0:List (S86)):Option ((List (S50))):=if 0≤(l0.length:Int) then (if ((l0.length:Int):Int).toNat≤5026338869833 then (laws_toOpS.l0 k l0 (List.replicate ((l0.length:Int):Int).toNat z50) 0) else (none)) else (none)
set_option maxHeartbeats 8000000 in
set_option maxRecDepth 100000 in
theorem laws_toOpS.calls (k:Nat) (A0:Option Addr) (c0:Nat) (l0:List (S86)) (r:List (S50)) (w:World) (hr0:Kd.C k86 w A0 l0.length l0) (hc0:l0.length≤c0) (h:laws_toOpS.f k l0=some r) :
  Calls Try.prog 28 #[.slice A0 l0.length c0] w fun e w'=> ∃ v0_:Value,e=.returned (v0_)∧Kd.R k50 50 w' w.heap.size (fun _=>True) v0_ r∧Below w.heap.size w w':=by
 have hu86:=Try.underlying86
 have hu50:=Try.underlying50
 have E9:=Aside0.mk hr0
 have G4:=Aside0.mk hc0
 clear hr0 hc0
 have HB:=Aside0.mk (Below.refl w.heap.size w)
 have H:(if 0≤(l0.length:Int) then (if ((l0.length:Int):Int).toNat≤5026338869833 then (laws_toOpS.l0 k l0 (List.replicate ((l0.length:Int):Int).toNat z50) 0) else (none)) else (none))=some r:=h
 clear h
 by_cases c2:0≤(l0.length:Int)
 rotate_left
 ·rw [if_neg c2] at H
  exact absurd H (by simp)

 rw [if_pos c2] at H
 have E4:=eq_true c2
 have E5:=decide_eq_true c2
 clear c2
 by_cases c3:((l0.length:Int):Int).toNat≤5026338869833
 rotate_left
 ·rw [if_neg c3] at H
  exact absurd H (by simp)
 rw [if_pos c3] at H
 have E6:=eq_true c3
 have E7:=decide_eq_true c3
 clear c3
 obtain ⟨y264,hy264⟩:∃ y_:List (S50),y_=(List.replicate ((l0.length:Int):Int).toNat z50):=⟨_,rfl⟩
 replace H:(laws_toOpS.l0 k l0 y264 0)=some r:=by first | (rw [hy264];with_reducible exact H) | (have H2_:=(Option.bind_some _ _).symm.trans H;rw [hy264];with_reducible exact H2_) | (have H2_:=(Option.bind_some _ _).symm.trans H;with_reducible exact H2_) | with_reducible exact H | (rw [hy264];exact H) | exact H
 have C0:=Aside0.mk hy264
 clear hy264
 have H':=Aside0.mk H
 clear H
 go_enter Try.func28,Try.ntmps28
 go_wp2_with (first | ((with_reducible refine gate_dst (N:=7) rfl ?_);refine Kd.R_make k50 _ 50 rfl (N:=7) rfl 34 _ _ rfl (l0.length:Int) rfl rfl Try.underlying34 (.agg #[(.string ⟨#[]⟩),(.slice none 0 0),(.bool false),(.bool false),(.int .i64 0)]) 56 info50 rfl (by decide) (by omega) z50 (ok:=fun _=>True) (okp:=fun _=>True) (k50_mkM _ _ _ z50 (Kd.R_nil _ _ _ _ _)) (fun _ hk=>hk) trivial (dT) (Nat.le_trans (Nat.mul_le_mul_right _ (dT:(l0.length:Int).toNat≤5026338869833)) (by omega)) (Below.refl _ _) (Nat.le_refl _) ?_;intro v265 w4 ho5 hb hg_ hnew_;clear hg_ hnew_;(first | rw [← C0.out] at ho5 | (simp only [Int.reduceToNat] at ho5;rw [← C0.out] at ho5));have E1:=rL ho5 HB;replace HB:=hS HB hb;clear hb ho5))
 go_loopg [4] k (fun kq v4 w'=> ∃ (x3_1:List (S50)) (x4_1:Int),v4=.int .i64 x4_1∧Aside0 (laws_toOpS.l0 kq l0 x3_1 x4_1=some r)∧Aside0 (kq≤k)∧Aside0 (Kd.R k50 50 w' w.heap.size (fun _=>True) v265 x3_1)∧Aside0 (Below w.heap.size w w'))
 case atStart=>exact ⟨(y264),(0),(by first | rfl | (simp;done) | (simp [*];done)),H',⟨Nat.le_refl _⟩,⟨rV E1⟩,⟨hV HB⟩⟩
 clear H'
 try clear c2
 try clear E4
 try clear E5
 try clear c3
 try clear E6
 try clear E7
 obtain ⟨x3_1,x4_1,rfl,HA,HK1,A2,HB⟩:=hrel
 cases gk with
 | zero=>exact absurd HA.out (by simp [laws_toOpS.l0])
 | succ k1=>
  have H:=HA.out
  clear HA
  simp only [laws_toOpS.l0] at H
  by_cases c6:x4_1 < (l0.length:Int)
  rotate_left
  ·rw [if_neg c6] at H
   have E8:=decide_eq_false c6
   clear c6
   obtain rfl:=Option.some.inj H
   go_wp2
   go_ret
   exact ⟨_,by first | rfl | (simp [errW_none,errW_some] <;> rfl) | (simp [*,errW_none,errW_some] <;> rfl),rV A2,hV HB⟩
  rw [if_pos c6] at H
  have E8:=decide_eq_true c6
  clear c6
  by_cases c7:0≤x4_1
  rotate_left
  ·rw [if_neg c7] at H
   exact absurd H (by simp)
  rw [if_pos c7] at H
  have G1:=decide_eq_true c7
  clear c7
  replace H:=Option.bind_eq_some_iff.mp H
  obtain ⟨⟨t268,t269,t272,t273,t274⟩,A80,H⟩:=H
  replace H:(if x4_1 < (x3_1.length:Int) then (laws_toOpS.l0 k1 l0 (x3_1.set (x4_1:Int).toNat (⟨t268,t269,t272,t273,t274⟩:S50)) (wrap64 (x4_1 + 1))) else (none))=some r:=H
  have A8:=Aside0.mk A80
  clear A80
  by_cases c9:x4_1 < (x3_1.length:Int)
  rotate_left
  ·rw [if_neg c9] at H
   exact absurd H (by simp)
  rw [if_pos c9] at H
  have G2:=decide_eq_true c9
  clear c9
  obtain ⟨y275,hy275⟩:∃ y_:List (S50),y_=(x3_1.set (x4_1:Int).toNat (⟨t268,t269,t272,t273,t274⟩:S50)):=⟨_,rfl⟩
  replace H:(laws_toOpS.l0 k1 l0 y275 (wrap64 (x4_1 + 1)))=some r:=by first | (rw [hy275];with_reducible exact H) | (have H2_:=(Option.bind_some _ _).symm.trans H;rw [hy275];with_reducible exact H2_) | (have H2_:=(Option.bind_some _ _).symm.trans H;with_reducible exact H2_) | with_reducible exact H | (rw [hy275];exact H) | exact H
  have E2:=Aside0.mk hy275
  clear hy275
  have H':=Aside0.mk H
  clear H
  have B7:0≤(x4_1:Int):=dT
  have B8:x4_1 < (l0.length:Int):=dT
  obtain ⟨G0,A267_1,c267_1,e267,A9,B0,B1,B2,B3,B4,B5⟩:=at_T86 E9.out x4_1 B7 B8
  cases e267
  replace A9:=xc HB A9
  replace B0:=xc HB B0
  replace B1:=xc HB B1
  replace B2:=xc HB B2
  replace B3:=xc HB B3
  have C2:=Aside0.mk B5
  have C3:=Aside0.mk B4
  clear B5 B4
  replace B7:=eq_true B7
  replace B8:=eq_true B8
  go_wp2_with (first | (refine goK 54 (some 20) rfl Try.func54 #[.agg #[.string ((rd_T86 l0 x4_1).f0),.slice A267_1 ((rd_T86 l0 x4_1).f1).length c267_1,.bool ((rd_T86 l0 x4_1).f2),.bool ((rd_T86 l0 x4_1).f3),.int .i64 ((rd_T86 l0 x4_1).f4)]] ?_;(with_reducible refine (laws_toOp.calls k1 ((rd_T86 l0 x4_1).f0) _ _ ((rd_T86 l0 x4_1).f1) ((rd_T86 l0 x4_1).f2) ((rd_T86 l0 x4_1).f3) ((rd_T86 l0 x4_1).f4) t268 t269 t272 t273 t274 _ ?side1 ?side2 A8.out).mono ?_);(case side1=>exact cB C2 HB);(case side2=>exact C3.out);rintro e w11 ⟨v270,rfl,ho0,hb⟩;refine ⟨_,rfl,?_⟩;replace A2:=Aside0.mk (Kd.R_elder' (rV A2) (Kd.S_base ho0) hb);have B6:=Aside0.mk (Kd.S_lower ho0 (below_size (hV HB)));replace HB:=hS HB hb;(try clear hb);(try clear hb2);(try clear hk);(try clear hi);(try clear ho0);have C4:0≤(x4_1:Int):=dT;have C5:(x4_1:Int) < ((x3_1.length:Int):Int):=dT;obtain ⟨A1,C6,eo10,C7,gl10,cl10,HG10⟩:=Kd.R_form A2.out (by omega);(first | cases eo10 | (injection eo10 with ea_ en_ ec_;(first | subst ea_ | (injection ea_ with ea_;subst ea_));subst ec_;clear en_));have A7:=Aside0.mk C7;have G3:=Aside0.mk HG10;clear C7 gl10 HG10;obtain ⟨ce10,E3,C8,A4,A5⟩:=Kd.R_elem A2.out z50 (x4_1:Int) C4 C5;obtain ⟨ve10_1,rfl,ge10_1⟩:=k50_openM C8;have F0:w11.cell? ⟨A1,(x4_1:Int).toNat * 5,none⟩=some (.string ((rd_T50 x3_1 x4_1).f0)):=A4 0 _ rfl;have F1:w11.cell? ⟨A1,(x4_1:Int).toNat * 5 + 1,none⟩=some (ve10_1):=A4 1 _ rfl;have F2:w11.cell? ⟨A1,(x4_1:Int).toNat * 5 + 2,none⟩=some (.bool ((rd_T50 x3_1 x4_1).f2)):=A4 2 _ rfl;have F3:w11.cell? ⟨A1,(x4_1:Int).toNat * 5 + 3,none⟩=some (.bool ((rd_T50 x3_1 x4_1).f3)):=A4 3 _ rfl;have F4:w11.cell? ⟨A1,(x4_1:Int).toNat * 5 + 4,none⟩=some (.int .i64 ((rd_T50 x3_1 x4_1).f4)):=A4 4 _ rfl;have F5:w11.frozen? ⟨A1,(x4_1:Int).toNat * 5,none⟩=false:=A5 0;have F6:w11.frozen? ⟨A1,(x4_1:Int).toNat * 5 + 1,none⟩=false:=A5 1;have F7:w11.frozen? ⟨A1,(x4_1:Int).toNat * 5 + 2,none⟩=false:=A5 2;have F8:w11.frozen? ⟨A1,(x4_1:Int).toNat * 5 + 3,none⟩=false:=A5 3;have F9:w11.frozen? ⟨A1,(x4_1:Int).toNat * 5 + 4,none⟩=false:=A5 4;clear E3 A4 A5 C8;replace C4:=eq_true C4;replace C5:=eq_true C5;have n_:=Aside0.mk (Kd.R_mono (ok':=(fun k_=>some k_≠(v270:Value).ownBlock)) A2.out (fun k_ hk=>hk.2));clear A2;have A2:=n_;clear n_;have C9:=Aside0.mk (show Kd.R k50 50 w11 w.heap.size (fun _=>True) (.slice (some ⟨A1,0,none⟩) x3_1.length C6) x3_1 from (rM A2 (fun _ hk=>trivial)));obtain ⟨ce12,C1,D0,A3,A6⟩:=Kd.R_elem C9.out z50 (x4_1:Int) (dT) (by have h_:(x4_1:Int) < ((x3_1.length:Int):Int):=dT;first | exact h_ | (have e_:=(Kd.R_reads' A2.out).1;omega) | simpa using h_);obtain ⟨ve12_1,rfl,ge12_1⟩:=k50_openM D0;have B9:=Kd.R_seg C9.out (x4_1:Int) (dT) (by have h_:(x4_1:Int) < ((x3_1.length:Int):Int):=dT;first | exact h_ | (have e_:=(Kd.R_reads' A2.out).1;omega) | simpa using h_) (seg:=[.string t268,v270,.bool t272,.bool t273,.int .i64 t274]) (j:=0) C1 A3 (show 5≤5 from by decide) (x':=(⟨t268,t269,t272,t273,t274⟩:S50)) (k50_mkM _ _ _ (⟨t268,t269,t272,t273,t274⟩:S50) (Kd.R_mono (Kd.R_apart' ((Kd.S_R B6.out)) (Kd.R_typed A2.out) (by decide)) (fun k_ hk=>⟨trivial,fun e_=>(hk.2) (by rw [e_];rfl)⟩))) (fun _ hk=>hk);have D1:=A3 0 _ rfl;(try simp only [show (k50).sz=5 from rfl,Nat.mul_one,Nat.add_zero] at D1);have D2:=A6 0;(try simp only [show (k50).sz=5 from rfl,Nat.mul_one,Nat.add_zero] at D2);have D3:=A3 1 _ rfl;(try simp only [show (k50).sz=5 from rfl,Nat.mul_one,Nat.add_zero] at D3);have D4:=A6 1;(try simp only [show (k50).sz=5 from rfl,Nat.mul_one,Nat.add_zero] at D4);have D5:=A3 2 _ rfl;(try simp only [show (k50).sz=5 from rfl,Nat.mul_one,Nat.add_zero] at D5);have D6:=A6 2;(try simp only [show (k50).sz=5 from rfl,Nat.mul_one,Nat.add_zero] at D6);have D7:=A3 3 _ rfl;(try simp only [show (k50).sz=5 from rfl,Nat.mul_one,Nat.add_zero] at D7);have D8:=A6 3;(try simp only [show (k50).sz=5 from rfl,Nat.mul_one,Nat.add_zero] at D8);have D9:=A3 4 _ rfl;(try simp only [show (k50).sz=5 from rfl,Nat.mul_one,Nat.add_zero] at D9);have E0:=A6 4;(try simp only [show (k50).sz=5 from rfl,Nat.mul_one,Nat.add_zero] at E0);clear C1 A3 A6 D0) | ((with_reducible refine gate_store (t:=50) (p:=21) rfl ?_);refine store_event (t:=50) (p:=21) (v:=?vo_w13) (w1:=(((((w11.setCell ⟨A1,(x4_1:Int).toNat * 5,none⟩ (.string t268)).setCell ⟨A1,(x4_1:Int).toNat * 5 + 1,none⟩ (v270)).setCell ⟨A1,(x4_1:Int).toNat * 5 + 2,none⟩ (.bool t272)).setCell ⟨A1,(x4_1:Int).toNat * 5 + 3,none⟩ (.bool t273)).setCell ⟨A1,(x4_1:Int).toNat * 5 + 4,none⟩ (.int .i64 t274))) ?hg ?ho ?hn ?hr ?_;(case ho=>rfl);(case hg=>rfl);(case hn=>rfl);(case hr=>first | (go_simp;done) | (go_simp;rfl) | (obtain ⟨a0_,c0_,e0_⟩:=Kd.S_slice B6.out;rw [e0_];first | (go_simp;done) | (go_simp;rfl)));intro w13 hw;have hg:w11.grownBy w13 (some A1):=(by rw [hw];exact B9.2);have hp_:Kd.R k50 50 w13 w.heap.size (fun _=>True) (.slice (some ⟨A1,0,none⟩) x3_1.length C6) y275:=(by rw [hw,E2.out];exact B9.1);clear B9;replace A2:=Aside0.mk (hp_);replace HB:=Aside0.mk ((by rw [hw];exact below_set (below_set (below_set (below_set (below_set (HB.out) A7.out) A7.out) A7.out) A7.out) A7.out:Below w.heap.size w w13));clear B6;clear hg hw hp_))
  go_roundg k1
  case measure=>have:=HK1.out;omega
  case rel=>exact ⟨(y275),(wrap64 (x4_1 + 1)),(by first | rfl | (simp;done) | (simp [*];done)),H',⟨by have:=HK1.out;omega⟩,⟨rV A2⟩,⟨hV HB⟩⟩
/-! ### laws_toSignature: function 10 -/
def laws_toSignature.f (k:Nat) (l0_0:List ByteArray) (l0_1:List (S107)) (l0_2:List (S86)):Option (List ByteArray × (List (S89)) × (List (S50))):=(laws_toSorts.f k l0_0 l0_1).bind fun bt279=>((laws_toOpS.f k l0_2).bind fun t285=>(some (bt279.1,bt279.2,t285)))
set_option maxHeartbeats 8000000 in
set_option maxRecDepth 100000 in
theorem laws_toSignature.calls (k:Nat) (A0_0:Option Addr) (c0_0:Nat) (l0_0:List ByteArray) (A0_1:Option Addr) (c0_1:Nat) (l0_1:List (S107)) (A0_2:Option Addr) (c0_2:Nat) (l0_2:List (S86)) (r1:List ByteArray) (r2:List (S89)) (r3:List (S50)) (w:World) (hr0_0:Kd.C Kd.string w A0_0 l0_0.length l0_0) (hc0_0:l0_0.length≤c0_0) (hr0_1:Kd.C k107 w A0_1 l0_1.length l0_1) (hc0_1:l0_1.length≤c0_1) (hr0_2:Kd.C k86 w A0_2 l0_2.length l0_2) (hc0_2:l0_2.length≤c0_2) (h:laws_toSignature.f k l0_0 l0_1 l0_2=some (r1,r2,r3)) :
  Calls Try.prog 10 #[.agg #[.slice A0_0 l0_0.length c0_0,.slice A0_1 l0_1.length c0_1,.slice A0_2 l0_2.length c0_2]] w fun e w'=> ∃ v0_ v1_ v2_:Value,e=.returned (.agg #[v0_,v1_,v2_])∧Kd.R Kd.string 9 w' w.heap.size (fun _=>True) v0_ r1∧Kd.R k89 89 w' w.heap.size (fun _=>True) v1_ r2∧Kd.R k50 50 w' w.heap.size (fun _=>True) v2_ r3∧Below w.heap.size w w':=by
 have hu28:=Try.underlying28
 have hu36:=Try.underlying36
 have hu25:=Try.underlying25
 have hu33:=Try.underlying33
 have C2:=Aside0.mk hr0_0
 have C3:=Aside0.mk hc0_0
 clear hr0_0 hc0_0
 have C4:=Aside0.mk hr0_1
 have C5:=Aside0.mk hc0_1
 clear hr0_1 hc0_1
 have C6:=Aside0.mk hr0_2
 have C7:=Aside0.mk hc0_2
 clear hr0_2 hc0_2
 have HB:=Aside0.mk (Below.refl w.heap.size w)
 have H:((laws_toSorts.f k l0_0 l0_1).bind fun bt279=>((laws_toOpS.f k l0_2).bind fun t285=>(some (bt279.1,bt279.2,t285))))=some (r1,r2,r3):=h
 clear h
 replace H:=Option.bind_eq_some_iff.mp H
 obtain ⟨⟨t279,t282⟩,A20,H⟩:=H
 replace H:((laws_toOpS.f k l0_2).bind fun t285=>(some (t279,t282,t285)))=some (r1,r2,r3):=H
 have A2:=Aside0.mk A20
 clear A20
 replace H:=Option.bind_eq_some_iff.mp H
 obtain ⟨t285,A30,H⟩:=H
 replace H:(some (t279,t282,t285))=some (r1,r2,r3):=H
 have A3:=Aside0.mk A30
 clear A30
 simp only [Option.some.injEq,Prod.mk.injEq] at H
 obtain ⟨rfl,rfl,rfl⟩:=H
 go_enter Try.func10,Try.ntmps10
 go_wp2_with (first | (refine bx 1 rfl #[.slice A0_0 l0_0.length c0_0,.slice A0_1 l0_1.length c0_1,.slice A0_2 l0_2.length c0_2] 28 ?_;intro F8 hg w4 hbox hb;have A0:=Aside0.mk (hbox);have F9:=hZ HB hg;have G0:=hZ HB hg;replace HB:=hS HB hb;clear hb hbox hg) | (refine bx 2 rfl #[.slice none 0 0,.slice none 0 0,.slice none 0 0] 36 ?_;intro A5 hg w5 hbox hb;have A1:=Aside0.mk (hbox);have G1:=hZ HB hg;have G2:=hZ HB hg;replace HB:=hS HB hb;have B5:=nL A0 hg;have B6:=nG A0 hg;replace A0:=bB A0 hb;clear hb hbox hg) | (refine bx 3 rfl #[.slice none 0 0,.slice none 0 0,.slice none 0 0] 36 ?_;intro B4 hg w6 hbox hb;have A4:=Aside0.mk (hbox);have G3:=hZ HB hg;have G4:=hZ HB hg;replace HB:=hS HB hb;have B7:=nL A0 hg;have B8:=nG A0 hg;replace A0:=bB A0 hb;have B9:=nL A1 hg;have C0:=nG A1 hg;replace A1:=bB A1 hb;clear hb hbox hg;have G7:=B5.out;have G8:=B6.out;have G9:=B7.out;have H0:=B8.out;obtain ⟨F2,F3,F4,F5,F6,F7⟩:=cf3 A0) | (refine goK 27 (some 6) rfl Try.func27 #[.agg #[.slice A0_0 l0_0.length c0_0,.slice A0_1 l0_1.length c0_1]] ?_;(with_reducible refine (laws_toSorts.calls k _ _ l0_0 _ _ l0_1 t279 t282 _ ?side1 ?side2 ?side3 ?side4 A2.out).mono ?_);(case side1=>exact cB C2 HB);(case side2=>exact C3.out);(case side3=>exact cB C4 HB);(case side4=>exact C5.out);rintro e w10 ⟨v280,v283,rfl,ho0,ho1,hb⟩;refine ⟨_,rfl,?_⟩;have A8:=rL ho0 HB;have A9:=rL ho1 HB;replace A0:=bB A0 hb;replace A1:=bB A1 hb;replace A4:=bB A4 hb;replace HB:=hS HB hb;(try clear hb);(try clear hb2);(try clear hk);(try clear hi);(try clear ho0);(try clear ho1);obtain ⟨B0,B1,eo11⟩:=Kd.R_slice A8.out;subst eo11;have G5:=C0.out;have G6:=B9.out;obtain ⟨C8,C9,D0,D1,D2,D3⟩:=cf3 A4;obtain ⟨B2,B3,eo14⟩:=Kd.R_slice A9.out;subst eo14;obtain ⟨D4,D5,D6,D7,D8,D9⟩:=cf3 A0) | (refine goK 28 (some 10) rfl Try.func28 #[.slice A0_2 l0_2.length c0_2] ?_;(with_reducible refine (laws_toOpS.calls k _ _ l0_2 t285 _ ?side1 ?side2 A3.out).mono ?_);(case side1=>exact cV C6 HB);(case side2=>exact C7.out);rintro e w16 ⟨v286,rfl,ho0,hb⟩;refine ⟨_,rfl,?_⟩;replace A8:=rF A8 A4 hb;replace A9:=rF A9 A4 hb;have C1:=rL ho0 HB;replace A0:=bB A0 hb;replace A1:=bB A1 hb;replace A4:=bP (o:=.cells #[.slice B0 t279.length B1,.slice B2 t282.length B3,.slice none 0 0] 36 (0,0)) A4 hb;replace HB:=hS HB hb;(try clear hb);(try clear hb2);(try clear hk);(try clear hi);(try clear ho0);obtain ⟨A6,A7,eo17⟩:=Kd.R_slice C1.out;subst eo17;obtain ⟨E0,E1,E2,E3,E4,E5⟩:=cf3 A4;obtain ⟨E6,E7,E8,E9,F0,F1⟩:=cf3 A1))
 refine bodyPost_ret (results_cell_row rfl _ _ A5 36 #[.slice B0 t279.length B1,.slice B2 t282.length B3,.slice A6 t285.length A7] (0,0) _ rfl (vP A1) Try.underlying36 rfl (by kernel_rfl)) rfl ?_
 exact ⟨_,_,_,by first | rfl | (simp [errW_none,errW_some] <;> rfl) | (simp [*,errW_none,errW_some] <;> rfl),by (with_reducible repeat (first | apply Kd.R_alloc | apply Kd.R_drewN | apply Kd.R_drew));exact Kd.R_mono (Kd.R_far (p:=⟨A5,2,none⟩) (Kd.R_far (p:=⟨A5,1,none⟩) (Kd.R_far (p:=⟨A5,0,none⟩) (Kd.R_far (p:=⟨B4,2,none⟩) (Kd.R_types (Kd.R_types A8.out A4.out (by decide)) A1.out (by decide)) (fun _ hk=>hk.1.2) (.slice A6 t285.length A7)) (fun _ hk=>hk.2) (.slice B0 t279.length B1)) (fun _ hk=>hk.2) (.slice B2 t282.length B3)) (fun _ hk=>hk.2) (.slice A6 t285.length A7)) (fun _ hk=>trivial),by (with_reducible repeat (first | apply Kd.R_alloc | apply Kd.R_drewN | apply Kd.R_drew));exact Kd.R_mono (Kd.R_far (p:=⟨A5,2,none⟩) (Kd.R_far (p:=⟨A5,1,none⟩) (Kd.R_far (p:=⟨A5,0,none⟩) (Kd.R_far (p:=⟨B4,2,none⟩) (Kd.R_types (Kd.R_types A9.out A4.out (by decide)) A1.out (by decide)) (fun _ hk=>hk.1.2) (.slice A6 t285.length A7)) (fun _ hk=>hk.2) (.slice B0 t279.length B1)) (fun _ hk=>hk.2) (.slice B2 t282.length B3)) (fun _ hk=>hk.2) (.slice A6 t285.length A7)) (fun _ hk=>trivial),by (with_reducible repeat (first | apply Kd.R_alloc | apply Kd.R_drewN | apply Kd.R_drew));exact Kd.R_mono (Kd.R_far (p:=⟨A5,2,none⟩) (Kd.R_far (p:=⟨A5,1,none⟩) (Kd.R_far (p:=⟨A5,0,none⟩) (Kd.R_far (p:=⟨B4,2,none⟩) (Kd.R_types (Kd.R_types C1.out A4.out (by decide)) A1.out (by decide)) (fun _ hk=>hk.1.2) (.slice A6 t285.length A7)) (fun _ hk=>hk.2) (.slice B0 t279.length B1)) (fun _ hk=>hk.2) (.slice B2 t282.length B3)) (fun _ hk=>hk.2) (.slice A6 t285.length A7)) (fun _ hk=>trivial),hV HB⟩

/-! ### impl_nameByte: function 58 -/
theorem impl_nameByte.a0 {P_:Prop} (h_:P_:=by repeat (first | exact Drawn0.refl _ | apply Drawn0.step)):P_:=h_
theorem impl_nameByte.a1 {P_:Prop} (h_:P_:=by first | rfl | (simp;done) | (simp [*];done)):P_:=h_
def impl_nameByte.f (a0:Int):Option (Bool):=if a0≥48 then (if a0≤57 then (some true) else (if a0≥65 then (if a0≤90 then (some true) else (if a0≥97 then (some (decide (a0≤122))) else (some false))) else (if a0≥97 then (some (decide (a0≤122))) else (some false)))) else (if a0≥65 then (if a0≤90 then (some true) else (if a0≥97 then (some (decide (a0≤122))) else (some false))) else (if a0≥97 then (some (decide (a0≤122))) else (some false)))
set_option maxHeartbeats 8000000 in
set_option maxRecDepth 100000 in
theorem impl_nameByte.calls (a0:Int) (r:Bool) (w:World) (h:impl_nameByte.f a0=some r) :
  Calls Try.prog 58 #[.int .u8 a0] w fun e w'=>e=.returned (.bool r)∧Drawn0 w w':=by
 have H:(if a0≥48 then (if a0≤57 then (some true) else (if a0≥65 then (if a0≤90 then (some true) else (if a0≥97 then (some (decide (a0≤122))) else (some false))) else (if a0≥97 then (some (decide (a0≤122))) else (some false)))) else (if a0≥65 then (if a0≤90 then (some true) else (if a0≥97 then (some (decide (a0≤122))) else (some false))) else (if a0≥97 then (some (decide (a0≤122))) else (some false))))=some r:=h
 clear h
 by_cases c2:a0≥48
 ·rw [if_pos c2] at H
  have A2:=decide_eq_true c2
  clear c2
  by_cases c3:a0≤57
  ·rw [if_pos c3] at H
   have A3:=decide_eq_true c3
   clear c3
   obtain rfl:=Option.some.inj H
   go_enter Try.func58,Try.ntmps58
   go_wp2
   go_ret
   exact ⟨impl_nameByte.a1,impl_nameByte.a0⟩
  rw [if_neg c3] at H
  have A3:=decide_eq_false c3
  clear c3
  by_cases c4:a0≥65
  ·rw [if_pos c4] at H
   have A4:=decide_eq_true c4
   clear c4
   by_cases c5:a0≤90
   ·rw [if_pos c5] at H
    have A5:=decide_eq_true c5
    clear c5
    obtain rfl:=Option.some.inj H
    go_enter Try.func58,Try.ntmps58
    go_wp2
    go_ret
    exact ⟨impl_nameByte.a1,impl_nameByte.a0⟩
   rw [if_neg c5] at H
   have A5:=decide_eq_false c5
   clear c5
   by_cases c6:a0≥97
   rotate_left
   ·rw [if_neg c6] at H
    have A6:=decide_eq_false c6
    clear c6
    obtain rfl:=Option.some.inj H
    go_enter Try.func58,Try.ntmps58
    go_wp2
    go_ret
    exact ⟨impl_nameByte.a1,impl_nameByte.a0⟩
   rw [if_pos c6] at H
   have A6:=decide_eq_true c6
   clear c6
   obtain rfl:=Option.some.inj H
   go_enter Try.func58,Try.ntmps58
   go_wp2
   go_ret
   exact ⟨impl_nameByte.a1,impl_nameByte.a0⟩
  ·rw [if_neg c4] at H
   have A4:=decide_eq_false c4
   clear c4
   by_cases c7:a0≥97
   rotate_left
   ·rw [if_neg c7] at H
    have A7:=decide_eq_false c7
    clear c7
    obtain rfl:=Option.some.inj H
    go_enter Try.func58,Try.ntmps58
    go_wp2
    go_ret
    exact ⟨impl_nameByte.a1,impl_nameByte.a0⟩
   rw [if_pos c7] at H
   have A7:=decide_eq_true c7
   clear c7
   obtain rfl:=Option.some.inj H
   go_enter Try.func58,Try.ntmps58
   go_wp2
   go_ret
   exact ⟨impl_nameByte.a1,impl_nameByte.a0⟩
 ·rw [if_neg c2] at H
  have A2:=decide_eq_false c2
  clear c2
  by_cases c8:a0≥65
  ·rw [if_pos c8] at H
   have A8:=decide_eq_true c8
   clear c8
   by_cases c9:a0≤90
   ·rw [if_pos c9] at H
    have A9:=decide_eq_true c9
    clear c9
    obtain rfl:=Option.some.inj H
    go_enter Try.func58,Try.ntmps58
    go_wp2
    go_ret
    exact ⟨impl_nameByte.a1,impl_nameByte.a0⟩
   rw [if_neg c9] at H
   have A9:=decide_eq_false c9
   clear c9
   by_cases c10:a0≥97
   rotate_left
   ·rw [if_neg c10] at H
    have A0:=decide_eq_false c10
    clear c10
    obtain rfl:=Option.some.inj H
    go_enter Try.func58,Try.ntmps58
    go_wp2
    go_ret
    exact ⟨impl_nameByte.a1,impl_nameByte.a0⟩
   rw [if_pos c10] at H
   have A0:=decide_eq_true c10
   clear c10
   obtain rfl:=Option.some.inj H
   go_enter Try.func58,Try.ntmps58
   go_wp2
   go_ret
   exact ⟨impl_nameByte.a1,impl_nameByte.a0⟩
  ·rw [if_neg c8] at H
   have A8:=decide_eq_false c8
   clear c8
   by_cases c11:a0≥97
   ·rw [if_pos c11] at H
    have A1:=decide_eq_true c11
    clear c11
    obtain rfl:=Option.some.inj H
    go_enter Try.func58,Try.ntmps58
    go_wp2
    go_ret
    exact ⟨impl_nameByte.a1,impl_nameByte.a0⟩
   rw [if_neg c11] at H
   have A1:=decide_eq_false c11
   clear c11
   obtain rfl:=Option.some.inj H
   go_enter Try.func58,Try.ntmps58
   go_wp2
   go_ret
   exact ⟨impl_nameByte.a1,impl_nameByte.a0⟩

end Go.Proofs.Ytpildjbakceicaa.Q

