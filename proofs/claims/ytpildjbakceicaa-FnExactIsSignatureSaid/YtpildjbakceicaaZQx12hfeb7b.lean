/- Functions of the program as plain Lean functions,and that the calls come to what they say. -/
import Derived.Test.YtpildjbakceicaaZQx0hb61c0
import Derived.Test.YtpildjbakceicaaZQx11h76b24
import Derived.Test.YtpildjbakceicaaZShorthc96c8
namespace Go.Proofs.Ytpildjbakceicaa.Q
open Go.RowKit Go.Proofs.YtpildjbakceicaaW.PrintWords Go.Proofs.YtpildjbakceicaaW.PrintLast Go.Proofs.YtpildjbakceicaaW.PrintMore
attribute [local go_sem] max2_int min2_int max_two min_two max_three min_three max_four min_four   -- for this text's walks alone
set_option linter.unusedVariables false
set_option linter.unusedSimpArgs false

/-! ### impl_ListOf: function 57 -/
theorem impl_ListOf.a0 {P_:Prop} (h_:P_:=by first | rfl | (simp;done) | (simp [*];done)):P_:=h_
mutual
def impl_ListOf.l0:Nat→Int→List Int→Int→Option (List Int)
 | 0,_,_,_=>none
 | k + 1,x0,x3,x4=>if x4 < 16 then ((impl_isSet.f x0).bind fun t313=>(impl_ListOf.j1 k x0 x3 x4 t313)) else (impl_ListOf.j1 k x0 x3 x4 false)
def impl_ListOf.j1:Nat→Int→List Int→Int→Bool→Option (List Int)
 | 0,_,_,_,_=>none
 | k + 1,x0,x3,x4,x11=>if x11=true then (if 0≤x4 then (if (Go.bits .and .i64 x0 (shl .i64 1 x4))=0 then (impl_ListOf.l0 k x0 x3 (wrap64 (x4 + 1))) else (if x3.length < 17592186044416 then (impl_ListOf.l0 k x0 (x3 ++ [x4]) (wrap64 (x4 + 1))) else (none))) else (none)) else (some x3)
end
def impl_ListOf.f (k:Nat) (a0:Int):Option (List Int):=impl_ListOf.l0 k a0 (([]:List Int)) 0
set_option maxHeartbeats 8000000 in
set_option maxRecDepth 100000 in
theorem impl_ListOf.calls (k:Nat) (a0:Int) (r:List Int) (w:World) (h:impl_ListOf.f k a0=some r) :
  Calls Try.prog 57 #[.int .i64 a0] w fun e w'=> ∃ v0_:Value,e=.returned (v0_)∧Kd.R (Kd.int .i64) 3 w' w.heap.size (fun _=>True) v0_ r∧Below w.heap.size w w':=by
 have HB:=Aside0.mk (Below.refl w.heap.size w)
 have H:(impl_ListOf.l0 k a0 (([]:List Int)) 0)=some r:=h
 clear h
 obtain ⟨y310,hy310⟩:∃ y_:List Int,y_=(([]:List Int)):=⟨_,rfl⟩
 replace H:(impl_ListOf.l0 k a0 y310 0)=some r:=by first | (rw [hy310];with_reducible exact H) | (have H2_:=(Option.bind_some _ _).symm.trans H;rw [hy310];with_reducible exact H2_) | (have H2_:=(Option.bind_some _ _).symm.trans H;with_reducible exact H2_) | with_reducible exact H | (rw [hy310];exact H) | exact H
 have A2:=Aside0.mk hy310
 clear hy310
 have H':=Aside0.mk H
 clear H
 go_enter Try.func57,Try.ntmps57
 go_wp2_with (first | ((with_reducible refine gate_dst (N:=5) rfl ?_);refine Kd.R_lit (Kd.int .i64) _ 3 ?hg (N:=5) ?hd (xs:=([]:List Int)) (inner:=[]) (ok:=fun _=>True) (okp:=fun _=>True) ?hr ?hp (fun _ hk=>hk) trivial (Below.refl _ _) (Nat.le_refl _) (by simp) ?_;(case hd=>rfl);(case hg=>rfl);(case hr=>first | (go_simp;done) | (go_simp;rfl));(case hp=>exact (Reps.none _ _));intro v311 w2 ho3 hb hg_ hnew_;clear hg_ hnew_;(first | rw [← A2.out] at ho3 | (simp only [Int.reduceToNat] at ho3;rw [← A2.out] at ho3));have A4:=rL ho3 HB;replace HB:=hS HB hb;clear hb ho3))
 go_loopg [3,4] k (fun kq v3 v4 w'=> ∃ (x3_1:List Int) (x4_1:Int),v4=.int .i64 x4_1∧Aside0 (impl_ListOf.l0 kq a0 x3_1 x4_1=some r)∧Aside0 (kq≤k)∧Aside0 (Kd.R (Kd.int .i64) 3 w' w.heap.size (fun _=>True) v3 x3_1)∧Aside0 (Below w.heap.size w w'))
 case atStart=>exact ⟨(y310),(0),impl_ListOf.a0,H',⟨Nat.le_refl _⟩,⟨rV A4⟩,⟨hV HB⟩⟩
 case round=>
  clear H'
  obtain ⟨x3_1,x4_1,rfl,HA,HK1,A0,HB⟩:=hrel
  cases gk with
  | zero=>exact absurd HA.out (by simp [impl_ListOf.l0])
  | succ k1=>
   have H:=HA.out
   clear HA
   simp only [impl_ListOf.l0] at H
   have A3:=Aside0.mk H
   clear H
   go_upto_region 3 with (fail)
   go_cut [11] (fun v11 wc=> ∃ (kq:Nat) (x11_3:Bool),v11=.bool x11_3∧Aside0 (impl_ListOf.j1 kq a0 x3_1 x4_1 x11_3=some r)∧Aside0 (kq≤k1)∧Aside0 (Kd.R (Kd.int .i64) 3 wc w.heap.size (fun _=>True) u3 x3_1)∧Aside0 (Below w.heap.size w wc))
   case first=>
    have H:=A3.out
    clear A3
    by_cases c5:x4_1 < 16
    ·rw [if_pos c5] at H
     have A1:=decide_eq_true c5
     clear c5
     (first | rw [A1] | (simp only [i64_w,i32_w];rw [A1]) | skip)
     replace H:=Option.bind_eq_some_iff.mp H
     obtain ⟨t313,A60,H⟩:=H
     replace H:(impl_ListOf.j1 k1 a0 x3_1 x4_1 t313)=some r:=H
     have A6:=Aside0.mk A60
     clear A60
     have H':=Aside0.mk H
     clear H
     go_wp2_with (first | (go_at_call 71;(with_reducible refine (impl_isSet.calls a0 t313 _ A6.out).mono ?_);rintro e w' ⟨rfl,⟨nd,rfl⟩⟩))
     go_meet
     case rel=>exact ⟨_,(t313),impl_ListOf.a0,H',⟨by have:=HK1.out;first | omega | exact Nat.le_refl _⟩,⟨rV A0⟩,⟨hV HB⟩⟩
    ·rw [if_neg c5] at H
     have A1:=decide_eq_false c5
     clear c5
     (first | rw [A1] | (simp only [i64_w,i32_w];rw [A1]) | skip)
     have H':=Aside0.mk H
     clear H
     go_wp2
     go_meet
     case rel=>exact ⟨_,(false),impl_ListOf.a0,H',⟨by have:=HK1.out;first | omega | exact Nat.le_refl _⟩,⟨rV A0⟩,⟨hV HB⟩⟩
   case rest=>
    clear A3
    obtain ⟨kq,x11_3,rfl,HA,HJ3,A0,HB⟩:=hcut
    cases kq with
    | zero=>exact absurd HA.out (by simp [impl_ListOf.j1])
    | succ kj3=>
     have H:=HA.out
     clear HA
     simp only [impl_ListOf.j1] at H
     by_cases c7:x11_3=true
     ·subst c7
      rw [if_pos rfl] at H
      by_cases c8:0≤x4_1
      ·rw [if_pos c8] at H
       have B0:=eq_true c8
       have B1:=decide_eq_true c8
       clear c8
       obtain ⟨ji9,hji9⟩:∃ j_:Int,(shl .i64 1 x4_1)=j_:=⟨_,rfl⟩
       replace H:(if (Go.bits .and .i64 a0 (ji9))=0 then (impl_ListOf.l0 kj3 a0 x3_1 (wrap64 (x4_1 + 1))) else (if x3_1.length < 17592186044416 then (impl_ListOf.l0 kj3 a0 (x3_1 ++ [x4_1]) (wrap64 (x4_1 + 1))) else (none)))=some r:=by first | (rw [hji9] at H;exact H) | (simp only [hji9] at H ⊢;exact H)
       have hji9_:(IntKind.i64.wrap (1 * 2 ^ min x4_1.toNat 64))=ji9:=hji9
       have hji9z:x4_1≤64→(IntKind.i64.wrap (1 * 2 ^ x4_1.toNat))=ji9:=shl_small hji9
       have hji9u:(IntKind.i64.wrap (2 ^ min x4_1.toNat 64))=ji9:=by have h_:=hji9_;rw [Int.one_mul] at h_;exact h_
       have hji9v:x4_1≤64→(IntKind.i64.wrap (2 ^ x4_1.toNat))=ji9:=fun hle_=>by have h_:=hji9z hle_;rw [Int.one_mul] at h_;exact h_
       have hji9y:(wrap64 (1 * 2 ^ min x4_1.toNat 64))=ji9:=(i64_w _).symm.trans hji9_
       have hji9x:x4_1≤64→(wrap64 (1 * 2 ^ x4_1.toNat))=ji9:=fun h_=>(i64_w _).symm.trans (hji9z h_)
       by_cases c10:(Go.bits .and .i64 a0 (ji9))=0
       ·rw [if_pos c10] at H
        have A5:((Go.bits .and .i64 a0 (ji9)) == 0)=true:=beq_iff_eq.mpr c10
        have A7:((Go.bits .and .i64 a0 (ji9)) != 0)=false:=bne_eq_false_iff_eq.mpr c10
        clear c10
        have H':=Aside0.mk H
        clear H
        go_wp2
        go_roundg kj3
        case measure=>have:=HK1.out;have:=HJ3.out;omega
        case rel=>exact ⟨(x3_1),(wrap64 (x4_1 + 1)),impl_ListOf.a0,H',⟨by have:=HK1.out;have:=HJ3.out;omega⟩,⟨rV A0⟩,⟨hV HB⟩⟩
       ·rw [if_neg c10] at H
        have A5:((Go.bits .and .i64 a0 (ji9)) == 0)=false:=beq_eq_false_iff_ne.mpr c10
        have A7:((Go.bits .and .i64 a0 (ji9)) != 0)=true:=bne_iff_ne.mpr c10
        by_cases c11:x3_1.length < 17592186044416
        ·rw [if_pos c11] at H
         have LMc11:=Aside0.mk c11
         clear c11
         obtain ⟨y314,hy314⟩:∃ y_:List Int,y_=(x3_1 ++ [x4_1]):=⟨_,rfl⟩
         replace H:(impl_ListOf.l0 kj3 a0 y314 (wrap64 (x4_1 + 1)))=some r:=by first | (rw [hy314];with_reducible exact H) | (have H2_:=(Option.bind_some _ _).symm.trans H;rw [hy314];with_reducible exact H2_) | (have H2_:=(Option.bind_some _ _).symm.trans H;with_reducible exact H2_) | with_reducible exact H | (rw [hy314];exact H) | exact H
         have A8:=Aside0.mk hy314
         clear hy314
         have H':=Aside0.mk H
         clear H
         go_wp2_with (first | ((with_reducible refine gate_builtin (b:=.append) (xs:=#[.tmp 19,.tmp 21]) rfl ?_);at_builtin;refine Kd.R_append (Kd.int .i64) (w0:=w) w.heap.size rfl (.tmp 19) (.tmp 21) 55 3 (.int .i64 0) 8 rfl Try.underlying55 info3 rfl (by decide) (by omega) u3 x3_1 x4_1 [.int .i64 x4_1] (fun _=>True) (fun _=>False) rfl rfl ?aP (fun _ hk=>hk.elim) ?aF ?aO ?aB ?aS ?aL ?_;(case aP=>exact rfl);(case aB=>exact (hV HB));(case aF=>exact (fun _ _=>trivial));(case aO=>exact (rV A0));(case aS=>exact (below_size (hV HB)));(case aL=>have:=LMc11.out;omega);intro v315 w12 ho hb hg hat;rw [← A8.out] at ho;replace HB:=Aside0.mk (hb);have A9:=Aside0.mk (ho);clear A0;clear ho hb hg hat))
         go_roundg kj3
         case measure=>have:=HK1.out;have:=HJ3.out;omega
         case rel=>exact ⟨(y314),(wrap64 (x4_1 + 1)),impl_ListOf.a0,H',⟨by have:=HK1.out;have:=HJ3.out;omega⟩,⟨rV A9⟩,⟨hV HB⟩⟩
        ·rw [if_neg c11] at H
         exact absurd H (by simp)
      ·rw [if_neg c8] at H
       exact absurd H (by simp)
     ·replace c7:=Bool.eq_false_iff.mpr c7
      subst c7
      rw [if_neg (show ¬ (false=true) by decide)] at H
      obtain rfl:=Option.some.inj H
      go_wp2
      go_ret
      exact ⟨_,by first | rfl | (simp [errW_none,errW_some] <;> rfl) | (simp [*,errW_none,errW_some] <;> rfl),rV A0,hV HB⟩

end Go.Proofs.Ytpildjbakceicaa.Q

