/- Plain lemmas on rounds,bits and lists for the pure statements of this seat. No program in sight. -/
import Derived.Test.YtpildjbakceicaaZWMoreh88dea
import Derived.Laws.BitsAllLaws
set_option linter.unusedVariables false
set_option linter.unusedSimpArgs false
namespace Go.Proofs.Ytpildjbakceicaa.Pb
open Go.RowKit Go.Proofs.YtpildjbakceicaaW.PrintWords Go.Proofs.YtpildjbakceicaaW.PrintMore

/-! rounds -/
theorem ev_some {α:Type} (r:α):Ev (fun _=>some r) r:=Ev.now r
theorem ev_of {α:Type} {o:Option α} {r:α} (h:o=some r):Ev (fun _=>o) r:=⟨0,fun _ _=>h⟩
theorem ev_ite {α:Type} {c:Prop} [Decidable c] {f g:Nat→Option α} {r:α} (h1:c→Ev f r) (h2 : ¬c→Ev g r):Ev (fun k=>if c then f k else g k) r:=by
  by_cases h:c
  · simpa only [if_pos h] using h1 h
  · simpa only [if_neg h] using h2 h
theorem ev_pos {α:Type} {c:Prop} [Decidable c] {f g:Nat→Option α} {r:α} (h:c) (h1:Ev f r):Ev (fun k=>if c then f k else g k) r:=by
  simpa only [if_pos h] using h1
theorem ev_neg {α:Type} {c:Prop} [Decidable c] {f g:Nat→Option α} {r:α} (h : ¬c) (h1:Ev g r):Ev (fun k=>if c then f k else g k) r:=by
  simpa only [if_neg h] using h1
theorem ev_bind {α β:Type} {g:Nat→Option α} {f:Nat→α→Option β} {r:β} (a:α) (h:Ev g a) (k:Ev (fun n=>f n a) r):Ev (fun n=>(g n).bind (f n)) r:=Ev.bind h k
theorem ev_bind0 {α β:Type} {o:Option α} {f:Nat→α→Option β} {r:β} (a:α) (h:o=some a) (k:Ev (fun n=>f n a) r):Ev (fun n=>o.bind (f n)) r:=by
  subst h
  exact k
theorem ev_eq {α:Type} {g:Nat→Option α} {r r' : α} (h:Ev g r) (e:r=r'):Ev g r':=e ▸ h
/-! numbers -/
theorem nat_of {i:Int} (h:0≤i):∃ n:Nat,i=(n:Int):=⟨i.toNat,by omega⟩
theorem w64 {a:Int} (h : -9223372036854775808≤a) (h' : a≤9223372036854775807):wrap64 a=a:=by unfold wrap64;omega
theorem u64w {a:Int} (h:0≤a) (h' : a < 18446744073709551616):IntKind.u64.wrap a=a:=by rw [IntKind.wrap_u64];omega
theorem wraps_i64 (n:Int) (h₀:0≤n) (h₁:n < 2 ^ 63):IntKind.i64.wrap n=n:=by rw [IntKind.wrap_i64];omega
theorem and64 (a b:Nat) (ha:a < 2 ^ 63) (hb:b < 2 ^ 63):Go.bits .and .i64 (a:Int) (b:Int)=((a &&& b:Nat):Int):=(bits_nat .i64 63 (by decide) wraps_i64 a b ha hb).1
theorem or64 (a b:Nat) (ha:a < 2 ^ 63) (hb:b < 2 ^ 63):Go.bits .or .i64 (a:Int) (b:Int)=((a ||| b:Nat):Int):=(bits_nat .i64 63 (by decide) wraps_i64 a b ha hb).2
theorem shl1 (i:Nat) (h:i < 63):shl .i64 1 (i:Int)=((2 ^ i:Nat):Int):=by
  unfold shl
  have e:min (i:Int).toNat IntKind.i64.bits=i:=by simp [IntKind.bits];omega
  rw [e,Int.one_mul]
  have hp:(2:Nat) ^ i < 2 ^ 63:=Nat.pow_lt_pow_right (by omega) h
  have e2:((2:Int) ^ i)=((2 ^ i:Nat):Int):=by simp
  rw [e2]
  exact wraps_i64 _ (Int.natCast_nonneg _) (by exact_mod_cast hp)
theorem shr64 (a i:Nat) (h:i < 64):shr .i64 (a:Int) (i:Int)=((a / 2 ^ i:Nat):Int):=by
  unfold shr
  have e:min (i:Int).toNat IntKind.i64.bits=i:=by simp [IntKind.bits];omega
  rw [e]
  simp

/-! sets of small numbers -/
theorem and_pow (a i:Nat):a &&& 2 ^ i=if a.testBit i then 2 ^ i else 0:=by
  apply Nat.eq_of_testBit_eq
  intro j
  rw [Nat.testBit_and,Nat.testBit_two_pow]
  by_cases e:i=j
  · subst e
    by_cases h:a.testBit i=true <;> simp [h]
  · by_cases h:a.testBit i=true <;> simp [h,e]
theorem div_and_one (a i:Nat):a / 2 ^ i &&& 1=if a.testBit i then 1 else 0:=by
  rw [Nat.testBit_eq_decide_div_mod_eq,Nat.and_one_is_mod]
  have:=Nat.mod_two_eq_zero_or_one (a / 2 ^ i)
  rcases this with h | h <;> simp [h]
def elems (a:Nat):List Int:=((List.range 16).filter a.testBit).map fun (i:Nat)=>(i:Int)
def setList (a:Int):List Int:=if 0≤a∧a≤65535 then elems a.toNat else []
theorem elems_step (m i:Nat) (hi:i < 16):((List.range' i (16 - i)).filter m.testBit)=(if m.testBit i then [i] else []) ++ ((List.range' (i + 1) (16 - (i + 1))).filter m.testBit):=by
  obtain ⟨d,hd⟩:∃ d,16 - i=d + 1:=⟨15 - i,by omega⟩
  rw [hd,List.range'_succ,show 16 - (i + 1)=d by omega,List.filter_cons]
  split <;> simp
def ints (l:List Nat):List Int:=l.map fun (i:Nat)=>(i:Int)
theorem elems_eq (m:Nat):elems m=ints ((List.range' 0 16).filter m.testBit):=by
  unfold elems ints
  rw [List.range_eq_range']
theorem bit_at (m i:Nat) (hm:m < 2 ^ 63) (hi:i < 63):Go.bits .and .i64 (m:Int) (shl .i64 1 (i:Int))=((if m.testBit i then 2 ^ i else 0:Nat):Int):=by
  rw [shl1 i hi,and64 m (2 ^ i) hm (Nat.pow_lt_pow_right (by omega) hi),and_pow]
theorem pow_ne (i:Nat) : ¬ (((if true=true then 2 ^ i else 0:Nat):Int)=0):=by
  have:0 < 2 ^ i:=Nat.two_pow_pos i
  rw [if_pos rfl]
  omega
theorem mem_bits {m:Nat} {j:Nat} : j ∈ (List.range' 0 16).filter m.testBit↔j < 16∧m.testBit j=true:=by
  rw [List.mem_filter,List.mem_range'_1]
  exact ⟨fun h=>⟨by omega,h.2⟩,fun h=>⟨by omega,h.2⟩⟩
/-! names -/
def nameChar (c:Int):Bool:=decide (48≤c∧c≤57∨65≤c∧c≤90∨97≤c∧c≤122)
theorem nameChar_iff (c:Int):nameChar c=true↔(48≤c∧c≤57∨65≤c∧c≤90∨97≤c∧c≤122):=by simp [nameChar]
def letter (c:Int):Bool:=decide (65≤c∧c≤90∨97≤c∧c≤122)
theorem letter_iff (c:Int):letter c=true↔(65≤c∧c≤90∨97≤c∧c≤122):=by simp [letter]
theorem letter_name (c:Int):letter c=(nameChar c && decide (57 < c)):=by
  rw [Bool.eq_iff_iff,letter_iff,Bool.and_eq_true,nameChar_iff,decide_eq_true_eq]
  omega
def allAt (s:ByteArray) (i:Nat):Nat→Bool
  | 0=>true
  | d + 1=>nameChar (bt s (i:Int)) && allAt s (i + 1) d
def isName (s:ByteArray):Bool:=!(s.toList == ([105,102]:List UInt8)) && (!(s.toList == ([97,110,100]:List UInt8)) && (decide (1≤s.size∧s.size≤12) && (letter (bt s 0) && allAt s 0 s.size)))

/-! lists -/
theorem rd_lt {xs:List Int} {i:Nat} (h:i < xs.length):rd xs (i:Int)=xs[i]:=by
  unfold rd
  rw [List.getD_eq_getElem?_getD,Int.toNat_natCast,List.getElem?_eq_getElem h]
  rfl
theorem set_split {α:Type} (a:List α) (x:α) (b:List α) (y:α):(a ++ x :: b).set a.length y=(a ++ [y]) ++ b:=by
  rw [List.set_append]
  simp
end Go.Proofs.Ytpildjbakceicaa.Pb

