/- The statement FnExactCompareSubstitutions over numbers and lists alone: what the printed functions of the law come to is true,for every input. -/
import Derived.Test.YtcofpnddfmlafaaZQx17h4e870
import Derived.Test.YtcofpnddfmlafaaZPbh9e99f
import Derived.Test.YtcofpnddfmlafaaZRdh0c172
set_option linter.unusedVariables false
set_option linter.unusedSimpArgs false
set_option linter.unusedSectionVars false
namespace Go.Proofs.Ytcofpnddfmlafaa.Pure
open Go.RowKit Go.Proofs.Ytcofpnddfmlafaa.Q Go.Proofs.YtcofpnddfmlafaaW.PrintWords Go.Proofs.YtcofpnddfmlafaaW.PrintLast Go.Proofs.YtcofpnddfmlafaaW.PrintMore Go.Proofs.Ytcofpnddfmlafaa.Pb Go.Proofs.Ytcofpnddfmlafaa.Rd

def leftOf (left:Int) (n:Nat):Int:=if (n:Int)≤left then left - n else -1

/-! terms: sizes,copies,equality -/
mutual
def bulk:S24→Nat
  | ⟨_,n,_,l⟩=>n.size + bulkL l
def bulkL:List S24→Nat
  | []=>0
  | t :: r=>1 + bulk t + bulkL r
end
mutual
def conv:S24→S29
  | ⟨a,n,s,l⟩=>⟨a,n,s,convL l⟩
def convL:List S24→List S29
  | []=> []
  | t :: r=>conv t :: convL r
end
mutual
def nodes:S29→Nat
  | ⟨_,_,_,l⟩=>1 + nodesL l
def nodesL:List S29→Nat
  | []=>0
  | t :: r=>nodes t + nodesL r
end
theorem bulkL_mem {l:List S24} {t:S24} (h:t ∈ l):bulk t + 1≤bulkL l:=by
  induction l with
  | nil=>cases h
  | cons x r ih=>
    rw [bulkL]
    rcases List.mem_cons.1 h with rfl | h
    · omega
    · have:=ih h;omega
theorem bulkL_len (l:List S24):l.length≤bulkL l:=by
  induction l with
  | nil=>simp
  | cons x r ih=>rw [bulkL,List.length_cons];omega
theorem convL_map (l:List S24):convL l=l.map conv:=by
  induction l with
  | nil=>rfl
  | cons t r ih=>rw [convL,ih,List.map_cons]
theorem nodesL_mem {l:List S29} {t:S29} (h:t ∈ l):nodes t≤nodesL l:=by
  induction l with
  | nil=>cases h
  | cons x r ih=>
    rw [nodesL]
    rcases List.mem_cons.1 h with rfl | h
    · omega
    · have:=ih h;omega
theorem nodes_pos (t:S29):1≤nodes t:=by cases t;rw [nodes];omega
theorem nodesL_len (l:List S29):l.length≤nodesL l:=by
  induction l with
  | nil=>simp
  | cons x r ih=>rw [nodesL,List.length_cons];have:=nodes_pos x;omega
mutual
theorem nodes_conv:∀ t:S24,nodes (conv t)≤1 + bulk t
  | ⟨a,n,s,l⟩=>by
    have:=nodes_convL l
    rw [conv,nodes,bulk]
    omega
theorem nodes_convL:∀ l:List S24,nodesL (convL l)≤bulkL l
  | []=>by rw [convL,nodesL];omega
  | t :: r=>by
    have h1:=nodes_conv t
    have h2:=nodes_convL r
    rw [convL,nodesL,bulkL]
    omega
end
theorem rdl_lt {xs:List S24} {i:Nat} (h:i < xs.length):rd_T24 xs (i:Int)=xs[i]:=by
  unfold rd_T24
  rw [List.getD_eq_getElem?_getD,Int.toNat_natCast,List.getElem?_eq_getElem h]
  rfl
theorem rdi_lt {xs:List S29} {i:Nat} (h:i < xs.length):rd_T29 xs (i:Int)=xs[i]:=by
  unfold rd_T29
  rw [List.getD_eq_getElem?_getD,Int.toNat_natCast,List.getElem?_eq_getElem h]
  rfl
theorem szTerm_ev (n:Nat):∀ (t:S24) (left:Int),bulk t < n→okS24 t→0≤left→left≤1048576→Ev (fun k=>laws_szTerm.f k t.f0 t.f1 t.f2 t.f3 left) (leftOf left (bulk t)):=by
  induction n with
  | zero=>intro t left h;omega
  | succ n ih=>
    intro t left hn ho h0 h1
    obtain ⟨a,nm,s,l⟩:=t
    rw [bulk] at hn ⊢
    rw [okS24] at ho
    simp only [maxLen] at ho
    obtain ⟨_,o2,_,o4,o5⟩:=ho
    simp only
    refine Ev.step (fun k=>by rw [laws_szTerm.f]) ?_
    rw [w64 (a:=left - (nm.size:Int)) (by omega) (by omega)]
    by_cases g:left - (nm.size:Int) < 0
    · refine ev_pos g (ev_of ?_)
      unfold leftOf
      rw [if_neg (by omega)]
    · refine ev_neg g ?_
      have loop:∀ (d i:Nat) (lf:Int),l.length - i=d→i≤l.length→0≤lf→lf≤1048576→Ev (fun k=>laws_szTermS.l0 k l lf (i:Int)) (leftOf lf (bulkL (l.drop i) - d)):=by
        intro d
        induction d with
        | zero=>
          intro i lf hd hi p0 p1
          refine Ev.step (fun k=>by rw [laws_szTermS.l0]) ?_
          refine ev_neg (by omega) (ev_of ?_)
          rw [List.drop_eq_nil_of_le (by omega),bulkL]
          unfold leftOf
          rw [if_pos (by omega)]
          simp
        | succ d ihd=>
          intro i lf hd hi p0 p1
          have hil:i < l.length:=by omega
          have hm:l[i] ∈ l:=List.getElem_mem _
          have hb:=bulkL_mem hm
          refine Ev.step (fun k=>by rw [laws_szTermS.l0]) ?_
          refine ev_pos (by omega) (ev_pos (by omega) ?_)
          rw [rdl_lt hil]
          refine ev_bind _ (ih l[i] lf (by omega) ((okS24L_iff l).1 o5 _ hm) p0 p1) ?_
          rw [List.drop_eq_getElem_cons hil,bulkL]
          have hlen:=bulkL_len (l.drop (i + 1))
          rw [List.length_drop] at hlen
          by_cases g:(bulk l[i]:Int)≤lf
          · have e:leftOf lf (bulk l[i])=lf - bulk l[i]:=by unfold leftOf;rw [if_pos g]
            rw [e,w64 (by omega) (by omega)]
            refine ev_neg (by omega) (ev_eq (ihd (i + 1) _ (by omega) (by omega) (by omega) (by omega)) ?_)
            unfold leftOf
            generalize bulkL (l.drop (i + 1))=y at *
            generalize bulk l[i]=x at *
            split <;> split <;> omega
          · have e:leftOf lf (bulk l[i]) = -1:=by unfold leftOf;rw [if_neg g]
            rw [e]
            refine ev_pos (by omega) (ev_of ?_)
            unfold leftOf
            rw [if_neg (by omega)]
      have hS:Ev (fun k=>laws_szTermS.f k l (left - (nm.size:Int))) (leftOf (left - (nm.size:Int)) (bulkL l)):=by
        refine Ev.step (fun k=>by rw [laws_szTermS.f]) ?_
        rw [w64 (a:=left - (nm.size:Int) - (l.length:Int)) (by omega) (by omega)]
        have hlen:=bulkL_len l
        by_cases g2:left - (nm.size:Int) - (l.length:Int) < 0
        · refine ev_pos g2 (ev_of ?_)
          unfold leftOf
          rw [if_neg (by omega)]
        · refine ev_neg g2 (ev_eq (loop l.length 0 _ (by omega) (by omega) (by omega) (by omega)) ?_)
          rw [List.drop_zero]
          unfold leftOf
          split <;> split <;> omega
      refine ev_bind _ hS ?_
      by_cases g3:(bulkL l:Int)≤left - (nm.size:Int)
      · have e:leftOf (left - (nm.size:Int)) (bulkL l)=left - nm.size - bulkL l:=by unfold leftOf;rw [if_pos g3]
        rw [e]
        refine ev_neg (by omega) (ev_of ?_)
        unfold leftOf
        rw [if_pos (by omega)]
        congr 1
        omega
      · have e:leftOf (left - (nm.size:Int)) (bulkL l) = -1:=by unfold leftOf;rw [if_neg g3]
        rw [e]
        refine ev_pos (by omega) (ev_of ?_)
        unfold leftOf
        rw [if_neg (by omega)]
theorem toTerm_ev (n:Nat):∀ (t:S24),bulk t < n→bulk t≤1048576→Ev (fun k=>laws_toTerm.f k t.f0 t.f1 t.f2 t.f3) ((conv t).f0,(conv t).f1,(conv t).f2,(conv t).f3):=by
  induction n with
  | zero=>intro t h;omega
  | succ n ih=>
    intro t hn hb
    obtain ⟨a,nm,s,l⟩:=t
    rw [bulk] at hn hb
    have hlen:=bulkL_len l
    have loop:∀ (d i:Nat),l.length - i=d→i≤l.length→Ev (fun k=>laws_toTermS.l0 k l ((l.take i).map conv ++ List.replicate (l.length - i) z29) (i:Int)) (convL l):=by
      intro d
      induction d with
      | zero=>
        intro i hd hi
        refine Ev.step (fun k=>by rw [laws_toTermS.l0]) ?_
        refine ev_neg (by omega) (ev_of ?_)
        rw [hd,List.take_of_length_le (by omega),convL_map]
        simp
      | succ d ihd=>
        intro i hd hi
        have hil:i < l.length:=by omega
        have hm:l[i] ∈ l:=List.getElem_mem _
        have hbm:=bulkL_mem hm
        refine Ev.step (fun k=>by rw [laws_toTermS.l0]) ?_
        refine ev_pos (by omega) (ev_pos (by omega) ?_)
        rw [rdl_lt hil]
        refine ev_bind _ (ih l[i] (by omega) (by omega)) (ev_pos (by simp;omega) ?_)
        rw [w64 (by omega) (by omega),hd,List.replicate_succ]
        have e:((l.take i).map conv ++ z29 :: List.replicate d z29).set ((i:Int)).toNat (conv l[i])=(l.take (i + 1)).map conv ++ List.replicate (l.length - (i + 1)) z29:=by
          rw [Int.toNat_natCast]
          have hi' : ((l.take i).map conv).length=i:=by rw [List.length_map,List.length_take];omega
          have:=set_split ((l.take i).map conv) z29 (List.replicate d z29) (conv l[i])
          rw [hi'] at this
          rw [this,List.take_succ_eq_append_getElem hil,show l.length - (i + 1)=d by omega]
          simp only [List.map_append,List.map_cons,List.map_nil]
        have e2:(⟨(conv l[i]).f0,(conv l[i]).f1,(conv l[i]).f2,(conv l[i]).f3⟩:S29)=conv l[i]:=by cases conv l[i];rfl
        simp only [e2]
        rw [e]
        exact ihd (i + 1) (by omega) (by omega)
    simp only
    refine Ev.step (fun k=>by rw [laws_toTerm.f]) ?_
    have hS:Ev (fun k=>laws_toTermS.f k l) (convL l):=by
      refine Ev.step (fun k=>by rw [laws_toTermS.f]) ?_
      refine ev_pos (by omega) (ev_pos (by omega) ?_)
      have:=loop l.length 0 (by omega) (by omega)
      simpa using this
    refine ev_bind _ hS (ev_of ?_)
    rw [conv]
theorem toList_inj {a b:ByteArray} (h:a.toList=b.toList):a=b:=by
  rw [Go.ByteArray.toList_eq,Go.ByteArray.toList_eq] at h
  cases a
  cases b
  simp only [ByteArray.mk.injEq] at *
  exact Array.toList_inj.1 h
theorem eqTerm_ev (n:Nat):∀ (t u:S29),nodes t < n→nodes t≤1048577→Ev (fun k=>laws_eqTerm.f k t.f0 t.f1 t.f2 t.f3 u.f0 u.f1 u.f2 u.f3) (by classical exact decide (t=u)):=by
  classical
  induction n with
  | zero=>intro t u h;omega
  | succ n ih=>
    intro t u hn hb
    obtain ⟨a,nm,s,l⟩:=t
    obtain ⟨a',nm',s',l'⟩:=u
    rw [nodes] at hn hb
    have hlen:=nodesL_len l
    simp only
    refine Ev.step (fun k=>by rw [laws_eqTerm.f]) ?_
    by_cases e1:a=a'
    · refine ev_pos e1 ?_
      by_cases e2:nm=nm'
      · refine ev_pos (by rw [e2]) ?_
        by_cases e3:s=s'
        · refine ev_pos e3 ?_
          have loop:l.length=l'.length→∀ (d i:Nat),l.length - i=d→i≤l.length→Ev (fun k=>laws_eqTermS.l0 k l l' (i:Int)) (decide (l.drop i=l'.drop i)):=by
            intro hll d
            induction d with
            | zero=>
              intro i hd hi
              refine Ev.step (fun k=>by rw [laws_eqTermS.l0]) ?_
              refine ev_neg (by omega) (ev_of ?_)
              rw [List.drop_eq_nil_of_le (by omega),List.drop_eq_nil_of_le (by omega)]
              simp
            | succ d ihd=>
              intro i hd hi
              have hil:i < l.length:=by omega
              have hm:l[i] ∈ l:=List.getElem_mem _
              have hnm:=nodesL_mem hm
              refine Ev.step (fun k=>by rw [laws_eqTermS.l0]) ?_
              refine ev_pos (by omega) (ev_pos (by omega) (ev_pos (by omega) ?_))
              rw [rdi_lt hil,rdi_lt (show i < l'.length by omega),w64 (by omega) (by omega)]
              refine ev_bind _ (ih l[i] (l'[i]'(by omega)) (by omega) (by omega)) ?_
              rw [List.drop_eq_getElem_cons hil,List.drop_eq_getElem_cons (show i < l'.length by omega)]
              by_cases h:l[i]=l'[i]'(by omega)
              · refine ev_pos (by simpa using h) ?_
                exact ev_eq (ihd (i + 1) (by omega) (by omega)) (by simp only [h,List.cons.injEq,true_and])
              · refine ev_neg (by simpa using h) (ev_of ?_)
                simp only [List.cons.injEq,h,false_and,decide_false]
          have hS:Ev (fun k=>laws_eqTermS.f k l l') (decide (l=l')):=by
            refine Ev.step (fun k=>by rw [laws_eqTermS.f]) ?_
            by_cases hll:l.length=l'.length
            · refine ev_pos (by omega) ?_
              exact loop hll l.length 0 (by omega) (by omega)
            · refine ev_neg (by omega) (ev_of ?_)
              have:l≠l':=fun e=>hll (by rw [e])
              simp [this]
          refine ev_bind _ hS ?_
          subst e1 e2 e3
          by_cases h:l=l'
          · refine ev_pos (by simpa using h) (ev_of ?_)
            simp [h]
          · refine ev_neg (by simpa using h) (ev_of ?_)
            simp [h]
        · refine ev_neg e3 (ev_of ?_)
          simp [e3]
      · refine ev_neg (fun h=>e2 (toList_inj h)) (ev_of ?_)
        simp [e2]
    · refine ev_neg e1 (ev_of ?_)
      simp [e1]
theorem eqTerm_refl (t:S29) (hb:nodes t≤1048577):Ev (fun k=>laws_eqTerm.f k t.f0 t.f1 t.f2 t.f3 t.f0 t.f1 t.f2 t.f3) true:=ev_eq (eqTerm_ev _ t t (Nat.lt_succ_self _) hb) (by simp)

/-! the order of terms -/
def cmpI (a b:Int):Int:=if a < b then -1 else if a > b then 1 else 0
def lead (a b:Int):Int:=if a=0 then b else a
def cmpS (a b:ByteArray):Int:=Lib.compareBytes a.data.toList b.data.toList
mutual
def cmpT:S29→S29→Int
  | ⟨a,n,s,l⟩,u=>lead (cmpI a u.f0) (lead (cmpS n u.f1) (lead (cmpI s u.f2) (cmpL l u.f3)))
def cmpL:List S29→List S29→Int
  | [],r=>if r.length=0 then 0 else -1
  | x :: l,r=>match r with
    | []=>1
    | y :: r=>lead (cmpT x y) (cmpL l r)
end
theorem cmpT_eq (t u:S29):cmpT t u=lead (cmpI t.f0 u.f0) (lead (cmpS t.f1 u.f1) (lead (cmpI t.f2 u.f2) (cmpL t.f3 u.f3))):=by cases t;rw [cmpT]
theorem compareBytes_eq:∀ a b:List UInt8,Lib.compareBytes a b=if a=b then 0 else if Op.bytesLess a b=true then -1 else 1
  | [],[]=>by simp [Lib.compareBytes]
  | [],_ :: _=>by simp [Lib.compareBytes,Op.bytesLess]
  | _ :: _,[]=>by simp [Lib.compareBytes,Op.bytesLess]
  | x :: a,y :: b=>by
    have ih:=compareBytes_eq a b
    unfold Lib.compareBytes Op.bytesLess
    by_cases h1:x < y
    · have hne:x≠y:=fun e=>by rw [e] at h1;exact absurd h1 (UInt8.lt_irrefl _)
      rw [if_pos h1,if_neg (by simp [hne]),if_pos (by simp [h1])]
    · rw [if_neg h1]
      by_cases h2:y < x
      · have hne:x≠y:=fun e=>by rw [e] at h2;exact absurd h2 (UInt8.lt_irrefl _)
        rw [if_pos h2,if_neg (by simp [hne]),if_neg (by simp [h1,hne])]
      · have e:x=y:=by
          apply UInt8.toNat_inj.1
          have g1 : ¬ x.toNat < y.toNat:=h1
          have g2 : ¬ y.toNat < x.toNat:=h2
          omega
        subst e
        rw [if_neg h2,ih]
        simp [UInt8.lt_irrefl]
theorem cmpS_eq (a b:ByteArray):cmpS a b=if a.toList=b.toList then 0 else if Op.bytesLess a.toList b.toList=true then -1 else 1:=by
  unfold cmpS
  rw [compareBytes_eq,Go.ByteArray.toList_eq,Go.ByteArray.toList_eq]
theorem cmpL_drop (l r:List S29) (i:Nat) (hi:i < l.length) (hj:i < r.length):cmpL (l.drop i) (r.drop i)=lead (cmpT l[i] r[i]) (cmpL (l.drop (i + 1)) (r.drop (i + 1))):=by
  rw [List.drop_eq_getElem_cons hi,List.drop_eq_getElem_cons hj,cmpL]
theorem spec_CompareTerms.ev (n:Nat):∀ (t u:S29),nodes t < n→nodes t≤1048577→Ev (fun k=>spec_CompareTerms.f k t.f0 t.f1 t.f2 t.f3 u.f0 u.f1 u.f2 u.f3) (cmpT t u):=by
  induction n with
  | zero=>intro t u h;omega
  | succ n ih=>
    intro t u hn hb
    rw [cmpT_eq]
    obtain ⟨a,nm,s,l⟩:=t
    obtain ⟨b,mn,z,r⟩:=u
    rw [nodes] at hn hb
    have hlen:=nodesL_len l
    have loop:∀ (d i:Nat),l.length - i=d→i≤l.length→i≤r.length→Ev (fun k=>spec_CompareTerms.l0 k (i:Int) a nm s l b mn z r) (cmpL (l.drop i) (r.drop i)):=by
      intro d
      induction d with
      | zero=>
        intro i hd hi hj
        refine Ev.step (fun k=>by rw [spec_CompareTerms.l0]) ?_
        refine ev_neg (by omega) (Ev.step (fun k=>by rw [spec_CompareTerms.j1]) ?_)
        rw [List.drop_eq_nil_of_le (show l.length≤i by omega),cmpL,List.length_drop]
        refine ev_neg (by simp) ?_
        by_cases g:(l.length:Int) < (r.length:Int)
        · rw [if_neg (show ¬ r.length - i=0 by omega)];exact ev_pos g (ev_some _)
        · rw [if_pos (show r.length - i=0 by omega)];exact ev_neg g (ev_neg (by omega) (ev_some _))
      | succ d ihd=>
        intro i hd hi hj
        have hil:i < l.length:=by omega
        refine Ev.step (fun k=>by rw [spec_CompareTerms.l0]) ?_
        refine ev_pos (by omega) (Ev.step (fun k=>by rw [spec_CompareTerms.j1]) ?_)
        by_cases g:i < r.length
        · have hnm:=nodesL_mem (List.getElem_mem hil)
          rw [decide_eq_true (show (i:Int) < (r.length:Int) by omega),cmpL_drop l r i hil g,rdi_lt hil,rdi_lt g,w64 (a:=(i:Int) + 1) (by omega) (by omega)]
          refine ev_pos rfl (ev_pos (by omega) (ev_pos (by omega) (ev_pos (by omega) (ev_bind _ (ih l[i] r[i] (by omega) (by omega)) ?_))))
          unfold lead
          refine ev_ite (fun h=> ?_) (fun h=> ?_)
          · rw [if_pos h];exact ihd (i + 1) (by omega) (by omega) (by omega)
          · rw [if_neg h];exact ev_some _
        · rw [decide_eq_false (show ¬ (i:Int) < (r.length:Int) by omega),List.drop_eq_getElem_cons hil,List.drop_eq_nil_of_le (show r.length≤i by omega),cmpL]
          exact ev_neg (by simp) (ev_neg (by omega) (ev_pos (by omega) (ev_some _)))
    simp only
    refine Ev.step (fun k=>by rw [spec_CompareTerms.f]) ?_
    refine ev_ite (fun g1=> ?_) (fun g1=> ?_)
    · have e1:cmpI a b=0:=by unfold cmpI;rw [if_neg (by omega),if_neg (by omega)]
      rw [e1]
      refine ev_ite (fun g2=> ?_) (fun g2=> ?_)
      · have e2:cmpS nm mn=0:=by rw [cmpS_eq,if_pos g2]
        rw [e2]
        refine ev_ite (fun g3=> ?_) (fun g3=> ?_)
        · have e3:cmpI s z=0:=by unfold cmpI;rw [if_neg (by omega),if_neg (by omega)]
          rw [e3]
          have:=loop _ 0 rfl (by omega) (by omega)
          simpa [lead] using this
        · unfold lead cmpI
          refine ev_ite (fun g=>ev_eq (ev_some _) ?_) (fun g=>ev_eq (ev_some _) ?_)
          · simp [g]
          · rw [if_neg g,if_pos (show s > z by omega)];simp
      · unfold lead
        rw [cmpS_eq,if_neg g2]
        refine ev_ite (fun g=>ev_eq (ev_some _) ?_) (fun g=>ev_eq (ev_some _) ?_)
        · simp [g]
        · simp [g]
    · unfold lead cmpI
      refine ev_ite (fun g=>ev_eq (ev_some _) ?_) (fun g=>ev_eq (ev_some _) ?_)
      · simp [g]
      · rw [if_neg g,if_pos (show a > b by omega)];simp
theorem cmp_Compare_eq (a b:Int):cmp_Compare_int.f a b=some (cmpI a b):=by
  unfold cmp_Compare_int.f cmp_isNaN_int.f cmpI
  simp only [Option.bind_some,bne_self_eq_false,Bool.false_eq_true,if_false]
  split
  · rfl
  · split <;> rfl
theorem cmp_Or_ev (a b c:Int):Ev (fun k=>cmp_Or_int.f k [a,b,c]) (lead a (lead b (lead c 0))):=by
  unfold cmp_Or_int.f
  have step:∀ (i:Nat) (x:Int) (q:Int),i < 3→rd [a,b,c] (i:Int)=x→(x=0→Ev (fun k=>cmp_Or_int.l0 k 0 [a,b,c] (([a,b,c]:List Int).length:Int) ((i:Int) + 1)) q)→Ev (fun k=>cmp_Or_int.l0 k 0 [a,b,c] (([a,b,c]:List Int).length:Int) (i:Int)) (lead x q):=by
    intro i x q hi hx hq
    refine Ev.step (fun k=>by rw [cmp_Or_int.l0]) ?_
    rw [hx,w64 (a:=(i:Int) + 1) (by omega) (by omega)]
    unfold lead
    refine ev_pos (by simp only [List.length_cons,List.length_nil];omega) (ev_pos (by omega) (ev_pos (by simp only [List.length_cons,List.length_nil];omega) (ev_ite (fun g=> ?_) (fun g=> ?_))))
    · rw [if_pos g];exact hq g
    · rw [if_neg g];exact ev_some _
  refine step 0 a _ (by omega) rfl (fun _=>step 1 b _ (by omega) rfl (fun _=>step 2 c _ (by omega) rfl (fun _=> ?_)))
  refine Ev.step (fun k=>by rw [cmp_Or_int.l0]) ?_
  exact ev_neg (by simp) (ev_some _)
theorem impl_CompareTerms.ev (n:Nat):∀ (t u:S29),nodes t < n→nodes t≤1048577→Ev (fun k=>impl_CompareTerms.f k t.f0 t.f1 t.f2 t.f3 u.f0 u.f1 u.f2 u.f3) (cmpT t u):=by
  induction n with
  | zero=>intro t u h;omega
  | succ n ih=>
    intro t u hn hb
    rw [cmpT_eq]
    obtain ⟨a,nm,s,l⟩:=t
    obtain ⟨b,mn,z,r⟩:=u
    rw [nodes] at hn hb
    have hlen:=nodesL_len l
    have loop:∀ (d i:Nat),l.length - i=d→i≤l.length→i≤r.length→Ev (fun k=>impl_Term_43.l0 k l r l (l.length:Int) (i:Int)) (cmpL (l.drop i) (r.drop i)):=by
      intro d
      induction d with
      | zero=>
        intro i hd hi hj
        refine Ev.step (fun k=>by rw [impl_Term_43.l0]) ?_
        rw [List.drop_eq_nil_of_le (show l.length≤i by omega),cmpL,List.length_drop]
        refine ev_neg (by omega) (ev_ite (fun g=> ?_) (fun g=> ?_))
        · rw [if_neg (by omega)];exact ev_some _
        · rw [if_pos (by omega)];exact ev_some _
      | succ d ihd=>
        intro i hd hi hj
        have hil:i < l.length:=by omega
        refine Ev.step (fun k=>by rw [impl_Term_43.l0]) ?_
        refine ev_pos (by omega) (ev_pos (by omega) (ev_pos (by omega) ?_))
        by_cases g:i < r.length
        · have hnm:=nodesL_mem (List.getElem_mem hil)
          rw [cmpL_drop l r i hil g,rdi_lt hil,rdi_lt g,w64 (a:=(i:Int) + 1) (by omega) (by omega)]
          refine ev_neg (by omega) (ev_pos (by omega) (ev_bind _ (ih l[i] r[i] (by omega) (by omega)) ?_))
          unfold lead
          refine ev_ite (fun h=> ?_) (fun h=> ?_)
          · rw [if_pos h];exact ihd (i + 1) (by omega) (by omega) (by omega)
          · rw [if_neg h];exact ev_some _
        · rw [List.drop_eq_getElem_cons hil,List.drop_eq_nil_of_le (show r.length≤i by omega),cmpL]
          exact ev_pos (by omega) (ev_some _)
    simp only
    refine Ev.step (fun k=>by rw [impl_CompareTerms.f]) ?_
    refine ev_bind0 _ (cmp_Compare_eq a b) (ev_bind0 (cmpS nm mn) rfl (ev_bind0 _ (cmp_Compare_eq s z) (ev_bind _ (cmp_Or_ev _ _ _) ?_)))
    have e:lead (cmpI a b) (lead (cmpS nm mn) (lead (cmpI s z) (cmpL l r)))=if lead (cmpI a b) (lead (cmpS nm mn) (lead (cmpI s z) 0))=0 then cmpL l r else lead (cmpI a b) (lead (cmpS nm mn) (lead (cmpI s z) 0)):=by
      unfold lead
      by_cases h1:cmpI a b=0 <;> by_cases h2:cmpS nm mn=0 <;> by_cases h3:cmpI s z=0 <;> simp [h1,h2,h3]
    rw [e]
    refine ev_ite (fun g=> ?_) (fun g=> ?_)
    · rw [if_pos g]
      refine ev_bind (cmpL l r) (Ev.step (fun k=>by rw [impl_Term_43.f]) ?_) (ev_some _)
      have:=loop _ 0 rfl (by omega) (by omega)
      simpa using this
    · rw [if_neg g]
      exact ev_some _

/-! all numbers from .. on -/
theorem getD_lt {α:Type} (d:α) {l:List α} {i:Nat} (h:i < l.length):l.getD i d=l[i]:=by
  rw [List.getD_eq_getElem?_getD,List.getElem?_eq_getElem h]
  rfl

/-! loops,told once -/
theorem loop_to {ρ σ:Type} {n:Nat} {F:Nat→σ→Int→Option ρ} {S:Nat→σ} {r:ρ}
    (hs:∀ i,i < n→Ev (fun k=>F k (S (i + 1)) ((i:Int) + 1)) r→Ev (fun k=>F k (S i) (i:Int)) r) (he:Ev (fun k=>F k (S n) (n:Int)) r):Ev (fun k=>F k (S 0) 0) r:=by
  have key:∀ d i,n - i=d→i≤n→Ev (fun k=>F k (S i) (i:Int)) r:=by
    intro d
    induction d with
    | zero=>
      intro i hd hi
      obtain rfl:i=n:=by omega
      exact he
    | succ d ih=>
      intro i hd hi
      refine hs i (by omega) ?_
      have:=ih (i + 1) (by omega) (by omega)
      simpa using this
  have:=key n 0 rfl (by omega)
  simpa using this
def turned {α β:Type} (f:α→β) (z:β) (x:List α) (i:Nat):List β:=(x.map f).take i ++ List.replicate (x.length - i) z
theorem turned_set {α β:Type} (f:α→β) (z:β) (x:List α) (i:Nat) (h:i < x.length):(turned f z x i).set (i:Int).toNat (f x[i])=turned f z x (i + 1):=by
  unfold turned
  obtain ⟨d,hd⟩:∃ d,x.length - i=d + 1:=⟨x.length - i - 1,by omega⟩
  rw [Int.toNat_natCast,hd,List.replicate_succ]
  have hi' : ((x.map f).take i).length=i:=by rw [List.length_take,List.length_map];omega
  have:=set_split ((x.map f).take i) z (List.replicate d z) (f x[i])
  rw [hi'] at this
  rw [this,List.take_succ_eq_append_getElem (by rw [List.length_map];omega),show x.length - (i + 1)=d by omega,List.getElem_map]
theorem turned_len {α β:Type} (f:α→β) (z:β) (x:List α) (i:Nat) (h:i≤x.length):(turned f z x i).length=x.length:=by unfold turned;simp;omega
theorem turned_all {α β:Type} (f:α→β) (z:β) (x:List α):turned f z x x.length=x.map f:=by
  unfold turned
  rw [List.take_of_length_le (by simp),Nat.sub_self]
  simp
theorem turned_none {α β:Type} (f:α→β) (z:β) (x:List α):turned f z x 0=List.replicate x.length z:=by unfold turned;simp
theorem loop_left {n:Nat} {b:Nat→Nat} {F:Nat→Int→Int→Option Int}
    (hs:∀ i,i < n→∀ lf:Int,0≤lf→lf≤1048576→∀ z,(0≤leftOf lf (b i)→Ev (fun k=>F k (leftOf lf (b i)) ((i:Int) + 1)) z)→Ev (fun k=>F k lf (i:Int)) (if leftOf lf (b i) < 0 then -1 else z))
    (he:∀ lf,Ev (fun k=>F k lf (n:Int)) lf) (lf:Int) (h0:0≤lf) (h1:lf≤1048576):Ev (fun k=>F k lf 0) (leftOf lf (((List.range n).map b).sum)):=by
  have key:∀ d i (lf:Int),n - i=d→i≤n→0≤lf→lf≤1048576→Ev (fun k=>F k lf (i:Int)) (leftOf lf (((List.range' i d).map b).sum)):=by
    intro d
    induction d with
    | zero=>
      intro i lf hd hi h0 h1
      obtain rfl:i=n:=by omega
      refine ev_eq (he lf) ?_
      unfold leftOf
      rw [if_pos (by simpa using h0)]
      simp
    | succ d ih=>
      intro i lf hd hi h0 h1
      rw [List.range'_succ,List.map_cons,List.sum_cons]
      by_cases g:((b i:Nat):Int)≤lf
      · have e:leftOf lf (b i)=lf - b i:=if_pos g
        have:=hs i (by omega) lf h0 h1 (leftOf (lf - b i) (((List.range' (i + 1) d).map b).sum)) (fun _=>by
          rw [e]
          have:=ih (i + 1) (lf - b i) (by omega) (by omega) (by omega) (by omega)
          simpa using this)
        rw [e,if_neg (by omega)] at this
        refine ev_eq this ?_
        unfold leftOf
        split <;> split <;> omega
      · have e:leftOf lf (b i) = -1:=if_neg g
        have:=hs i (by omega) lf h0 h1 (-1) (fun h=>by rw [e] at h;omega)
        rw [e,if_pos (by omega)] at this
        refine ev_eq this ?_
        unfold leftOf
        rw [if_neg (by omega)]
  have:=key n 0 lf rfl (by omega) h0 h1
  rw [← List.range_eq_range'] at this
  simpa using this
theorem sum_mem {α:Type} {b:α→Nat} {l:List α} {x:α} (h:x ∈ l):b x≤(l.map b).sum:=by
  induction l with
  | nil=>cases h
  | cons y r ih=>
    rw [List.map_cons,List.sum_cons]
    rcases List.mem_cons.1 h with rfl | h
    · omega
    · have:=ih h;omega
theorem sum_range {α:Type} (z:α) (b:α→Nat) (l:List α):((List.range l.length).map fun i=>b (l.getD i z)).sum=(l.map b).sum:=by
  congr 1
  apply List.ext_getElem
  · simp
  · intro i h1 h2
    simp only [List.length_map,List.length_range] at h1
    simp [List.getD_eq_getElem?_getD,List.getElem?_eq_getElem h1]

/-! substitutions: sizes,copies,equality,order -/
theorem rdlb_lt {xs:List S71} {i:Nat} (h:i < xs.length):rd_T71 xs (i:Int)=xs[i]:=by
  unfold rd_T71
  rw [List.getD_eq_getElem?_getD,Int.toNat_natCast,List.getElem?_eq_getElem h]
  rfl
theorem rdib_lt {xs:List S73} {i:Nat} (h:i < xs.length):rd_T73 xs (i:Int)=xs[i]:=by
  unfold rd_T73
  rw [List.getD_eq_getElem?_getD,Int.toNat_natCast,List.getElem?_eq_getElem h]
  rfl
def bindB (b:S71):Nat:=bulk b.f0 + bulk b.f1
def bindsB (l:List S71):Nat:=l.length + (l.map bindB).sum
theorem szBinding_ev (b:S71) (ho:okS71 b) (lf:Int) (h0:0≤lf) (h1:lf≤1048576):Ev (fun k=>laws_szBinding.f k b.f0.f0 b.f0.f1 b.f0.f2 b.f0.f3 b.f1.f0 b.f1.f1 b.f1.f2 b.f1.f3 lf) (leftOf lf (bindB b)):=by
  unfold laws_szBinding.f
  refine ev_bind _ (szTerm_ev _ b.f0 lf (Nat.lt_succ_self _) ho.1 h0 h1) (ev_ite (fun g=>ev_of ?_) (fun g=> ?_))
  · unfold leftOf bindB at *
    split at g
    · omega
    · rw [if_neg (by omega)]
  · have e:leftOf lf (bulk b.f0)=lf - bulk b.f0∧(bulk b.f0:Int)≤lf:=by
      unfold leftOf at g ⊢
      split at g
      · rw [if_pos (by assumption)];exact ⟨rfl,by assumption⟩
      · omega
    rw [e.1]
    refine ev_bind _ (szTerm_ev _ b.f1 _ (Nat.lt_succ_self _) ho.2 (by omega) (by omega)) (ev_of ?_)
    unfold leftOf bindB
    split <;> split <;> split <;> first | rfl | omega | (congr 1;omega)
theorem szBindingS_ev (l:List S71) (hl:l.length≤maxLen) (ho:∀ b ∈ l,okS71 b) (lf:Int) (h0:0≤lf) (h1:lf≤1048576):Ev (fun k=>laws_szBindingS.f k l lf) (leftOf lf (bindsB l)):=by
  unfold laws_szBindingS.f
  simp only [maxLen] at hl
  rw [w64 (a:=lf - _) (by omega) (by omega)]
  refine ev_ite (fun g=>ev_of ?_) (fun g=> ?_)
  · unfold leftOf bindsB
    rw [if_neg (by omega)]
  · have:=loop_left (n:=l.length) (b:=fun i=>bindB (l.getD i z71)) (F:=fun k lf i=>laws_szBindingS.l0 k l lf i) (fun i hi lf g0 g1 z hz=> ?_) (fun lf=> ?_) (lf - l.length) (by omega) (by omega)
    · rw [sum_range] at this
      refine ev_eq this ?_
      unfold leftOf bindsB
      split <;> split <;> omega
    · refine Ev.step (fun k=>by rw [laws_szBindingS.l0]) ?_
      rw [rdlb_lt hi,getD_lt _ hi,w64 (a:=(i:Int) + 1) (by omega) (by omega)] at *
      exact ev_pos (by omega) (ev_pos (by omega) (ev_bind _ (szBinding_ev _ (ho _ (List.getElem_mem hi)) _ g0 g1) (ev_ite (fun h=>by rw [if_pos h];exact ev_some _) (fun h=>by rw [if_neg h];exact hz (by omega)))))
    · refine Ev.step (fun k=>by rw [laws_szBindingS.l0]) ?_
      exact ev_neg (by omega) (ev_some _)
theorem eta_it (t:S29):(⟨t.f0,t.f1,t.f2,t.f3⟩:S29)=t:=by cases t;rfl
def convB (b:S71):S73:=⟨conv b.f0,conv b.f1⟩
theorem toBindingS_ev (x:List S71) (hx:bindsB x≤1048576):Ev (fun k=>laws_toBindingS.f k x) (x.map convB):=by
  unfold bindsB at hx
  unfold laws_toBindingS.f
  refine ev_pos (by omega) (ev_pos (by omega) ?_)
  have:=loop_to (n:=x.length) (F:=fun k (a:List S73) i=>laws_toBindingS.l0 k x a i) (S:=turned convB z73 x) (r:=x.map convB) (fun i hi h=> ?_) ?_
  · rw [turned_none] at this
    simpa using this
  · refine Ev.step (fun k=>by rw [laws_toBindingS.l0]) ?_
    have hb:bulk x[i].f0 + bulk x[i].f1≤(x.map bindB).sum:=sum_mem (b:=bindB) (List.getElem_mem hi)
    have he:Ev (fun k=>laws_toBinding.f k x[i].f0.f0 x[i].f0.f1 x[i].f0.f2 x[i].f0.f3 x[i].f1.f0 x[i].f1.f1 x[i].f1.f2 x[i].f1.f3) ((conv x[i].f0).f0,(conv x[i].f0).f1,(conv x[i].f0).f2,(conv x[i].f0).f3,(conv x[i].f1).f0,(conv x[i].f1).f1,(conv x[i].f1).f2,(conv x[i].f1).f3):=by
      unfold laws_toBinding.f
      exact ev_bind _ (toTerm_ev _ x[i].f0 (Nat.lt_succ_self _) (by omega)) (ev_bind _ (toTerm_ev _ x[i].f1 (Nat.lt_succ_self _) (by omega)) (ev_some _))
    rw [rdlb_lt hi,w64 (a:=(i:Int) + 1) (by omega) (by omega)]
    refine ev_pos (by omega) (ev_pos (by omega) (ev_bind _ he (ev_pos (by rw [turned_len _ _ _ _ (by omega)];omega) ?_)))
    have e:=turned_set convB z73 x i hi
    show Ev (fun k=>laws_toBindingS.l0 k x ((turned convB z73 x i).set (i:Int).toNat (⟨⟨(conv x[i].f0).f0,(conv x[i].f0).f1,(conv x[i].f0).f2,(conv x[i].f0).f3⟩,⟨(conv x[i].f1).f0,(conv x[i].f1).f1,(conv x[i].f1).f2,(conv x[i].f1).f3⟩⟩:S73)) ((i:Int) + 1)) _
    rw [show (⟨⟨(conv x[i].f0).f0,(conv x[i].f0).f1,(conv x[i].f0).f2,(conv x[i].f0).f3⟩,⟨(conv x[i].f1).f0,(conv x[i].f1).f1,(conv x[i].f1).f2,(conv x[i].f1).f3⟩⟩:S73)=convB x[i] by rw [eta_it,eta_it];rfl,e]
    exact h
  · refine Ev.step (fun k=>by rw [laws_toBindingS.l0]) ?_
    exact ev_neg (by omega) (ev_of (by rw [turned_all]))
def BSmall (l:List S73):Prop:=l.length≤1048576∧∀ b ∈ l,nodes b.f0≤1048577∧nodes b.f1≤1048577
theorem b_small {x:List S71} (hx:bindsB x≤1048576):BSmall (x.map convB):=by
  unfold bindsB at hx
  refine ⟨by rw [List.length_map];omega,fun b hb=> ?_⟩
  obtain ⟨p,hp,rfl⟩:=List.mem_map.1 hb
  have h:bulk p.f0 + bulk p.f1≤(x.map bindB).sum:=sum_mem (b:=bindB) hp
  have h1:=nodes_conv p.f0
  have h2:=nodes_conv p.f1
  exact ⟨show nodes (conv p.f0)≤_ by omega,show nodes (conv p.f1)≤_ by omega⟩
theorem eqBindingS_refl (x:List S73) (hx:BSmall x):Ev (fun k=>laws_eqBindingS.f k x x) true:=by
  have hl:=hx.1
  unfold laws_eqBindingS.f
  refine ev_pos rfl (loop_to (n:=x.length) (F:=fun k (_:Unit) i=>laws_eqBindingS.l0 k x x i) (S:=fun _=>()) (fun i hi h=> ?_) ?_)
  · refine Ev.step (fun k=>by rw [laws_eqBindingS.l0]) ?_
    have hb:=hx.2 _ (List.getElem_mem hi)
    have he:Ev (fun k=>laws_eqBinding.f k x[i].f0.f0 x[i].f0.f1 x[i].f0.f2 x[i].f0.f3 x[i].f1.f0 x[i].f1.f1 x[i].f1.f2 x[i].f1.f3 x[i].f0.f0 x[i].f0.f1 x[i].f0.f2 x[i].f0.f3 x[i].f1.f0 x[i].f1.f1 x[i].f1.f2 x[i].f1.f3) true:=by
      unfold laws_eqBinding.f
      exact ev_bind _ (eqTerm_refl x[i].f0 (by omega)) (ev_pos rfl (ev_bind _ (eqTerm_refl x[i].f1 (by omega)) (ev_pos rfl (ev_some _))))
    rw [rdib_lt hi,w64 (a:=(i:Int) + 1) (by omega) (by omega)]
    exact ev_pos (by omega) (ev_pos (by omega) (ev_pos (by omega) (ev_bind _ he (ev_pos rfl h))))
  · refine Ev.step (fun k=>by rw [laws_eqBindingS.l0]) ?_
    exact ev_neg (by omega) (ev_some _)
def cmpB (x y:S73):Int:=lead (cmpT x.f0 y.f0) (cmpT x.f1 y.f1)
def cmpBs:List S73→List S73→Int
  | [],r=>if r.length=0 then 0 else -1
  | _ :: _,[]=>1
  | x :: l,y :: r=>lead (cmpB x y) (cmpBs l r)
theorem cmpBs_drop (l r:List S73) (i:Nat) (hi:i < l.length) (hj:i < r.length):cmpBs (l.drop i) (r.drop i)=lead (cmpB l[i] r[i]) (cmpBs (l.drop (i + 1)) (r.drop (i + 1))):=by
  rw [List.drop_eq_getElem_cons hi,List.drop_eq_getElem_cons hj,cmpBs]
theorem spec_CompareSubstitutions.ev (l r:List S73) (hl:BSmall l):Ev (fun k=>spec_CompareSubstitutions.f k l r) (cmpBs l r):=by
  have hlen:=hl.1
  have loop:∀ (d i:Nat),l.length - i=d→i≤l.length→i≤r.length→Ev (fun k=>spec_CompareSubstitutions.l0 k l r (i:Int)) (cmpBs (l.drop i) (r.drop i)):=by
    intro d
    induction d with
    | zero=>
      intro i hd hi hj
      refine Ev.step (fun k=>by rw [spec_CompareSubstitutions.l0]) ?_
      refine ev_neg (by omega) (Ev.step (fun k=>by rw [spec_CompareSubstitutions.j1]) ?_)
      rw [List.drop_eq_nil_of_le (show l.length≤i by omega),cmpBs,List.length_drop]
      refine ev_neg (by simp) ?_
      by_cases g:(l.length:Int) < (r.length:Int)
      · rw [if_neg (show ¬ r.length - i=0 by omega)];exact ev_pos g (ev_some _)
      · rw [if_pos (show r.length - i=0 by omega)];exact ev_neg g (ev_neg (by omega) (ev_some _))
    | succ d ihd=>
      intro i hd hi hj
      have hil:i < l.length:=by omega
      refine Ev.step (fun k=>by rw [spec_CompareSubstitutions.l0]) ?_
      refine ev_pos (by omega) (Ev.step (fun k=>by rw [spec_CompareSubstitutions.j1]) ?_)
      by_cases g:i < r.length
      · have hb:=hl.2 _ (List.getElem_mem hil)
        rw [decide_eq_true (show (i:Int) < (r.length:Int) by omega),cmpBs_drop l r i hil g,rdib_lt hil,rdib_lt g,w64 (a:=(i:Int) + 1) (by omega) (by omega)]
        refine ev_pos rfl (ev_pos (by omega) (ev_pos (by omega) (ev_pos (by omega) (ev_bind _ (spec_CompareTerms.ev _ l[i].f0 r[i].f0 (Nat.lt_succ_self _) hb.1) ?_))))
        unfold cmpB lead
        refine ev_ite (fun h=> ?_) (fun h=> ?_)
        · rw [if_pos h]
          refine ev_bind _ (spec_CompareTerms.ev _ l[i].f1 r[i].f1 (Nat.lt_succ_self _) hb.2) (ev_ite (fun h2=> ?_) (fun h2=> ?_))
          · rw [if_pos h2];exact ihd (i + 1) (by omega) (by omega) (by omega)
          · rw [if_neg h2];exact ev_some _
        · rw [if_neg h,if_neg h];exact ev_some _
      · rw [decide_eq_false (show ¬ (i:Int) < (r.length:Int) by omega),List.drop_eq_getElem_cons hil,List.drop_eq_nil_of_le (show r.length≤i by omega),cmpBs]
        exact ev_neg (by simp) (ev_neg (by omega) (ev_pos (by omega) (ev_some _)))
  unfold spec_CompareSubstitutions.f
  have:=loop _ 0 rfl (by omega) (by omega)
  simpa using this
theorem cmp_Or2_ev (a b:Int):Ev (fun k=>cmp_Or_int.f k [a,b]) (lead a (lead b 0)):=by
  unfold cmp_Or_int.f
  have step:∀ (i:Nat) (x:Int) (q:Int),i < 2→rd [a,b] (i:Int)=x→(x=0→Ev (fun k=>cmp_Or_int.l0 k 0 [a,b] (([a,b]:List Int).length:Int) ((i:Int) + 1)) q)→Ev (fun k=>cmp_Or_int.l0 k 0 [a,b] (([a,b]:List Int).length:Int) (i:Int)) (lead x q):=by
    intro i x q hi hx hq
    refine Ev.step (fun k=>by rw [cmp_Or_int.l0]) ?_
    rw [hx,w64 (a:=(i:Int) + 1) (by omega) (by omega)]
    unfold lead
    refine ev_pos (by simp only [List.length_cons,List.length_nil];omega) (ev_pos (by omega) (ev_pos (by simp only [List.length_cons,List.length_nil];omega) (ev_ite (fun g=> ?_) (fun g=> ?_))))
    · rw [if_pos g];exact hq g
    · rw [if_neg g];exact ev_some _
  refine step 0 a _ (by omega) rfl (fun _=>step 1 b _ (by omega) rfl (fun _=> ?_))
  refine Ev.step (fun k=>by rw [cmp_Or_int.l0]) ?_
  exact ev_neg (by simp) (ev_some _)
theorem impl_CompareSubstitutions.ev (l r:List S73) (hl:BSmall l):Ev (fun k=>impl_CompareSubstitutions.f k l r) (cmpBs l r):=by
  have hlen:=hl.1
  have loop:∀ (d i:Nat),l.length - i=d→i≤l.length→i≤r.length→Ev (fun k=>impl_Binding.l0 k l r l (l.length:Int) (i:Int)) (cmpBs (l.drop i) (r.drop i)):=by
    intro d
    induction d with
    | zero=>
      intro i hd hi hj
      refine Ev.step (fun k=>by rw [impl_Binding.l0]) ?_
      rw [List.drop_eq_nil_of_le (show l.length≤i by omega),cmpBs,List.length_drop]
      refine ev_neg (by omega) (ev_ite (fun g=> ?_) (fun g=> ?_))
      · rw [if_neg (by omega)];exact ev_some _
      · rw [if_pos (by omega)];exact ev_some _
    | succ d ihd=>
      intro i hd hi hj
      have hil:i < l.length:=by omega
      refine Ev.step (fun k=>by rw [impl_Binding.l0]) ?_
      refine ev_pos (by omega) (ev_pos (by omega) (ev_pos (by omega) ?_))
      by_cases g:i < r.length
      · have hb:=hl.2 _ (List.getElem_mem hil)
        rw [cmpBs_drop l r i hil g,rdib_lt hil,rdib_lt g,w64 (a:=(i:Int) + 1) (by omega) (by omega)]
        have he:Ev (fun k=>impl_CompareSubstitutions_1.f k l[i].f0.f0 l[i].f0.f1 l[i].f0.f2 l[i].f0.f3 l[i].f1.f0 l[i].f1.f1 l[i].f1.f2 l[i].f1.f3 r[i].f0.f0 r[i].f0.f1 r[i].f0.f2 r[i].f0.f3 r[i].f1.f0 r[i].f1.f1 r[i].f1.f2 r[i].f1.f3) (cmpB l[i] r[i]):=by
          unfold impl_CompareSubstitutions_1.f
          refine ev_bind _ (impl_CompareTerms.ev _ l[i].f0 r[i].f0 (Nat.lt_succ_self _) hb.1) (ev_bind _ (impl_CompareTerms.ev _ l[i].f1 r[i].f1 (Nat.lt_succ_self _) hb.2) (ev_bind _ (cmp_Or2_ev _ _) (ev_of ?_)))
          unfold cmpB lead
          by_cases h1:cmpT l[i].f0 r[i].f0=0 <;> by_cases h2:cmpT l[i].f1 r[i].f1=0 <;> simp [h1,h2]
        refine ev_neg (by omega) (ev_pos (by omega) (ev_bind _ he ?_))
        unfold lead
        refine ev_ite (fun h=> ?_) (fun h=> ?_)
        · rw [if_pos h];exact ihd (i + 1) (by omega) (by omega) (by omega)
        · rw [if_neg h];exact ev_some _
      · rw [List.drop_eq_getElem_cons hil,List.drop_eq_nil_of_le (show r.length≤i by omega),cmpBs]
        exact ev_pos (by omega) (ev_some _)
  unfold impl_CompareSubstitutions.f
  refine ev_bind (cmpBs l r) ?_ (ev_some _)
  unfold impl_Binding.f
  have:=loop _ 0 rfl (by omega) (by omega)
  simpa using this
theorem FnExactCompareSubstitutions (l:List S71) (hl:l.length≤maxLen∧∀ b ∈ l,okS71 b) (r:List S71) (hr:r.length≤maxLen∧∀ b ∈ r,okS71 b):∃ k,laws_FnExactCompareSubstitutions.f k l r=some true:=by
  apply Ev.rounds
  unfold laws_FnExactCompareSubstitutions.f
  refine ev_bind _ (szBindingS_ev l hl.1 hl.2 _ (by omega) (by omega)) (ev_ite (fun _=>ev_some _) (fun g=> ?_))
  have b1:bindsB l≤1048576∧leftOf 1048576 (bindsB l)=1048576 - bindsB l:=by
    unfold leftOf at g ⊢
    split at g
    · rw [if_pos (by assumption)];exact ⟨by omega,rfl⟩
    · omega
  rw [b1.2]
  refine ev_bind _ (szBindingS_ev r hr.1 hr.2 _ (by omega) (by omega)) (ev_ite (fun _=>ev_some _) (fun g2=> ?_))
  have b2:bindsB r≤1048576:=by
    unfold leftOf at g2
    split at g2
    · omega
    · omega
  have h1:=toBindingS_ev l b1.1
  have h2:=toBindingS_ev r b2
  refine ev_bind _ h1 (ev_bind _ h2 (ev_bind _ (spec_CompareSubstitutions.ev _ _ (b_small b1.1)) (ev_bind _ h1 (ev_bind _ h2 (ev_bind _ (impl_CompareSubstitutions.ev _ _ (b_small b1.1)) (ev_pos rfl ?_))))))
  exact ev_bind _ h1 (ev_bind _ (eqBindingS_refl _ (b_small b1.1)) (ev_pos rfl (ev_bind _ h2 (ev_bind _ (eqBindingS_refl _ (b_small b2)) (ev_pos rfl (ev_some _))))))

end Go.Proofs.Ytcofpnddfmlafaa.Pure

