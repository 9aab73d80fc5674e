/- The statement FnExactCompareTerms over numbers and lists alone: what the printed functions of the law come to is true,for every input. -/
import Derived.Test.YtcofpnddfmlafaaZQx4h936a9
import Derived.Test.YtcofpnddfmlafaaZPbh6458a
import Derived.Test.YtcofpnddfmlafaaZRdh946ad
set_option linter.unusedVariables false
set_option linter.unusedSimpArgs false
set_option linter.unusedSectionVars false
namespace Go.Proofs.Ytcofpnddfmlafaa.Pure
open Go.RowKit Go.Proofs.Ytcofpnddfmlafaa.Q Go.Proofs.YtcofpnddfmlafaaW.PrintWords Go.Proofs.YtcofpnddfmlafaaW.PrintLast Go.Proofs.YtcofpnddfmlafaaW.PrintMore Go.Proofs.Ytcofpnddfmlafaa.Pb Go.Proofs.Ytcofpnddfmlafaa.Rd

def leftOf (left:Int) (n:Nat):Int:=if (n:Int)≤left then left - n else -1

/-! terms: sizes,copies,equality -/
mutual
def bulk:S24→Nat
  | ⟨_,n,_,l⟩=>n.size + bulkL l
def bulkL:List S24→Nat
  | []=>0
  | t :: r=>1 + bulk t + bulkL r
end
mutual
def conv:S24→S29
  | ⟨a,n,s,l⟩=>⟨a,n,s,convL l⟩
def convL:List S24→List S29
  | []=> []
  | t :: r=>conv t :: convL r
end
mutual
def nodes:S29→Nat
  | ⟨_,_,_,l⟩=>1 + nodesL l
def nodesL:List S29→Nat
  | []=>0
  | t :: r=>nodes t + nodesL r
end
theorem bulkL_mem {l:List S24} {t:S24} (h:t ∈ l):bulk t + 1≤bulkL l:=by
  induction l with
  | nil=>cases h
  | cons x r ih=>
    rw [bulkL]
    rcases List.mem_cons.1 h with rfl | h
    · omega
    · have:=ih h;omega
theorem bulkL_len (l:List S24):l.length≤bulkL l:=by
  induction l with
  | nil=>simp
  | cons x r ih=>rw [bulkL,List.length_cons];omega
theorem convL_map (l:List S24):convL l=l.map conv:=by
  induction l with
  | nil=>rfl
  | cons t r ih=>rw [convL,ih,List.map_cons]
theorem nodesL_mem {l:List S29} {t:S29} (h:t ∈ l):nodes t≤nodesL l:=by
  induction l with
  | nil=>cases h
  | cons x r ih=>
    rw [nodesL]
    rcases List.mem_cons.1 h with rfl | h
    · omega
    · have:=ih h;omega
theorem nodes_pos (t:S29):1≤nodes t:=by cases t;rw [nodes];omega
theorem nodesL_len (l:List S29):l.length≤nodesL l:=by
  induction l with
  | nil=>simp
  | cons x r ih=>rw [nodesL,List.length_cons];have:=nodes_pos x;omega
mutual
theorem nodes_conv:∀ t:S24,nodes (conv t)≤1 + bulk t
  | ⟨a,n,s,l⟩=>by
    have:=nodes_convL l
    rw [conv,nodes,bulk]
    omega
theorem nodes_convL:∀ l:List S24,nodesL (convL l)≤bulkL l
  | []=>by rw [convL,nodesL];omega
  | t :: r=>by
    have h1:=nodes_conv t
    have h2:=nodes_convL r
    rw [convL,nodesL,bulkL]
    omega
end
theorem rdl_lt {xs:List S24} {i:Nat} (h:i < xs.length):rd_T24 xs (i:Int)=xs[i]:=by
  unfold rd_T24
  rw [List.getD_eq_getElem?_getD,Int.toNat_natCast,List.getElem?_eq_getElem h]
  rfl
theorem rdi_lt {xs:List S29} {i:Nat} (h:i < xs.length):rd_T29 xs (i:Int)=xs[i]:=by
  unfold rd_T29
  rw [List.getD_eq_getElem?_getD,Int.toNat_natCast,List.getElem?_eq_getElem h]
  rfl
theorem szTerm_ev (n:Nat):∀ (t:S24) (left:Int),bulk t < n→okS24 t→0≤left→left≤1048576→Ev (fun k=>laws_szTerm.f k t.f0 t.f1 t.f2 t.f3 left) (leftOf left (bulk t)):=by
  induction n with
  | zero=>intro t left h;omega
  | succ n ih=>
    intro t left hn ho h0 h1
    obtain ⟨a,nm,s,l⟩:=t
    rw [bulk] at hn ⊢
    rw [okS24] at ho
    simp only [maxLen] at ho
    obtain ⟨_,o2,_,o4,o5⟩:=ho
    simp only
    refine Ev.step (fun k=>by rw [laws_szTerm.f]) ?_
    rw [w64 (a:=left - (nm.size:Int)) (by omega) (by omega)]
    by_cases g:left - (nm.size:Int) < 0
    · refine ev_pos g (ev_of ?_)
      unfold leftOf
      rw [if_neg (by omega)]
    · refine ev_neg g ?_
      have loop:∀ (d i:Nat) (lf:Int),l.length - i=d→i≤l.length→0≤lf→lf≤1048576→Ev (fun k=>laws_szTermS.l0 k l lf (i:Int)) (leftOf lf (bulkL (l.drop i) - d)):=by
        intro d
        induction d with
        | zero=>
          intro i lf hd hi p0 p1
          refine Ev.step (fun k=>by rw [laws_szTermS.l0]) ?_
          refine ev_neg (by omega) (ev_of ?_)
          rw [List.drop_eq_nil_of_le (by omega),bulkL]
          unfold leftOf
          rw [if_pos (by omega)]
          simp
        | succ d ihd=>
          intro i lf hd hi p0 p1
          have hil:i < l.length:=by omega
          have hm:l[i] ∈ l:=List.getElem_mem _
          have hb:=bulkL_mem hm
          refine Ev.step (fun k=>by rw [laws_szTermS.l0]) ?_
          refine ev_pos (by omega) (ev_pos (by omega) ?_)
          rw [rdl_lt hil]
          refine ev_bind _ (ih l[i] lf (by omega) ((okS24L_iff l).1 o5 _ hm) p0 p1) ?_
          rw [List.drop_eq_getElem_cons hil,bulkL]
          have hlen:=bulkL_len (l.drop (i + 1))
          rw [List.length_drop] at hlen
          by_cases g:(bulk l[i]:Int)≤lf
          · have e:leftOf lf (bulk l[i])=lf - bulk l[i]:=by unfold leftOf;rw [if_pos g]
            rw [e,w64 (by omega) (by omega)]
            refine ev_neg (by omega) (ev_eq (ihd (i + 1) _ (by omega) (by omega) (by omega) (by omega)) ?_)
            unfold leftOf
            generalize bulkL (l.drop (i + 1))=y at *
            generalize bulk l[i]=x at *
            split <;> split <;> omega
          · have e:leftOf lf (bulk l[i]) = -1:=by unfold leftOf;rw [if_neg g]
            rw [e]
            refine ev_pos (by omega) (ev_of ?_)
            unfold leftOf
            rw [if_neg (by omega)]
      have hS:Ev (fun k=>laws_szTermS.f k l (left - (nm.size:Int))) (leftOf (left - (nm.size:Int)) (bulkL l)):=by
        refine Ev.step (fun k=>by rw [laws_szTermS.f]) ?_
        rw [w64 (a:=left - (nm.size:Int) - (l.length:Int)) (by omega) (by omega)]
        have hlen:=bulkL_len l
        by_cases g2:left - (nm.size:Int) - (l.length:Int) < 0
        · refine ev_pos g2 (ev_of ?_)
          unfold leftOf
          rw [if_neg (by omega)]
        · refine ev_neg g2 (ev_eq (loop l.length 0 _ (by omega) (by omega) (by omega) (by omega)) ?_)
          rw [List.drop_zero]
          unfold leftOf
          split <;> split <;> omega
      refine ev_bind _ hS ?_
      by_cases g3:(bulkL l:Int)≤left - (nm.size:Int)
      · have e:leftOf (left - (nm.size:Int)) (bulkL l)=left - nm.size - bulkL l:=by unfold leftOf;rw [if_pos g3]
        rw [e]
        refine ev_neg (by omega) (ev_of ?_)
        unfold leftOf
        rw [if_pos (by omega)]
        congr 1
        omega
      · have e:leftOf (left - (nm.size:Int)) (bulkL l) = -1:=by unfold leftOf;rw [if_neg g3]
        rw [e]
        refine ev_pos (by omega) (ev_of ?_)
        unfold leftOf
        rw [if_neg (by omega)]
theorem toTerm_ev (n:Nat):∀ (t:S24),bulk t < n→bulk t≤1048576→Ev (fun k=>laws_toTerm.f k t.f0 t.f1 t.f2 t.f3) ((conv t).f0,(conv t).f1,(conv t).f2,(conv t).f3):=by
  induction n with
  | zero=>intro t h;omega
  | succ n ih=>
    intro t hn hb
    obtain ⟨a,nm,s,l⟩:=t
    rw [bulk] at hn hb
    have hlen:=bulkL_len l
    have loop:∀ (d i:Nat),l.length - i=d→i≤l.length→Ev (fun k=>laws_toTermS.l0 k l ((l.take i).map conv ++ List.replicate (l.length - i) z29) (i:Int)) (convL l):=by
      intro d
      induction d with
      | zero=>
        intro i hd hi
        refine Ev.step (fun k=>by rw [laws_toTermS.l0]) ?_
        refine ev_neg (by omega) (ev_of ?_)
        rw [hd,List.take_of_length_le (by omega),convL_map]
        simp
      | succ d ihd=>
        intro i hd hi
        have hil:i < l.length:=by omega
        have hm:l[i] ∈ l:=List.getElem_mem _
        have hbm:=bulkL_mem hm
        refine Ev.step (fun k=>by rw [laws_toTermS.l0]) ?_
        refine ev_pos (by omega) (ev_pos (by omega) ?_)
        rw [rdl_lt hil]
        refine ev_bind _ (ih l[i] (by omega) (by omega)) (ev_pos (by simp;omega) ?_)
        rw [w64 (by omega) (by omega),hd,List.replicate_succ]
        have e:((l.take i).map conv ++ z29 :: List.replicate d z29).set ((i:Int)).toNat (conv l[i])=(l.take (i + 1)).map conv ++ List.replicate (l.length - (i + 1)) z29:=by
          rw [Int.toNat_natCast]
          have hi' : ((l.take i).map conv).length=i:=by rw [List.length_map,List.length_take];omega
          have:=set_split ((l.take i).map conv) z29 (List.replicate d z29) (conv l[i])
          rw [hi'] at this
          rw [this,List.take_succ_eq_append_getElem hil,show l.length - (i + 1)=d by omega]
          simp only [List.map_append,List.map_cons,List.map_nil]
        have e2:(⟨(conv l[i]).f0,(conv l[i]).f1,(conv l[i]).f2,(conv l[i]).f3⟩:S29)=conv l[i]:=by cases conv l[i];rfl
        simp only [e2]
        rw [e]
        exact ihd (i + 1) (by omega) (by omega)
    simp only
    refine Ev.step (fun k=>by rw [laws_toTerm.f]) ?_
    have hS:Ev (fun k=>laws_toTermS.f k l) (convL l):=by
      refine Ev.step (fun k=>by rw [laws_toTermS.f]) ?_
      refine ev_pos (by omega) (ev_pos (by omega) ?_)
      have:=loop l.length 0 (by omega) (by omega)
      simpa using this
    refine ev_bind _ hS (ev_of ?_)
    rw [conv]
theorem toList_inj {a b:ByteArray} (h:a.toList=b.toList):a=b:=by
  rw [Go.ByteArray.toList_eq,Go.ByteArray.toList_eq] at h
  cases a
  cases b
  simp only [ByteArray.mk.injEq] at *
  exact Array.toList_inj.1 h
theorem eqTerm_ev (n:Nat):∀ (t u:S29),nodes t < n→nodes t≤1048577→Ev (fun k=>laws_eqTerm.f k t.f0 t.f1 t.f2 t.f3 u.f0 u.f1 u.f2 u.f3) (by classical exact decide (t=u)):=by
  classical
  induction n with
  | zero=>intro t u h;omega
  | succ n ih=>
    intro t u hn hb
    obtain ⟨a,nm,s,l⟩:=t
    obtain ⟨a',nm',s',l'⟩:=u
    rw [nodes] at hn hb
    have hlen:=nodesL_len l
    simp only
    refine Ev.step (fun k=>by rw [laws_eqTerm.f]) ?_
    by_cases e1:a=a'
    · refine ev_pos e1 ?_
      by_cases e2:nm=nm'
      · refine ev_pos (by rw [e2]) ?_
        by_cases e3:s=s'
        · refine ev_pos e3 ?_
          have loop:l.length=l'.length→∀ (d i:Nat),l.length - i=d→i≤l.length→Ev (fun k=>laws_eqTermS.l0 k l l' (i:Int)) (decide (l.drop i=l'.drop i)):=by
            intro hll d
            induction d with
            | zero=>
              intro i hd hi
              refine Ev.step (fun k=>by rw [laws_eqTermS.l0]) ?_
              refine ev_neg (by omega) (ev_of ?_)
              rw [List.drop_eq_nil_of_le (by omega),List.drop_eq_nil_of_le (by omega)]
              simp
            | succ d ihd=>
              intro i hd hi
              have hil:i < l.length:=by omega
              have hm:l[i] ∈ l:=List.getElem_mem _
              have hnm:=nodesL_mem hm
              refine Ev.step (fun k=>by rw [laws_eqTermS.l0]) ?_
              refine ev_pos (by omega) (ev_pos (by omega) (ev_pos (by omega) ?_))
              rw [rdi_lt hil,rdi_lt (show i < l'.length by omega),w64 (by omega) (by omega)]
              refine ev_bind _ (ih l[i] (l'[i]'(by omega)) (by omega) (by omega)) ?_
              rw [List.drop_eq_getElem_cons hil,List.drop_eq_getElem_cons (show i < l'.length by omega)]
              by_cases h:l[i]=l'[i]'(by omega)
              · refine ev_pos (by simpa using h) ?_
                exact ev_eq (ihd (i + 1) (by omega) (by omega)) (by simp only [h,List.cons.injEq,true_and])
              · refine ev_neg (by simpa using h) (ev_of ?_)
                simp only [List.cons.injEq,h,false_and,decide_false]
          have hS:Ev (fun k=>laws_eqTermS.f k l l') (decide (l=l')):=by
            refine Ev.step (fun k=>by rw [laws_eqTermS.f]) ?_
            by_cases hll:l.length=l'.length
            · refine ev_pos (by omega) ?_
              exact loop hll l.length 0 (by omega) (by omega)
            · refine ev_neg (by omega) (ev_of ?_)
              have:l≠l':=fun e=>hll (by rw [e])
              simp [this]
          refine ev_bind _ hS ?_
          subst e1 e2 e3
          by_cases h:l=l'
          · refine ev_pos (by simpa using h) (ev_of ?_)
            simp [h]
          · refine ev_neg (by simpa using h) (ev_of ?_)
            simp [h]
        · refine ev_neg e3 (ev_of ?_)
          simp [e3]
      · refine ev_neg (fun h=>e2 (toList_inj h)) (ev_of ?_)
        simp [e2]
    · refine ev_neg e1 (ev_of ?_)
      simp [e1]
theorem eqTerm_refl (t:S29) (hb:nodes t≤1048577):Ev (fun k=>laws_eqTerm.f k t.f0 t.f1 t.f2 t.f3 t.f0 t.f1 t.f2 t.f3) true:=ev_eq (eqTerm_ev _ t t (Nat.lt_succ_self _) hb) (by simp)

/-! the order of terms -/
def cmpI (a b:Int):Int:=if a < b then -1 else if a > b then 1 else 0
def lead (a b:Int):Int:=if a=0 then b else a
def cmpS (a b:ByteArray):Int:=Lib.compareBytes a.data.toList b.data.toList
mutual
def cmpT:S29→S29→Int
  | ⟨a,n,s,l⟩,u=>lead (cmpI a u.f0) (lead (cmpS n u.f1) (lead (cmpI s u.f2) (cmpL l u.f3)))
def cmpL:List S29→List S29→Int
  | [],r=>if r.length=0 then 0 else -1
  | x :: l,r=>match r with
    | []=>1
    | y :: r=>lead (cmpT x y) (cmpL l r)
end
theorem cmpT_eq (t u:S29):cmpT t u=lead (cmpI t.f0 u.f0) (lead (cmpS t.f1 u.f1) (lead (cmpI t.f2 u.f2) (cmpL t.f3 u.f3))):=by cases t;rw [cmpT]
theorem compareBytes_eq:∀ a b:List UInt8,Lib.compareBytes a b=if a=b then 0 else if Op.bytesLess a b=true then -1 else 1
  | [],[]=>by simp [Lib.compareBytes]
  | [],_ :: _=>by simp [Lib.compareBytes,Op.bytesLess]
  | _ :: _,[]=>by simp [Lib.compareBytes,Op.bytesLess]
  | x :: a,y :: b=>by
    have ih:=compareBytes_eq a b
    unfold Lib.compareBytes Op.bytesLess
    by_cases h1:x < y
    · have hne:x≠y:=fun e=>by rw [e] at h1;exact absurd h1 (UInt8.lt_irrefl _)
      rw [if_pos h1,if_neg (by simp [hne]),if_pos (by simp [h1])]
    · rw [if_neg h1]
      by_cases h2:y < x
      · have hne:x≠y:=fun e=>by rw [e] at h2;exact absurd h2 (UInt8.lt_irrefl _)
        rw [if_pos h2,if_neg (by simp [hne]),if_neg (by simp [h1,hne])]
      · have e:x=y:=by
          apply UInt8.toNat_inj.1
          have g1 : ¬ x.toNat < y.toNat:=h1
          have g2 : ¬ y.toNat < x.toNat:=h2
          omega
        subst e
        rw [if_neg h2,ih]
        simp [UInt8.lt_irrefl]
theorem cmpS_eq (a b:ByteArray):cmpS a b=if a.toList=b.toList then 0 else if Op.bytesLess a.toList b.toList=true then -1 else 1:=by
  unfold cmpS
  rw [compareBytes_eq,Go.ByteArray.toList_eq,Go.ByteArray.toList_eq]
theorem cmpL_drop (l r:List S29) (i:Nat) (hi:i < l.length) (hj:i < r.length):cmpL (l.drop i) (r.drop i)=lead (cmpT l[i] r[i]) (cmpL (l.drop (i + 1)) (r.drop (i + 1))):=by
  rw [List.drop_eq_getElem_cons hi,List.drop_eq_getElem_cons hj,cmpL]
theorem spec_CompareTerms.ev (n:Nat):∀ (t u:S29),nodes t < n→nodes t≤1048577→Ev (fun k=>spec_CompareTerms.f k t.f0 t.f1 t.f2 t.f3 u.f0 u.f1 u.f2 u.f3) (cmpT t u):=by
  induction n with
  | zero=>intro t u h;omega
  | succ n ih=>
    intro t u hn hb
    rw [cmpT_eq]
    obtain ⟨a,nm,s,l⟩:=t
    obtain ⟨b,mn,z,r⟩:=u
    rw [nodes] at hn hb
    have hlen:=nodesL_len l
    have loop:∀ (d i:Nat),l.length - i=d→i≤l.length→i≤r.length→Ev (fun k=>spec_CompareTerms.l0 k (i:Int) a nm s l b mn z r) (cmpL (l.drop i) (r.drop i)):=by
      intro d
      induction d with
      | zero=>
        intro i hd hi hj
        refine Ev.step (fun k=>by rw [spec_CompareTerms.l0]) ?_
        refine ev_neg (by omega) (Ev.step (fun k=>by rw [spec_CompareTerms.j1]) ?_)
        rw [List.drop_eq_nil_of_le (show l.length≤i by omega),cmpL,List.length_drop]
        refine ev_neg (by simp) ?_
        by_cases g:(l.length:Int) < (r.length:Int)
        · rw [if_neg (show ¬ r.length - i=0 by omega)];exact ev_pos g (ev_some _)
        · rw [if_pos (show r.length - i=0 by omega)];exact ev_neg g (ev_neg (by omega) (ev_some _))
      | succ d ihd=>
        intro i hd hi hj
        have hil:i < l.length:=by omega
        refine Ev.step (fun k=>by rw [spec_CompareTerms.l0]) ?_
        refine ev_pos (by omega) (Ev.step (fun k=>by rw [spec_CompareTerms.j1]) ?_)
        by_cases g:i < r.length
        · have hnm:=nodesL_mem (List.getElem_mem hil)
          rw [decide_eq_true (show (i:Int) < (r.length:Int) by omega),cmpL_drop l r i hil g,rdi_lt hil,rdi_lt g,w64 (a:=(i:Int) + 1) (by omega) (by omega)]
          refine ev_pos rfl (ev_pos (by omega) (ev_pos (by omega) (ev_pos (by omega) (ev_bind _ (ih l[i] r[i] (by omega) (by omega)) ?_))))
          unfold lead
          refine ev_ite (fun h=> ?_) (fun h=> ?_)
          · rw [if_pos h];exact ihd (i + 1) (by omega) (by omega) (by omega)
          · rw [if_neg h];exact ev_some _
        · rw [decide_eq_false (show ¬ (i:Int) < (r.length:Int) by omega),List.drop_eq_getElem_cons hil,List.drop_eq_nil_of_le (show r.length≤i by omega),cmpL]
          exact ev_neg (by simp) (ev_neg (by omega) (ev_pos (by omega) (ev_some _)))
    simp only
    refine Ev.step (fun k=>by rw [spec_CompareTerms.f]) ?_
    refine ev_ite (fun g1=> ?_) (fun g1=> ?_)
    · have e1:cmpI a b=0:=by unfold cmpI;rw [if_neg (by omega),if_neg (by omega)]
      rw [e1]
      refine ev_ite (fun g2=> ?_) (fun g2=> ?_)
      · have e2:cmpS nm mn=0:=by rw [cmpS_eq,if_pos g2]
        rw [e2]
        refine ev_ite (fun g3=> ?_) (fun g3=> ?_)
        · have e3:cmpI s z=0:=by unfold cmpI;rw [if_neg (by omega),if_neg (by omega)]
          rw [e3]
          have:=loop _ 0 rfl (by omega) (by omega)
          simpa [lead] using this
        · unfold lead cmpI
          refine ev_ite (fun g=>ev_eq (ev_some _) ?_) (fun g=>ev_eq (ev_some _) ?_)
          · simp [g]
          · rw [if_neg g,if_pos (show s > z by omega)];simp
      · unfold lead
        rw [cmpS_eq,if_neg g2]
        refine ev_ite (fun g=>ev_eq (ev_some _) ?_) (fun g=>ev_eq (ev_some _) ?_)
        · simp [g]
        · simp [g]
    · unfold lead cmpI
      refine ev_ite (fun g=>ev_eq (ev_some _) ?_) (fun g=>ev_eq (ev_some _) ?_)
      · simp [g]
      · rw [if_neg g,if_pos (show a > b by omega)];simp
theorem cmp_Compare_eq (a b:Int):cmp_Compare_int.f a b=some (cmpI a b):=by
  unfold cmp_Compare_int.f cmp_isNaN_int.f cmpI
  simp only [Option.bind_some,bne_self_eq_false,Bool.false_eq_true,if_false]
  split
  · rfl
  · split <;> rfl
theorem cmp_Or_ev (a b c:Int):Ev (fun k=>cmp_Or_int.f k [a,b,c]) (lead a (lead b (lead c 0))):=by
  unfold cmp_Or_int.f
  have step:∀ (i:Nat) (x:Int) (q:Int),i < 3→rd [a,b,c] (i:Int)=x→(x=0→Ev (fun k=>cmp_Or_int.l0 k 0 [a,b,c] (([a,b,c]:List Int).length:Int) ((i:Int) + 1)) q)→Ev (fun k=>cmp_Or_int.l0 k 0 [a,b,c] (([a,b,c]:List Int).length:Int) (i:Int)) (lead x q):=by
    intro i x q hi hx hq
    refine Ev.step (fun k=>by rw [cmp_Or_int.l0]) ?_
    rw [hx,w64 (a:=(i:Int) + 1) (by omega) (by omega)]
    unfold lead
    refine ev_pos (by simp only [List.length_cons,List.length_nil];omega) (ev_pos (by omega) (ev_pos (by simp only [List.length_cons,List.length_nil];omega) (ev_ite (fun g=> ?_) (fun g=> ?_))))
    · rw [if_pos g];exact hq g
    · rw [if_neg g];exact ev_some _
  refine step 0 a _ (by omega) rfl (fun _=>step 1 b _ (by omega) rfl (fun _=>step 2 c _ (by omega) rfl (fun _=> ?_)))
  refine Ev.step (fun k=>by rw [cmp_Or_int.l0]) ?_
  exact ev_neg (by simp) (ev_some _)
theorem impl_CompareTerms.ev (n:Nat):∀ (t u:S29),nodes t < n→nodes t≤1048577→Ev (fun k=>impl_CompareTerms.f k t.f0 t.f1 t.f2 t.f3 u.f0 u.f1 u.f2 u.f3) (cmpT t u):=by
  induction n with
  | zero=>intro t u h;omega
  | succ n ih=>
    intro t u hn hb
    rw [cmpT_eq]
    obtain ⟨a,nm,s,l⟩:=t
    obtain ⟨b,mn,z,r⟩:=u
    rw [nodes] at hn hb
    have hlen:=nodesL_len l
    have loop:∀ (d i:Nat),l.length - i=d→i≤l.length→i≤r.length→Ev (fun k=>impl_Term_43.l0 k l r l (l.length:Int) (i:Int)) (cmpL (l.drop i) (r.drop i)):=by
      intro d
      induction d with
      | zero=>
        intro i hd hi hj
        refine Ev.step (fun k=>by rw [impl_Term_43.l0]) ?_
        rw [List.drop_eq_nil_of_le (show l.length≤i by omega),cmpL,List.length_drop]
        refine ev_neg (by omega) (ev_ite (fun g=> ?_) (fun g=> ?_))
        · rw [if_neg (by omega)];exact ev_some _
        · rw [if_pos (by omega)];exact ev_some _
      | succ d ihd=>
        intro i hd hi hj
        have hil:i < l.length:=by omega
        refine Ev.step (fun k=>by rw [impl_Term_43.l0]) ?_
        refine ev_pos (by omega) (ev_pos (by omega) (ev_pos (by omega) ?_))
        by_cases g:i < r.length
        · have hnm:=nodesL_mem (List.getElem_mem hil)
          rw [cmpL_drop l r i hil g,rdi_lt hil,rdi_lt g,w64 (a:=(i:Int) + 1) (by omega) (by omega)]
          refine ev_neg (by omega) (ev_pos (by omega) (ev_bind _ (ih l[i] r[i] (by omega) (by omega)) ?_))
          unfold lead
          refine ev_ite (fun h=> ?_) (fun h=> ?_)
          · rw [if_pos h];exact ihd (i + 1) (by omega) (by omega) (by omega)
          · rw [if_neg h];exact ev_some _
        · rw [List.drop_eq_getElem_cons hil,List.drop_eq_nil_of_le (show r.length≤i by omega),cmpL]
          exact ev_pos (by omega) (ev_some _)
    simp only
    refine Ev.step (fun k=>by rw [impl_CompareTerms.f]) ?_
    refine ev_bind0 _ (cmp_Compare_eq a b) (ev_bind0 (cmpS nm mn) rfl (ev_bind0 _ (cmp_Compare_eq s z) (ev_bind _ (cmp_Or_ev _ _ _) ?_)))
    have e:lead (cmpI a b) (lead (cmpS nm mn) (lead (cmpI s z) (cmpL l r)))=if lead (cmpI a b) (lead (cmpS nm mn) (lead (cmpI s z) 0))=0 then cmpL l r else lead (cmpI a b) (lead (cmpS nm mn) (lead (cmpI s z) 0)):=by
      unfold lead
      by_cases h1:cmpI a b=0 <;> by_cases h2:cmpS nm mn=0 <;> by_cases h3:cmpI s z=0 <;> simp [h1,h2,h3]
    rw [e]
    refine ev_ite (fun g=> ?_) (fun g=> ?_)
    · rw [if_pos g]
      refine ev_bind (cmpL l r) (Ev.step (fun k=>by rw [impl_Term_43.f]) ?_) (ev_some _)
      have:=loop _ 0 rfl (by omega) (by omega)
      simpa using this
    · rw [if_neg g]
      exact ev_some _

theorem two_sizes {t u:S24} (ht:okS24 t) (hu:okS24 u) {G:Nat→Option Bool}
    (h:bulk t≤1048576→bulk u≤1048576→Ev G true) :
    Ev (fun k=>(laws_szTerm.f k t.f0 t.f1 t.f2 t.f3 1048576).bind fun x=>if x < 0 then some true else ((laws_szTerm.f k u.f0 u.f1 u.f2 u.f3 x).bind fun y=>if y < 0 then some true else G k)) true:=by
  refine ev_bind _ (szTerm_ev _ t 1048576 (Nat.lt_succ_self _) ht (by omega) (by omega)) (ev_ite (fun _=>ev_some _) (fun g=> ?_))
  have b1:bulk t≤1048576∧leftOf 1048576 (bulk t)=1048576 - bulk t:=by
    unfold leftOf at g ⊢
    split at g
    · rw [if_pos (by assumption)];exact ⟨by omega,rfl⟩
    · omega
  rw [b1.2]
  refine ev_bind _ (szTerm_ev _ u _ (Nat.lt_succ_self _) hu (by omega) (by omega)) (ev_ite (fun _=>ev_some _) (fun g2=>h b1.1 ?_))
  unfold leftOf at g2
  split at g2
  · omega
  · omega

theorem FnExactCompareTerms (t:S24) (ho:okS24 t) (u:S24) (hu:okS24 u):∃ k,laws_FnExactCompareTerms.f k t.f0 t.f1 t.f2 t.f3 u.f0 u.f1 u.f2 u.f3=some true:=by
  apply Ev.rounds
  unfold laws_FnExactCompareTerms.f
  refine two_sizes ho hu (fun b1 b2=> ?_)
  have n1:=nodes_conv t
  have n2:=nodes_conv u
  have h1:=toTerm_ev _ t (Nat.lt_succ_self _) b1
  have h2:=toTerm_ev _ u (Nat.lt_succ_self _) b2
  refine ev_bind _ h1 (ev_bind _ h2 (ev_bind _ (spec_CompareTerms.ev _ (conv t) (conv u) (Nat.lt_succ_self _) (by omega)) (ev_bind _ h1 (ev_bind _ h2 (ev_bind _ (impl_CompareTerms.ev _ (conv t) (conv u) (Nat.lt_succ_self _) (by omega)) (ev_pos rfl ?_))))))
  exact ev_bind _ h1 (ev_bind _ (eqTerm_refl (conv t) (by omega)) (ev_pos rfl (ev_bind _ h2 (ev_bind _ (eqTerm_refl (conv u) (by omega)) (ev_pos rfl (ev_some _))))))

end Go.Proofs.Ytcofpnddfmlafaa.Pure

