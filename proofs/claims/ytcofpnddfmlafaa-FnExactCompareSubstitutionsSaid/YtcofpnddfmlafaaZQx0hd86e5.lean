/- Functions of the program as plain Lean functions,and that the calls come to what they say. -/
import Derived.Test.YtcofpnddfmlafaaProg
import Derived.Below
import Derived.Deep.Draws
import Derived.Deep.AppendLies
import Derived.Maps.AppendAt
import Derived.OwnWalk
import Derived.Laws.BytesArg
import Derived.Laws.MakeOwn
import Derived.Laws.OwnMore
import Derived.Deep.OwnRows
import Derived.Tactics
import Derived.Lib.ConvBytes
import Derived.Laws.Slices
import Derived.WalkKit
import Derived.KernelRfl
import Derived.RowKit3
import Derived.Deep.LoopGhost
import Derived.Deep.QuietTactic
import Derived.BigQuiet
import Derived.WideLaws
import Derived.Deep.DeepCutAuto
import Derived.Deep.CutBlock
import Derived.Deep.RegionHeld3
import Derived.Laws.Rows
import Derived.Lib.AppendStr
import Derived.ArgAppend
import Derived.Laws.IdiomCopy
import Derived.OrdersHeld
import Derived.Laws.BitsLemmas
import Derived.RowKit
import Derived.Test.YtcofpnddfmlafaaZWWordsh4e1e5
import Derived.Test.YtcofpnddfmlafaaZWLasth597de
import Derived.Test.YtcofpnddfmlafaaZWTabhd7d5b
import Derived.Test.YtcofpnddfmlafaaZWFourh996fe
import Derived.Test.YtcofpnddfmlafaaZWQPuth58748
import Derived.Test.YtcofpnddfmlafaaZWApartha9751
import Derived.Test.YtcofpnddfmlafaaZWArrhdb57e
import Derived.Test.YtcofpnddfmlafaaZWZerosh3ebcf
import Derived.Test.YtcofpnddfmlafaaZWFoothc269f
import Derived.Test.YtcofpnddfmlafaaZWKepth7bd6e
import Derived.Test.YtcofpnddfmlafaaZWSharehfbb52
import Derived.Test.YtcofpnddfmlafaaZWNha37e3
import Derived.Test.YtcofpnddfmlafaaZWFootNeh9c10f
import Derived.Test.YtcofpnddfmlafaaZWAthcab53
import Derived.Test.YtcofpnddfmlafaaZWEqStructhc81c7
import Derived.Test.YtcofpnddfmlafaaZWRepsOneh0056e
import Derived.Test.YtcofpnddfmlafaaZWInvh80edd
import Derived.Test.YtcofpnddfmlafaaZWInvWordsh760f3
import Derived.Test.YtcofpnddfmlafaaZWGuardh5da02
import Derived.Test.YtcofpnddfmlafaaZWNEvh65b81
import Derived.Test.YtcofpnddfmlafaaZWMorehf3a54
namespace Go.Proofs.Ytcofpnddfmlafaa.Q
open Go.RowKit Go.Proofs.YtcofpnddfmlafaaW.PrintWords Go.Proofs.YtcofpnddfmlafaaW.PrintLast Go.Proofs.YtcofpnddfmlafaaW.PrintMore
attribute [local go_sem] max2_int min2_int max_two min_two max_three min_three max_four min_four   -- for this text's walks alone
set_option linter.unusedVariables false
set_option linter.unusedSimpArgs false



def errW:Option Int→Value
  | none=> .nilIface
  | some c=> .iface 0 (.int .i64 c)
theorem errW_none:errW none=.nilIface:=rfl
theorem errW_some (c:Int):errW (some c)=.iface 0 (.int .i64 c):=rfl

theorem info29:(Try.prog.info? 29).map (fun i=>(i.zero,i.size,i.bytes))=some (some (.agg #[(.int .i64 0),(.string ⟨#[]⟩),(.int .i64 0),(.slice none 0 0)]),4,56):=by kernel_rfl
theorem info73:(Try.prog.info? 73).map (fun i=>(i.zero,i.size,i.bytes))=some (some (.agg #[(.int .i64 0),(.string ⟨#[]⟩),(.int .i64 0),(.slice none 0 0),(.int .i64 0),(.string ⟨#[]⟩),(.int .i64 0),(.slice none 0 0)]),8,112):=by kernel_rfl
/-! #### struct type 24,nested in itself -/
structure S24 where
  f0:Int
  f1:ByteArray
  f2:Int
  f3:(List S24)
def z24:S24:=⟨(0:Int),(⟨#[]⟩:ByteArray),(0:Int),([]:List S24)⟩
def F24 (d:Kd S24):Kd S24:=Kd.iso (Kd.pair (Kd.int .i64) (Kd.pair Kd.string (Kd.pair (Kd.int .i64) (Kd.slice 24 d)))) (fun x:S24=>(x.f0,x.f1,x.f2,x.f3))
theorem mono24:Kd.Mono F24:=Kd.mono_iso _ (Kd.mono_pair (Kd.mono_const _) (Kd.mono_pair (Kd.mono_const _) (Kd.mono_pair (Kd.mono_const _) (Kd.mono_slice 24 Kd.mono_id))))
theorem sub24:Kd.Sub F24 [24]:=Kd.sub_iso _ (Kd.sub_pair (Kd.sub_const _ (by decide)) (Kd.sub_pair (Kd.sub_const _ (by decide)) (Kd.sub_pair (Kd.sub_const _ (by decide)) (Kd.sub_slice 24 (by decide) Kd.sub_id))))
theorem sz24:∀ n,(Kd.upto F24 4 [24] n).sz=4:=Kd.upto_sz (fun _=>rfl)
def k24:Kd S24:=Kd.fix F24 4 [24] sz24 (Kd.upto_E sub24)
theorem k24_open {w:World} {x:S24} {cs:List Value} (h:k24.K w x cs):∃ A3 c3,cs = [.int .i64 x.f0,.string x.f1,.int .i64 x.f2,.slice A3 x.f3.length c3]∧x.f3.length≤c3∧k24.C w A3 x.f3.length x.f3:=by
  obtain ⟨n,h⟩:=h
  cases n with
  | zero=>exact h.elim
  | succ n=>
    obtain ⟨_,_,rfl,rfl,⟨_,_,rfl,rfl,⟨_,_,rfl,rfl,⟨A3,c3,rfl,l3,g3⟩⟩⟩⟩:=h
    exact ⟨A3,c3,rfl,l3,Kd.fix_C g3⟩
theorem k24_mk (w:World) (x:S24) {A3:Option Addr} {c3:Nat} (l3:x.f3.length≤c3) (g3:k24.C w A3 x.f3.length x.f3):k24.K w x [.int .i64 x.f0,.string x.f1,.int .i64 x.f2,.slice A3 x.f3.length c3]:=by
  obtain ⟨n3,q3⟩:=Kd.fix_C_back mono24 g3
  have r3:=Kd.upto_C_le mono24 sz24 (show n3≤n3 by omega) q3
  exact ⟨n3 + 1,⟨[.int .i64 x.f0],[.string x.f1,.int .i64 x.f2,.slice A3 x.f3.length c3],rfl,rfl,⟨[.string x.f1],[.int .i64 x.f2,.slice A3 x.f3.length c3],rfl,rfl,⟨[.int .i64 x.f2],[.slice A3 x.f3.length c3],rfl,rfl,⟨A3,c3,rfl,l3,r3⟩⟩⟩⟩⟩
def rd_T24 (xs:List S24) (i:Int):S24:=xs.getD i.toNat z24
theorem at_T24 {w:World} {A:Option Addr} {n:Nat} {xs:List S24} (h:Kd.C k24 w A n xs) (i:Int) (h0:0≤i) (h1:i < n):∃ ad A3 c3,A=some ad∧w.cell? (ad.add (i.toNat * 4))=some (.int .i64 (rd_T24 xs i).f0)∧w.cell? ⟨(ad.add (i.toNat * 4)).block,(ad.add (i.toNat * 4)).off + 1,none⟩=some (.string (rd_T24 xs i).f1)∧w.cell? ⟨(ad.add (i.toNat * 4)).block,(ad.add (i.toNat * 4)).off + 2,none⟩=some (.int .i64 (rd_T24 xs i).f2)∧w.cell? ⟨(ad.add (i.toNat * 4)).block,(ad.add (i.toNat * 4)).off + 3,none⟩=some (.slice A3 (rd_T24 xs i).f3.length c3)∧(rd_T24 xs i).f3.length≤c3∧k24.C w A3 (rd_T24 xs i).f3.length (rd_T24 xs i).f3:=by
  obtain ⟨ad,c,e,_,hK,hc0⟩:=Kd.C_get h z24 i h0 h1
  have hc:∀ j u,c[j]? = some u→w.cell? (ad.add (i.toNat * 4 + j))=some u:=hc0
  obtain ⟨A3,c3,rfl,l3,g3⟩:=k24_open hK
  exact ⟨ad,A3,c3,e,hc 0 _ rfl,by rw [← add_field _ _ 1 (by omega)];exact hc 1 _ rfl,by rw [← add_field _ _ 2 (by omega)];exact hc 2 _ rfl,by rw [← add_field _ _ 3 (by omega)];exact hc 3 _ rfl,l3,g3⟩

/-! #### struct type 71 -/
structure S71 where
  f0:S24
  f1:S24
def z71:S71:=⟨z24,z24⟩
def k71:Kd S71:=Kd.iso (Kd.pair k24 k24) (fun x:S71=>(x.f0,x.f1))
theorem k71_open {w:World} {x:S71} {cs:List Value} (h:k71.K w x cs):∃ A3 c3 A7 c7,cs = [.int .i64 x.f0.f0,.string x.f0.f1,.int .i64 x.f0.f2,.slice A3 x.f0.f3.length c3,.int .i64 x.f1.f0,.string x.f1.f1,.int .i64 x.f1.f2,.slice A7 x.f1.f3.length c7]∧x.f0.f3.length≤c3∧k24.C w A3 x.f0.f3.length x.f0.f3∧x.f1.f3.length≤c7∧k24.C w A7 x.f1.f3.length x.f1.f3:=by
  obtain ⟨_,_,rfl,s0,s4⟩:=h
  obtain ⟨A3,c3,rfl,l3,g3⟩:=k24_open s0
  obtain ⟨A7,c7,rfl,l7,g7⟩:=k24_open s4
  exact ⟨A3,c3,A7,c7,rfl,l3,g3,l7,g7⟩
def rd_T71 (xs:List S71) (i:Int):S71:=xs.getD i.toNat z71
theorem at_T71 {w:World} {A:Option Addr} {n:Nat} {xs:List S71} (h:Kd.C k71 w A n xs) (i:Int) (h0:0≤i) (h1:i < n):∃ ad A3 c3 A7 c7,A=some ad∧w.cell? (ad.add (i.toNat * 8))=some (.int .i64 (rd_T71 xs i).f0.f0)∧w.cell? ⟨(ad.add (i.toNat * 8)).block,(ad.add (i.toNat * 8)).off + 1,none⟩=some (.string (rd_T71 xs i).f0.f1)∧w.cell? ⟨(ad.add (i.toNat * 8)).block,(ad.add (i.toNat * 8)).off + 2,none⟩=some (.int .i64 (rd_T71 xs i).f0.f2)∧w.cell? ⟨(ad.add (i.toNat * 8)).block,(ad.add (i.toNat * 8)).off + 3,none⟩=some (.slice A3 (rd_T71 xs i).f0.f3.length c3)∧w.cell? ⟨(ad.add (i.toNat * 8)).block,(ad.add (i.toNat * 8)).off + 4,none⟩=some (.int .i64 (rd_T71 xs i).f1.f0)∧w.cell? ⟨(ad.add (i.toNat * 8)).block,(ad.add (i.toNat * 8)).off + 5,none⟩=some (.string (rd_T71 xs i).f1.f1)∧w.cell? ⟨(ad.add (i.toNat * 8)).block,(ad.add (i.toNat * 8)).off + 6,none⟩=some (.int .i64 (rd_T71 xs i).f1.f2)∧w.cell? ⟨(ad.add (i.toNat * 8)).block,(ad.add (i.toNat * 8)).off + 7,none⟩=some (.slice A7 (rd_T71 xs i).f1.f3.length c7)∧(rd_T71 xs i).f0.f3.length≤c3∧k24.C w A3 (rd_T71 xs i).f0.f3.length (rd_T71 xs i).f0.f3∧(rd_T71 xs i).f1.f3.length≤c7∧k24.C w A7 (rd_T71 xs i).f1.f3.length (rd_T71 xs i).f1.f3:=by
  obtain ⟨ad,c,e,_,hK,hc0⟩:=Kd.C_get h z71 i h0 h1
  have hc:∀ j u,c[j]? = some u→w.cell? (ad.add (i.toNat * 8 + j))=some u:=hc0
  obtain ⟨A3,c3,A7,c7,rfl,l3,g3,l7,g7⟩:=k71_open hK
  exact ⟨ad,A3,c3,A7,c7,e,hc 0 _ rfl,by rw [← add_field _ _ 1 (by omega)];exact hc 1 _ rfl,by rw [← add_field _ _ 2 (by omega)];exact hc 2 _ rfl,by rw [← add_field _ _ 3 (by omega)];exact hc 3 _ rfl,by rw [← add_field _ _ 4 (by omega)];exact hc 4 _ rfl,by rw [← add_field _ _ 5 (by omega)];exact hc 5 _ rfl,by rw [← add_field _ _ 6 (by omega)];exact hc 6 _ rfl,by rw [← add_field _ _ 7 (by omega)];exact hc 7 _ rfl,l3,g3,l7,g7⟩

/-! #### struct type 29,nested in itself -/
structure S29 where
  f0:Int
  f1:ByteArray
  f2:Int
  f3:(List S29)
def z29:S29:=⟨(0:Int),(⟨#[]⟩:ByteArray),(0:Int),([]:List S29)⟩
def F29 (d:Kd S29):Kd S29:=Kd.iso (Kd.pair (Kd.int .i64) (Kd.pair Kd.string (Kd.pair (Kd.int .i64) (Kd.slice 29 d)))) (fun x:S29=>(x.f0,x.f1,x.f2,x.f3))
theorem mono29:Kd.Mono F29:=Kd.mono_iso _ (Kd.mono_pair (Kd.mono_const _) (Kd.mono_pair (Kd.mono_const _) (Kd.mono_pair (Kd.mono_const _) (Kd.mono_slice 29 Kd.mono_id))))
theorem sub29:Kd.Sub F29 [29]:=Kd.sub_iso _ (Kd.sub_pair (Kd.sub_const _ (by decide)) (Kd.sub_pair (Kd.sub_const _ (by decide)) (Kd.sub_pair (Kd.sub_const _ (by decide)) (Kd.sub_slice 29 (by decide) Kd.sub_id))))
theorem sz29:∀ n,(Kd.upto F29 4 [29] n).sz=4:=Kd.upto_sz (fun _=>rfl)
def k29:Kd S29:=Kd.fix F29 4 [29] sz29 (Kd.upto_E sub29)
theorem k29_open {w:World} {x:S29} {cs:List Value} (h:k29.K w x cs):∃ A3 c3,cs = [.int .i64 x.f0,.string x.f1,.int .i64 x.f2,.slice A3 x.f3.length c3]∧x.f3.length≤c3∧k29.C w A3 x.f3.length x.f3:=by
  obtain ⟨n,h⟩:=h
  cases n with
  | zero=>exact h.elim
  | succ n=>
    obtain ⟨_,_,rfl,rfl,⟨_,_,rfl,rfl,⟨_,_,rfl,rfl,⟨A3,c3,rfl,l3,g3⟩⟩⟩⟩:=h
    exact ⟨A3,c3,rfl,l3,Kd.fix_C g3⟩
theorem k29_openM {w:World} {base:Nat} {ok:Nat→Prop} {x:S29} {cs:List Value} (h:k29.M w base ok x cs):∃ v3,cs = [.int .i64 x.f0,.string x.f1,.int .i64 x.f2,v3]∧k29.R 29 w base ok v3 x.f3:=by
  obtain ⟨n,h⟩:=h
  cases n with
  | zero=>exact h.elim
  | succ n=>
    obtain ⟨_,_,rfl,rfl,⟨_,_,rfl,rfl,⟨_,_,rfl,rfl,⟨v3,rfl,g3⟩⟩⟩⟩:=h
    exact ⟨v3,rfl,Kd.fix_R g3⟩
theorem k29_mkM (w:World) (base:Nat) (ok:Nat→Prop) (x:S29) {v3:Value} (g3:k29.R 29 w base ok v3 x.f3):k29.M w base ok x [.int .i64 x.f0,.string x.f1,.int .i64 x.f2,v3]:=by
  obtain ⟨n3,q3⟩:=Kd.fix_R_back mono29 g3
  have r3:=Kd.upto_R_le mono29 sz29 (show n3≤n3 by omega) q3
  exact ⟨n3 + 1,⟨[.int .i64 x.f0],[.string x.f1,.int .i64 x.f2,v3],rfl,rfl,⟨[.string x.f1],[.int .i64 x.f2,v3],rfl,rfl,⟨[.int .i64 x.f2],[v3],rfl,rfl,⟨v3,rfl,r3⟩⟩⟩⟩⟩
def rd_T29 (xs:List S29) (i:Int):S29:=xs.getD i.toNat z29
theorem at_T29 {w:World} {A:Option Addr} {n:Nat} {xs:List S29} (h:Kd.C k29 w A n xs) (i:Int) (h0:0≤i) (h1:i < n):∃ ad A3 c3,A=some ad∧w.cell? (ad.add (i.toNat * 4))=some (.int .i64 (rd_T29 xs i).f0)∧w.cell? ⟨(ad.add (i.toNat * 4)).block,(ad.add (i.toNat * 4)).off + 1,none⟩=some (.string (rd_T29 xs i).f1)∧w.cell? ⟨(ad.add (i.toNat * 4)).block,(ad.add (i.toNat * 4)).off + 2,none⟩=some (.int .i64 (rd_T29 xs i).f2)∧w.cell? ⟨(ad.add (i.toNat * 4)).block,(ad.add (i.toNat * 4)).off + 3,none⟩=some (.slice A3 (rd_T29 xs i).f3.length c3)∧(rd_T29 xs i).f3.length≤c3∧k29.C w A3 (rd_T29 xs i).f3.length (rd_T29 xs i).f3:=by
  obtain ⟨ad,c,e,_,hK,hc0⟩:=Kd.C_get h z29 i h0 h1
  have hc:∀ j u,c[j]? = some u→w.cell? (ad.add (i.toNat * 4 + j))=some u:=hc0
  obtain ⟨A3,c3,rfl,l3,g3⟩:=k29_open hK
  exact ⟨ad,A3,c3,e,hc 0 _ rfl,by rw [← add_field _ _ 1 (by omega)];exact hc 1 _ rfl,by rw [← add_field _ _ 2 (by omega)];exact hc 2 _ rfl,by rw [← add_field _ _ 3 (by omega)];exact hc 3 _ rfl,l3,g3⟩

/-! #### struct type 73 -/
structure S73 where
  f0:S29
  f1:S29
def z73:S73:=⟨z29,z29⟩
def k73:Kd S73:=Kd.iso (Kd.pair k29 k29) (fun x:S73=>(x.f0,x.f1))
theorem k73_open {w:World} {x:S73} {cs:List Value} (h:k73.K w x cs):∃ A3 c3 A7 c7,cs = [.int .i64 x.f0.f0,.string x.f0.f1,.int .i64 x.f0.f2,.slice A3 x.f0.f3.length c3,.int .i64 x.f1.f0,.string x.f1.f1,.int .i64 x.f1.f2,.slice A7 x.f1.f3.length c7]∧x.f0.f3.length≤c3∧k29.C w A3 x.f0.f3.length x.f0.f3∧x.f1.f3.length≤c7∧k29.C w A7 x.f1.f3.length x.f1.f3:=by
  obtain ⟨_,_,rfl,s0,s4⟩:=h
  obtain ⟨A3,c3,rfl,l3,g3⟩:=k29_open s0
  obtain ⟨A7,c7,rfl,l7,g7⟩:=k29_open s4
  exact ⟨A3,c3,A7,c7,rfl,l3,g3,l7,g7⟩
theorem k73_openM {w:World} {base:Nat} {ok:Nat→Prop} {x:S73} {cs:List Value} (h:k73.M w base ok x cs):∃ v3 v7,cs = [.int .i64 x.f0.f0,.string x.f0.f1,.int .i64 x.f0.f2,v3,.int .i64 x.f1.f0,.string x.f1.f1,.int .i64 x.f1.f2,v7]∧k29.R 29 w base ok v3 x.f0.f3∧k29.R 29 w base ok v7 x.f1.f3:=by
  obtain ⟨_,_,rfl,s0,s4⟩:=h
  obtain ⟨v3,rfl,g3⟩:=k29_openM s0
  obtain ⟨v7,rfl,g7⟩:=k29_openM s4
  exact ⟨v3,v7,rfl,g3,g7⟩
theorem k73_mkM (w:World) (base:Nat) (ok:Nat→Prop) (x:S73) {v3:Value} (g3:k29.R 29 w base ok v3 x.f0.f3) {v7:Value} (g7:k29.R 29 w base ok v7 x.f1.f3):k73.M w base ok x [.int .i64 x.f0.f0,.string x.f0.f1,.int .i64 x.f0.f2,v3,.int .i64 x.f1.f0,.string x.f1.f1,.int .i64 x.f1.f2,v7]:=⟨[.int .i64 x.f0.f0,.string x.f0.f1,.int .i64 x.f0.f2,v3],[.int .i64 x.f1.f0,.string x.f1.f1,.int .i64 x.f1.f2,v7],rfl,(k29_mkM w base ok x.f0 g3),(k29_mkM w base ok x.f1 g7)⟩
def rd_T73 (xs:List S73) (i:Int):S73:=xs.getD i.toNat z73
theorem at_T73 {w:World} {A:Option Addr} {n:Nat} {xs:List S73} (h:Kd.C k73 w A n xs) (i:Int) (h0:0≤i) (h1:i < n):∃ ad A3 c3 A7 c7,A=some ad∧w.cell? (ad.add (i.toNat * 8))=some (.int .i64 (rd_T73 xs i).f0.f0)∧w.cell? ⟨(ad.add (i.toNat * 8)).block,(ad.add (i.toNat * 8)).off + 1,none⟩=some (.string (rd_T73 xs i).f0.f1)∧w.cell? ⟨(ad.add (i.toNat * 8)).block,(ad.add (i.toNat * 8)).off + 2,none⟩=some (.int .i64 (rd_T73 xs i).f0.f2)∧w.cell? ⟨(ad.add (i.toNat * 8)).block,(ad.add (i.toNat * 8)).off + 3,none⟩=some (.slice A3 (rd_T73 xs i).f0.f3.length c3)∧w.cell? ⟨(ad.add (i.toNat * 8)).block,(ad.add (i.toNat * 8)).off + 4,none⟩=some (.int .i64 (rd_T73 xs i).f1.f0)∧w.cell? ⟨(ad.add (i.toNat * 8)).block,(ad.add (i.toNat * 8)).off + 5,none⟩=some (.string (rd_T73 xs i).f1.f1)∧w.cell? ⟨(ad.add (i.toNat * 8)).block,(ad.add (i.toNat * 8)).off + 6,none⟩=some (.int .i64 (rd_T73 xs i).f1.f2)∧w.cell? ⟨(ad.add (i.toNat * 8)).block,(ad.add (i.toNat * 8)).off + 7,none⟩=some (.slice A7 (rd_T73 xs i).f1.f3.length c7)∧(rd_T73 xs i).f0.f3.length≤c3∧k29.C w A3 (rd_T73 xs i).f0.f3.length (rd_T73 xs i).f0.f3∧(rd_T73 xs i).f1.f3.length≤c7∧k29.C w A7 (rd_T73 xs i).f1.f3.length (rd_T73 xs i).f1.f3:=by
  obtain ⟨ad,c,e,_,hK,hc0⟩:=Kd.C_get h z73 i h0 h1
  have hc:∀ j u,c[j]? = some u→w.cell? (ad.add (i.toNat * 8 + j))=some u:=hc0
  obtain ⟨A3,c3,A7,c7,rfl,l3,g3,l7,g7⟩:=k73_open hK
  exact ⟨ad,A3,c3,A7,c7,e,hc 0 _ rfl,by rw [← add_field _ _ 1 (by omega)];exact hc 1 _ rfl,by rw [← add_field _ _ 2 (by omega)];exact hc 2 _ rfl,by rw [← add_field _ _ 3 (by omega)];exact hc 3 _ rfl,by rw [← add_field _ _ 4 (by omega)];exact hc 4 _ rfl,by rw [← add_field _ _ 5 (by omega)];exact hc 5 _ rfl,by rw [← add_field _ _ 6 (by omega)];exact hc 6 _ rfl,by rw [← add_field _ _ 7 (by omega)];exact hc 7 _ rfl,l3,g3,l7,g7⟩

end Go.Proofs.Ytcofpnddfmlafaa.Q

