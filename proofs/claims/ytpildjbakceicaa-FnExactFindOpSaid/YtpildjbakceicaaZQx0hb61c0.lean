/- Functions of the program as plain Lean functions,and that the calls come to what they say. -/
import Derived.Test.YtpildjbakceicaaProg
import Derived.Below
import Derived.Deep.Draws
import Derived.Deep.AppendLies
import Derived.Maps.AppendAt
import Derived.OwnWalk
import Derived.Laws.BytesArg
import Derived.Laws.MakeOwn
import Derived.Laws.OwnMore
import Derived.Deep.OwnRows
import Derived.Tactics
import Derived.Lib.ConvBytes
import Derived.Laws.Slices
import Derived.WalkKit
import Derived.KernelRfl
import Derived.RowKit3
import Derived.Deep.LoopGhost
import Derived.Deep.QuietTactic
import Derived.BigQuiet
import Derived.WideLaws
import Derived.Deep.DeepCutAuto
import Derived.Deep.CutBlock
import Derived.Deep.RegionHeld3
import Derived.Laws.Rows
import Derived.Lib.AppendStr
import Derived.ArgAppend
import Derived.Laws.IdiomCopy
import Derived.OrdersHeld
import Derived.Laws.BitsLemmas
import Derived.RowKit
import Derived.Test.YtpildjbakceicaaZWWordsh4cfb9
import Derived.Test.YtpildjbakceicaaZWLasth8d709
import Derived.Test.YtpildjbakceicaaZWTabhf50b5
import Derived.Test.YtpildjbakceicaaZWFourhb27d5
import Derived.Test.YtpildjbakceicaaZWQPuthb87db
import Derived.Test.YtpildjbakceicaaZWAparth6d113
import Derived.Test.YtpildjbakceicaaZWArrh4d91a
import Derived.Test.YtpildjbakceicaaZWZeroshd37a2
import Derived.Test.YtpildjbakceicaaZWFoothf2284
import Derived.Test.YtpildjbakceicaaZWKepth9bf93
import Derived.Test.YtpildjbakceicaaZWShareh7d1a6
import Derived.Test.YtpildjbakceicaaZWNh670a2
import Derived.Test.YtpildjbakceicaaZWFootNehb9895
import Derived.Test.YtpildjbakceicaaZWAth67b95
import Derived.Test.YtpildjbakceicaaZWEqStructha7053
import Derived.Test.YtpildjbakceicaaZWRepsOnehc2820
import Derived.Test.YtpildjbakceicaaZWInvh8d7ed
import Derived.Test.YtpildjbakceicaaZWInvWordsh9fc17
import Derived.Test.YtpildjbakceicaaZWGuardh7f80c
import Derived.Test.YtpildjbakceicaaZWNEvhef8c6
import Derived.Test.YtpildjbakceicaaZWMoreh88dea
namespace Go.Proofs.Ytpildjbakceicaa.Q
open Go.RowKit Go.Proofs.YtpildjbakceicaaW.PrintWords Go.Proofs.YtpildjbakceicaaW.PrintLast Go.Proofs.YtpildjbakceicaaW.PrintMore
attribute [local go_sem] max2_int min2_int max_two min_two max_three min_three max_four min_four   -- for this text's walks alone
set_option linter.unusedVariables false
set_option linter.unusedSimpArgs false



def errW:Option Int→Value
  | none=> .nilIface
  | some c=> .iface 0 (.int .i64 c)
theorem errW_none:errW none=.nilIface:=rfl
theorem errW_some (c:Int):errW (some c)=.iface 0 (.int .i64 c):=rfl

theorem info3:(Try.prog.info? 3).map (fun i=>(i.zero,i.size,i.bytes))=some (some (.int .i64 0),1,8):=by kernel_rfl
theorem info9:(Try.prog.info? 9).map (fun i=>(i.zero,i.size,i.bytes))=some (some (.string ⟨#[]⟩),1,16):=by kernel_rfl
theorem info50:(Try.prog.info? 50).map (fun i=>(i.zero,i.size,i.bytes))=some (some (.agg #[(.string ⟨#[]⟩),(.slice none 0 0),(.bool false),(.bool false),(.int .i64 0)]),5,56):=by kernel_rfl
theorem info68:(Try.prog.info? 68).map (fun i=>(i.zero,i.size,i.bytes))=some (some (.agg #[(.slice none 0 0),(.int .i64 0)]),2,32):=by kernel_rfl
theorem info89:(Try.prog.info? 89).map (fun i=>(i.zero,i.size,i.bytes))=some (some (.agg #[(.int .i64 0),(.int .i64 0)]),2,16):=by kernel_rfl
/-! #### struct type 107 -/
structure S107 where
  f0:Int
  f1:Int
def z107:S107:=⟨(0:Int),(0:Int)⟩
def k107:Kd S107:=Kd.iso (Kd.pair (Kd.int .i64) (Kd.int .i64)) (fun x:S107=>(x.f0,x.f1))
theorem k107_open {w:World} {x:S107} {cs:List Value} (h:k107.K w x cs):cs = [.int .i64 x.f0,.int .i64 x.f1]:=by
  obtain ⟨_,_,rfl,rfl,rfl⟩:=h
  exact rfl
def rd_T107 (xs:List S107) (i:Int):S107:=xs.getD i.toNat z107
theorem at_T107 {w:World} {A:Option Addr} {n:Nat} {xs:List S107} (h:Kd.C k107 w A n xs) (i:Int) (h0:0≤i) (h1:i < n):∃ ad,A=some ad∧w.cell? (ad.add (i.toNat * 2))=some (.int .i64 (rd_T107 xs i).f0)∧w.cell? ⟨(ad.add (i.toNat * 2)).block,(ad.add (i.toNat * 2)).off + 1,none⟩=some (.int .i64 (rd_T107 xs i).f1):=by
  obtain ⟨ad,c,e,_,hK,hc0⟩:=Kd.C_get h z107 i h0 h1
  have hc:∀ j u,c[j]? = some u→w.cell? (ad.add (i.toNat * 2 + j))=some u:=hc0
  obtain rfl:=k107_open hK
  exact ⟨ad,e,hc 0 _ rfl,by rw [← add_field _ _ 1 (by omega)];exact hc 1 _ rfl⟩

/-! #### struct type 25 -/
structure S25 where
  f0:(List ByteArray)
  f1:(List S107)
def z25:S25:=⟨([]:List ByteArray),([]:List S107)⟩
def k25:Kd S25:=Kd.iso (Kd.pair (Kd.slice 9 Kd.string) (Kd.slice 107 k107)) (fun x:S25=>(x.f0,x.f1))
theorem k25_open {w:World} {x:S25} {cs:List Value} (h:k25.K w x cs):∃ A0 c0 A1 c1,cs = [.slice A0 x.f0.length c0,.slice A1 x.f1.length c1]∧x.f0.length≤c0∧Kd.string.C w A0 x.f0.length x.f0∧x.f1.length≤c1∧k107.C w A1 x.f1.length x.f1:=by
  obtain ⟨_,_,rfl,⟨A0,c0,rfl,l0,g0⟩,⟨A1,c1,rfl,l1,g1⟩⟩:=h
  exact ⟨A0,c0,A1,c1,rfl,l0,g0,l1,g1⟩
/-! #### struct type 113 -/
structure S113 where
  f0:(List Int)
  f1:Int
def z113:S113:=⟨([]:List Int),(0:Int)⟩
def k113:Kd S113:=Kd.iso (Kd.pair (Kd.slice 3 (Kd.int .i64)) (Kd.int .i64)) (fun x:S113=>(x.f0,x.f1))
theorem k113_open {w:World} {x:S113} {cs:List Value} (h:k113.K w x cs):∃ A0 c0,cs = [.slice A0 x.f0.length c0,.int .i64 x.f1]∧x.f0.length≤c0∧(Kd.int .i64).C w A0 x.f0.length x.f0:=by
  obtain ⟨_,_,rfl,⟨A0,c0,rfl,l0,g0⟩,rfl⟩:=h
  exact ⟨A0,c0,rfl,l0,g0⟩
def rd_T113 (xs:List S113) (i:Int):S113:=xs.getD i.toNat z113
theorem at_T113 {w:World} {A:Option Addr} {n:Nat} {xs:List S113} (h:Kd.C k113 w A n xs) (i:Int) (h0:0≤i) (h1:i < n):∃ ad A0 c0,A=some ad∧w.cell? (ad.add (i.toNat * 2))=some (.slice A0 (rd_T113 xs i).f0.length c0)∧w.cell? ⟨(ad.add (i.toNat * 2)).block,(ad.add (i.toNat * 2)).off + 1,none⟩=some (.int .i64 (rd_T113 xs i).f1)∧(rd_T113 xs i).f0.length≤c0∧(Kd.int .i64).C w A0 (rd_T113 xs i).f0.length (rd_T113 xs i).f0:=by
  obtain ⟨ad,c,e,_,hK,hc0⟩:=Kd.C_get h z113 i h0 h1
  have hc:∀ j u,c[j]? = some u→w.cell? (ad.add (i.toNat * 2 + j))=some u:=hc0
  obtain ⟨A0,c0,rfl,l0,g0⟩:=k113_open hK
  exact ⟨ad,A0,c0,e,hc 0 _ rfl,by rw [← add_field _ _ 1 (by omega)];exact hc 1 _ rfl,l0,g0⟩

/-! #### struct type 86 -/
structure S86 where
  f0:ByteArray
  f1:(List S113)
  f2:Bool
  f3:Bool
  f4:Int
def z86:S86:=⟨(⟨#[]⟩:ByteArray),([]:List S113),false,false,(0:Int)⟩
def k86:Kd S86:=Kd.iso (Kd.pair Kd.string (Kd.pair (Kd.slice 113 k113) (Kd.pair Kd.bool (Kd.pair Kd.bool (Kd.int .i64))))) (fun x:S86=>(x.f0,x.f1,x.f2,x.f3,x.f4))
theorem k86_open {w:World} {x:S86} {cs:List Value} (h:k86.K w x cs):∃ A1 c1,cs = [.string x.f0,.slice A1 x.f1.length c1,.bool x.f2,.bool x.f3,.int .i64 x.f4]∧x.f1.length≤c1∧k113.C w A1 x.f1.length x.f1:=by
  obtain ⟨_,_,rfl,rfl,⟨_,_,rfl,⟨A1,c1,rfl,l1,g1⟩,⟨_,_,rfl,rfl,⟨_,_,rfl,rfl,rfl⟩⟩⟩⟩:=h
  exact ⟨A1,c1,rfl,l1,g1⟩
def rd_T86 (xs:List S86) (i:Int):S86:=xs.getD i.toNat z86
theorem at_T86 {w:World} {A:Option Addr} {n:Nat} {xs:List S86} (h:Kd.C k86 w A n xs) (i:Int) (h0:0≤i) (h1:i < n):∃ ad A1 c1,A=some ad∧w.cell? (ad.add (i.toNat * 5))=some (.string (rd_T86 xs i).f0)∧w.cell? ⟨(ad.add (i.toNat * 5)).block,(ad.add (i.toNat * 5)).off + 1,none⟩=some (.slice A1 (rd_T86 xs i).f1.length c1)∧w.cell? ⟨(ad.add (i.toNat * 5)).block,(ad.add (i.toNat * 5)).off + 2,none⟩=some (.bool (rd_T86 xs i).f2)∧w.cell? ⟨(ad.add (i.toNat * 5)).block,(ad.add (i.toNat * 5)).off + 3,none⟩=some (.bool (rd_T86 xs i).f3)∧w.cell? ⟨(ad.add (i.toNat * 5)).block,(ad.add (i.toNat * 5)).off + 4,none⟩=some (.int .i64 (rd_T86 xs i).f4)∧(rd_T86 xs i).f1.length≤c1∧k113.C w A1 (rd_T86 xs i).f1.length (rd_T86 xs i).f1:=by
  obtain ⟨ad,c,e,_,hK,hc0⟩:=Kd.C_get h z86 i h0 h1
  have hc:∀ j u,c[j]? = some u→w.cell? (ad.add (i.toNat * 5 + j))=some u:=hc0
  obtain ⟨A1,c1,rfl,l1,g1⟩:=k86_open hK
  exact ⟨ad,A1,c1,e,hc 0 _ rfl,by rw [← add_field _ _ 1 (by omega)];exact hc 1 _ rfl,by rw [← add_field _ _ 2 (by omega)];exact hc 2 _ rfl,by rw [← add_field _ _ 3 (by omega)];exact hc 3 _ rfl,by rw [← add_field _ _ 4 (by omega)];exact hc 4 _ rfl,l1,g1⟩

/-! #### struct type 28 -/
structure S28 where
  f0:S25
  f1:(List S86)
def z28:S28:=⟨z25,([]:List S86)⟩
def k28:Kd S28:=Kd.iso (Kd.pair k25 (Kd.slice 86 k86)) (fun x:S28=>(x.f0,x.f1))
theorem k28_open {w:World} {x:S28} {cs:List Value} (h:k28.K w x cs):∃ A0 c0 A1 c1 A2 c2,cs = [.slice A0 x.f0.f0.length c0,.slice A1 x.f0.f1.length c1,.slice A2 x.f1.length c2]∧x.f0.f0.length≤c0∧Kd.string.C w A0 x.f0.f0.length x.f0.f0∧x.f0.f1.length≤c1∧k107.C w A1 x.f0.f1.length x.f0.f1∧x.f1.length≤c2∧k86.C w A2 x.f1.length x.f1:=by
  obtain ⟨_,_,rfl,s0,⟨A2,c2,rfl,l2,g2⟩⟩:=h
  obtain ⟨A0,c0,A1,c1,rfl,l0,g0,l1,g1⟩:=k25_open s0
  exact ⟨A0,c0,A1,c1,A2,c2,rfl,l0,g0,l1,g1,l2,g2⟩
/-! #### struct type 89 -/
structure S89 where
  f0:Int
  f1:Int
def z89:S89:=⟨(0:Int),(0:Int)⟩
def k89:Kd S89:=Kd.iso (Kd.pair (Kd.int .i64) (Kd.int .i64)) (fun x:S89=>(x.f0,x.f1))
theorem k89_open {w:World} {x:S89} {cs:List Value} (h:k89.K w x cs):cs = [.int .i64 x.f0,.int .i64 x.f1]:=by
  obtain ⟨_,_,rfl,rfl,rfl⟩:=h
  exact rfl
theorem k89_openM {w:World} {base:Nat} {ok:Nat→Prop} {x:S89} {cs:List Value} (h:k89.M w base ok x cs):cs = [.int .i64 x.f0,.int .i64 x.f1]:=by
  obtain ⟨_,_,rfl,rfl,rfl⟩:=h
  exact rfl
theorem k89_mkM (w:World) (base:Nat) (ok:Nat→Prop) (x:S89)  : k89.M w base ok x [.int .i64 x.f0,.int .i64 x.f1]:=⟨[.int .i64 x.f0],[.int .i64 x.f1],rfl,rfl,rfl⟩
def rd_T89 (xs:List S89) (i:Int):S89:=xs.getD i.toNat z89
theorem at_T89 {w:World} {A:Option Addr} {n:Nat} {xs:List S89} (h:Kd.C k89 w A n xs) (i:Int) (h0:0≤i) (h1:i < n):∃ ad,A=some ad∧w.cell? (ad.add (i.toNat * 2))=some (.int .i64 (rd_T89 xs i).f0)∧w.cell? ⟨(ad.add (i.toNat * 2)).block,(ad.add (i.toNat * 2)).off + 1,none⟩=some (.int .i64 (rd_T89 xs i).f1):=by
  obtain ⟨ad,c,e,_,hK,hc0⟩:=Kd.C_get h z89 i h0 h1
  have hc:∀ j u,c[j]? = some u→w.cell? (ad.add (i.toNat * 2 + j))=some u:=hc0
  obtain rfl:=k89_open hK
  exact ⟨ad,e,hc 0 _ rfl,by rw [← add_field _ _ 1 (by omega)];exact hc 1 _ rfl⟩

/-! #### struct type 68 -/
structure S68 where
  f0:(List Int)
  f1:Int
def z68:S68:=⟨([]:List Int),(0:Int)⟩
def k68:Kd S68:=Kd.iso (Kd.pair (Kd.slice 3 (Kd.int .i64)) (Kd.int .i64)) (fun x:S68=>(x.f0,x.f1))
theorem k68_open {w:World} {x:S68} {cs:List Value} (h:k68.K w x cs):∃ A0 c0,cs = [.slice A0 x.f0.length c0,.int .i64 x.f1]∧x.f0.length≤c0∧(Kd.int .i64).C w A0 x.f0.length x.f0:=by
  obtain ⟨_,_,rfl,⟨A0,c0,rfl,l0,g0⟩,rfl⟩:=h
  exact ⟨A0,c0,rfl,l0,g0⟩
theorem k68_openM {w:World} {base:Nat} {ok:Nat→Prop} {x:S68} {cs:List Value} (h:k68.M w base ok x cs):∃ v0,cs = [v0,.int .i64 x.f1]∧(Kd.int .i64).R 3 w base ok v0 x.f0:=by
  obtain ⟨_,_,rfl,⟨v0,rfl,g0⟩,rfl⟩:=h
  exact ⟨v0,rfl,g0⟩
theorem k68_mkM (w:World) (base:Nat) (ok:Nat→Prop) (x:S68) {v0:Value} (g0:(Kd.int .i64).R 3 w base ok v0 x.f0):k68.M w base ok x [v0,.int .i64 x.f1]:=⟨[v0],[.int .i64 x.f1],rfl,⟨v0,rfl,g0⟩,rfl⟩
def rd_T68 (xs:List S68) (i:Int):S68:=xs.getD i.toNat z68
theorem at_T68 {w:World} {A:Option Addr} {n:Nat} {xs:List S68} (h:Kd.C k68 w A n xs) (i:Int) (h0:0≤i) (h1:i < n):∃ ad A0 c0,A=some ad∧w.cell? (ad.add (i.toNat * 2))=some (.slice A0 (rd_T68 xs i).f0.length c0)∧w.cell? ⟨(ad.add (i.toNat * 2)).block,(ad.add (i.toNat * 2)).off + 1,none⟩=some (.int .i64 (rd_T68 xs i).f1)∧(rd_T68 xs i).f0.length≤c0∧(Kd.int .i64).C w A0 (rd_T68 xs i).f0.length (rd_T68 xs i).f0:=by
  obtain ⟨ad,c,e,_,hK,hc0⟩:=Kd.C_get h z68 i h0 h1
  have hc:∀ j u,c[j]? = some u→w.cell? (ad.add (i.toNat * 2 + j))=some u:=hc0
  obtain ⟨A0,c0,rfl,l0,g0⟩:=k68_open hK
  exact ⟨ad,A0,c0,e,hc 0 _ rfl,by rw [← add_field _ _ 1 (by omega)];exact hc 1 _ rfl,l0,g0⟩

/-! #### struct type 50 -/
structure S50 where
  f0:ByteArray
  f1:(List S68)
  f2:Bool
  f3:Bool
  f4:Int
def z50:S50:=⟨(⟨#[]⟩:ByteArray),([]:List S68),false,false,(0:Int)⟩
def k50:Kd S50:=Kd.iso (Kd.pair Kd.string (Kd.pair (Kd.slice 68 k68) (Kd.pair Kd.bool (Kd.pair Kd.bool (Kd.int .i64))))) (fun x:S50=>(x.f0,x.f1,x.f2,x.f3,x.f4))
theorem k50_open {w:World} {x:S50} {cs:List Value} (h:k50.K w x cs):∃ A1 c1,cs = [.string x.f0,.slice A1 x.f1.length c1,.bool x.f2,.bool x.f3,.int .i64 x.f4]∧x.f1.length≤c1∧k68.C w A1 x.f1.length x.f1:=by
  obtain ⟨_,_,rfl,rfl,⟨_,_,rfl,⟨A1,c1,rfl,l1,g1⟩,⟨_,_,rfl,rfl,⟨_,_,rfl,rfl,rfl⟩⟩⟩⟩:=h
  exact ⟨A1,c1,rfl,l1,g1⟩
theorem k50_openM {w:World} {base:Nat} {ok:Nat→Prop} {x:S50} {cs:List Value} (h:k50.M w base ok x cs):∃ v1,cs = [.string x.f0,v1,.bool x.f2,.bool x.f3,.int .i64 x.f4]∧k68.R 68 w base ok v1 x.f1:=by
  obtain ⟨_,_,rfl,rfl,⟨_,_,rfl,⟨v1,rfl,g1⟩,⟨_,_,rfl,rfl,⟨_,_,rfl,rfl,rfl⟩⟩⟩⟩:=h
  exact ⟨v1,rfl,g1⟩
theorem k50_mkM (w:World) (base:Nat) (ok:Nat→Prop) (x:S50) {v1:Value} (g1:k68.R 68 w base ok v1 x.f1):k50.M w base ok x [.string x.f0,v1,.bool x.f2,.bool x.f3,.int .i64 x.f4]:=⟨[.string x.f0],[v1,.bool x.f2,.bool x.f3,.int .i64 x.f4],rfl,rfl,⟨[v1],[.bool x.f2,.bool x.f3,.int .i64 x.f4],rfl,⟨v1,rfl,g1⟩,⟨[.bool x.f2],[.bool x.f3,.int .i64 x.f4],rfl,rfl,⟨[.bool x.f3],[.int .i64 x.f4],rfl,rfl,rfl⟩⟩⟩⟩
def rd_T50 (xs:List S50) (i:Int):S50:=xs.getD i.toNat z50
theorem at_T50 {w:World} {A:Option Addr} {n:Nat} {xs:List S50} (h:Kd.C k50 w A n xs) (i:Int) (h0:0≤i) (h1:i < n):∃ ad A1 c1,A=some ad∧w.cell? (ad.add (i.toNat * 5))=some (.string (rd_T50 xs i).f0)∧w.cell? ⟨(ad.add (i.toNat * 5)).block,(ad.add (i.toNat * 5)).off + 1,none⟩=some (.slice A1 (rd_T50 xs i).f1.length c1)∧w.cell? ⟨(ad.add (i.toNat * 5)).block,(ad.add (i.toNat * 5)).off + 2,none⟩=some (.bool (rd_T50 xs i).f2)∧w.cell? ⟨(ad.add (i.toNat * 5)).block,(ad.add (i.toNat * 5)).off + 3,none⟩=some (.bool (rd_T50 xs i).f3)∧w.cell? ⟨(ad.add (i.toNat * 5)).block,(ad.add (i.toNat * 5)).off + 4,none⟩=some (.int .i64 (rd_T50 xs i).f4)∧(rd_T50 xs i).f1.length≤c1∧k68.C w A1 (rd_T50 xs i).f1.length (rd_T50 xs i).f1:=by
  obtain ⟨ad,c,e,_,hK,hc0⟩:=Kd.C_get h z50 i h0 h1
  have hc:∀ j u,c[j]? = some u→w.cell? (ad.add (i.toNat * 5 + j))=some u:=hc0
  obtain ⟨A1,c1,rfl,l1,g1⟩:=k50_open hK
  exact ⟨ad,A1,c1,e,hc 0 _ rfl,by rw [← add_field _ _ 1 (by omega)];exact hc 1 _ rfl,by rw [← add_field _ _ 2 (by omega)];exact hc 2 _ rfl,by rw [← add_field _ _ 3 (by omega)];exact hc 3 _ rfl,by rw [← add_field _ _ 4 (by omega)];exact hc 4 _ rfl,l1,g1⟩

end Go.Proofs.Ytpildjbakceicaa.Q

