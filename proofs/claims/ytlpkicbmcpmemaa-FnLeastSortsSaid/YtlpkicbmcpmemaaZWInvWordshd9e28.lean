import Derived.Test.YtlpkicbmcpmemaaZWInvhbcbd8
import Derived.Test.YtlpkicbmcpmemaaZWFootNehebcd4
namespace Go.Proofs.YtlpkicbmcpmemaaW.PrintWords
open Go.RowKit
end Go.Proofs.YtlpkicbmcpmemaaW.PrintWords
namespace Go.Proofs.YtlpkicbmcpmemaaW.PrintLast
section
variable {ops : Array Oper} {a : Act} {o og : Oper} {g : Nat} {t : Tmp} {u : Bool}
end
end Go.Proofs.YtlpkicbmcpmemaaW.PrintLast

