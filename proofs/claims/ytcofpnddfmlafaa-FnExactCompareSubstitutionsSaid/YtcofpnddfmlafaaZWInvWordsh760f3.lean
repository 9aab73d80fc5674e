import Derived.Test.YtcofpnddfmlafaaZWInvh80edd
import Derived.Test.YtcofpnddfmlafaaZWFootNeh9c10f
namespace Go.Proofs.YtcofpnddfmlafaaW.PrintWords
open Go.RowKit
end Go.Proofs.YtcofpnddfmlafaaW.PrintWords
namespace Go.Proofs.YtcofpnddfmlafaaW.PrintLast
section
variable {ops:Array Oper} {a:Act} {o og:Oper} {g:Nat} {t:Tmp} {u:Bool}
end
end Go.Proofs.YtcofpnddfmlafaaW.PrintLast

