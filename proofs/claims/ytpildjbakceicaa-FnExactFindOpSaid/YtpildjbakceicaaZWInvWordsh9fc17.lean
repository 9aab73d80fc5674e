import Derived.Test.YtpildjbakceicaaZWInvh8d7ed
import Derived.Test.YtpildjbakceicaaZWFootNehb9895
namespace Go.Proofs.YtpildjbakceicaaW.PrintWords
open Go.RowKit
end Go.Proofs.YtpildjbakceicaaW.PrintWords
namespace Go.Proofs.YtpildjbakceicaaW.PrintLast
section
variable {ops:Array Oper} {a:Act} {o og:Oper} {g:Nat} {t:Tmp} {u:Bool}
end
end Go.Proofs.YtpildjbakceicaaW.PrintLast

