import Derived.SizedLaws
import Derived.ChangeSlices
namespace Go.Proofs.YtpildjbakceicaaW.PrintWords
open Go.ChangeShapes Go.WideShapes
end Go.Proofs.YtpildjbakceicaaW.PrintWords

