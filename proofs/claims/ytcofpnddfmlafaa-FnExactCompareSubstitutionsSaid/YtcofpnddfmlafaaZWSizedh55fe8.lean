import Derived.SizedLaws
import Derived.ChangeSlices
namespace Go.Proofs.YtcofpnddfmlafaaW.PrintWords
open Go.ChangeShapes Go.WideShapes
end Go.Proofs.YtcofpnddfmlafaaW.PrintWords

