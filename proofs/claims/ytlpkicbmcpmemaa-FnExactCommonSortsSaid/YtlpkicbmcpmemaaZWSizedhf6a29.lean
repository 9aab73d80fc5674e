import Derived.SizedLaws
import Derived.ChangeSlices
namespace Go.Proofs.YtlpkicbmcpmemaaW.PrintWords
open Go.ChangeShapes Go.WideShapes
end Go.Proofs.YtlpkicbmcpmemaaW.PrintWords

