/- What an argument in memory reads as: the values of the plain functions. -/
import Derived.Test.YtlpkicbmcpmemaaZQx0h2d4ba
import Derived.Deep.Slices
import Derived.ChangeArms
import Derived.WideShapes
set_option linter.unusedVariables false
set_option linter.unusedSimpArgs false
namespace Go.Proofs.Ytlpkicbmcpmemaa.Rd
open Go.RowKit Go.Deep Go.Proofs.Ytlpkicbmcpmemaa.Q Go.Proofs.YtlpkicbmcpmemaaW.PrintWords
section
variable {H : Type} {enc : TypeId × Value → H} {P : Program} {W : World} {t : TypeId} {fuel : Nat} {cs : List Value} {x : DataW H × List MemPlace}
end
section
variable {H : Type} {enc : TypeId × Value → H} {W : World}
instance : Inhabited S73 := ⟨z73⟩
instance : Inhabited S25 := ⟨z25⟩
end
end Go.Proofs.Ytlpkicbmcpmemaa.Rd

