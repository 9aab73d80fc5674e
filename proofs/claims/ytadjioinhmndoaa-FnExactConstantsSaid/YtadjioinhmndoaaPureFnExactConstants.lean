/- The statement FnExactConstants over numbers and lists alone: what the printed functions of the law come to is true, for every input. -/
import Derived.Test.YtadjioinhmndoaaPFnExactConstantsx1
import Derived.Test.YtadjioinhmndoaaPb
set_option linter.unusedVariables false
set_option linter.unusedSimpArgs false
namespace Go.Proofs.Ytadjioinhmndoaa.Pure
open Go.RowKit Go.Proofs.Ytadjioinhmndoaa.PFnExactConstants Go.Proofs.YtadjioinhmndoaaW.PrintWords Go.Proofs.YtadjioinhmndoaaW.PrintLast Go.Proofs.YtadjioinhmndoaaW.PrintMore Go.Proofs.Ytadjioinhmndoaa.Pb

theorem FnExactConstants : laws_FnExactConstants.Pure := by
  unfold laws_FnExactConstants.Pure laws_FnExactConstants.f
  rfl

end Go.Proofs.Ytadjioinhmndoaa.Pure
