/- Functions of the program as plain Lean functions,and that the calls come to what they say. -/
import Derived.Test.YtcofpnddfmlafaaZQx0hd86e5
import Derived.Test.YtcofpnddfmlafaaZQx9hbd131
import Derived.Test.YtcofpnddfmlafaaZShorth79069
namespace Go.Proofs.Ytcofpnddfmlafaa.Q
open Go.RowKit Go.Proofs.YtcofpnddfmlafaaW.PrintWords Go.Proofs.YtcofpnddfmlafaaW.PrintLast Go.Proofs.YtcofpnddfmlafaaW.PrintMore
attribute [local go_sem] max2_int min2_int max_two min_two max_three min_three max_four min_four   -- for this text's walks alone
set_option linter.unusedVariables false
set_option linter.unusedSimpArgs false

/-! ### spec_l1Byte: function 73 -/
/-! ### spec_l1Below: function 57 -/
/-! ### spec_l1Once: function 52 -/
/-! ### spec_l5Var: function 68 -/
/-! ### spec_l1Pick: function 69 -/
/-! ### spec_l5Raw: function 51 -/
end Go.Proofs.Ytcofpnddfmlafaa.Q

