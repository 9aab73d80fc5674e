/- Functions of the program as plain Lean functions,and that the calls come to what they say. -/
import Derived.Test.YtpildjbakceicaaZQx0hb61c0
import Derived.Test.YtpildjbakceicaaZQx1h27402
import Derived.Test.YtpildjbakceicaaZQx8ha6c9f
import Derived.Test.YtpildjbakceicaaZQx9h5fb00
import Derived.Test.YtpildjbakceicaaZQx16h0fe0e
import Derived.Test.YtpildjbakceicaaZQx18h97522
import Derived.Test.YtpildjbakceicaaZShorth7b252
namespace Go.Proofs.Ytpildjbakceicaa.Q
open Go.RowKit Go.Proofs.YtpildjbakceicaaW.PrintWords Go.Proofs.YtpildjbakceicaaW.PrintLast Go.Proofs.YtpildjbakceicaaW.PrintMore
attribute [local go_sem] max2_int min2_int max_two min_two max_three min_three max_four min_four   -- for this text's walks alone
set_option linter.unusedVariables false
set_option linter.unusedSimpArgs false

/-! ### laws_FnExactArityOf: function 4 -/
/-! ### spec_IsFreeSignature: function 15 -/
/-! ### impl_IsFreeSignature: function 16 -/
end Go.Proofs.Ytpildjbakceicaa.Q

