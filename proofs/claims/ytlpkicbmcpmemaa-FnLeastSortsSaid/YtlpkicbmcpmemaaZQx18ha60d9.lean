/- Functions of the program as plain Lean functions, and that the calls come to what they say. -/
import Derived.Test.YtlpkicbmcpmemaaZQx0h2d4ba
import Derived.Test.YtlpkicbmcpmemaaZQx1h6f3c5
import Derived.Test.YtlpkicbmcpmemaaZQx3ha0ac6
import Derived.Test.YtlpkicbmcpmemaaZQx4h2f5a3
import Derived.Test.YtlpkicbmcpmemaaZQx5ha550c
import Derived.Test.YtlpkicbmcpmemaaZQx8h3bb97
import Derived.Test.YtlpkicbmcpmemaaZQx15h11e27
import Derived.Test.YtlpkicbmcpmemaaZQx17h73f64
import Derived.Test.YtlpkicbmcpmemaaZShorth9309d
namespace Go.Proofs.Ytlpkicbmcpmemaa.Q
open Go.RowKit Go.Proofs.YtlpkicbmcpmemaaW.PrintWords Go.Proofs.YtlpkicbmcpmemaaW.PrintLast Go.Proofs.YtlpkicbmcpmemaaW.PrintMore
attribute [local go_sem] max2_int min2_int max_two min_two max_three min_three max_four min_four   -- for this text's walks alone
set_option linter.unusedVariables false
set_option linter.unusedSimpArgs false

/-! ### laws_FnExactBelowSort: function 6 -/
/-! ### spec_l1Min: function 68 -/
/-! ### spec_l3Kinds: function 56 -/
/-! ### spec_KindOfSort: function 26 -/
end Go.Proofs.Ytlpkicbmcpmemaa.Q

