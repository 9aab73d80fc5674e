/- Functions of the program as plain Lean functions, and that the calls come to what they say. -/
import Derived.Test.YtlpkicbmcpmemaaZQx0h0f72a
import Derived.Test.YtlpkicbmcpmemaaZQx1h8a6a8
import Derived.Test.YtlpkicbmcpmemaaZQx3h1c538
import Derived.Test.YtlpkicbmcpmemaaZQx4h1ed93
import Derived.Test.YtlpkicbmcpmemaaZQx5h4661f
import Derived.Test.YtlpkicbmcpmemaaZQx8haf1cc
import Derived.Test.YtlpkicbmcpmemaaZQx19hcada7
import Derived.Test.YtlpkicbmcpmemaaZQx20heac09
namespace Go.Proofs.Ytlpkicbmcpmemaa.Q
open Go.RowKit Go.Proofs.YtlpkicbmcpmemaaW.PrintWords Go.Proofs.YtlpkicbmcpmemaaW.PrintLast Go.Proofs.YtlpkicbmcpmemaaW.PrintMore
attribute [local go_sem] max2_int min2_int max_two min_two max_three min_three max_four min_four   -- for this text's walks alone
set_option linter.unusedVariables false
set_option linter.unusedSimpArgs false

/-! ### laws_FnExactGreatestSorts: function 8 -/
/-! ### spec_LeastSorts: function 29 -/
end Go.Proofs.Ytlpkicbmcpmemaa.Q

