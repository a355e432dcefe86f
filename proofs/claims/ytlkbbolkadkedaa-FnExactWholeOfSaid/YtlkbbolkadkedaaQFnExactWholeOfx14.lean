import Derived.Test.YtlkbbolkadkedaaQFnExactWholeOfx0
import Derived.Test.YtlkbbolkadkedaaQFnExactWholeOfx2
import Derived.Test.YtlkbbolkadkedaaQFnExactWholeOfx3
import Derived.Test.YtlkbbolkadkedaaQFnExactWholeOfx7
import Derived.Test.YtlkbbolkadkedaaQFnExactWholeOfx11
namespace Go.Proofs.Ytlkbbolkadkedaa.QFnExactWholeOf
open Go.RowKit Go.Proofs.YtlkbbolkadkedaaW.PrintWords Go.Proofs.YtlkbbolkadkedaaW.PrintLast Go.Proofs.YtlkbbolkadkedaaW.PrintMore
attribute [local go_sem] max2_int min2_int max_two min_two max_three min_three max_four min_four   -- for this text's walks alone
set_option linter.unusedVariables false
set_option linter.unusedSimpArgs false
end Go.Proofs.Ytlkbbolkadkedaa.QFnExactWholeOf
