import Derived.Test.YtkljbkminihlbaaQFnItemsx0
import Derived.Test.YtkljbkminihlbaaQFnItemsx1
import Derived.Test.YtkljbkminihlbaaQFnItemsx2
import Derived.Test.YtkljbkminihlbaaQFnItemsx3
import Derived.Test.YtkljbkminihlbaaQFnItemsx13
namespace Go.Proofs.Ytkljbkminihlbaa.QFnItems
open Go.RowKit Go.Proofs.YtkljbkminihlbaaW.PrintWords Go.Proofs.YtkljbkminihlbaaW.PrintLast Go.Proofs.YtkljbkminihlbaaW.PrintMore
attribute [local go_sem] max2_int min2_int max_two min_two max_three min_three max_four min_four   -- for this text's walks alone
set_option linter.unusedVariables false
set_option linter.unusedSimpArgs false
attribute [local go_sem high] eqA53
end Go.Proofs.Ytkljbkminihlbaa.QFnItems
