import Derived.Test.YtlkbbolkadkedaaWMore
import Derived.Lib.ConvBytes
set_option linter.unusedVariables false
namespace Go.Proofs.YtlkbbolkadkedaaW.PrintWords
open Go.RowKit
abbrev tt : Bool := true
abbrev ff : Bool := false
namespace Kd
section
variable {P : Program} {ops : Array Oper} {rest : List Oper} {o : Oper} {a : Act} {Q : Exit → Act → World → Prop}
end
end Kd
end Go.Proofs.YtlkbbolkadkedaaW.PrintWords
