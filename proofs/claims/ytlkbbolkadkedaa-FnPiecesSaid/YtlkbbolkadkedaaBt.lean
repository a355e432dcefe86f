import Derived.Test.YtlkbbolkadkedaaConv
set_option linter.unusedVariables false
namespace Go.Proofs.YtlkbbolkadkedaaW.PrintLast
section
variable {P : Program} {ops : Array Oper} {Q : Exit → Act → World → Prop} {md : Region.Mode} {S : World → Prop} {ds : List Nat}
end
end Go.Proofs.YtlkbbolkadkedaaW.PrintLast
