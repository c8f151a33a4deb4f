/- The codes for tasks and turns; no condition beside those stated. -/
import Derived.Test.YtjaanhnmgipmeaaQT
import Derived.Test.YtjaanhnmgipmeaaX0
namespace Go.Proofs.Ytjaanhnmgipmeaa.X
set_option linter.unusedVariables false
set_option linter.unusedSimpArgs false
open Go.RowKit Go.Proofs.YtjaanhnmgipmeaaW.PrintWords Go.Proofs.YtjaanhnmgipmeaaW.PrintLast
end Go.Proofs.Ytjaanhnmgipmeaa.X
