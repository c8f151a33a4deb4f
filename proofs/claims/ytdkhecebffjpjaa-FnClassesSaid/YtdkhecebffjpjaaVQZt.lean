import Derived.Test.YtdkhecebffjpjaaVQZf
import Derived.Test.YtdkhecebffjpjaaY0
namespace Go.Proofs.Ytdkhecebffjpjaa.X
set_option linter.unusedVariables false
set_option linter.unusedSimpArgs false
open Go.RowKit Go.Proofs.YtdkhecebffjpjaaW.PrintWords Go.Proofs.YtdkhecebffjpjaaW.PrintLast
end Go.Proofs.Ytdkhecebffjpjaa.X
