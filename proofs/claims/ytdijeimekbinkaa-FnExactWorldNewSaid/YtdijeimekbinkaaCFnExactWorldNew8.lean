/- Contracts of the functions that the statement reaches. -/
import Derived.Test.YtdijeimekbinkaaCFnExactWorldNew7
section
namespace Go.Proofs.Ytdijeimekbinkaa.Pure
open Go Go.RowKit Go.Proofs.Ytdijeimekbinkaa.PAll Go.Proofs.YtdijeimekbinkaaW.PrintWords Go.Proofs.YtdijeimekbinkaaW.PrintLast Go.Proofs.YtdijeimekbinkaaW.PrintMore
set_option linter.unusedVariables false
set_option linter.unusedSimpArgs false
theorem FnExactWorldNew : laws_FnExactWorldNew.Pure := ⟨20, by kernel_rfl⟩
end Go.Proofs.Ytdijeimekbinkaa.Pure
end
