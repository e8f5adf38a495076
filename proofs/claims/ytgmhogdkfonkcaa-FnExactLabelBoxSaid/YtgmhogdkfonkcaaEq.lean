import Derived.Test.YtgmhogdkfonkcaaIv
/- The laws' own functions: copies and comparisons of plain structs. -/
namespace Go.Proofs.Ytgmhogdkfonkcaa
set_option linter.unusedSimpArgs false
set_option linter.unusedVariables false
open Go.RowKit
attribute [local go_sem] cell_allocI frz_allocI
end Go.Proofs.Ytgmhogdkfonkcaa
