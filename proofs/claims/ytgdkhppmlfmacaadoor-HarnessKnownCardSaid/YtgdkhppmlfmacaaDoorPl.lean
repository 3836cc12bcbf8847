/- Plain laws. Conditions: none. -/
import Derived.Test.YtgdkhppmlfmacaaDoorAr
set_option linter.unusedVariables false
set_option linter.unusedSimpArgs false
set_option maxRecDepth 100000
namespace Go.Proofs.YtgdkhppmlfmacaaDoor
open Go Go.Abs Go.Proofs.Tm
theorem plain5:g5=some true:=by kernel_rfl
end Go.Proofs.YtgdkhppmlfmacaaDoor
