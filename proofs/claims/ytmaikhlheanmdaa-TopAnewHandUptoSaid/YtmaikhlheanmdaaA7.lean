/- A part of a proof. -/
import Derived.Test.YtmaikhlheanmdaaLaw
import Derived.Test.YtmaikhlheanmdaaNm
set_option linter.unusedVariables false
set_option linter.unusedSimpArgs false
set_option maxRecDepth 1000000
namespace Ha
open Go Ce Ce.L Ce.S
theorem ap7 : Ap7 := fun h => ap_str (rfl : tbl 7 = some c7) rfl d8 h
end Ha
