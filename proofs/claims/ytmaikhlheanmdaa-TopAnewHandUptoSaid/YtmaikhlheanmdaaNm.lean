/- A part of a proof. -/
import Derived.Test.YtmaikhlheanmdaaLxA
import Derived.Test.YtmaikhlheanmdaaTab
import Derived.KernelRfl
set_option linter.unusedVariables false
set_option linter.unusedSimpArgs false
set_option maxRecDepth 1000000
namespace Ha
open Go Ce Ce.L Ce.S
theorem d8 : EOK tbl [(7, [.str], .bool)] := qCI (fo := 39) (hs := [.unroll, .unroll, .unroll, .unroll, .unroll, .unroll]) (rfl : tbl 7 = some (qz 39)) (by kernel_rfl)
end Ha
