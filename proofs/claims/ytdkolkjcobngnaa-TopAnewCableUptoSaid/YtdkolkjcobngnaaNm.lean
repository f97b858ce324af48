/- A part of a proof. -/
import Derived.Test.YtdkolkjcobngnaaLxA
import Derived.Test.YtdkolkjcobngnaaTab
set_option linter.unusedVariables false
set_option linter.unusedSimpArgs false
set_option maxRecDepth 1000000
namespace Ca
open Go Ce Ce.L Ce.S
theorem nameOK : EOK tbl [(63, [.str], .bool)] := name_ok (fo := 79) (hs := [.unroll, .unroll, .unroll, .unroll, .unroll, .unroll]) (rfl : tbl 63 = some (nameF 79)) (by kernel_rfl)
end Ca
