/- A part of a proof. -/
import Derived.Test.YtdkolkjcobngnacLxA
import Derived.Test.YtdkolkjcobngnacTab
set_option linter.unusedVariables false
set_option linter.unusedSimpArgs false
set_option maxRecDepth 1000000
namespace Do
open Go Ce Ce.L Ce.S
theorem nameOK : EOK tbl [(62, [.str], .bool)] := name_ok (fo := 86) (hs := [.unroll, .unroll, .unroll, .unroll, .unroll, .unroll]) (rfl : tbl 62 = some (nameF 86)) (by kernel_rfl)
end Do
