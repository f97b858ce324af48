/- A part of a proof. -/
import Derived.Test.YtdkolkjcobngnadLxA
import Derived.Test.YtdkolkjcobngnadTab
set_option linter.unusedVariables false
set_option linter.unusedSimpArgs false
set_option maxRecDepth 1000000
namespace Sh
open Go Ce Ce.L Ce.S
theorem nameOK : EOK tbl [(61, [.str], .bool)] := name_ok (fo := 79) (hs := [.unroll, .unroll, .unroll, .unroll, .unroll, .unroll]) (rfl : tbl 61 = some (nameF 79)) (by kernel_rfl)
end Sh
