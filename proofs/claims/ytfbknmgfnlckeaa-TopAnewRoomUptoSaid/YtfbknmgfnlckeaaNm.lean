/- A part of a proof. -/
import Derived.Test.YtfbknmgfnlckeaaLxA
import Derived.Test.YtfbknmgfnlckeaaTab
import Derived.KernelRfl
set_option linter.unusedVariables false
set_option linter.unusedSimpArgs false
set_option maxRecDepth 1000000
namespace Ro
open Go Ce Ce.L Ce.S
theorem de : EOK tbl [(40, [.str], .bool)] := qE1 (fo := 70) (hs := [.unroll, .unroll, .unroll, .unroll, .unroll, .unroll]) (rfl : tbl 40 = some (rb 70)) (by kernel_rfl)
end Ro
