/- A part of a proof. -/
import Derived.Test.YtfbknmgfnlckeaaC12
import Derived.KernelRfl
set_option linter.unusedVariables false
set_option linter.unusedSimpArgs false
set_option maxRecDepth 1000000
namespace Ro
open Go Ce Ce.L Ce.S
def h17 : Hs := []
theorem chk17 : dO tbl [(40, [.str], .bool)] 1000 [qAV, dm, gj, lD] c17 Ts17 h17 (lh sh17) = true := by kernel_rfl
theorem ap17 : Ap17 := fun h => gZ de (rfl : tbl 17 = some c17) rfl chk17 (aQ g12 (aQ ix (aQ g7L (aQ g7 cZ)))) rfl h
end Ro
