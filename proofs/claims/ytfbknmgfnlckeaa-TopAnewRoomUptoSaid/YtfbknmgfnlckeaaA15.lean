/- A part of a proof. -/
import Derived.Test.YtfbknmgfnlckeaaC12
import Derived.KernelRfl
set_option linter.unusedVariables false
set_option linter.unusedSimpArgs false
set_option maxRecDepth 1000000
namespace Ro
open Go Ce Ce.L Ce.S
def h15 : Hs := []
theorem chk15 : dO tbl [(40, [.str], .bool)] 1000 [qAV, dm, gj, lD] c15 Ts15 h15 (lh sh15) = true := by kernel_rfl
theorem ap15 : Ap15 := fun h => gZ de (rfl : tbl 15 = some c15) rfl chk15 (aQ g12 (aQ ix (aQ g7L (aQ g7 cZ)))) rfl h
end Ro
