/- A part of a proof. -/
import Derived.Test.YtfbknmgfnlckeaaC59x2
import Derived.KernelRfl
set_option linter.unusedVariables false
set_option linter.unusedSimpArgs false
set_option maxRecDepth 1000000
namespace Ro
open Go Ce Ce.L Ce.S
def h12x0 : Hint := .unroll
def h12x1 : Hint := .unroll
def h12 : Hs := [h12x0, h12x1]
theorem chk12 : dO tbl [(40, [.str], .bool)] 1000 [dm, gj, lD] c12 Ts12 h12 (lh sh12) = true := by kernel_rfl
theorem ap12 : Ap12 := fun h => gZ de (rfl : tbl 12 = some c12) rfl chk12 (aQ ix (aQ g7L (aQ g7 cZ))) rfl h
end Ro
