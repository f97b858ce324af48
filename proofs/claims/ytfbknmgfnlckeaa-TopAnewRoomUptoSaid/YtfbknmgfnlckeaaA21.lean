/- A part of a proof. -/
import Derived.Test.YtfbknmgfnlckeaaC54x3
import Derived.KernelRfl
set_option linter.unusedVariables false
set_option linter.unusedSimpArgs false
set_option maxRecDepth 1000000
namespace Ro
open Go Ce Ce.L Ce.S
def h21x0 : Hint := .unroll
def h21x1 : Hint := .unroll
def h21x2 : Hint := .unroll
def h21 : Hs := [h21x0, h21x1, h21x2]
theorem chk21 : dO tbl [(40, [.str], .bool)] 1000 [mN, dm, gj, lD] c21 Ts21 h21 (lh sh21) = true := by kernel_rfl
theorem ap21 : Ap21 := fun h => gZ de (rfl : tbl 21 = some c21) rfl chk21 (aQ qAE (aQ ix (aQ g7L (aQ g7 cZ)))) rfl h
end Ro
