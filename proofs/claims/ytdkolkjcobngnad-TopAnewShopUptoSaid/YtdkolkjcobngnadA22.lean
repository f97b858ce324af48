/- A part of a proof. -/
import Derived.Test.YtdkolkjcobngnadC51x2
import Derived.KernelRfl
set_option linter.unusedVariables false
set_option linter.unusedSimpArgs false
set_option maxRecDepth 1000000
namespace Sh
open Go Ce Ce.L Ce.S
def h22x0 : Hint := .unroll
def h22 : Hs := [h22x0]
theorem chk22 : chkApiE tbl [(61, [.str], .bool)] 1000 [con51x2, con50x1, con7] c22 Ts22 h22 (pRes sh22) = true := by kernel_rfl
theorem ap22 : Ap22 := fun h => ap_ofE nameOK (rfl : tbl 22 = some c22) rfl chk22 (gok_cons g51x2 (gok_cons g50x1 (gok_cons g7 gok_nil))) rfl h
end Sh
