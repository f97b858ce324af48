/- A part of a proof. -/
import Derived.Test.YtdkolkjcobngnadEE
import Derived.KernelRfl
set_option linter.unusedVariables false
set_option linter.unusedSimpArgs false
set_option maxRecDepth 1000000
namespace Sh
open Go Ce Ce.L
theorem e2ok : ApB tbl 5000 e2 := ApB.mono (k := 0 + 2000) (by omega) (Ce.Q.chkQ_ok (kk := 0) (n := 2000) (Ce.Q.noM_ok tbl) (by kernel_rfl))
end Sh
