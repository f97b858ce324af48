/- A part of a proof. -/
import Derived.Test.YtdkolkjcobngnaaPD
import Derived.KernelRfl
set_option linter.unusedVariables false
set_option linter.unusedSimpArgs false
set_option maxRecDepth 1000000
namespace Ca
open Go Ce Ce.L Ce.Q
theorem p6q9ok : PB tbl 2001 p6q9 := PB.mono (by omega) (chkP_ok (kk := 0) (n := 2000) (noM_ok tbl) (by kernel_rfl))
theorem p6q10ok : PB tbl 2001 p6q10 := PB.mono (by omega) (chkP_ok (kk := 0) (n := 2000) (noM_ok tbl) (by kernel_rfl))
theorem p6q11ok : PB tbl 2001 p6q11 := PB.mono (by omega) (chkP_ok (kk := 0) (n := 2000) (noM_ok tbl) (by kernel_rfl))
end Ca
