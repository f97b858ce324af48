/- A part of a proof. -/
import Derived.Test.YtdkolkjcobngnadPD
import Derived.KernelRfl
set_option linter.unusedVariables false
set_option linter.unusedSimpArgs false
set_option maxRecDepth 1000000
namespace Sh
open Go Ce Ce.L Ce.Q
theorem p7q0ok : PB tbl 2001 p7q0 := PB.mono (by omega) (chkP_ok (kk := 0) (n := 2000) (noM_ok tbl) (by kernel_rfl))
theorem p7q1ok : PB tbl 2001 p7q1 := PB.mono (by omega) (chkP_ok (kk := 0) (n := 2000) (noM_ok tbl) (by kernel_rfl))
theorem p7q2ok : PB tbl 2001 p7q2 := PB.mono (by omega) (chkP_ok (kk := 0) (n := 2000) (noM_ok tbl) (by kernel_rfl))
theorem p7q3ok : PB tbl 2001 p7q3 := PB.mono (by omega) (chkP_ok (kk := 0) (n := 2000) (noM_ok tbl) (by kernel_rfl))
theorem p7q4ok : PB tbl 2001 p7q4 := PB.mono (by omega) (chkP_ok (kk := 0) (n := 2000) (noM_ok tbl) (by kernel_rfl))
theorem p7q5ok : PB tbl 2001 p7q5 := PB.mono (by omega) (chkP_ok (kk := 0) (n := 2000) (noM_ok tbl) (by kernel_rfl))
end Sh
