/- A part of a proof. -/
import Derived.Test.YtdkolkjcobngnadPD
import Derived.KernelRfl
set_option linter.unusedVariables false
set_option linter.unusedSimpArgs false
set_option maxRecDepth 1000000
namespace Sh
open Go Ce Ce.L Ce.Q
theorem p7q6ok : PB tbl 2001 p7q6 := PB.mono (by omega) (chkP_ok (kk := 0) (n := 2000) (noM_ok tbl) (by kernel_rfl))
theorem p7q7ok : PB tbl 2001 p7q7 := PB.mono (by omega) (chkP_ok (kk := 0) (n := 2000) (noM_ok tbl) (by kernel_rfl))
theorem p7q8ok : PB tbl 2001 p7q8 := PB.mono (by omega) (chkP_ok (kk := 0) (n := 2000) (noM_ok tbl) (by kernel_rfl))
theorem p7q9ok : PB tbl 2001 p7q9 := PB.mono (by omega) (chkP_ok (kk := 0) (n := 2000) (noM_ok tbl) (by kernel_rfl))
theorem p7q10ok : PB tbl 2001 p7q10 := PB.mono (by omega) (chkP_ok (kk := 0) (n := 2000) (noM_ok tbl) (by kernel_rfl))
theorem p7q11ok : PB tbl 2001 p7q11 := PB.mono (by omega) (chkP_ok (kk := 0) (n := 2000) (noM_ok tbl) (by kernel_rfl))
end Sh
