/- A part of a proof. -/
import Derived.Test.YtdkolkjcobngnaaPD
import Derived.KernelRfl
set_option linter.unusedVariables false
set_option linter.unusedSimpArgs false
set_option maxRecDepth 1000000
namespace Ca
open Go Ce Ce.L Ce.Q
theorem p5q6ok : PB tbl 2001 p5q6 := PB.mono (by omega) (chkP_ok (kk := 0) (n := 2000) (noM_ok tbl) (by kernel_rfl))
theorem p5q7ok : PB tbl 2001 p5q7 := PB.mono (by omega) (chkP_ok (kk := 0) (n := 2000) (noM_ok tbl) (by kernel_rfl))
theorem p5q8ok : PB tbl 2001 p5q8 := PB.mono (by omega) (chkP_ok (kk := 0) (n := 2000) (noM_ok tbl) (by kernel_rfl))
end Ca
