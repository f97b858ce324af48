/- A part of a proof. -/
import Derived.Test.YtdkolkjcobngnabEE
import Derived.KernelRfl
set_option linter.unusedVariables false
set_option linter.unusedSimpArgs false
set_option maxRecDepth 1000000
namespace Ho
open Go Ce Ce.L
theorem e6ok : ApB tbl 2000 e6 := chkE_ok (by kernel_rfl)
end Ho
