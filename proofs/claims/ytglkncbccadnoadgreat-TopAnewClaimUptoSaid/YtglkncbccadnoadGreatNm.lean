/- A part of a proof. -/
import Derived.Test.YtglkncbccadnoadGreatLxA
import Derived.Test.YtglkncbccadnoadGreatTab
import Derived.KernelRfl
set_option linter.unusedVariables false
set_option linter.unusedSimpArgs false
set_option maxRecDepth 1000000
namespace Cl
open Go Ce Ce.L Ce.S
theorem bO:EOK tbl [(37,[.str],.bool)]:=qQA (fo:=74) (hs:=[.unroll,.unroll,.unroll,.unroll,.unroll,.unroll]) (rfl:tbl 37=some (vj 74)) (by kernel_rfl)
end Cl
