/- A part of a proof. -/
import Derived.Test.YtkefopelclcljacLxA
import Derived.Test.YtkefopelclcljacTab
set_option linter.unusedVariables false
set_option linter.unusedSimpArgs false
set_option maxRecDepth 1000000
namespace Tu
open Go Ce Ce.L Ce.S
theorem cI : EOK tbl [] := fun f Ts T h => by cases h
end Tu
