/- A part of a proof. -/
import Derived.Test.YtkefopelclcljacEA
import Derived.Test.YtkefopelclcljacEB
set_option linter.unusedVariables false
set_option linter.unusedSimpArgs false
set_option maxRecDepth 1000000
namespace Tu
open Go Ce Ce.L
theorem qE8 : ∀ e, e ∈ [e0, e1, e2, e3, e4, e5, e6, e7, e8, e9, e10, e11] → ApB tbl 5000 e := by
  intro e he
  simp only [List.mem_cons, List.not_mem_nil, or_false] at he
  rcases he with rfl | rfl | rfl | rfl | rfl | rfl | rfl | rfl | rfl | rfl | rfl | rfl
  · exact e0ok
  · exact e1ok
  · exact e2ok
  · exact e3ok
  · exact e4ok
  · exact e5ok
  · exact e6ok
  · exact e7ok
  · exact e8ok
  · exact e9ok
  · exact e10ok
  · exact e11ok
theorem awake : ∀ h, Wf tbl (.fn 34) [] h fun v _ => v = .bool true := qC3 (n := 1000) qE8 (rfl : tbl 34 = some c34) rfl (by kernel_rfl)
end Tu
