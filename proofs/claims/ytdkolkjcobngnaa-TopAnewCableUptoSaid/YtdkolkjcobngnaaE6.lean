/- A part of a proof. -/
import Derived.Test.YtdkolkjcobngnaaEE
import Derived.Test.YtdkolkjcobngnaaP6q0
import Derived.Test.YtdkolkjcobngnaaP6q1
import Derived.Test.YtdkolkjcobngnaaP6q2
import Derived.Test.YtdkolkjcobngnaaP6q3
import Derived.Test.YtdkolkjcobngnaaP6q4
import Derived.KernelRfl
set_option linter.unusedVariables false
set_option linter.unusedSimpArgs false
set_option maxRecDepth 1000000
namespace Ca
open Go Ce Ce.L Ce.Q
theorem m6 : MOKs tbl 2001 (memoP [p6q0, p6q1, p6q2, p6q3, p6q4, p6q5, p6q6, p6q7, p6q8, p6q9, p6q10, p6q11]) := memoP_ok (by
  intro e he
  simp only [List.mem_cons, List.not_mem_nil, or_false] at he
  rcases he with rfl | rfl | rfl | rfl | rfl | rfl | rfl | rfl | rfl | rfl | rfl | rfl
  · exact p6q0ok
  · exact p6q1ok
  · exact p6q2ok
  · exact p6q3ok
  · exact p6q4ok
  · exact p6q5ok
  · exact p6q6ok
  · exact p6q7ok
  · exact p6q8ok
  · exact p6q9ok
  · exact p6q10ok
  · exact p6q11ok
  )
theorem e6ok : ApB tbl 5000 e6 := ApB.mono (k := 2001 + 2000) (by omega) (chkQ_ok (kk := 2001) (n := 2000) m6 (by kernel_rfl))
end Ca
