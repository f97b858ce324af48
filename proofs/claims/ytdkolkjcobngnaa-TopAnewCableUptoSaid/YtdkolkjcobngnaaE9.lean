/- A part of a proof. -/
import Derived.Test.YtdkolkjcobngnaaEE
import Derived.Test.YtdkolkjcobngnaaP9q0
import Derived.Test.YtdkolkjcobngnaaP9q1
import Derived.Test.YtdkolkjcobngnaaP9q2
import Derived.KernelRfl
set_option linter.unusedVariables false
set_option linter.unusedSimpArgs false
set_option maxRecDepth 1000000
namespace Ca
open Go Ce Ce.L Ce.Q
theorem m9 : MOKs tbl 2001 (memoP [p9q0, p9q1, p9q2, p9q3, p9q4]) := memoP_ok (by
  intro e he
  simp only [List.mem_cons, List.not_mem_nil, or_false] at he
  rcases he with rfl | rfl | rfl | rfl | rfl
  · exact p9q0ok
  · exact p9q1ok
  · exact p9q2ok
  · exact p9q3ok
  · exact p9q4ok
  )
theorem e9ok : ApB tbl 5000 e9 := ApB.mono (k := 2001 + 2000) (by omega) (chkQ_ok (kk := 2001) (n := 2000) m9 (by kernel_rfl))
end Ca
