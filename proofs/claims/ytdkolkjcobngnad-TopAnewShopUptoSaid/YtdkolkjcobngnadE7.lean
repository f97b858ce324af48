/- A part of a proof. -/
import Derived.Test.YtdkolkjcobngnadEE
import Derived.Test.YtdkolkjcobngnadP7q0
import Derived.Test.YtdkolkjcobngnadP7q1
import Derived.KernelRfl
set_option linter.unusedVariables false
set_option linter.unusedSimpArgs false
set_option maxRecDepth 1000000
namespace Sh
open Go Ce Ce.L Ce.Q
theorem m7 : MOKs tbl 2001 (memoP [p7q0, p7q1, p7q2, p7q3, p7q4, p7q5, p7q6, p7q7, p7q8, p7q9, p7q10, p7q11]) := memoP_ok (by
  intro e he
  simp only [List.mem_cons, List.not_mem_nil, or_false] at he
  rcases he with rfl | rfl | rfl | rfl | rfl | rfl | rfl | rfl | rfl | rfl | rfl | rfl
  · exact p7q0ok
  · exact p7q1ok
  · exact p7q2ok
  · exact p7q3ok
  · exact p7q4ok
  · exact p7q5ok
  · exact p7q6ok
  · exact p7q7ok
  · exact p7q8ok
  · exact p7q9ok
  · exact p7q10ok
  · exact p7q11ok
  )
theorem e7ok : ApB tbl 5000 e7 := ApB.mono (k := 2001 + 2000) (by omega) (chkQ_ok (kk := 2001) (n := 2000) m7 (by kernel_rfl))
end Sh
