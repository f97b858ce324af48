/- A part of a proof. -/
import Derived.Test.YtdkolkjcobngnaaEE
import Derived.Test.YtdkolkjcobngnaaP5q0
import Derived.Test.YtdkolkjcobngnaaP5q1
import Derived.Test.YtdkolkjcobngnaaP5q2
import Derived.Test.YtdkolkjcobngnaaP5q3
import Derived.Test.YtdkolkjcobngnaaP5q4
import Derived.KernelRfl
set_option linter.unusedVariables false
set_option linter.unusedSimpArgs false
set_option maxRecDepth 1000000
namespace Ca
open Go Ce Ce.L Ce.Q
theorem m5 : MOKs tbl 2001 (memoP [p5q0, p5q1, p5q2, p5q3, p5q4, p5q5, p5q6, p5q7, p5q8, p5q9, p5q10, p5q11]) := memoP_ok (by
  intro e he
  simp only [List.mem_cons, List.not_mem_nil, or_false] at he
  rcases he with rfl | rfl | rfl | rfl | rfl | rfl | rfl | rfl | rfl | rfl | rfl | rfl
  · exact p5q0ok
  · exact p5q1ok
  · exact p5q2ok
  · exact p5q3ok
  · exact p5q4ok
  · exact p5q5ok
  · exact p5q6ok
  · exact p5q7ok
  · exact p5q8ok
  · exact p5q9ok
  · exact p5q10ok
  · exact p5q11ok
  )
theorem e5ok : ApB tbl 5000 e5 := ApB.mono (k := 2001 + 2000) (by omega) (chkQ_ok (kk := 2001) (n := 2000) m5 (by kernel_rfl))
end Ca
