/- A part of a proof. -/
import Derived.Test.YtglkncbccadnoadGreatEA
import Derived.Test.YtglkncbccadnoadGreatEB
set_option linter.unusedVariables false
set_option linter.unusedSimpArgs false
set_option maxRecDepth 1000000
namespace Cl
open Go Ce Ce.L
theorem qQD:∀e,e∈[e0,e1,e2,e3,e4,e5,e6,e7,e8,e9,e10,e11]→ApB tbl 5000 e:=by
  intro e he;simp only [List.mem_cons,List.not_mem_nil,or_false] at he;rcases he with rfl | rfl | rfl | rfl | rfl | rfl | rfl | rfl | rfl | rfl | rfl | rfl
  · exact e0ok
  · exact e1ok
  · exact e2ok
  · exact e3ok
  · exact e4ok
  · exact e5ok
  · exact e6ok
  · exact e7ok
  · exact e8ok
  · exact e9ok
  · exact e10ok
  · exact e11ok
theorem awake:∀h,Wf tbl (.fn 33) [] h fun v _=>v=.bool true:=qMJ (n:=1000) qQD (rfl:tbl 33=some c33) rfl (by kernel_rfl)
end Cl
