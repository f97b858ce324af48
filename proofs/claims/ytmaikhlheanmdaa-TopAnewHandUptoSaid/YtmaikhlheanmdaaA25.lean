/- A part of a proof. -/
import Derived.Test.YtmaikhlheanmdaaC11
import Derived.Test.YtmaikhlheanmdaaC49x3
import Derived.Test.YtmaikhlheanmdaaC63x2
import Derived.KernelRfl
set_option linter.unusedVariables false
set_option linter.unusedSimpArgs false
set_option maxRecDepth 1000000
namespace Ha
open Go Ce Ce.L Ce.S
def h25x0 : Hint := .inv ⟨181, [(Y 139), (Y 140), (.vec 1 151 ⟨152, 0⟩), (.vec 1 153 ⟨154, 0⟩), (Y 141), (.ptr 69 0), (Y 155), (Y 156), (Y 157)] ++ ys 142 7 ++ [U, (Y 149), (Y 150), (Z 29), (Z 158)] ++ ys 159 22 ++ [U, U], [D 154 158 0, D 152 158 0, D 158 29 0, D 158 0 9, D 0 158 0, D 154 29 0, D 154 0 9, D 0 154 0, D 152 29 0, D 152 0 9, D 0 152 0], [.vec 153 1 [(.int .i64 ⟨0, 0⟩ ⟨29, (-1)⟩)] ⟨154, 0⟩ false, .vec 151 1 [(.int .i64 ⟨0, 0⟩ ⟨29, (-1)⟩)] ⟨152, 0⟩ false, .blk 69 (.cells [(Y 1), (Y 2), (Y 3), (Z 0), (.map 68)]) false, .map 68 true [(.i .i64), (.i .i64)] J none, .blk 67 (.cells [(Y 1), (Y 2), (Y 3)]) false, .blk 5 (.cells [(Y 1), (Y 2), (Y 3)]) false, .blk 4 (.cells [(Y 1), (Y 2), (Y 3)]) false]⟩ ⟨29, 0⟩ ⟨158, 0⟩
def h25 : Hs := [h25x0]
theorem chk25 : di tbl [(7, [.str], .bool)] 1000 [jl, fP, lM] c25 Ts25 h25 (md sh25) = true := by kernel_rfl
theorem ap25 : Ap25 := fun h => iH d8 (rfl : tbl 25 = some c25) rfl chk25 (ax u9 (ax nE (ax g11 dE))) rfl h
end Ha
