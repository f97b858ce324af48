/- A part of a proof. -/
import Derived.Test.YtmaikhlheanmdaaC11
import Derived.Test.YtmaikhlheanmdaaC49x3
import Derived.Test.YtmaikhlheanmdaaC63x2
import Derived.KernelRfl
set_option linter.unusedVariables false
set_option linter.unusedSimpArgs false
set_option maxRecDepth 1000000
namespace Ha
open Go Ce Ce.L Ce.S
def h15x0 : Hint := .unroll
def h15 : Hs := [h15x0]
theorem chk15 : di tbl [(7, [.str], .bool)] 1000 [jl, fP, lM] c15 Ts15 h15 (md sh15) = true := by kernel_rfl
theorem ap15 : Ap15 := fun h => iH d8 (rfl : tbl 15 = some c15) rfl chk15 (ax u9 (ax nE (ax g11 dE))) rfl h
end Ha
