/- A part of a proof. -/
import Derived.Test.YtmaikhlheanmdaaC11
import Derived.Test.YtmaikhlheanmdaaC49x3
import Derived.Test.YtmaikhlheanmdaaC59x4
import Derived.Test.YtmaikhlheanmdaaC63x2
import Derived.KernelRfl
set_option linter.unusedVariables false
set_option linter.unusedSimpArgs false
set_option maxRecDepth 1000000
namespace Ha
open Go Ce Ce.L Ce.S
def wl0 : BE := .blk 152 (.cells [(Z 196)]) false
def wl1 : BE := .blk 151 (.cells [(.ptr 81 0)]) false
def wl2 : BE := .blk 81 (.cells [(Y 1), (Y 2), (Y 3), (Z 0), (.map 80)]) false
def wl3 : BE := .map 80 true [(.i .i64), (.i .i64)] J none
def wl4 : BE := .blk 79 (.cells [(Y 1), (Y 2), (Y 3)]) false
def wl5 : BE := .blk 78 (.cells [(I 0 72)]) false
def wl6 : BE := .blk 77 (.cells [(Z 0)]) false
def wl7 : BE := .blk 76 (.cells [(Z 5)]) false
def wl8 : BE := .blk 75 (.cells [(I 11 (-1))]) false
def wl9 : BE := .blk 74 (.cells [(Z 0)]) false
def qB9 : BE := .blk 73 (.cells [(Z 4)]) false
def qB8 : BE := .blk 72 (.cells [(Z 11)]) false
def qB7 : BE := .blk 71 (.cells [(Z 4)]) false
def qB6 : BE := .blk 9 (.cells [(Y 1), (Y 2), (Y 3)]) false
def qB5 : BE := .blk 8 (.cells [(Z 5)]) false
def qB4 : BE := .blk 7 (.cells [(Z 4)]) false
def qB3 : BE := .blk 6 (.cells [(Y 1), (Y 2), (Y 3)]) false
def wl17 : BE := .vec 214 1 [(.int .i64 ⟨0, 0⟩ ⟨33, (-1)⟩)] ⟨215, 0⟩ false
def wl18 : BE := .vec 237 1 [(.int .i64 ⟨0, 0⟩ ⟨33, (-1)⟩)] ⟨238, 0⟩ false
def h28x0 : Hint := .unroll
def h28x1 : Hint := .unroll
def h28x2 : Hint := .inv ⟨197, [(Y 153), (Y 154), (Y 155), (.ptr 6 0), (.ptr 7 0), (.ptr 8 0), (Y 156), (Y 157), (.ptr 151 0), (Y 158), (.ptr 152 0), (Y 169), (Y 170), (Y 171), U, U] ++ ys 159 8 ++ [U, (Y 167), (Y 168), (Z 33), (Z 172)] ++ ys 173 18 ++ ys 192 4 ++ [(Y 191)] ++ us 11, [D 196 0 X7, D 0 196 X8, D 172 33 0, D 172 0 9, D 0 172 0], [wl0, wl1, wl2, wl3, wl4, wl5, wl6, wl7, wl8, wl9, qB9, qB8, qB7, qB6, qB5, qB4, qB3]⟩ ⟨33, 0⟩ ⟨172, 0⟩
def h28x3 : Hint := .inv ⟨236, [(Z 33), (.clo 59 [] [(.ptr 152 0), (.ptr 151 0), (.ptr 6 0), (.ptr 8 0)]), U, U, (.vec 1 214 ⟨215, 0⟩), (Y 216), (Y 199), (Y 200), (Y 198), (Z 197), (Z 201)] ++ ys 202 7 ++ ys 218 18 ++ ys 209 4 ++ [(Y 217), (Y 213), U, U], [.ty 216 .bool, D 215 33 0, D 215 0 9, D 0 215 0, D 0 201 0, D 201 0 X7], [wl17, wl0, wl1, wl2, wl3, wl4, wl5, wl6, wl7, wl8, wl9, qB9, qB8, qB7, qB6, qB5, qB4, qB3]⟩ ⟨197, 0⟩ ⟨201, 0⟩
def h28x4 : Hint := .inv ⟨253, [(Z 201), (Y 236), U, U, (.vec 1 237 ⟨238, 0⟩), (Y 239), (Z 33), (Z 240)] ++ ys 241 12 ++ [U], [D 238 240 0, D 240 33 0, D 240 0 9, D 0 240 0, D 238 33 0, D 238 0 9, D 0 238 0], [wl18, wl17, wl0, wl1, wl2, wl3, wl4, wl5, wl6, wl7, wl8, wl9, qB9, qB8, qB7, qB6, qB5, qB4, qB3]⟩ ⟨33, 0⟩ ⟨240, 0⟩
def h28x5 : Hint := .inv ⟨277, [(.vec 1 237 ⟨238, 0⟩), (.vec 1 214 ⟨215, 0⟩), U, U] ++ ys 253 5 ++ [(.vec 1 237 ⟨238, 0⟩), (Z 238), (Z 258)] ++ ys 259 17 ++ [U, (Y 276)] ++ us 5, [D 258 33 0, D 258 238 0, D 258 0 9, D 0 258 0], [wl18, wl17, wl0, wl1, wl2, wl3, wl4, wl5, wl6, wl7, wl8, wl9, qB9, qB8, qB7, qB6, qB5, qB4, qB3]⟩ ⟨238, 0⟩ ⟨258, 0⟩
def h28 : Hs := [h28x0, h28x1, h28x2, h28x3, h28x4, h28x5]
theorem chk28 : di tbl [(7, [.str], .bool)] 1000 [uq, jl, fP, lM] c28 Ts28 h28 (md sh28) = true := by kernel_rfl
theorem ap28 : Ap28 := fun h => iH d8 (rfl : tbl 28 = some c28) rfl chk28 (ax g59x4 (ax u9 (ax nE (ax g11 dE)))) rfl h
end Ha
