/- A part of a proof. -/
import Derived.Test.YtmaikhlheanmdaaC11
import Derived.Test.YtmaikhlheanmdaaC49x3
import Derived.Test.YtmaikhlheanmdaaC63x2
import Derived.KernelRfl
set_option linter.unusedVariables false
set_option linter.unusedSimpArgs false
set_option maxRecDepth 1000000
namespace Ha
open Go Ce Ce.L Ce.S
def wh0 : BE := .vec 251 1 [(.int .i64 ⟨0, 0⟩ ⟨11, 0⟩)] ⟨252, 0⟩ false
def wh1 : BE := .blk 249 (.cells [(Z 241), (Z 242)]) false
def wh2 : BE := .blk 76 (.cells [(Y 1), (Y 2), (Y 3), (Z 0), (.map 75)]) false
def wh3 : BE := .map 75 true [(.i .i64), (.i .i64)] J none
def wh4 : BE := .blk 74 (.cells [(Y 1), (Y 2), (Y 3)]) false
def wh5 : BE := .blk 9 (.cells [(Y 1), (Y 2), (Y 3)]) false
def wh6 : BE := .blk 5 (.cells [(Y 1), (Y 2), (Y 3)]) false
def h18x0 : Hint := .unroll
def h18x1 : Hint := .inv ⟨267, [(Z 240), (Y 250), U, U, (.vec 1 251 ⟨252, 0⟩), (Y 253), (I 11 1), (Z 254)] ++ ys 255 12 ++ [U], [D 252 254 0, D 254 11 1, D 254 0 9, D 0 254 0, D 252 11 1, D 252 0 9, D 0 252 0], [wh0, wh1, wh2, wh3, wh4, .blk 73 (.cells [(I 6 (-1))]) false, .blk 72 (.cells [(Z 0)]) false, .blk 71 (.cells [(Z 4)]) false, wh5, .blk 8 (.cells [(Z 6)]) false, .blk 7 (.cells [(Z 4)]) false, wh6]⟩ ⟨11, 1⟩ ⟨254, 0⟩
def h18x2 : Hint := .inv ⟨321, [(Y 269), (Y 270), (Y 271), U] ++ ys 272 7 ++ [(.slc 1 267 0 ⟨0, 0⟩ ⟨252, 0⟩ ⟨252, 0⟩), (Y 310)] ++ ys 279 12 ++ [U] ++ ys 291 19 ++ [(Z 252), (Z 311)] ++ ys 312 9 ++ [U], [D 311 11 1, D 311 252 0, D 311 0 9, D 0 311 0], [.blk 267 (.rows 1 [J] ⟨252, 0⟩) false, wh0, wh1, wh2, wh3, wh4, .blk 73 (.cells [(I 6 (-1))]) false, .blk 72 (.cells [(Z 0)]) false, .blk 71 (.cells [(Z 4)]) false, wh5, .blk 8 (.cells [(Z 6)]) false, .blk 7 (.cells [(Z 4)]) false, wh6]⟩ ⟨11, 1⟩ ⟨311, 0⟩
def h18 : Hs := [h18x0, h18x1, h18x2]
theorem chk18 : di tbl [(7, [.str], .bool)] 1000 [jl, fP, lM] c18 Ts18 h18 (md sh18) = true := by kernel_rfl
theorem ap18 : Ap18 := fun h => iH d8 (rfl : tbl 18 = some c18) rfl chk18 (ax u9 (ax nE (ax g11 dE))) rfl h
end Ha
