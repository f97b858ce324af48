/- A part of a proof. -/
import Derived.Test.YtmaikhlheanmdaaLaw
import Derived.Test.YtmaikhlheanmdaaNm
import Derived.KernelRfl
set_option linter.unusedVariables false
set_option linter.unusedSimpArgs false
set_option maxRecDepth 1000000
namespace Ha
open Go Ce Ce.L Ce.S
def wb0 : BE := .blk 8 (.cells [(I 0 4)]) false
def wb1 : BE := .blk 7 (.cells [(I 0 1)]) false
def wb2 : BE := .blk 6 (.cells [(Z 5)]) false
def wb3 : BE := .blk 4 (.cells [(Y 1), (Y 2), (Y 3)]) false
def wb4 : BE := .blk 32 (.cells [(I 0 6), (.clo 72 [] []), (I 0 5), (.clo 73 [] []), (I 0 7), (.clo 76 [] []), (I 0 2), (.clo 77 [] [])]) false
def wb5 : BE := .blk 31 (.cells [(Y 27), (Z 28), (Z 29)]) false
def wb6 : BE := .blk 30 (.cells [(Y 27), (Z 28), (Z 29)]) false
def h11x0 : Hint := .unroll
def h11x1 : Hint := .inv ⟨27, [(Y 9), (.clo 41 [] [(.ptr 4 0)]), U, U] ++ ys 10 5 ++ [(Y 1), (Z 5), (Z 15)] ++ ys 16 10 ++ [U, U, (Y 26)], [D 15 5 0, D 0 15 0, D 15 0 X7], [wb0, wb1, wb2, wb3]⟩ ⟨5, 0⟩ ⟨15, 0⟩
def h11x2 : Hint := .inv ⟨48, [(Z 15), (Y 33), (.ptr 4 0), U, (Y 34), (Y 35), U, (Y 36), (.slc 2 32 0 ⟨0, 0⟩ ⟨0, 4⟩ ⟨0, 4⟩), (I 0 4), (Z 37)] ++ ys 38 9 ++ [U, U, (Y 47)], [D 0 37 0, D 37 0 X7], [wb4, wb5, wb6, wb0, wb1, wb2, wb3]⟩ ⟨0, 100⟩ ⟨37, 0⟩
def h11x3 : Hint := .inv ⟨66, [(Y 51), (.clo 75 [] [(.ptr 49 0), (.ptr 50 0)]), U, U, (Y 53), (Y 55), (Y 54), (Z 52), (Z 56)] ++ ys 57 8 ++ [U, (Y 65)], [D 56 15 0, D 56 5 0, D 56 52 0, D 0 56 0, D 56 0 X7], [.blk 50 (.cells [(Z 15)]) false, .blk 49 (.cells [(Y 1)]) false, .blk 48 (.cells [(I 0 5), (.clo 73 [] [])]) false, wb4, wb5, wb6, wb0, wb1, wb2, wb3]⟩ ⟨52, 0⟩ ⟨56, 0⟩
def h11x4 : Hint := .unroll
def h11x5 : Hint := .unroll
def h11x6 : Hint := .inv ⟨46, [(Y 28), (.clo 44 [] []), U, U] ++ ys 29 5 ++ [(Y 2), (Z 27), (Z 34)] ++ ys 35 10 ++ [U, U, (Y 45)], [.pre 2 ⟨34, 0⟩ [(.int .i64 ⟨0, 1⟩ ⟨0, 12⟩), (.int .i64 ⟨0, 1⟩ ⟨0, 12⟩), (.int .i64 ⟨0, 0⟩ ⟨0, 9⟩), (.int .i64 ⟨0, 0⟩ ⟨0, 9⟩)], D 34 27 0, D 0 34 0, D 34 0 X7], [wb0, wb1, wb2, wb3]⟩ ⟨27, 0⟩ ⟨34, 0⟩
def h11x7 : Hint := .unroll
def h11x8 : Hint := .unroll
def h11x9 : Hint := .unroll
def h11x10 : Hint := .inv ⟨65, [(Y 47), (.clo 46 [] [(.ptr 4 0)]), U, U] ++ ys 48 5 ++ [(Y 3), (Z 46), (Z 53)] ++ ys 54 10 ++ [U, U, (Y 64)], [.pre 3 ⟨53, 0⟩ [(.int .i64 ⟨0, 1⟩ ⟨0, X7⟩), (.int .i64 ⟨0, 0⟩ ⟨0, 72⟩)], D 53 46 0, D 53 0 9, D 0 53 0], [wb0, wb1, wb2, wb3]⟩ ⟨46, 0⟩ ⟨53, 0⟩
def h11x11 : Hint := .unroll
def h11x12 : Hint := .unroll
def h11 : Hs := [h11x0, h11x1, h11x2, h11x3, h11x4, h11x5, h11x6, h11x7, h11x8, h11x9, h11x10, h11x11, h11x12]
theorem chk11 : di tbl [(7, [.str], .bool)] 1000 [] c11 Ts11 h11 (md sh11) = true := by kernel_rfl
theorem ap11 : Ap11 := fun h => iH d8 (rfl : tbl 11 = some c11) rfl chk11 dE rfl h
end Ha
