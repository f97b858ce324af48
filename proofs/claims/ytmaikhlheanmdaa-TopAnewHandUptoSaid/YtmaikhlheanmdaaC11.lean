/- A part of a proof. -/
import Derived.Test.YtmaikhlheanmdaaLaw
import Derived.Test.YtmaikhlheanmdaaNm
import Derived.KernelRfl
set_option linter.unusedVariables false
set_option linter.unusedSimpArgs false
set_option maxRecDepth 1000000
namespace Ha
open Go Ce Ce.L Ce.S
def wc0 : BE := .blk 8 (.cells [(I 0 4)]) false
def wc1 : BE := .blk 7 (.cells [(I 0 1)]) false
def wc2 : BE := .blk 6 (.cells [(Z 5)]) false
def wc3 : BE := .blk 4 (.cells [(Y 1), (Y 2), (Y 3)]) false
def wc4 : BE := .blk 32 (.cells [(I 0 6), (.clo 72 [] []), (I 0 5), (.clo 73 [] []), (I 0 7), (.clo 76 [] []), (I 0 2), (.clo 77 [] [])]) false
def wc5 : BE := .blk 31 (.cells [(Y 27), (Z 28), (Z 29)]) false
def wc6 : BE := .blk 30 (.cells [(Y 27), (Z 28), (Z 29)]) false
def hc11x0 : Hint := .unroll
def hc11x1 : Hint := .inv ⟨27, [(Y 9), (.clo 41 [] [(.ptr 4 0)]), U, U] ++ ys 10 5 ++ [(Y 1), (Z 5), (Z 15)] ++ ys 16 10 ++ [U, U, (Y 26)], [D 15 5 0, D 0 15 0, D 15 0 X7], [wc0, wc1, wc2, wc3]⟩ ⟨5, 0⟩ ⟨15, 0⟩
def hc11x2 : Hint := .inv ⟨48, [(Z 15), (Y 33), (.ptr 4 0), U, (Y 34), (Y 35), U, (Y 36), (.slc 2 32 0 ⟨0, 0⟩ ⟨0, 4⟩ ⟨0, 4⟩), (I 0 4), (Z 37)] ++ ys 38 9 ++ [U, U, (Y 47)], [D 0 37 0, D 37 0 X7], [wc4, wc5, wc6, wc0, wc1, wc2, wc3]⟩ ⟨0, 100⟩ ⟨37, 0⟩
def hc11x3 : Hint := .inv ⟨66, [(Y 51), (.clo 75 [] [(.ptr 49 0), (.ptr 50 0)]), U, U, (Y 53), (Y 55), (Y 54), (Z 52), (Z 56)] ++ ys 57 8 ++ [U, (Y 65)], [D 56 15 0, D 56 5 0, D 56 52 0, D 0 56 0, D 56 0 X7], [.blk 50 (.cells [(Z 15)]) false, .blk 49 (.cells [(Y 1)]) false, .blk 48 (.cells [(I 0 5), (.clo 73 [] [])]) false, wc4, wc5, wc6, wc0, wc1, wc2, wc3]⟩ ⟨52, 0⟩ ⟨56, 0⟩
def hc11x4 : Hint := .unroll
def hc11x5 : Hint := .unroll
def hc11x6 : Hint := .inv ⟨46, [(Y 28), (.clo 44 [] []), U, U] ++ ys 29 5 ++ [(Y 2), (Z 27), (Z 34)] ++ ys 35 10 ++ [U, U, (Y 45)], [.pre 2 ⟨34, 0⟩ [(.int .i64 ⟨0, 1⟩ ⟨0, 12⟩), (.int .i64 ⟨0, 1⟩ ⟨0, 12⟩), (.int .i64 ⟨0, 0⟩ ⟨0, 9⟩), (.int .i64 ⟨0, 0⟩ ⟨0, 9⟩)], D 34 27 0, D 0 34 0, D 34 0 X7], [wc0, wc1, wc2, wc3]⟩ ⟨27, 0⟩ ⟨34, 0⟩
def hc11x7 : Hint := .unroll
def hc11x8 : Hint := .unroll
def hc11x9 : Hint := .unroll
def qD7 : Hint := .inv ⟨65, [(Y 47), (.clo 46 [] [(.ptr 4 0)]), U, U] ++ ys 48 5 ++ [(Y 3), (Z 46), (Z 53)] ++ ys 54 10 ++ [U, U, (Y 64)], [.pre 3 ⟨53, 0⟩ [(.int .i64 ⟨0, 1⟩ ⟨0, X7⟩), (.int .i64 ⟨0, 0⟩ ⟨0, 72⟩)], D 53 46 0, D 53 0 9, D 0 53 0], [wc0, wc1, wc2, wc3]⟩ ⟨46, 0⟩ ⟨53, 0⟩
def qD6 : Hint := .unroll
def qD5 : Hint := .unroll
def hc11 : Hs := [hc11x0, hc11x1, hc11x2, hc11x3, hc11x4, hc11x5, hc11x6, hc11x7, hc11x8, hc11x9, qD7, qD6, qD5]
def lM : Con := ⟨false, 11, 1, ⟨4, [(.agg [(Y 1), (Y 2), (Y 3)])], [.ty 1 (.lst [.str, J, J] ⟨0, 0⟩ ⟨0, 1048576⟩), .ty 2 (.lst [J, J, J, J] ⟨0, 0⟩ ⟨0, 1048576⟩), .ty 3 (.lst [J, J] ⟨0, 0⟩ ⟨0, 1048576⟩)], []⟩, [((.tup [(Z 9), (Z 0), (I 0 3)]), ⟨10, [], [D 0 9 (-1), D 0 9 0, D 0 9 (-1), D 9 0 X7, D 0 9 X8, D 5 0 1048576, .len 1 5], []⟩), ((.tup [(Z 52), (Z 15), (Z 51)]), ⟨53, [], [D 0 52 (-1), D 0 52 0, D 0 52 (-1), D 52 0 X7, D 0 52 X8, D 0 51 (-1), D 0 51 0, D 51 0 X7, D 0 51 X8, D 0 15 0, D 0 5 (-1), D 15 0 X7, D 5 0 4, .len 1 5], []⟩), ((.tup [(Z 0), (Z 0), (Z 0)]), ⟨65, [], [D 0 46 0, D 0 27 0, D 0 5 (-1), D 27 0 6, D 5 0 4, D 46 0 4, .ty 3 (.lst [(.int .i64 ⟨0, 1⟩ ⟨0, X7⟩), (.int .i64 ⟨0, 0⟩ ⟨0, 72⟩)] ⟨46, 0⟩ ⟨46, 0⟩), .len 3 46, .ty 2 (.lst [(.int .i64 ⟨0, 1⟩ ⟨0, 12⟩), (.int .i64 ⟨0, 1⟩ ⟨0, 12⟩), (.int .i64 ⟨0, 0⟩ ⟨0, 9⟩), (.int .i64 ⟨0, 0⟩ ⟨0, 9⟩)] ⟨27, 0⟩ ⟨27, 0⟩), .len 2 27, .len 1 5], []⟩)], ⟨0, 0⟩, ⟨0, 0⟩, none⟩
theorem g11 : ∀ v : V, v.i 0 = 0 → GOK1 tbl v 1 lM := gz d8 (n := 1000) (Γ := []) (hs := hc11) (by kernel_rfl) rfl rfl rfl dE
end Ha
