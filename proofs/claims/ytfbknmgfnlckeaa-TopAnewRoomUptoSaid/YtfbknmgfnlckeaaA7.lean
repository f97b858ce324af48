/- A part of a proof. -/
import Derived.Test.YtfbknmgfnlckeaaC7
import Derived.KernelRfl
set_option linter.unusedVariables false
set_option linter.unusedSimpArgs false
set_option maxRecDepth 1000000
namespace Ro
open Go Ce Ce.L Ce.S
def wb0 : BE := .blk 26 (.cells [(I 0 4)]) false
def wb1 : BE := .blk 25 (.cells [(I 0 1)]) false
def wb2 : BE := .blk 24 (.cells [(Z 23)]) false
def wb3 : BE := .blk 22 (.cells [(Z 1), (Z 2), (Z 3), (Y 4), (Z 5), (Y 6), (Y 7)]) false
def wb4 : BE := .blk 21 (.cells [(I 0 2), (.clo 69 [] [])]) false
def wb5 : BE := .blk 20 (.cells [(I 0 6)]) false
def wb6 : BE := .blk 19 (.cells [(Z 0)]) false
def wb7 : BE := .blk 18 (.cells [(Z 5)]) false
def wb8 : BE := .blk 17 (.cells [(I 0 69)]) false
def wb9 : BE := .blk 16 (.cells [(Z 0)]) false
def qCF : BE := .blk 15 (.cells [(Z 2), (Z 3)]) false
def qCE : BE := .blk 14 (.cells [(I 0 6)]) false
def qCD : BE := .blk 13 (.cells [(I 0 1)]) false
def qCC : BE := .blk 12 (.cells [(Z 1)]) false
def qCB : BE := .blk 11 (.cells [(Z 1), (Z 2), (Z 3), (Y 4), (Z 5), (Y 6), (Y 7)]) false
def qCA : BE := .blk 10 (.cells [(I 0 7), (.clo 68 [] [])]) false
def qC9 : BE := .blk 9 (.cells [(I 0 7), (.clo 68 [] []), (I 0 2), (.clo 69 [] [])]) false
def qC8 : BE := .blk 8 (.cells [(Z 1), (Z 2), (Z 3), (Y 4), (Z 5), (Y 6), (Y 7)]) false
def h7x0 : Hint := .unroll
def h7x1 : Hint := .unroll
def h7x2 : Hint := .unroll
def h7x3 : Hint := .unroll
def h7x4 : Hint := .unroll
def h7x5 : Hint := .inv ⟨53, [(Y 27), (Y 28), (Y 29), (.clo 39 [] [(.ptr 8 0)]), U, U, U, U, (Y 30), (Y 31), (Y 38), (Y 39), (Y 40)] ++ ys 32 6 ++ [(Y 4), (Z 23), (Z 41)] ++ ys 42 10 ++ [U, U, (Y 52)], [.pre 4 ⟨41, 0⟩ [.str, (.int .i64 ⟨0, 0⟩ ⟨0, 15⟩), (.int .i64 ⟨0, 0⟩ ⟨0, 15⟩)], D 41 23 0, D 0 41 0, D 41 0 X7], [wb0, wb1, wb2, wb3, wb4, wb5, wb6, wb7, wb8, wb9, qCF, qCE, qCD, qCC, qCB, qCA, qC9, qC8]⟩ ⟨23, 0⟩ ⟨41, 0⟩
def h7x6 : Hint := .inv ⟨75, [(Y 60), (.clo 42 [] [(.ptr 57 0)]), U, U, (Y 62), (Y 64), (Y 63), (Z 61), (Z 65)] ++ ys 66 8 ++ [U, (Y 74)], [D 65 23 0, D 65 61 0, D 0 65 0, D 65 0 X7], [.blk 57 (.cells [(Y 53), (Z 54), (Z 55)]) false, .blk 56 (.cells [(Y 53), (Z 54), (Z 55)]) false, wb0, wb1, wb2, wb3, wb4, wb5, wb6, wb7, wb8, wb9, qCF, qCE, qCD, qCC, qCB, qCA, qC9, qC8]⟩ ⟨61, 0⟩ ⟨65, 0⟩
def h7x7 : Hint := .unroll
def h7x8 : Hint := .unroll
def h7x9 : Hint := .inv ⟨83, [(Y 57), (Y 58), (Y 59), (.clo 45 [] [(.ptr 8 0)]), U, U, U, U, (Y 60), (Y 61), (Y 68), (Y 69), (Y 70)] ++ ys 62 6 ++ [(Y 6), (Z 53), (Z 71)] ++ ys 72 10 ++ [U, U, (Y 82)], [.pre 6 ⟨71, 0⟩ [(.int .i64 ⟨0, 0⟩ ⟨23, (-1)⟩)], D 71 1 0, D 71 53 0, D 71 0 15, D 0 71 0], [.blk 56 (.cells [(Z 1)]) false, .blk 55 (.cells [(Z 0)]) false, .blk 54 (.cells [(Z 53)]) false, wb0, wb1, wb2, wb3, wb4, wb5, wb6, wb7, wb8, wb9, qCF, qCE, qCD, qCC, qCB, qCA, qC9, qC8]⟩ ⟨1, 0⟩ ⟨71, 0⟩
def h7x10 : Hint := .unroll
def h7x11 : Hint := .unroll
def h7x12 : Hint := .inv ⟨113, [(Y 87), (Y 88), (Y 89), (.clo 47 [] [(.ptr 8 0)]), U, U, U, U, (Y 90), (Y 91), (Y 98), (Y 99), (Y 100)] ++ ys 92 6 ++ [(Y 7), (Z 83), (Z 101)] ++ ys 102 10 ++ [U, U, (Y 112)], [.pre 7 ⟨101, 0⟩ [(.int .i64 ⟨0, 0⟩ ⟨53, 0⟩), (.int .i64 ⟨0, 1⟩ ⟨0, 7⟩)], D 101 83 0, D 101 0 15, D 0 101 0], [.blk 86 (.cells [(I 0 4)]) false, .blk 85 (.cells [(Z 0)]) false, .blk 84 (.cells [(Z 83)]) false, .blk 56 (.cells [(Z 1)]) false, .blk 55 (.cells [(Z 0)]) false, .blk 54 (.cells [(Z 53)]) false, wb0, wb1, wb2, wb3, wb4, wb5, wb6, wb7, wb8, wb9, qCF, qCE, qCD, qCC, qCB, qCA, qC9, qC8]⟩ ⟨83, 0⟩ ⟨101, 0⟩
def h7x13 : Hint := .unroll
def h7x14 : Hint := .unroll
def h7 : Hs := [h7x0, h7x1, h7x2, h7x3, h7x4, h7x5, h7x6, h7x7, h7x8, h7x9, h7x10, h7x11, h7x12, h7x13, h7x14]
theorem chk7 : dO tbl [(40, [.str], .bool)] 1000 [lD] c7 Ts7 h7 (lh sh7) = true := by kernel_rfl
theorem ap7 : Ap7 := fun h => gZ de (rfl : tbl 7 = some c7) rfl chk7 (aQ g7 cZ) rfl h
end Ro
