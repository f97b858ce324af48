/- A part of a proof. -/
import Derived.Test.YtkefopelclcljacC64x4
import Derived.Test.YtkefopelclcljacC68x2
import Derived.Test.YtkefopelclcljacC7
import Derived.KernelRfl
set_option linter.unusedVariables false
set_option linter.unusedSimpArgs false
set_option maxRecDepth 1000000
namespace Tu
open Go Ce Ce.L Ce.S
def wr0 : BE := .blk 162 (.cells [(.ptr 148 0)]) false
def wr1 : BE := .blk 148 (.cells [(Y 1), (Z 2), (Y 3), (Y 4), (Y 5), (Z 0), (.map 147)]) false
def wr2 : BE := .map 147 true [(.i .i64), (.i .i64), (.i .i64), (.i .i64), (.i .i64), (.i .i64), (.i .i64), (.i .i64)] (.agg [J, J, J, J, J]) none
def wr3 : BE := .blk 146 (.cells [(Y 1), (Z 2), (Y 3), (Y 4), (Y 5)]) false
def wr4 : BE := .blk 145 (.cells [(.bool false), (I 0 7)]) false
def wr5 : BE := .blk 144 (.cells [(.bool false), (I 0 4)]) false
def wr6 : BE := .blk 23 (.cells [(Y 1), (Z 2), (Y 3), (Y 4), (Y 5)]) false
def wr7 : BE := .blk 22 (.cells [(.bool false), (I 0 4), (.bool false), (I 0 7)]) false
def wr8 : BE := .blk 21 (.cells [(Z 19)]) false
def wr9 : BE := .blk 20 (.cells [(Z 0)]) false
def qCW : BE := .blk 18 (.cells [(.bool false), (I 0 7)]) false
def qCV : BE := .blk 17 (.cells [(Y 1), (Z 2), (Y 3), (Y 4), (Y 5)]) false
def qCU : BE := .blk 16 (.cells [(Z 7)]) false
def qCT : BE := .blk 15 (.cells [(I 11 (-1))]) false
def qCS : BE := .blk 14 (.cells [(Z 0)]) false
def qCR : BE := .blk 13 (.cells [(.bool false), (I 0 4)]) false
def qCQ : BE := .blk 12 (.cells [(Z 6)]) false
def qCP : BE := .blk 10 (.cells [(Z 7)]) false
def qCO : BE := .blk 9 (.cells [(Z 6)]) false
def qCN : BE := .blk 8 (.cells [(Y 1), (Z 2), (Y 3), (Y 4), (Y 5)]) false
def wr20 : BE := .vec 188 1 [(.int .i64 ⟨0, 0⟩ ⟨86, (-1)⟩)] ⟨189, 0⟩ false
def wr21 : BE := .blk 185 (.cells [(Z 168)]) false
def wr22 : BE := .vec 226 1 [(.int .i64 ⟨0, 0⟩ ⟨86, (-1)⟩)] ⟨227, 0⟩ false
def h28x0 : Hint := .unroll
def h28x1 : Hint := .unroll
def h28x2 : Hint := .unroll
def h28x3 : Hint := .unroll
def h28x4 : Hint := .unroll
def h28x5 : Hint := .unroll
def h28x6 : Hint := .unroll
def h28x7 : Hint := .unroll
def h28x8 : Hint := .unroll
def h28x9 : Hint := .unroll
def h28x10 : Hint := .unroll
def h28x11 : Hint := .unroll
def h28x12 : Hint := .unroll
def h28x13 : Hint := .inv ⟨185, [(Y 163), (Z 6), U, U, (Z 168), (Y 169), (Y 170)] ++ ys 164 4 ++ [(Y 4), (Z 86), (Z 171)] ++ ys 172 13 ++ [U], [D 171 86 0, D 0 171 0, D 171 0 X7, D 168 0 X7, D 0 168 X8], [wr0, wr1, wr2, wr3, wr4, wr5, wr6, wr7, wr8, wr9, qCW, qCV, qCU, qCT, qCS, qCR, qCQ, qCP, qCO, qCN]⟩ ⟨86, 0⟩ ⟨171, 0⟩
def h28x14 : Hint := .inv ⟨225, [(Z 86), (.clo 64 [] [(.ptr 185 0), (.ptr 162 0), (.ptr 9 0), (.ptr 8 0), (.ptr 10 0)]), U, U, (.vec 1 188 ⟨189, 0⟩), (Y 190), (Y 191), (Y 192), (Y 187), (Z 186), (Z 193)] ++ ys 194 7 ++ ys 207 18 ++ ys 201 6 ++ [U], [D 0 193 0, D 193 0 X7, .ty 190 .bool, D 189 86 0, D 0 189 0, D 189 0 X7], [wr20, wr21, wr0, wr1, wr2, wr3, wr4, wr5, wr6, wr7, wr8, wr9, qCW, qCV, qCU, qCT, qCS, qCR, qCQ, qCP, qCO, qCN]⟩ ⟨186, 0⟩ ⟨193, 0⟩
def h28x15 : Hint := .inv ⟨242, [(Z 193), (Y 225), U, U, (.vec 1 226 ⟨227, 0⟩), (Y 228), (Z 86), (Z 229)] ++ ys 230 12 ++ [U], [D 227 229 0, D 229 86 0, D 0 229 0, D 229 0 X7, D 227 86 0, D 0 227 0, D 227 0 X7], [wr22, wr20, wr21, wr0, wr1, wr2, wr3, wr4, wr5, wr6, wr7, wr8, wr9, qCW, qCV, qCU, qCT, qCS, qCR, qCQ, qCP, qCO, qCN]⟩ ⟨86, 0⟩ ⟨229, 0⟩
def h28x16 : Hint := .inv ⟨266, [(.vec 1 226 ⟨227, 0⟩), (.vec 1 188 ⟨189, 0⟩), U, U] ++ ys 242 5 ++ [(.vec 1 226 ⟨227, 0⟩), (Z 227), (Z 247)] ++ ys 248 17 ++ [U, (Y 265)] ++ us 5, [D 247 86 0, D 247 227 0, D 0 247 0, D 247 0 X7], [wr22, wr20, wr21, wr0, wr1, wr2, wr3, wr4, wr5, wr6, wr7, wr8, wr9, qCW, qCV, qCU, qCT, qCS, qCR, qCQ, qCP, qCO, qCN]⟩ ⟨227, 0⟩ ⟨247, 0⟩
def h28 : Hs := [h28x0, h28x1, h28x2, h28x3, h28x4, h28x5, h28x6, h28x7, h28x8, h28x9, h28x10, h28x11, h28x12, h28x13, h28x14, h28x15, h28x16]
theorem chk28 : da tbl [] 1000 [wF, rB, fN, bu, tD] c28 Ts28 h28 (mY sh28) = true := by kernel_rfl
theorem ap28 : Ap28 := fun h => iA cI (rfl : tbl 28 = some c28) rfl chk28 (aQ g64x4 (aQ qGF (aQ mt (aQ eg (aQ g7 bW))))) rfl h
end Tu
