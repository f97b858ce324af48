/- A part of a proof. -/
import Derived.Test.YtkefopelclcljacLaw
import Derived.Test.YtkefopelclcljacNm
import Derived.KernelRfl
set_option linter.unusedVariables false
set_option linter.unusedSimpArgs false
set_option maxRecDepth 1000000
namespace Tu
open Go Ce Ce.L Ce.S
def wa0 : BE := .blk 10 (.cells [(I 0 8)]) false
def wa1 : BE := .blk 9 (.cells [(Z 0)]) false
def wa2 : BE := .blk 8 (.cells [(Z 7)]) false
def wa3 : BE := .blk 6 (.cells [(Y 1), (Z 2), (Y 3), (Y 4), (Y 5)]) false
def wa4 : BE := .blk 42 (.cells [(I 0 3)]) false
def wa5 : BE := .blk 41 (.cells [(I 0 1)]) false
def wa6 : BE := .blk 40 (.cells [(Z 39)]) false
def wa7 : BE := .blk 38 (.cells [(I 0 3)]) false
def wa8 : BE := .blk 37 (.cells [(Z 0)]) false
def wa9 : BE := .blk 36 (.cells [(Z 2)]) false
def h7x0 : Hint := .unroll
def h7x1 : Hint := .inv ⟨36, [(Y 11), (Y 12), (Y 13), (.clo 37 [] []), U, U, U, U, (Y 14), (Y 15), (Y 22), (Y 23), (Y 24)] ++ ys 16 6 ++ [(Y 1), (Z 7), (Z 25)] ++ ys 26 9 ++ [U, U, (Y 35)], [.pre 1 ⟨25, 0⟩ [(.int .i64 ⟨0, 0⟩ ⟨0, 3⟩)], D 25 7 0, D 0 25 0, D 25 0 X7], [wa0, wa1, wa2, wa3]⟩ ⟨7, 0⟩ ⟨25, 0⟩
def h7x2 : Hint := .unroll
def h7x3 : Hint := .unroll
def h7x4 : Hint := .unroll
def h7x5 : Hint := .inv ⟨68, [(Y 43), (Y 44), (Y 45), (.clo 40 [] []), U, U, U, U, (Y 46), (Y 47), (Y 54), (Y 55), (Y 56)] ++ ys 48 6 ++ [(Y 3), (Z 39), (Z 57)] ++ ys 58 9 ++ [U, U, (Y 67)], [.pre 3 ⟨57, 0⟩ [(.int .i64 ⟨0, 0⟩ ⟨0, 6⟩), (.int .i64 ⟨0, 0⟩ ⟨0, 6⟩)], D 57 39 0, D 0 57 0, D 57 0 X7], [wa4, wa5, wa6, wa7, wa8, wa9, wa0, wa1, wa2, wa3]⟩ ⟨39, 0⟩ ⟨57, 0⟩
def h7x6 : Hint := .unroll
def h7x7 : Hint := .unroll
def h7x8 : Hint := .unroll
def h7x9 : Hint := .inv ⟨97, [(Y 72), (Y 73), (Y 74), (.clo 43 [] [(.ptr 6 0)]), U, U, U, U, (Y 75), (Y 76), (Y 83), (Y 84), (Y 85)] ++ ys 77 6 ++ [(Y 4), (Z 68), (Z 86)] ++ ys 87 9 ++ [U, U, (Y 96)], [.pre 4 ⟨86, 0⟩ [(.int .i64 ⟨0, 0⟩ ⟨39, (-1)⟩), (.int .i64 ⟨0, 0⟩ ⟨7, 0⟩), (.int .i64 ⟨0, 0⟩ ⟨0, 40⟩), (.int .i64 ⟨0, 0⟩ ⟨0, 40⟩)], D 86 68 0, D 0 86 0, D 86 0 X7], [.blk 71 (.cells [(I 0 4)]) false, .blk 70 (.cells [(Z 0)]) false, .blk 69 (.cells [(Z 68)]) false, wa4, wa5, wa6, wa7, wa8, wa9, wa0, wa1, wa2, wa3]⟩ ⟨68, 0⟩ ⟨86, 0⟩
def h7x10 : Hint := .unroll
def h7x11 : Hint := .unroll
def h7x12 : Hint := .unroll
def h7x13 : Hint := .unroll
def h7x14 : Hint := .unroll
def h7x15 : Hint := .inv ⟨126, [(Y 101), (Y 102), (Y 103), (.clo 45 [] [(.ptr 6 0)]), U, U, U, U, (Y 104), (Y 105), (Y 112), (Y 113), (Y 114)] ++ ys 106 6 ++ [(Y 5), (Z 97), (Z 115)] ++ ys 116 9 ++ [U, U, (Y 125)], [.pre 5 ⟨115, 0⟩ [(.int .i64 ⟨0, 0⟩ ⟨68, (-1)⟩), (.int .i64 ⟨0, 0⟩ ⟨7, 0⟩), .bool], D 115 97 0, D 0 115 0, D 115 0 X7], [.blk 100 (.cells [(I 0 4)]) false, .blk 99 (.cells [(Z 0)]) false, .blk 98 (.cells [(Z 97)]) false, .blk 71 (.cells [(I 0 4)]) false, .blk 70 (.cells [(Z 0)]) false, .blk 69 (.cells [(Z 68)]) false, wa4, wa5, wa6, wa7, wa8, wa9, wa0, wa1, wa2, wa3]⟩ ⟨97, 0⟩ ⟨115, 0⟩
def h7x16 : Hint := .unroll
def h7x17 : Hint := .unroll
def h7 : Hs := [h7x0, h7x1, h7x2, h7x3, h7x4, h7x5, h7x6, h7x7, h7x8, h7x9, h7x10, h7x11, h7x12, h7x13, h7x14, h7x15, h7x16, h7x17]
theorem chk7 : da tbl [] 1000 [] c7 Ts7 h7 (mY sh7) = true := by kernel_rfl
theorem ap7 : Ap7 := fun h => iA cI (rfl : tbl 7 = some c7) rfl chk7 bW rfl h
end Tu
