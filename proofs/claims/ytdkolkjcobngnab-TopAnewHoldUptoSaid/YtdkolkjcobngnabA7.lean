/- A part of a proof. -/
import Derived.Test.YtdkolkjcobngnabLaw
import Derived.KernelRfl
set_option linter.unusedVariables false
set_option linter.unusedSimpArgs false
set_option maxRecDepth 1000000
namespace Ho
open Go Ce Ce.L Ce.S
def h7x0 : Hint := .unroll
def h7x1 : Hint := .unroll
def h7x2 : Hint := .unroll
def h7x3 : Hint := .unroll
def h7x4 : Hint := .inv ⟨36, [(Y 4), (I 0 1), (I 0 6), (.clo 37 [] []), U, U, U, U, (Z 0), (Z 0), (Y 22), (Y 23), (Y 24), (I 0 1), (I 0 6), (Y 4), (Z 18), (.slc 1 19 0 ⟨0, 0⟩ ⟨0, 1⟩ ⟨0, 1⟩), (.bool false), (Y 4), (Z 18), (Z 25), (Y 26), (Y 27), (Y 28), (Y 29), (Y 30), (Y 31), (Y 32), (Y 33), (Y 34), U, U, (Y 35)], [.pre 4 ⟨25, 0⟩ [(.int .i64 ⟨0, 0⟩ ⟨0, 80⟩)], D 25 18 0, D 0 25 0, D 25 0 X7], [.blk 21 (.cells [(I 0 6)]) false, .blk 20 (.cells [(I 0 1)]) false, .blk 19 (.cells [(Z 18)]) false, .blk 17 (.cells [(I 0 5)]) false, .blk 16 (.cells [(Z 0)]) false, .blk 15 (.cells [(Z 3)]) false, .blk 14 (.cells [(I 0 9)]) false, .blk 13 (.cells [(I 0 1)]) false, .blk 12 (.cells [(Z 2)]) false, .blk 11 (.cells [(I 0 80)]) false, .blk 10 (.cells [(Z 0)]) false, .blk 9 (.cells [(Z 1)]) false, .blk 8 (.cells [(Z 1), (Z 2), (Z 3), (Y 4), (Z 5), (Y 6), (Y 7)]) false]⟩ ⟨18, 0⟩ ⟨25, 0⟩
def h7x5 : Hint := .unroll
def h7x6 : Hint := .unroll
def h7x7 : Hint := .unroll
def h7x8 : Hint := .inv ⟨57, [(Y 6), (I 0 1), (I 0 4), (.clo 39 [] []), U, U, U, U, (Z 0), (Z 0), (Y 43), (Y 44), (Y 45), (I 0 1), (I 0 4), (Y 6), (Z 39), (.slc 1 40 0 ⟨0, 0⟩ ⟨0, 1⟩ ⟨0, 1⟩), (.bool false), (Y 6), (Z 39), (Z 46), (Y 47), (Y 48), (Y 49), (Y 50), (Y 51), (Y 52), (Y 53), (Y 54), (Y 55), U, U, (Y 56)], [.pre 6 ⟨46, 0⟩ [(.int .i64 ⟨0, 0⟩ ⟨0, 80⟩), (.int .i64 ⟨0, 0⟩ ⟨0, 80⟩), (.int .i64 ⟨0, 0⟩ ⟨0, 2⟩), (.int .i64 ⟨0, 0⟩ ⟨0, 80⟩), (.int .i64 ⟨0, 0⟩ ⟨0, 80⟩)], D 46 39 0, D 0 46 0, D 46 0 X7], [.blk 42 (.cells [(I 0 4)]) false, .blk 41 (.cells [(I 0 1)]) false, .blk 40 (.cells [(Z 39)]) false, .blk 38 (.cells [(Z 18)]) false, .blk 37 (.cells [(Z 0)]) false, .blk 36 (.cells [(Z 5)]) false, .blk 21 (.cells [(I 0 6)]) false, .blk 20 (.cells [(I 0 1)]) false, .blk 19 (.cells [(Z 18)]) false, .blk 17 (.cells [(I 0 5)]) false, .blk 16 (.cells [(Z 0)]) false, .blk 15 (.cells [(Z 3)]) false, .blk 14 (.cells [(I 0 9)]) false, .blk 13 (.cells [(I 0 1)]) false, .blk 12 (.cells [(Z 2)]) false, .blk 11 (.cells [(I 0 80)]) false, .blk 10 (.cells [(Z 0)]) false, .blk 9 (.cells [(Z 1)]) false, .blk 8 (.cells [(Z 1), (Z 2), (Z 3), (Y 4), (Z 5), (Y 6), (Y 7)]) false]⟩ ⟨39, 0⟩ ⟨46, 0⟩
def h7x9 : Hint := .unroll
def h7x10 : Hint := .unroll
def h7x11 : Hint := .unroll
def h7x12 : Hint := .inv ⟨75, [(Y 7), (Z 0), (I 0 5), (.clo 41 [] [(.ptr 8 0)]), U, U, U, U, (Z 0), (Z 0), (Y 61), (Y 62), (Y 63), (Z 0), (I 0 5), (Y 7), (Z 57), (.slc 1 58 0 ⟨0, 0⟩ ⟨0, 1⟩ ⟨0, 1⟩), (.bool false), (Y 7), (Z 57), (Z 64), (Y 65), (Y 66), (Y 67), (Y 68), (Y 69), (Y 70), (Y 71), (Y 72), (Y 73), U, U, (Y 74)], [.pre 7 ⟨64, 0⟩ [(.int .i64 ⟨0, 0⟩ ⟨18, 0⟩), (.int .i64 ⟨0, 0⟩ ⟨39, (-1)⟩), (.int .i64 ⟨0, 0⟩ ⟨0, 80⟩)], D 64 57 0, D 0 64 0, D 64 0 X7], [.blk 60 (.cells [(I 0 5)]) false, .blk 59 (.cells [(Z 0)]) false, .blk 58 (.cells [(Z 57)]) false, .blk 42 (.cells [(I 0 4)]) false, .blk 41 (.cells [(I 0 1)]) false, .blk 40 (.cells [(Z 39)]) false, .blk 38 (.cells [(Z 18)]) false, .blk 37 (.cells [(Z 0)]) false, .blk 36 (.cells [(Z 5)]) false, .blk 21 (.cells [(I 0 6)]) false, .blk 20 (.cells [(I 0 1)]) false, .blk 19 (.cells [(Z 18)]) false, .blk 17 (.cells [(I 0 5)]) false, .blk 16 (.cells [(Z 0)]) false, .blk 15 (.cells [(Z 3)]) false, .blk 14 (.cells [(I 0 9)]) false, .blk 13 (.cells [(I 0 1)]) false, .blk 12 (.cells [(Z 2)]) false, .blk 11 (.cells [(I 0 80)]) false, .blk 10 (.cells [(Z 0)]) false, .blk 9 (.cells [(Z 1)]) false, .blk 8 (.cells [(Z 1), (Z 2), (Z 3), (Y 4), (Z 5), (Y 6), (Y 7)]) false]⟩ ⟨57, 0⟩ ⟨64, 0⟩
def h7x13 : Hint := .unroll
def h7x14 : Hint := .unroll
def h7x15 : Hint := .unroll
def h7 : Hs := [h7x0, h7x1, h7x2, h7x3, h7x4, h7x5, h7x6, h7x7, h7x8, h7x9, h7x10, h7x11, h7x12, h7x13, h7x14, h7x15]
theorem chk7 : chkApi tbl 1000 [] c7 Ts7 h7 (pRes sh7) = true := by kernel_rfl
theorem ap7 : Ap7 := fun h => ap_of (rfl : tbl 7 = some c7) rfl chk7 gok_nil rfl h
end Ho
