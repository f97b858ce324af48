/- A part of a proof. -/
import Derived.Test.YtdkolkjcobngnadLaw
import Derived.Test.YtdkolkjcobngnadNm
import Derived.KernelRfl
set_option linter.unusedVariables false
set_option linter.unusedSimpArgs false
set_option maxRecDepth 1000000
namespace Sh
open Go Ce Ce.L Ce.S
def wa0 : BE := .vec 30 1 [.str] ⟨31, 0⟩ false
def wa1 : BE := .blk 5 (.cells [(.vec 1 30 ⟨31, 0⟩)]) false
def wa2 : BE := .blk 4 (.cells [(Y 1), (Y 2), (Y 3)]) false
def wa3 : BE := .vec 56 1 [.str] ⟨57, 0⟩ false
def wa4 : BE := .blk 5 (.cells [(.vec 1 56 ⟨57, 0⟩)]) false
def h7x0 : Hint := .inv ⟨32, [(Y 7), (Y 8), (.clo 35 [] [(.ptr 5 0)]), U, U, U, (Y 9), (Y 10), (Y 15), (Y 16), (Y 17), (Y 11), (Y 12), (Y 13), (Y 14), (Y 1), (Z 6), (Z 18), (Y 19), (Y 20), (Y 21), (Y 22), (Y 23), (Y 24), (Y 25), (Y 26), (Y 27), (Y 28), U, U, (Y 29)], [.pre 1 ⟨18, 0⟩ [.str, (.int .i64 ⟨0, 0⟩ ⟨0, 60⟩), (.int .i64 ⟨0, 0⟩ ⟨0, 60⟩), (.int .i64 ⟨0, 0⟩ ⟨0, 9⟩), (.int .i64 ⟨0, 0⟩ ⟨0, 9⟩)], D 31 18 0, D 18 31 0, D 31 6 0, D 0 31 0, D 31 0 X7, D 18 6 0, D 0 18 0, D 18 0 X7], [wa0, wa1, wa2]⟩ ⟨6, 0⟩ ⟨18, 0⟩
def h7x1 : Hint := .unroll
def h7x2 : Hint := .inv ⟨57, [(.vec 1 30 ⟨31, 0⟩), (Y 32), U, U, (Y 44), (Y 46), (Y 45), (Z 31), (Z 47), (Y 48), (Y 49), (Y 50), (Y 51), (Y 52), (Y 53), (Y 54), (Y 55), U, (Y 56)], [D 47 6 0, D 47 31 0, D 0 47 0], [.blk 43 (.cells [(I 0 5), (.clo 62 [] [])]) false, .blk 40 (.cells [(I 0 6), (.clo 60 [] [])]) false, .blk 39 (.cells [(I 0 6), (.clo 60 [] []), (I 0 5), (.clo 62 [] [])]) false, .blk 38 (.cells [(Y 32), (Z 33), (Z 34), (Z 35), (Z 36)]) false, .blk 37 (.cells [(Y 32), (Z 33), (Z 34), (Z 35), (Z 36)]) false, wa0, wa1, wa2]⟩ ⟨31, 0⟩ ⟨47, 0⟩
def h7x3 : Hint := .unroll
def h7x4 : Hint := .unroll
def h7x5 : Hint := .inv ⟨58, [(Y 33), (Y 34), (.clo 39 [] [(.ptr 5 0)]), U, U, U, (Y 35), (Y 36), (Y 41), (Y 42), (Y 43), (Y 37), (Y 38), (Y 39), (Y 40), (Y 2), (Z 32), (Z 44), (Y 45), (Y 46), (Y 47), (Y 48), (Y 49), (Y 50), (Y 51), (Y 52), (Y 53), (Y 54), U, U, (Y 55)], [.pre 2 ⟨44, 0⟩ [.str, (.int .i64 ⟨0, 0⟩ ⟨0, 9⟩), (.int .i64 ⟨0, 1⟩ ⟨0, 60⟩)], D 57 44 0, D 44 57 0, D 57 32 0, D 0 57 0, D 57 0 X7, D 44 32 0, D 0 44 0, D 44 0 X7], [wa3, wa0, wa4, wa2]⟩ ⟨32, 0⟩ ⟨44, 0⟩
def h7x6 : Hint := .unroll
def h7x7 : Hint := .inv ⟨81, [(.vec 1 56 ⟨57, 0⟩), (Y 58), U, U, (Y 68), (Y 70), (Y 69), (Z 57), (Z 71), (Y 72), (Y 73), (Y 74), (Y 75), (Y 76), (Y 77), (Y 78), (Y 79), U, (Y 80)], [D 71 32 0, D 71 57 0, D 0 71 0], [.blk 67 (.cells [(I 0 5), (.clo 62 [] [])]) false, .blk 64 (.cells [(I 0 6), (.clo 60 [] [])]) false, .blk 63 (.cells [(I 0 6), (.clo 60 [] []), (I 0 5), (.clo 62 [] [])]) false, .blk 62 (.cells [(Y 58), (Z 59), (Z 60)]) false, .blk 61 (.cells [(Y 58), (Z 59), (Z 60)]) false, wa3, wa0, wa4, wa2]⟩ ⟨57, 0⟩ ⟨71, 0⟩
def h7x8 : Hint := .unroll
def h7x9 : Hint := .unroll
def h7x10 : Hint := .inv ⟨82, [(Y 59), (Y 60), (.clo 41 [] [(.ptr 4 0)]), U, U, U, (Y 61), (Y 62), (Y 67), (Y 68), (Y 69), (Y 63), (Y 64), (Y 65), (Y 66), (Y 3), (Z 58), (Z 70), (Y 71), (Y 72), (Y 73), (Y 74), (Y 75), (Y 76), (Y 77), (Y 78), (Y 79), (Y 80), U, U, (Y 81)], [.pre 3 ⟨70, 0⟩ [(.int .i64 ⟨0, 0⟩ ⟨6, (-1)⟩), (.int .i64 ⟨0, 0⟩ ⟨32, (-1)⟩), (.int .i64 ⟨0, 0⟩ ⟨0, 5⟩), (.int .i64 ⟨0, 1⟩ ⟨0, 60⟩)], D 70 58 0, D 0 70 0, D 70 0 X7], [wa3, wa0, wa4, wa2]⟩ ⟨58, 0⟩ ⟨70, 0⟩
def h7x11 : Hint := .unroll
def h7x12 : Hint := .unroll
def h7x13 : Hint := .unroll
def h7x14 : Hint := .unroll
def h7 : Hs := [h7x0, h7x1, h7x2, h7x3, h7x4, h7x5, h7x6, h7x7, h7x8, h7x9, h7x10, h7x11, h7x12, h7x13, h7x14]
theorem chk7 : chkApiE tbl [(61, [.str], .bool)] 1000 [] c7 Ts7 h7 (pRes sh7) = true := by kernel_rfl
theorem ap7 : Ap7 := fun h => ap_ofE nameOK (rfl : tbl 7 = some c7) rfl chk7 gok_nil rfl h
end Sh
