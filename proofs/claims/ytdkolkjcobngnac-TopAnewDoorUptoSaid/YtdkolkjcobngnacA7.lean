/- A part of a proof. -/
import Derived.Test.YtdkolkjcobngnacLaw
import Derived.Test.YtdkolkjcobngnacNm
import Derived.KernelRfl
set_option linter.unusedVariables false
set_option linter.unusedSimpArgs false
set_option maxRecDepth 1000000
namespace Do
open Go Ce Ce.L Ce.S
def wa0 : BE := .blk 30 (.cells [(Y 27), (Z 28)]) false
def wa1 : BE := .blk 29 (.cells [(Y 27), (Z 28)]) false
def wa2 : BE := .blk 26 (.cells [(I 0 5)]) false
def wa3 : BE := .blk 25 (.cells [(I 0 1)]) false
def wa4 : BE := .blk 24 (.cells [(Z 23)]) false
def wa5 : BE := .blk 22 (.cells [(Z 1), (Z 2), (Z 3), (Y 4), (Y 5), (Z 6), (Y 7)]) false
def wa6 : BE := .blk 21 (.cells [(.clo 59 [] [])]) false
def wa7 : BE := .blk 20 (.cells [(I 0 3)]) false
def wa8 : BE := .blk 19 (.cells [(I 0 1)]) false
def wa9 : BE := .blk 18 (.cells [(Z 6)]) false
def wa10 : BE := .blk 17 (.cells [(I 0 8)]) false
def wa11 : BE := .blk 16 (.cells [(Z 0)]) false
def wa12 : BE := .blk 15 (.cells [(Z 2), (Z 3)]) false
def wa13 : BE := .blk 14 (.cells [(I 0 24)]) false
def wa14 : BE := .blk 13 (.cells [(I 0 1)]) false
def wa15 : BE := .blk 12 (.cells [(Z 1)]) false
def wa16 : BE := .blk 11 (.cells [(Z 1), (Z 2), (Z 3), (Y 4), (Y 5), (Z 6), (Y 7)]) false
def wa17 : BE := .blk 10 (.cells [(.clo 57 [] [])]) false
def wa18 : BE := .blk 9 (.cells [(.clo 57 [] []), (.clo 59 [] []), (.clo 65 [] []), (.clo 68 [] [])]) false
def wa19 : BE := .blk 8 (.cells [(Z 1), (Z 2), (Z 3), (Y 4), (Y 5), (Z 6), (Y 7)]) false
def wa20 : BE := .blk 39 (.cells [(Z 1)]) false
def wa21 : BE := .blk 38 (.cells [(Z 0)]) false
def wa22 : BE := .blk 37 (.cells [(Z 28)]) false
def wa23 : BE := .blk 67 (.cells [(Z 1), (Z 2), (Z 3), (Y 4), (Y 5), (Z 6), (Y 7)]) false
def wa24 : BE := .blk 66 (.cells [(.clo 65 [] [])]) false
def h7x0 : Hint := .unroll
def h7x1 : Hint := .unroll
def h7x2 : Hint := .unroll
def h7x3 : Hint := .unroll
def h7x4 : Hint := .unroll
def h7x5 : Hint := .peel
def h7x6 : Hint := .inv ⟨37, [(Y 33), (.clo 64 [] [(.ptr 30 0)]), U, U, (Y 35), U, (Y 36), (Z 34), (Z 0)] ++ us 10, [], [wa0, wa1, wa2, wa3, wa4, wa5, wa6, wa7, wa8, wa9, wa10, wa11, wa12, wa13, wa14, wa15, wa16, wa17, wa18, wa19]⟩ ⟨0, 0⟩ ⟨0, 0⟩
def h7x7 : Hint := .unroll
def h7x8 : Hint := .inv ⟨66, [(Y 40), (Y 41), (Y 42), (.clo 61 [] [(.ptr 22 0)]), U, U, U, U] ++ ys 43 11 ++ [(Y 4), (Z 23), (Z 65)] ++ ys 54 10 ++ [U, U, (Y 64)], [.pre 4 ⟨65, 0⟩ [.str, (.int .i64 ⟨0, 0⟩ ⟨1, 0⟩)], D 28 65 0, D 34 65 0, D 65 23 0, D 0 65 (-1), D 65 0 X7], [wa20, wa21, wa22, wa0, wa1, wa2, wa3, wa4, wa5, wa6, wa7, wa8, wa9, wa10, wa11, wa12, wa13, wa14, wa15, wa16, wa17, wa18, wa19]⟩ ⟨23, 0⟩ ⟨65, 0⟩
def h7x9 : Hint := .inv ⟨87, [(Y 72), (.clo 64 [] [(.ptr 69 0)]), U, U, (Y 74), (Y 76), (Y 75), (Z 73), (Z 77)] ++ ys 78 8 ++ [U, (Y 86)], [D 28 77 0, D 77 23 0, D 34 77 0, D 77 73 0, D 0 77 0], [.blk 69 (.cells [(Y 66), (Z 67)]) false, .blk 68 (.cells [(Y 66), (Z 67)]) false, wa20, wa21, wa22, wa0, wa1, wa2, wa3, wa4, wa5, wa6, wa7, wa8, wa9, wa10, wa11, wa12, wa13, wa14, wa15, wa16, wa17, wa18, wa19]⟩ ⟨73, 0⟩ ⟨77, 0⟩
def h7x10 : Hint := .unroll
def h7x11 : Hint := .unroll
def h7x12 : Hint := .inv ⟨98, [(Y 72), (Y 73), (Y 74), (.clo 67 [] [(.ptr 67 0)]), U, U, U, U, (Y 75), (Y 76), (Y 83), (Y 84), (Y 85)] ++ ys 77 6 ++ [(Y 5), (Z 68), (Z 86)] ++ ys 87 10 ++ [U, U, (Y 97)], [.pre 5 ⟨86, 0⟩ [(.int .i64 ⟨0, 0⟩ ⟨1, 0⟩), .bool], D 28 86 0, D 34 86 0, D 86 68 0, D 0 86 0, D 86 0 X7], [.blk 71 (.cells [(I 0 4)]) false, .blk 70 (.cells [(Z 0)]) false, .blk 69 (.cells [(Z 68)]) false, wa23, wa24, wa20, wa21, wa22, wa0, wa1, wa2, wa3, wa4, wa5, wa6, wa7, wa8, wa9, wa10, wa11, wa12, wa13, wa14, wa15, wa16, wa17, wa18, wa19]⟩ ⟨68, 0⟩ ⟨86, 0⟩
def h7x13 : Hint := .unroll
def h7x14 : Hint := .unroll
def h7x15 : Hint := .inv ⟨130, [(Y 104), (Y 105), (Y 106), (.clo 70 [] [(.ptr 99 0)]), U, U, U, U, (Y 107), (Y 108), (Y 115), (Y 116), (Y 117)] ++ ys 109 6 ++ [(Y 7), (Z 100), (Z 118)] ++ ys 119 10 ++ [U, U, (Y 129)], [.pre 7 ⟨118, 0⟩ [(.int .i64 ⟨0, 0⟩ ⟨6, (-1)⟩), (.int .i64 ⟨0, 0⟩ ⟨1, 0⟩), .bool], D 28 118 0, D 34 118 0, D 118 100 0, D 0 118 0, D 118 0 X7], [.blk 103 (.cells [(I 0 5)]) false, .blk 102 (.cells [(Z 0)]) false, .blk 101 (.cells [(Z 100)]) false, .blk 99 (.cells [(Z 1), (Z 2), (Z 3), (Y 4), (Y 5), (Z 6), (Y 7)]) false, .blk 98 (.cells [(.clo 68 [] [])]) false, .blk 71 (.cells [(I 0 4)]) false, .blk 70 (.cells [(Z 0)]) false, .blk 69 (.cells [(Z 68)]) false, wa23, wa24, wa20, wa21, wa22, wa0, wa1, wa2, wa3, wa4, wa5, wa6, wa7, wa8, wa9, wa10, wa11, wa12, wa13, wa14, wa15, wa16, wa17, wa18, wa19]⟩ ⟨100, 0⟩ ⟨118, 0⟩
def h7x16 : Hint := .unroll
def h7x17 : Hint := .unroll
def h7 : Hs := [h7x0, h7x1, h7x2, h7x3, h7x4, h7x5, h7x6, h7x7, h7x8, h7x9, h7x10, h7x11, h7x12, h7x13, h7x14, h7x15, h7x16, h7x17]
theorem chk7 : chkApiE tbl [(62, [.str], .bool)] 1000 [] c7 Ts7 h7 (pRes sh7) = true := by kernel_rfl
theorem ap7 : Ap7 := fun h => ap_ofE nameOK (rfl : tbl 7 = some c7) rfl chk7 gok_nil rfl h
end Do
