/- A part of a proof. -/
import Derived.Test.YtdkolkjcobngnaaC7
import Derived.KernelRfl
set_option linter.unusedVariables false
set_option linter.unusedSimpArgs false
set_option maxRecDepth 1000000
namespace Ca
open Go Ce Ce.L Ce.S
def wd0 : BE := .blk 72 (.cells [(I 0 10)]) false
def wd1 : BE := .blk 71 (.cells [(I 0 (-1))]) false
def wd2 : BE := .blk 7 (.cells [(Z 1), (Z 2), (Z 3), (Y 4)]) false
def wd3 : BE := .blk 6 (.cells [(Z 1), (Z 2), (Z 3), (Y 4)]) false
def wd4 : BE := .blk 94 (.cells [(Z 87), (Z 88), (Z 89)]) false
def wd5 : BE := .blk 93 (.cells [(Z 87), (Z 88), (Z 89)]) false
def wd6 : BE := .blk 92 (.cells [(Z 1), (Z 2), (Z 3), (Y 4), (.map 91)]) false
def wd7 : BE := .blk 90 (.cells [(Z 1), (Z 2), (Z 3), (Y 4)]) false
def wd8 : BE := .blk 8 (.cells [(Z 87), (Z 88), (Z 89)]) false
def h17x0 : Hint := .inv ⟨86, [(Y 5), (.clo 61 [] [(.ptr 71 0), (.ptr 72 0)]), U, U, (Y 73), (Y 75), (Y 74), (Z 70), (Z 76)] ++ ys 77 8 ++ [U, (Y 85)], [.pre 5 ⟨76, 0⟩ [(.int .i64 ⟨0, (-1)⟩ ⟨0, 10⟩)], D 76 16 0, D 76 70 0, D 0 76 0, D 76 0 X7], [wd0, wd1, .blk 8 (.cells [(Z 0), (Z 0), (Z 0)]) false, wd2, wd3]⟩ ⟨70, 0⟩ ⟨76, 0⟩
def h17x1 : Hint := .inv ⟨144, [(.ptr 92 0), (Y 96), U, (.ptr 94 0), (Y 97), (Y 98), (Y 99), (.vec 3 123 ⟨124, 0⟩), (Y 125)] ++ ys 100 10 ++ [U] ++ ys 110 13 ++ [(I 95 1), (Z 126)] ++ ys 127 17 ++ us 7, [D 126 124 0, D 124 126 0, D 126 3 1, D 126 95 1, D 0 126 0, D 126 0 X7, D 124 3 1, D 124 95 1, D 0 124 0, D 124 0 X7], [.vec 123 3 [J, J, J] ⟨124, 0⟩ false, wd4, wd5, wd6, .emap 91, wd7, wd0, wd1, wd8, wd2, wd3]⟩ ⟨95, 1⟩ ⟨126, 0⟩
def h17x2 : Hint := .inv ⟨200, [(Y 147), (Y 148), (Z 144), U, (.ptr 145 0), U, (.ptr 146 0), (.clo 74 [(.ptr 92 0)] []), (Y 155), (Y 156)] ++ ys 149 6 ++ [(Y 4), (Z 16), (Z 157)] ++ ys 158 4 ++ ys 168 7 ++ ys 162 5 ++ ys 175 8 ++ ys 184 14 ++ [(Y 167), U], [D 199 0 X7, D 0 199 X8, D 198 0 X7, D 0 198 X8, D 183 0 X7, D 0 183 X8, D 157 70 0, D 157 16 0, D 0 157 0, D 157 0 X7], [.blk 146 (.cells [(Z 198), (Z 199), (Z 183)]) false, .blk 145 (.cells [(Z 87), (Z 88), (Z 89)]) false, .vec 123 3 [J, J, J] ⟨124, 0⟩ false, wd4, wd5, wd6, .emap 91, wd7, wd0, wd1, wd8, wd2, wd3]⟩ ⟨16, 0⟩ ⟨157, 0⟩
def h17x3 : Hint := .unroll
def h17x4 : Hint := .inv ⟨188, [(Y 146), (Y 147), (.ptr 6 0), U] ++ ys 148 5 ++ [(Y 164), (Y 165), U, (Y 166)] ++ ys 153 9 ++ [U, (Y 162), (Y 163), (.vec 3 123 ⟨124, 0⟩), (Z 124), (Z 167)] ++ ys 168 20 ++ [U, U, U, U], [D 167 3 1, D 167 145 1, D 167 124 0, D 0 167 0, D 167 0 X7, .ty 165 .bool, .ty 164 .bool], [.vec 123 3 [J, J, J] ⟨124, 0⟩ true, wd4, wd5, wd6, .map 91 true [(.i .i64), (.i .i64), (.i .i64)] (.lst [J, J, J] ⟨124, 0⟩ ⟨124, 0⟩) none, wd7, wd0, wd1, wd8, wd2, wd3]⟩ ⟨124, 0⟩ ⟨167, 0⟩
def h17 : Hs := [h17x0, h17x1, h17x2, h17x3, h17x4]
theorem chk17 : chkApiE tbl [(63, [.str], .bool)] 1000 [con7] c17 Ts17 h17 (pRes sh17) = true := by kernel_rfl
theorem ap17 : Ap17 := fun h => ap_ofE nameOK (rfl : tbl 17 = some c17) rfl chk17 (gok_cons g7 gok_nil) rfl h
end Ca
