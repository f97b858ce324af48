/- A part of a proof. -/
import Derived.Test.YtdkolkjcobngnaaC7
import Derived.KernelRfl
set_option linter.unusedVariables false
set_option linter.unusedSimpArgs false
set_option maxRecDepth 1000000
namespace Ca
open Go Ce Ce.L Ce.S
def wc0 : BE := .blk 72 (.cells [(I 0 10)]) false
def wc1 : BE := .blk 71 (.cells [(I 0 (-1))]) false
def wc2 : BE := .blk 7 (.cells [(Z 1), (Z 2), (Z 3), (Y 4)]) false
def wc3 : BE := .blk 6 (.cells [(Z 1), (Z 2), (Z 3), (Y 4)]) false
def wc4 : BE := .blk 94 (.cells [(Z 87), (Z 88), (Z 89)]) false
def wc5 : BE := .blk 93 (.cells [(Z 87), (Z 88), (Z 89)]) false
def wc6 : BE := .blk 92 (.cells [(Z 1), (Z 2), (Z 3), (Y 4), (.map 91)]) false
def wc7 : BE := .blk 90 (.cells [(Z 1), (Z 2), (Z 3), (Y 4)]) false
def wc8 : BE := .blk 8 (.cells [(Z 87), (Z 88), (Z 89)]) false
def h12x0 : Hint := .inv ⟨86, [(Y 5), (.clo 61 [] [(.ptr 71 0), (.ptr 72 0)]), U, U, (Y 73), (Y 75), (Y 74), (Z 70), (Z 76)] ++ ys 77 8 ++ [U, (Y 85)], [.pre 5 ⟨76, 0⟩ [(.int .i64 ⟨0, (-1)⟩ ⟨0, 10⟩)], D 76 16 0, D 76 70 0, D 0 76 0, D 76 0 X7], [wc0, wc1, .blk 8 (.cells [(Z 0), (Z 0), (Z 0)]) false, wc2, wc3]⟩ ⟨70, 0⟩ ⟨76, 0⟩
def h12x1 : Hint := .inv ⟨144, [(.ptr 92 0), (Y 96), U, (.ptr 94 0), (Y 97), (Y 98), (Y 99), (.vec 3 123 ⟨124, 0⟩), (Y 125)] ++ ys 100 10 ++ [U] ++ ys 110 13 ++ [(I 95 1), (Z 126)] ++ ys 127 17 ++ us 7, [D 126 124 0, D 124 126 0, D 126 3 1, D 126 95 1, D 0 126 0, D 126 0 X7, D 124 3 1, D 124 95 1, D 0 124 0, D 124 0 X7], [.vec 123 3 [J, J, J] ⟨124, 0⟩ false, wc4, wc5, wc6, .emap 91, wc7, wc0, wc1, wc8, wc2, wc3]⟩ ⟨95, 1⟩ ⟨126, 0⟩
def h12x2 : Hint := .inv ⟨200, [(Y 147), (Y 148), (Z 144), U, (.ptr 145 0), U, (.ptr 146 0), (.clo 74 [(.ptr 92 0)] []), (Y 155), (Y 156)] ++ ys 149 6 ++ [(Y 4), (Z 16), (Z 157)] ++ ys 158 4 ++ ys 168 7 ++ ys 162 5 ++ ys 175 8 ++ ys 184 14 ++ [(Y 167), U], [D 199 0 X7, D 0 199 X8, D 198 0 X7, D 0 198 X8, D 183 0 X7, D 0 183 X8, D 157 70 0, D 157 16 0, D 0 157 0, D 157 0 X7], [.blk 146 (.cells [(Z 198), (Z 199), (Z 183)]) false, .blk 145 (.cells [(Z 87), (Z 88), (Z 89)]) false, .vec 123 3 [J, J, J] ⟨124, 0⟩ false, wc4, wc5, wc6, .emap 91, wc7, wc0, wc1, wc8, wc2, wc3]⟩ ⟨16, 0⟩ ⟨157, 0⟩
def h12x3 : Hint := .unroll
def h12x4 : Hint := .inv ⟨179, [(Y 146), (Y 147), (Y 148), U, (.vec 2 163 ⟨164, 0⟩), (Y 149), (Y 150), (Y 151), U, (Y 165)] ++ ys 152 9 ++ [U, (Y 161), (Y 162), (.vec 3 123 ⟨124, 0⟩), (Z 124), (Z 166)] ++ ys 167 12 ++ [U], [D 166 164 0, D 164 166 0, D 166 3 1, D 166 145 1, D 166 124 0, D 0 166 0, D 166 0 X7, D 164 3 1, D 164 145 1, D 164 124 0, D 0 164 0, D 164 0 X7], [.vec 163 2 [J, J] ⟨164, 0⟩ false, .vec 123 3 [J, J, J] ⟨124, 0⟩ true, wc4, wc5, wc6, .map 91 true [(.i .i64), (.i .i64), (.i .i64)] (.lst [J, J, J] ⟨124, 0⟩ ⟨124, 0⟩) none, wc7, wc0, wc1, wc8, wc2, wc3]⟩ ⟨124, 0⟩ ⟨166, 0⟩
def h12 : Hs := [h12x0, h12x1, h12x2, h12x3, h12x4]
theorem chk12 : chkApiE tbl [(63, [.str], .bool)] 1000 [con7] c12 Ts12 h12 (pRes sh12) = true := by kernel_rfl
theorem ap12 : Ap12 := fun h => ap_ofE nameOK (rfl : tbl 12 = some c12) rfl chk12 (gok_cons g7 gok_nil) rfl h
end Ca
