/- A part of a proof. -/
import Derived.Test.YtdkolkjcobngnaaC7
import Derived.KernelRfl
set_option linter.unusedVariables false
set_option linter.unusedSimpArgs false
set_option maxRecDepth 1000000
namespace Ca
open Go Ce Ce.L Ce.S
def we0 : BE := .blk 72 (.cells [(I 0 10)]) false
def we1 : BE := .blk 71 (.cells [(I 0 (-1))]) false
def we2 : BE := .blk 7 (.cells [(Z 1), (Z 2), (Z 3), (Y 4)]) false
def we3 : BE := .blk 6 (.cells [(Z 1), (Z 2), (Z 3), (Y 4)]) false
def we4 : BE := .blk 95 (.cells [(Z 87), (Z 88), (Z 89)]) false
def we5 : BE := .blk 94 (.cells [(Z 87), (Z 88), (Z 89)]) false
def we6 : BE := .blk 93 (.cells [(Z 87), (Z 88), (Z 89)]) false
def we7 : BE := .blk 92 (.cells [(Z 1), (Z 2), (Z 3), (Y 4), (.map 91)]) false
def we8 : BE := .blk 90 (.cells [(Z 1), (Z 2), (Z 3), (Y 4)]) false
def we9 : BE := .blk 8 (.cells [(Z 87), (Z 88), (Z 89)]) false
def h19x0 : Hint := .inv ⟨86, [(Y 5), (.clo 61 [] [(.ptr 71 0), (.ptr 72 0)]), U, U, (Y 73), (Y 75), (Y 74), (Z 70), (Z 76)] ++ ys 77 8 ++ [U, (Y 85)], [.pre 5 ⟨76, 0⟩ [(.int .i64 ⟨0, (-1)⟩ ⟨0, 10⟩)], D 76 16 0, D 76 70 0, D 0 76 0, D 76 0 X7], [we0, we1, .blk 8 (.cells [(Z 0), (Z 0), (Z 0)]) false, we2, we3]⟩ ⟨70, 0⟩ ⟨76, 0⟩
def h19x1 : Hint := .inv ⟨145, [(.ptr 92 0), (Y 97), U, (.ptr 95 0), (Y 98), (Y 99), (Y 100), (.vec 3 124 ⟨125, 0⟩), (Y 126)] ++ ys 101 10 ++ [U] ++ ys 111 13 ++ [(I 96 1), (Z 127)] ++ ys 128 17 ++ us 7, [D 127 125 0, D 125 127 0, D 127 3 1, D 127 96 1, D 0 127 0, D 127 0 X7, D 125 3 1, D 125 96 1, D 0 125 0, D 125 0 X7], [.vec 124 3 [J, J, J] ⟨125, 0⟩ false, we4, we5, we6, we7, .emap 91, we8, we0, we1, we9, we2, we3]⟩ ⟨96, 1⟩ ⟨127, 0⟩
def h19x2 : Hint := .inv ⟨201, [(Y 148), (Y 149), (Z 145), U, (.ptr 146 0), U, (.ptr 147 0), (.clo 74 [(.ptr 92 0)] []), (Y 156), (Y 157)] ++ ys 150 6 ++ [(Y 4), (Z 16), (Z 158)] ++ ys 159 4 ++ ys 169 7 ++ ys 163 5 ++ ys 176 8 ++ ys 185 14 ++ [(Y 168), U], [D 200 0 X7, D 0 200 X8, D 199 0 X7, D 0 199 X8, D 184 0 X7, D 0 184 X8, D 158 70 0, D 158 16 0, D 0 158 0, D 158 0 X7], [.blk 147 (.cells [(Z 199), (Z 200), (Z 184)]) false, .blk 146 (.cells [(Z 87), (Z 88), (Z 89)]) false, .vec 124 3 [J, J, J] ⟨125, 0⟩ false, we4, we5, we6, we7, .emap 91, we8, we0, we1, we9, we2, we3]⟩ ⟨16, 0⟩ ⟨158, 0⟩
def h19x3 : Hint := .unroll
def h19x4 : Hint := .inv ⟨163, [(Y 147), (Y 148), U, (Y 149), (Z 152), U, (Y 153), (Y 150), (Y 151), (.vec 3 124 ⟨125, 0⟩), (Z 125), (Z 154)] ++ ys 155 8 ++ [U], [D 154 3 1, D 154 146 1, D 154 125 0, D 0 154 0, D 154 0 X7, D 0 152 0, D 152 0 X7], [.vec 124 3 [J, J, J] ⟨125, 0⟩ true, we4, we5, we6, we7, .map 91 true [(.i .i64), (.i .i64), (.i .i64)] (.lst [J, J, J] ⟨125, 0⟩ ⟨125, 0⟩) none, we8, we0, we1, we9, we2, we3]⟩ ⟨125, 0⟩ ⟨154, 0⟩
def h19 : Hs := [h19x0, h19x1, h19x2, h19x3, h19x4]
theorem chk19 : chkApiE tbl [(63, [.str], .bool)] 1000 [con7] c19 Ts19 h19 (pRes sh19) = true := by kernel_rfl
theorem ap19 : Ap19 := fun h => ap_ofE nameOK (rfl : tbl 19 = some c19) rfl chk19 (gok_cons g7 gok_nil) rfl h
end Ca
