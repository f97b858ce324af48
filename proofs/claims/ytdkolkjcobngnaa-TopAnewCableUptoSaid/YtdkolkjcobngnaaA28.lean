/- A part of a proof. -/
import Derived.Test.YtdkolkjcobngnaaC51x7
import Derived.KernelRfl
set_option linter.unusedVariables false
set_option linter.unusedSimpArgs false
set_option maxRecDepth 1000000
namespace Ca
open Go Ce Ce.L Ce.S
def wo0 : BE := .blk 69 (.cells [(Z 1), (Z 2), (Z 3), (Y 4), (.map 68)]) false
def wo1 : BE := .blk 67 (.cells [(Z 1), (Z 2), (Z 3), (Y 4)]) false
def wo2 : BE := .blk 5 (.cells [(Z 1), (Z 2), (Z 3), (Y 4)]) false
def wo3 : BE := .blk 139 (.cells []) false
def wo4 : BE := .blk 138 (.cells [(Z 1), (Z 2), (Z 3), (.vec 6 140 ⟨13, 0⟩)]) false
def h28x0 : Hint := .inv ⟨138, [(Y 88), (.ptr 5 0), (Y 89), (Y 90), (Y 91), (Y 107), (Y 108), (Y 109)] ++ ys 92 9 ++ [U] ++ ys 101 6 ++ [(Z 13), (Z 110)] ++ ys 111 26 ++ us 12 ++ [(Y 137)], [D 110 13 0, D 110 0 8, D 0 110 0], [wo0, .emap 68, wo1, wo2]⟩ ⟨13, 0⟩ ⟨110, 0⟩
def h28x1 : Hint := .inv ⟨206, [(Y 159), (.ptr 5 0), (Y 160), (Y 161), (Y 162), (Z 110), (.ptr 138 0), (.ptr 140 0)] ++ ys 163 9 ++ [U] ++ ys 172 6 ++ [(Z 13), (Z 110)] ++ ys 178 26 ++ us 12 ++ [(Y 204)], [D 144 205 0, D 205 0 X7, D 0 205 X8], [.blk 140 (.cells [(Y 141), (Z 142), (Z 143), (Z 205), (Z 145), (Z 146), (Y 147), (Z 148), (Z 149), (Z 150), (Z 151), (Z 152), (Y 153), (Z 154), (Z 155), (Z 156), (Z 157), (Z 158)]) false, wo3, wo4, wo0, .emap 68, wo1, wo2]⟩ ⟨0, 9⟩ ⟨205, 0⟩
def h28x2 : Hint := .inv ⟨206, [(Y 159), (.ptr 5 0), (Y 160), (Y 161), (Y 162), (Z 110), (.ptr 138 0), (.ptr 140 6)] ++ ys 163 9 ++ [U] ++ ys 172 6 ++ [(Z 13), (Z 110)] ++ ys 178 26 ++ us 12 ++ [(Y 204)], [D 150 205 0, D 205 0 X7, D 0 205 X8], [.blk 140 (.cells [(Y 141), (Z 142), (Z 143), (Z 144), (Z 145), (Z 146), (Y 147), (Z 148), (Z 149), (Z 205), (Z 151), (Z 152), (Y 153), (Z 154), (Z 155), (Z 156), (Z 157), (Z 158)]) false, wo3, wo4, wo0, .emap 68, wo1, wo2]⟩ ⟨0, 9⟩ ⟨205, 0⟩
def h28x3 : Hint := .inv ⟨206, [(Y 159), (.ptr 5 0), (Y 160), (Y 161), (Y 162), (Z 110), (.ptr 138 0), (.ptr 140 12)] ++ ys 163 9 ++ [U] ++ ys 172 6 ++ [(Z 13), (Z 110)] ++ ys 178 26 ++ us 12 ++ [(Y 204)], [D 156 205 0, D 205 0 X7, D 0 205 X8], [.blk 140 (.cells [(Y 141), (Z 142), (Z 143), (Z 144), (Z 145), (Z 146), (Y 147), (Z 148), (Z 149), (Z 150), (Z 151), (Z 152), (Y 153), (Z 154), (Z 155), (Z 205), (Z 157), (Z 158)]) false, wo3, wo4, wo0, .emap 68, wo1, wo2]⟩ ⟨0, 9⟩ ⟨205, 0⟩
def h28x4 : Hint := .inv ⟨200, [(Y 153), (.ptr 5 0), (Y 154), (Y 155), (Y 156), (Z 110), (.ptr 138 0), (.ptr 140 0)] ++ ys 157 9 ++ [U] ++ ys 166 6 ++ [(Z 13), (Z 110)] ++ ys 172 26 ++ us 12 ++ [(Y 198)], [D 144 199 0, D 199 0 X7, D 0 199 X8], [.blk 140 (.cells [(Y 141), (Z 142), (Z 143), (Z 199), (Z 145), (Z 146), (Y 147), (Z 148), (Z 149), (Z 150), (Z 151), (Z 152)]) false, wo3, wo4, wo0, .emap 68, wo1, wo2]⟩ ⟨0, 9⟩ ⟨199, 0⟩
def h28x5 : Hint := .inv ⟨200, [(Y 153), (.ptr 5 0), (Y 154), (Y 155), (Y 156), (Z 110), (.ptr 138 0), (.ptr 140 6)] ++ ys 157 9 ++ [U] ++ ys 166 6 ++ [(Z 13), (Z 110)] ++ ys 172 26 ++ us 12 ++ [(Y 198)], [D 150 199 0, D 199 0 X7, D 0 199 X8], [.blk 140 (.cells [(Y 141), (Z 142), (Z 143), (Z 144), (Z 145), (Z 146), (Y 147), (Z 148), (Z 149), (Z 199), (Z 151), (Z 152)]) false, wo3, wo4, wo0, .emap 68, wo1, wo2]⟩ ⟨0, 9⟩ ⟨199, 0⟩
def h28x6 : Hint := .inv ⟨194, [(Y 147), (.ptr 5 0), (Y 148), (Y 149), (Y 150), (Z 110), (.ptr 138 0), (.ptr 140 0)] ++ ys 151 9 ++ [U] ++ ys 160 6 ++ [(Z 13), (Z 110)] ++ ys 166 26 ++ us 12 ++ [(Y 192)], [D 144 193 0, D 193 0 X7, D 0 193 X8], [.blk 140 (.cells [(Y 141), (Z 142), (Z 143), (Z 193), (Z 145), (Z 146)]) false, wo3, wo4, wo0, .emap 68, wo1, wo2]⟩ ⟨0, 9⟩ ⟨193, 0⟩
def h28 : Hs := [h28x0, h28x1, h28x2, h28x3, h28x4, h28x5, h28x6]
theorem chk28 : chkApiE tbl [(63, [.str], .bool)] 1000 [con51x7, con51x6, con51x5, con51x4, con51x3, con51x2, con51x1, con7] c28 Ts28 h28 (pRes sh28) = true := by kernel_rfl
theorem ap28 : Ap28 := fun h => ap_ofE nameOK (rfl : tbl 28 = some c28) rfl chk28 (gok_cons g51x7 (gok_cons g51x6 (gok_cons g51x5 (gok_cons g51x4 (gok_cons g51x3 (gok_cons g51x2 (gok_cons g51x1 (gok_cons g7 gok_nil)))))))) rfl h
end Ca
