/- A part of a proof. -/
import Derived.Test.YtdkolkjcobngnaaLaw
import Derived.Test.YtdkolkjcobngnaaNm
import Derived.KernelRfl
set_option linter.unusedVariables false
set_option linter.unusedSimpArgs false
set_option maxRecDepth 1000000
namespace Ca
open Go Ce Ce.L Ce.S
def wa0 : BE := .blk 9 (.cells [(Z 2), (Z 3)]) false
def wa1 : BE := .blk 5 (.cells [(Z 1), (Z 2), (Z 3), (Y 4)]) false
def h7x0 : Hint := .unroll
def h7x1 : Hint := .unroll
def h7x2 : Hint := .inv ⟨66, [(Y 13), (.ptr 5 0), (Y 14), (Y 15), (Y 16), (Y 47), U, (Y 48)] ++ ys 17 30 ++ [(Z 12), (Z 49)] ++ ys 50 14 ++ [U, U, U, (Y 64), (Y 65)], [D 49 12 0, D 49 0 3, D 0 49 0], [.blk 11 (.cells [(I 0 10)]) false, .blk 10 (.cells [(Z 0)]) false, wa0, .blk 8 (.cells [(I 0 200)]) false, .blk 7 (.cells [(I 0 1)]) false, .blk 6 (.cells [(Z 1)]) false, wa1]⟩ ⟨12, 0⟩ ⟨49, 0⟩
def h7x3 : Hint := .unroll
def h7x4 : Hint := .inv ⟨94, [(Y 79), (.clo 66 [] [(.ptr 77 0), (.ptr 78 0)]), U, U, (Y 81), (Y 83), (Y 82), (Z 80), (Z 84)] ++ ys 85 8 ++ [U, (Y 93)], [D 84 49 0, D 84 12 0, D 84 80 0, D 0 84 0], [.blk 78 (.cells [(Z 49)]) false, .blk 77 (.cells [(Y 4)]) false, .blk 76 (.cells [(I 0 5), (.clo 64 [] [])]) false, .blk 67 (.cells [(I 0 6), (.clo 62 [] [])]) false, .blk 66 (.cells [(I 0 6), (.clo 62 [] []), (I 0 5), (.clo 64 [] []), (I 0 7), (.clo 67 [] []), (I 0 2), (.clo 68 [] [])]) false, .blk 11 (.cells [(I 0 10)]) false, .blk 10 (.cells [(Z 0)]) false, wa0, .blk 8 (.cells [(I 0 200)]) false, .blk 7 (.cells [(I 0 1)]) false, .blk 6 (.cells [(Z 1)]) false, wa1]⟩ ⟨80, 0⟩ ⟨84, 0⟩
def h7x5 : Hint := .unroll
def h7x6 : Hint := .unroll
def h7x7 : Hint := .unroll
def h7x8 : Hint := .unroll
def h7 : Hs := [h7x0, h7x1, h7x2, h7x3, h7x4, h7x5, h7x6, h7x7, h7x8]
theorem chk7 : chkApiE tbl [(63, [.str], .bool)] 1000 [] c7 Ts7 h7 (pRes sh7) = true := by kernel_rfl
theorem ap7 : Ap7 := fun h => ap_ofE nameOK (rfl : tbl 7 = some c7) rfl chk7 gok_nil rfl h
end Ca
