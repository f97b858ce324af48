/- A part of a proof. -/
import Derived.Test.YtkefopelclcljacC68x2
import Derived.Test.YtkefopelclcljacC7
import Derived.KernelRfl
set_option linter.unusedVariables false
set_option linter.unusedSimpArgs false
set_option maxRecDepth 1000000
namespace Tu
open Go Ce Ce.L Ce.S
def ws0 : BE := .vec 144 1 [(.int .i64 ⟨0, 0⟩ ⟨98, (-1)⟩)] ⟨145, 0⟩ false
def ws1 : BE := .blk 6 (.cells [(Y 1), (Z 2), (Y 3), (Y 4), (Y 5)]) false
def ws2 : BE := .vec 167 1 [(.int .i64 ⟨0, 0⟩ ⟨98, (-1)⟩)] ⟨168, 0⟩ false
def h31x0 : Hint := .inv ⟨166, [(Z 98), (.clo 67 [] [(.ptr 6 0)]), U, U, (.vec 1 144 ⟨145, 0⟩), (Y 146), (Y 129), (Y 130), (Y 128), (Z 127), (Z 131)] ++ ys 132 7 ++ ys 148 18 ++ ys 139 4 ++ [(Y 147), (Y 143), U], [.ty 146 .bool, D 145 98 0, D 0 145 0, D 145 0 X7, D 0 131 0, D 131 0 X7], [ws0, ws1]⟩ ⟨127, 0⟩ ⟨131, 0⟩
def h31x1 : Hint := .inv ⟨183, [(Z 131), (Y 166), U, U, (.vec 1 167 ⟨168, 0⟩), (Y 169), (Z 98), (Z 170)] ++ ys 171 12 ++ [U], [D 168 170 0, D 170 98 0, D 0 170 0, D 170 0 X7, D 168 98 0, D 0 168 0, D 168 0 X7], [ws2, ws0, ws1]⟩ ⟨98, 0⟩ ⟨170, 0⟩
def h31x2 : Hint := .inv ⟨207, [(.vec 1 167 ⟨168, 0⟩), (.vec 1 144 ⟨145, 0⟩), U, U] ++ ys 183 5 ++ [(.vec 1 167 ⟨168, 0⟩), (Z 168), (Z 188)] ++ ys 189 17 ++ [U, (Y 206)] ++ us 5, [D 188 98 0, D 188 168 0, D 0 188 0, D 188 0 X7], [ws2, ws0, ws1]⟩ ⟨168, 0⟩ ⟨188, 0⟩
def h31 : Hs := [h31x0, h31x1, h31x2]
theorem chk31 : da tbl [] 1000 [fN, bu, tD] c31 Ts31 h31 (mY sh31) = true := by kernel_rfl
theorem ap31 : Ap31 := fun h => iA cI (rfl : tbl 31 = some c31) rfl chk31 (aQ mt (aQ eg (aQ g7 bW))) rfl h
end Tu
