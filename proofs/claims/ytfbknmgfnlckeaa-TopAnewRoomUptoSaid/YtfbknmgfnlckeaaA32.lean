/- A part of a proof. -/
import Derived.Test.YtfbknmgfnlckeaaC59x2
import Derived.KernelRfl
set_option linter.unusedVariables false
set_option linter.unusedSimpArgs false
set_option maxRecDepth 1000000
namespace Ro
open Go Ce Ce.L Ce.S
def wm0 : BE := .vec 151 1 [(.int .i64 ⟨0, 0⟩ ⟨84, (-1)⟩)] ⟨152, 0⟩ false
def wm1 : BE := .blk 8 (.cells [(Z 1), (Z 2), (Z 3), (Y 4), (Z 5), (Y 6), (Y 7)]) false
def wm2 : BE := .vec 174 1 [(.int .i64 ⟨0, 0⟩ ⟨84, (-1)⟩)] ⟨175, 0⟩ false
def h32x0 : Hint := .inv ⟨173, [(Y 115), (.ptr 8 0), (.vec 1 151 ⟨152, 0⟩), (Y 116), (Y 153)] ++ ys 128 4 ++ ys 117 8 ++ [U, (Y 125), (Y 126), (Y 127), (Z 114), (Z 132)] ++ ys 133 9 ++ ys 155 18 ++ ys 142 8 ++ [(Y 154), (Y 150), U], [.ty 153 .bool, D 152 84 0, D 152 0 7, D 0 152 0, D 0 132 0, D 132 0 X7], [wm0, wm1]⟩ ⟨114, 0⟩ ⟨132, 0⟩
def h32x1 : Hint := .inv ⟨190, [(Z 132), (Y 173), U, U, (.vec 1 174 ⟨175, 0⟩), (Y 176), (Z 84), (Z 177)] ++ ys 178 12 ++ [U], [D 175 177 0, D 177 84 0, D 177 0 7, D 0 177 0, D 175 84 0, D 175 0 7, D 0 175 0], [wm2, wm0, wm1]⟩ ⟨84, 0⟩ ⟨177, 0⟩
def h32x2 : Hint := .inv ⟨214, [(.vec 1 174 ⟨175, 0⟩), (.vec 1 151 ⟨152, 0⟩), U, U] ++ ys 190 5 ++ [(.vec 1 174 ⟨175, 0⟩), (Z 175), (Z 195)] ++ ys 196 17 ++ [U, (Y 213)] ++ us 5, [D 195 84 0, D 195 175 0, D 195 0 7, D 0 195 0], [wm2, wm0, wm1]⟩ ⟨175, 0⟩ ⟨195, 0⟩
def h32 : Hs := [h32x0, h32x1, h32x2]
theorem chk32 : dO tbl [(40, [.str], .bool)] 1000 [dm, gj, lD] c32 Ts32 h32 (lh sh32) = true := by kernel_rfl
theorem ap32 : Ap32 := fun h => gZ de (rfl : tbl 32 = some c32) rfl chk32 (aQ ix (aQ g7L (aQ g7 cZ))) rfl h
end Ro
