/- A part of a proof. -/
import Derived.Test.YtdkolkjcobngnacC48x3
import Derived.KernelRfl
set_option linter.unusedVariables false
set_option linter.unusedSimpArgs false
set_option maxRecDepth 1000000
namespace Do
open Go Ce Ce.L Ce.S
def wl0 : BE := .vec 174 1 [(.int .i64 ⟨0, 0⟩ ⟨101, (-1)⟩)] ⟨175, 0⟩ false
def wl1 : BE := .blk 131 (.rows 3 [(.int .i64 ⟨0, 0⟩ ⟨0, X7⟩), (.int .i64 ⟨0, 0⟩ ⟨0, X7⟩), .bool] ⟨101, 0⟩) false
def wl2 : BE := .blk 8 (.cells [(Z 1), (Z 2), (Z 3), (Y 4), (Y 5), (Z 6), (Y 7)]) false
def wl3 : BE := .vec 182 1 [(.int .i64 ⟨0, 0⟩ ⟨101, (-1)⟩)] ⟨183, 0⟩ false
def h31x0 : Hint := .inv ⟨181, [(Y 134), (.ptr 8 0), (.vec 1 174 ⟨175, 0⟩), (Y 135), (.slc 3 131 0 ⟨0, 0⟩ ⟨101, 0⟩ ⟨101, 0⟩), (Y 176), (Y 154), (Y 155)] ++ ys 136 8 ++ [U] ++ ys 144 10 ++ [(Z 133), (Z 156)] ++ ys 157 9 ++ [(Y 178), (Y 179), (Y 180)] ++ ys 166 7 ++ [(Y 177), (Y 173), U], [.ty 176 .bool, D 175 101 0, D 0 175 0, D 175 0 X7, D 0 156 0, D 156 0 X7], [wl0, wl1, wl2]⟩ ⟨133, 0⟩ ⟨156, 0⟩
def h31x1 : Hint := .inv ⟨198, [(Z 156), (Y 181), U, U, (.vec 1 182 ⟨183, 0⟩), (Y 184), (Z 101), (Z 185)] ++ ys 186 12 ++ [U], [D 183 185 0, D 185 101 0, D 0 185 0, D 185 0 X7, D 183 101 0, D 0 183 0, D 183 0 X7], [wl3, wl0, wl1, wl2]⟩ ⟨101, 0⟩ ⟨185, 0⟩
def h31x2 : Hint := .inv ⟨223, [(.vec 1 182 ⟨183, 0⟩), (.vec 1 174 ⟨175, 0⟩), U, U] ++ ys 199 5 ++ [(.vec 1 182 ⟨183, 0⟩), (Z 183), (Z 204)] ++ ys 205 17 ++ [U, (Y 222)] ++ us 5, [D 204 101 0, D 204 183 0, D 0 204 0, D 204 0 X7], [wl3, wl0, wl1, wl2]⟩ ⟨183, 0⟩ ⟨204, 0⟩
def h31 : Hs := [h31x0, h31x1, h31x2]
theorem chk31 : chkApiE tbl [(62, [.str], .bool)] 1000 [con48x3, con37x2, con75x1, con7] c31 Ts31 h31 (pRes sh31) = true := by kernel_rfl
theorem ap31 : Ap31 := fun h => ap_ofE nameOK (rfl : tbl 31 = some c31) rfl chk31 (gok_cons g48x3 (gok_cons g37x2 (gok_cons g75x1 (gok_cons g7 gok_nil)))) rfl h
end Do
