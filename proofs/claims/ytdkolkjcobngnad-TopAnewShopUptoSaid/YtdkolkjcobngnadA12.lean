/- A part of a proof. -/
import Derived.Test.YtdkolkjcobngnadC7
import Derived.KernelRfl
set_option linter.unusedVariables false
set_option linter.unusedSimpArgs false
set_option maxRecDepth 1000000
namespace Sh
open Go Ce Ce.L Ce.S
def h12x0 : Hint := .unroll
def h12x1 : Hint := .inv ⟨115, [(Y 89), (Y 90), (.vec 1 109 ⟨110, 0⟩), (Y 91), (.ptr 88 0), (Y 101), (Y 92), (Y 93), (Y 94), (Y 95), (Y 96), (Y 97), (Y 98), U, (Y 99), (Y 100), (Z 60), (Z 102), (Y 103), (Y 104), (Y 105), (Y 106), (Y 107), (Y 111), (Y 112), (Y 113), (Y 114), (Y 108), U], [D 110 102 0, D 110 60 0, D 0 110 0, D 110 0 X7, D 102 60 0, D 0 102 0, D 102 0 X7], [.vec 109 1 [(.int .i64 ⟨0, 0⟩ ⟨60, (-1)⟩)] ⟨110, 0⟩ false, .blk 88 (.cells [(Y 1), (Y 2), (Y 3), (.map 87)]) false, .emap 87, .blk 86 (.cells [(Y 1), (Y 2), (Y 3)]) false, .blk 85 (.cells [(I 0 (-1))]) false, .blk 84 (.cells [(Z 0)]) false, .blk 5 (.cells [(Y 1), (Y 2), (Y 3)]) false, .blk 4 (.cells [(Y 1), (Y 2), (Y 3)]) false]⟩ ⟨60, 0⟩ ⟨102, 0⟩
def h12x2 : Hint := .unroll
def h12 : Hs := [h12x0, h12x1, h12x2]
theorem chk12 : chkApiE tbl [(61, [.str], .bool)] 1000 [con7] c12 Ts12 h12 (pRes sh12) = true := by kernel_rfl
theorem ap12 : Ap12 := fun h => ap_ofE nameOK (rfl : tbl 12 = some c12) rfl chk12 (gok_cons g7 gok_nil) rfl h
end Sh
