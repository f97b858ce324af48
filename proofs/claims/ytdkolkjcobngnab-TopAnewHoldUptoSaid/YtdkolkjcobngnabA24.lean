/- A part of a proof. -/
import Derived.Test.YtdkolkjcobngnabC53
set_option linter.unusedVariables false
set_option linter.unusedSimpArgs false
set_option maxRecDepth 1000000
namespace Ho
open Go Ce Ce.L Ce.S
def h24x0 : Hint := .inv ⟨140, [(.agg [(Z 1), (Z 2), (Z 3), (Y 4), (Z 5), (Y 6), (Y 7)]), (.ptr 8 0), (.vec 1 128 ⟨129, 0⟩), (.vec 1 130 ⟨131, 0⟩), (Z 0), (.ptr 85 0), (Y 115), (Y 116), (.tup [(.ptr 85 0), (Z 0)]), (.agg [(Z 1), (Z 2), (Z 3), (Y 4), (Z 5), (Y 6), (Y 7)]), (.tup [(.ptr 85 0), (Z 0)]), (.ptr 85 0), (Z 0), (Z 0), (.bool false), U, (.ptr 8 5), (Y 6), (Z 41), (Z 117), (Y 118), (Y 119), (Y 120), (Y 121), (Y 122), (Y 123), (Y 124), (Y 132), (Y 133), (Y 134), (Y 135), (Y 125), (Y 126), (Y 136), (Y 137), (Y 138), (Y 139), (Y 127), U, U], [D 129 131 0, D 131 117 0, D 131 41 0, D 0 131 0, D 131 0 X7, D 129 117 0, D 129 41 0, D 0 129 0, D 129 0 X7, D 117 41 0, D 0 117 0, D 117 0 X7], [.vec 130 1 [(.int .i64 ⟨0, 0⟩ ⟨41, (-1)⟩)] ⟨131, 0⟩ false, .vec 128 1 [(.int .i64 ⟨0, 0⟩ ⟨41, (-1)⟩)] ⟨129, 0⟩ false, .blk 85 (.cells [(Z 1), (Z 2), (Z 3), (Y 4), (Z 5), (Y 6), (Y 7), (Z 0), (Z 0), (.map 84)]) false, .map 84 true [(.i .i64), (.i .i64), .b] (.agg [J, J, J, J, J, J, J]) none, .blk 8 (.cells [(Z 1), (Z 2), (Z 3), (Y 4), (Z 5), (Y 6), (Y 7)]) false]⟩ ⟨41, 0⟩ ⟨117, 0⟩
def h24 : Hs := [h24x0]
theorem chk24 : chkApi tbl 1000 [con53, con42, con7] c24 Ts24 h24 (pRes sh24) = true := by kernel_rfl
theorem ap24 : Ap24 := fun h => ap_of (rfl : tbl 24 = some c24) rfl chk24 gok53 rfl h
end Ho
