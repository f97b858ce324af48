/- A part of a proof. -/
import Derived.Test.YtdkolkjcobngnadC51x2
import Derived.KernelRfl
set_option linter.unusedVariables false
set_option linter.unusedSimpArgs false
set_option maxRecDepth 1000000
namespace Sh
open Go Ce Ce.L Ce.S
def wk0 : BE := .blk 91 (.cells [(Y 1), (Y 2), (Y 3), (.map 90)]) false
def wk1 : BE := .blk 89 (.cells [(Y 1), (Y 2), (Y 3)]) false
def wk2 : BE := .blk 88 (.cells [(I 6 (-1))]) false
def wk3 : BE := .blk 87 (.cells [(Z 0)]) false
def wk4 : BE := .blk 8 (.cells [(Y 1), (Y 2), (Y 3)]) false
def wk5 : BE := .blk 7 (.cells [(Z 4)]) false
def wk6 : BE := .blk 5 (.cells [(Y 1), (Y 2), (Y 3)]) false
def wk7 : BE := .blk 92 (.cells [(Z 112), (Z 113), (Z 114), (Z 155), (Z 156), (Z 157), (Z 158), (Z 0)]) false
def h28x0 : Hint := .unroll
def h28x1 : Hint := .inv ⟨115, [(.ptr 91 0), (.bool false), U, U, (.ptr 92 0), (Y 97), (Y 98), U, U, (Y 93), (Y 94), (Y 95), (Y 96), (Y 1), (Z 11), (Z 99), (Y 100), (Y 101), (Y 102), (Y 103), (Y 104), (Y 105), (Y 106), (Y 107), (Y 108), (Y 109), (Y 110), U, U, U, U, U, U, (Y 111), U, U, U, U, U, U, U, U, U, U, U, U, U, U, U, U, U, U], [D 114 0 X7, D 0 114 X8, D 113 0 X7, D 0 113 X8, D 112 0 X7, D 0 112 X8, D 99 6 0, D 99 11 0, D 0 99 0, D 99 0 X7], [.blk 92 (.cells [(Z 112), (Z 113), (Z 114), (Z 0), (Z 0), (Z 0), (Z 0), (Z 0)]) false, wk0, .emap 90, wk1, wk2, wk3, wk4, wk5, wk6]⟩ ⟨11, 0⟩ ⟨99, 0⟩
def h28x2 : Hint := .inv ⟨159, [(Y 115), (Y 116), U, U, (.ptr 92 0), (Y 117), (Y 118), (Y 142), (Y 143), (Y 119), (Y 120), (Y 121), (Y 122), (Y 123), (Y 124), (Y 125), (Y 126), (Y 127), (Y 128), (Y 129), (Y 130), (Y 131), (Y 132), (Y 133), (Y 134), (Y 135), (Y 136), U, U, U, U, U, U, (Y 137), (Y 138), (Y 139), (Y 140), (Y 141), (Y 2), (Z 37), (Z 144), (Y 145), (Y 146), (Y 147), (Y 148), (Y 149), (Y 150), (Y 151), (Y 152), (Y 153), (Y 154), U], [D 158 0 X7, D 0 158 X8, D 157 0 X7, D 0 157 X8, D 156 0 X7, D 0 156 X8, D 155 0 X7, D 0 155 X8, D 144 37 0, D 0 144 0, D 144 0 X7], [wk7, wk0, .emap 90, wk1, wk2, wk3, wk4, wk5, wk6]⟩ ⟨37, 0⟩ ⟨144, 0⟩
def h28x3 : Hint := .inv ⟨201, [(Y 160), (Z 4), (.ptr 5 0), U, (Y 161), (Y 162), (.ptr 91 0), (Y 163), (.ptr 159 0), (Y 178), (Y 164), (Y 165), (Y 166), (Y 167), (Y 168), (Y 169), (Y 170), (Y 171), (Y 172), (Y 173), (Y 174), (Y 175), U, (Y 176), (Y 177), (Z 179), (Y 180), (Y 181), (Y 182), (Y 183), (Y 184), (Y 185), (Y 186), (Y 187), (Y 188), (Y 189), U, (Y 190), (Y 191), (Y 192), (Y 193), (Y 194), (Y 195), (Y 196), (Y 197)], [D 200 0 X7, D 0 200 X8, D 199 0 X7, D 0 199 X8, D 198 0 X7, D 0 198 X8, D 179 0 61, D 0 179 0], [.blk 159 (.cells [(Z 198), (Z 199), (Z 200), (Z 155), (Z 156), (Z 157), (Z 158), (Z 0)]) false, wk7, wk0, .map 90 true [(.i .i64), (.i .i64), (.i .i64), (.i .i64), (.i .i64), (.i .i64), (.i .i64), (.i .i64)] (.agg [J, J, J, J, J, J, J, J, J, J, J, J, J, J, J, J]) none, wk1, wk2, wk3, wk4, wk5, wk6]⟩ ⟨0, 61⟩ ⟨179, 0⟩
def h28 : Hs := [h28x0, h28x1, h28x2, h28x3]
theorem chk28 : chkApiE tbl [(61, [.str], .bool)] 1000 [con51x2, con50x1, con7] c28 Ts28 h28 (pRes sh28) = true := by kernel_rfl
theorem ap28 : Ap28 := fun h => ap_ofE nameOK (rfl : tbl 28 = some c28) rfl chk28 (gok_cons g51x2 (gok_cons g50x1 (gok_cons g7 gok_nil))) rfl h
end Sh
