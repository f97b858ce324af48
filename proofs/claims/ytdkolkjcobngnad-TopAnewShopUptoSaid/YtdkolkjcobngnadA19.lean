/- A part of a proof. -/
import Derived.Test.YtdkolkjcobngnadC51x2
import Derived.KernelRfl
set_option linter.unusedVariables false
set_option linter.unusedSimpArgs false
set_option maxRecDepth 1000000
namespace Sh
open Go Ce Ce.L Ce.S
def wg0 : BE := .blk 88 (.cells [(I 7 (-1))]) false
def wg1 : BE := .blk 87 (.cells [(Z 0)]) false
def wg2 : BE := .blk 8 (.cells [(Y 1), (Y 2), (Y 3)]) false
def wg3 : BE := .blk 6 (.cells [(Y 1), (Y 2), (Y 3)]) false
def wg4 : BE := .blk 5 (.cells [(Y 1), (Y 2), (Y 3)]) false
def wg5 : BE := .blk 105 (.cells [(Y 1), (Y 2), (Y 3), (.map 104)]) false
def wg6 : BE := .blk 103 (.cells [(Y 1), (Y 2), (Y 3)]) false
def h19x0 : Hint := .inv ⟨103, [(Y 4), (.clo 65 [] [(.ptr 87 0), (.ptr 88 0)]), U, U, (Y 90), (Y 92), (Y 91), (Z 89), (Z 93), (Y 94), (Y 95), (Y 96), (Y 97), (Y 98), (Y 99), (Y 100), (Y 101), U, (Y 102)], [.pre 4 ⟨93, 0⟩ [(.int .i64 ⟨0, 0⟩ ⟨37, (-1)⟩)], D 93 89 0, D 0 93 0, D 93 0 X7], [wg0, wg1, wg2, wg3, wg4]⟩ ⟨89, 0⟩ ⟨93, 0⟩
def h19x1 : Hint := .inv ⟨136, [(Y 106), (Y 107), (Y 108), U, (.ptr 105 0), (Z 121), (Y 109), U, (Y 122), (Y 110), (Y 111), (Y 112), (Y 113), (Y 114), (Y 115), (Y 116), (Y 117), (Y 118), (Y 119), (Y 120), U, (Y 4), (Z 89), (Z 123), (Y 124), (Y 125), (Y 126), (Y 127), (Y 128), (Y 129), (Y 130), (Y 131), (Y 132), (Y 133), (Y 134), (Y 135), U, U], [D 123 89 0, D 0 123 0, D 123 0 X7, D 121 0 X7, D 0 121 X8], [wg5, .emap 104, wg6, wg0, wg1, wg2, wg3, wg4]⟩ ⟨89, 0⟩ ⟨123, 0⟩
def h19x2 : Hint := .inv ⟨159, [(.ptr 105 0), (.bool false), U, U, (.ptr 136 0), (Y 141), (Y 142), U, U, (Y 137), (Y 138), (Y 139), (Y 140), (Y 1), (Z 11), (Z 143), (Y 144), (Y 145), (Y 146), (Y 147), (Y 148), (Y 149), (Y 150), (Y 151), (Y 152), (Y 153), (Y 154), U, U, U, U, U, U, (Y 155), U, U, U, U, U, U, U, U, U, U, U, U, U, U, U, U, U, U], [D 158 0 X7, D 0 158 X8, D 157 0 X7, D 0 157 X8, D 156 0 X7, D 0 156 X8, D 143 11 0, D 0 143 0, D 143 0 X7], [.blk 136 (.cells [(Z 156), (Z 157), (Z 158), (Z 0), (Z 0), (Z 0), (Z 0), (Z 0)]) false, wg5, .emap 104, wg6, wg0, wg1, wg2, wg3, wg4]⟩ ⟨11, 0⟩ ⟨143, 0⟩
def h19x3 : Hint := .inv ⟨203, [(Y 159), (Y 160), U, U, (.ptr 136 0), (Y 161), (Y 162), (Y 186), (Y 187), (Y 163), (Y 164), (Y 165), (Y 166), (Y 167), (Y 168), (Y 169), (Y 170), (Y 171), (Y 172), (Y 173), (Y 174), (Y 175), (Y 176), (Y 177), (Y 178), (Y 179), (Y 180), U, U, U, U, U, U, (Y 181), (Y 182), (Y 183), (Y 184), (Y 185), (Y 2), (Z 37), (Z 188), (Y 189), (Y 190), (Y 191), (Y 192), (Y 193), (Y 194), (Y 195), (Y 196), (Y 197), (Y 198), U], [D 202 0 X7, D 0 202 X8, D 201 0 X7, D 0 201 X8, D 200 0 X7, D 0 200 X8, D 199 0 X7, D 0 199 X8, D 188 7 0, D 188 37 0, D 0 188 0, D 188 0 X7], [.blk 136 (.cells [(Z 156), (Z 157), (Z 158), (Z 199), (Z 200), (Z 201), (Z 202), (Z 0)]) false, wg5, .emap 104, wg6, wg0, wg1, wg2, wg3, wg4]⟩ ⟨37, 0⟩ ⟨188, 0⟩
def h19 : Hs := [h19x0, h19x1, h19x2, h19x3]
theorem chk19 : chkApiE tbl [(61, [.str], .bool)] 1000 [con51x2, con50x1, con7] c19 Ts19 h19 (pRes sh19) = true := by kernel_rfl
theorem ap19 : Ap19 := fun h => ap_ofE nameOK (rfl : tbl 19 = some c19) rfl chk19 (gok_cons g51x2 (gok_cons g50x1 (gok_cons g7 gok_nil))) rfl h
end Sh
