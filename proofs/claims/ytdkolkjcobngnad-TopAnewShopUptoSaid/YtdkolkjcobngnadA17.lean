/- A part of a proof. -/
import Derived.Test.YtdkolkjcobngnadC51x2
import Derived.KernelRfl
set_option linter.unusedVariables false
set_option linter.unusedSimpArgs false
set_option maxRecDepth 1000000
namespace Sh
open Go Ce Ce.L Ce.S
def wf0 : BE := .blk 88 (.cells [(I 7 (-1))]) false
def wf1 : BE := .blk 87 (.cells [(Z 0)]) false
def wf2 : BE := .blk 8 (.cells [(Y 1), (Y 2), (Y 3)]) false
def wf3 : BE := .blk 6 (.cells [(Y 1), (Y 2), (Y 3)]) false
def wf4 : BE := .blk 5 (.cells [(Y 1), (Y 2), (Y 3)]) false
def wf5 : BE := .blk 105 (.cells [(Y 1), (Y 2), (Y 3), (.map 104)]) false
def wf6 : BE := .blk 103 (.cells [(Y 1), (Y 2), (Y 3)]) false
def wf7 : BE := .blk 136 (.cells [(Z 156), (Z 157), (Z 158), (Z 199), (Z 200), (Z 201), (Z 202), (Z 0)]) false
def wf8 : BE := .blk 229 (.rows 1 [(.int .i64 ⟨0, 0⟩ ⟨0, X7⟩)] ⟨37, 0⟩) false
def wf9 : BE := .map 104 true [(.i .i64), (.i .i64), (.i .i64), (.i .i64), (.i .i64), (.i .i64), (.i .i64), (.i .i64)] (.agg [J, J, J, J, J, J, J, J, J, J, J, J, J, J, J, J]) none
def wf10 : BE := .blk 203 (.cells [(Z 156), (Z 157), (Z 158), (Z 199), (Z 200), (Z 201), (Z 202), (Z 0)]) false
def h17x0 : Hint := .inv ⟨103, [(Y 4), (.clo 65 [] [(.ptr 87 0), (.ptr 88 0)]), U, U, (Y 90), (Y 92), (Y 91), (Z 89), (Z 93), (Y 94), (Y 95), (Y 96), (Y 97), (Y 98), (Y 99), (Y 100), (Y 101), U, (Y 102)], [.pre 4 ⟨93, 0⟩ [(.int .i64 ⟨0, 0⟩ ⟨37, (-1)⟩)], D 93 89 0, D 0 93 0, D 93 0 X7], [wf0, wf1, wf2, wf3, wf4]⟩ ⟨89, 0⟩ ⟨93, 0⟩
def h17x1 : Hint := .inv ⟨136, [(Y 106), (Y 107), (Y 108), U, (.ptr 105 0), (Z 121), (Y 109), U, (Y 122), (Y 110), (Y 111), (Y 112), (Y 113), (Y 114), (Y 115), (Y 116), (Y 117), (Y 118), (Y 119), (Y 120), U, (Y 4), (Z 89), (Z 123), (Y 124), (Y 125), (Y 126), (Y 127), (Y 128), (Y 129), (Y 130), (Y 131), (Y 132), (Y 133), (Y 134), (Y 135), U, U], [D 123 89 0, D 0 123 0, D 123 0 X7, D 121 0 X7, D 0 121 X8], [wf5, .emap 104, wf6, wf0, wf1, wf2, wf3, wf4]⟩ ⟨89, 0⟩ ⟨123, 0⟩
def h17x2 : Hint := .inv ⟨159, [(.ptr 105 0), (.bool false), U, U, (.ptr 136 0), (Y 141), (Y 142), U, U, (Y 137), (Y 138), (Y 139), (Y 140), (Y 1), (Z 11), (Z 143), (Y 144), (Y 145), (Y 146), (Y 147), (Y 148), (Y 149), (Y 150), (Y 151), (Y 152), (Y 153), (Y 154), U, U, U, U, U, U, (Y 155), U, U, U, U, U, U, U, U, U, U, U, U, U, U, U, U, U, U], [D 158 0 X7, D 0 158 X8, D 157 0 X7, D 0 157 X8, D 156 0 X7, D 0 156 X8, D 143 11 0, D 0 143 0, D 143 0 X7], [.blk 136 (.cells [(Z 156), (Z 157), (Z 158), (Z 0), (Z 0), (Z 0), (Z 0), (Z 0)]) false, wf5, .emap 104, wf6, wf0, wf1, wf2, wf3, wf4]⟩ ⟨11, 0⟩ ⟨143, 0⟩
def h17x3 : Hint := .inv ⟨203, [(Y 159), (Y 160), U, U, (.ptr 136 0), (Y 161), (Y 162), (Y 186), (Y 187), (Y 163), (Y 164), (Y 165), (Y 166), (Y 167), (Y 168), (Y 169), (Y 170), (Y 171), (Y 172), (Y 173), (Y 174), (Y 175), (Y 176), (Y 177), (Y 178), (Y 179), (Y 180), U, U, U, U, U, U, (Y 181), (Y 182), (Y 183), (Y 184), (Y 185), (Y 2), (Z 37), (Z 188), (Y 189), (Y 190), (Y 191), (Y 192), (Y 193), (Y 194), (Y 195), (Y 196), (Y 197), (Y 198), U], [D 202 0 X7, D 0 202 X8, D 201 0 X7, D 0 201 X8, D 200 0 X7, D 0 200 X8, D 199 0 X7, D 0 199 X8, D 188 7 0, D 188 37 0, D 0 188 0, D 188 0 X7], [wf7, wf5, .emap 104, wf6, wf0, wf1, wf2, wf3, wf4]⟩ ⟨37, 0⟩ ⟨188, 0⟩
def h17x4 : Hint := .inv ⟨326, [(.ptr 105 0), (.bool true), U, U, (.ptr 297 0), (Y 302), (Y 303), U, U, (Y 298), (Y 299), (Y 300), (Y 301), (Y 1), (Z 11), (Z 304), (Y 305), (Y 306), (Y 307), (Y 308), (Y 309), (Y 310), (Y 311), (Y 312), (Y 313), (Y 314), (Y 315), (Y 316), (Y 317), (Y 318), (Y 319), (Y 320), (Y 321), (Y 322), U, U, U, U, U, U, U, U, U, U, U, U, U, U, U, U, U, U], [D 325 0 X7, D 0 325 X8, D 324 0 X7, D 0 324 X8, D 323 0 X7, D 0 323 X8, D 304 11 0, D 0 304 0, D 304 0 X7], [.blk 297 (.cells [(Z 323), (Z 324), (Z 325), (Z 0), (Z 0), (Z 0), (Z 0), (Z 0)]) false, wf8, wf5, wf9, wf10, wf7, wf6, wf0, wf1, wf2, wf3, wf4]⟩ ⟨11, 0⟩ ⟨304, 0⟩
def h17x5 : Hint := .inv ⟨376, [(Y 326), (Y 327), U, U, (.ptr 297 0), (Y 328), (Y 329), (Y 359), (Y 360), (Y 330), (Y 331), (Y 332), (Y 333), (Y 334), (Y 335), (Y 336), (Y 337), (Y 338), (Y 339), (Y 340), (Y 341), (Y 342), (Y 343), (Y 344), (Y 345), (Y 346), (Y 347), (Y 348), (Y 349), (Y 350), (Y 351), (Y 352), (Y 353), (Y 354), (Y 355), (Y 356), (Y 357), (Y 358), (Y 2), (Z 37), (Z 361), (Y 362), (Y 363), (Y 364), (Y 365), (Y 366), (Y 367), (Y 368), (Y 369), (Y 370), (Y 371), U], [D 375 0 X7, D 0 375 X8, D 374 0 X7, D 0 374 X8, D 373 0 X7, D 0 373 X8, D 372 0 X7, D 0 372 X8, D 361 7 0, D 361 37 0, D 0 361 0, D 361 0 X7], [.blk 297 (.cells [(Z 323), (Z 324), (Z 325), (Z 372), (Z 373), (Z 374), (Z 375), (Z 0)]) false, wf8, wf5, wf9, wf10, wf7, wf6, wf0, wf1, wf2, wf3, wf4]⟩ ⟨37, 0⟩ ⟨361, 0⟩
def h17 : Hs := [h17x0, h17x1, h17x2, h17x3, h17x4, h17x5]
theorem chk17 : chkApiE tbl [(61, [.str], .bool)] 1000 [con51x2, con50x1, con7] c17 Ts17 h17 (pRes sh17) = true := by kernel_rfl
theorem ap17 : Ap17 := fun h => ap_ofE nameOK (rfl : tbl 17 = some c17) rfl chk17 (gok_cons g51x2 (gok_cons g50x1 (gok_cons g7 gok_nil))) rfl h
end Sh
