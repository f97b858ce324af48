/- A part of a proof. -/
import Derived.Test.YtdkolkjcobngnadC50x3
import Derived.KernelRfl
set_option linter.unusedVariables false
set_option linter.unusedSimpArgs false
set_option maxRecDepth 1000000
namespace Sh
open Go Ce Ce.L Ce.S
def wm0 : BE := .blk 91 (.cells [(Y 1), (Y 2), (Y 3), (.map 90)]) false
def wm1 : BE := .blk 89 (.cells [(Y 1), (Y 2), (Y 3)]) false
def wm2 : BE := .blk 88 (.cells [(I 6 (-1))]) false
def wm3 : BE := .blk 87 (.cells [(Z 0)]) false
def wm4 : BE := .blk 8 (.cells [(Y 1), (Y 2), (Y 3)]) false
def wm5 : BE := .blk 7 (.cells [(Z 4)]) false
def wm6 : BE := .blk 5 (.cells [(Y 1), (Y 2), (Y 3)]) false
def wm7 : BE := .blk 94 (.cells [(Z 114), (Z 115), (Z 116), (Z 157), (Z 158), (Z 159), (Z 160), (Z 0)]) false
def wm8 : BE := .blk 207 (.cells [(Y 1), (Y 2), (.vec 4 203 ⟨63, 0⟩), (.map 206)]) false
def wm9 : BE := .blk 205 (.cells [(Y 1), (Y 2), (.vec 4 203 ⟨63, 0⟩)]) false
def wm10 : BE := .blk 203 (.rows 4 [(.int .i64 ⟨0, 0⟩ ⟨11, (-1)⟩), (.int .i64 ⟨0, 0⟩ ⟨37, (-1)⟩), J, (.int .i64 ⟨0, 1⟩ ⟨0, 60⟩)] ⟨63, 0⟩) false
def wm11 : BE := .map 90 true [(.i .i64), (.i .i64), (.i .i64), (.i .i64), (.i .i64), (.i .i64), (.i .i64), (.i .i64)] (.agg [J, J, J, J, J, J, J, J, J, J, J, J, J, J, J, J]) none
def wm12 : BE := .blk 5 (.cells [(Y 1), (Y 2), (.vec 4 203 ⟨63, 0⟩)]) false
def wm13 : BE := .blk 259 (.cells [(Y 1), (Y 2), (.vec 4 255 ⟨63, 0⟩), (.map 258)]) false
def wm14 : BE := .blk 257 (.cells [(Y 1), (Y 2), (.vec 4 255 ⟨63, 0⟩)]) false
def wm15 : BE := .blk 255 (.rows 4 [(.int .i64 ⟨0, 0⟩ ⟨11, (-1)⟩), (.int .i64 ⟨0, 0⟩ ⟨37, (-1)⟩), J, (.int .i64 ⟨0, 1⟩ ⟨0, 60⟩)] ⟨63, 0⟩) false
def wm16 : BE := .blk 186 (.rows 1 [(.int .i64 ⟨0, 0⟩ ⟨0, X7⟩)] ⟨37, 0⟩) false
def wm17 : BE := .blk 5 (.cells [(Y 1), (Y 2), (.vec 4 255 ⟨63, 0⟩)]) false
def h30x0 : Hint := .unroll
def h30x1 : Hint := .inv ⟨117, [(.ptr 91 0), (.bool false), U, U, (.ptr 94 0), (Y 99), (Y 100), U, U, (Y 95), (Y 96), (Y 97), (Y 98), (Y 1), (Z 11), (Z 101), (Y 102), (Y 103), (Y 104), (Y 105), (Y 106), (Y 107), (Y 108), (Y 109), (Y 110), (Y 111), (Y 112), U, U, U, U, U, U, (Y 113), U, U, U, U, U, U, U, U, U, U, U, U, U, U, U, U, U, U], [D 116 0 X7, D 0 116 X8, D 115 0 X7, D 0 115 X8, D 114 0 X7, D 0 114 X8, D 101 11 0, D 0 101 0, D 101 0 X7], [.blk 94 (.cells [(Z 114), (Z 115), (Z 116), (Z 0), (Z 0), (Z 0), (Z 0), (Z 0)]) false, wm0, .emap 90, wm1, wm2, wm3, wm4, wm5, wm6]⟩ ⟨11, 0⟩ ⟨101, 0⟩
def h30x2 : Hint := .inv ⟨161, [(Y 117), (Y 118), U, U, (.ptr 94 0), (Y 119), (Y 120), (Y 144), (Y 145), (Y 121), (Y 122), (Y 123), (Y 124), (Y 125), (Y 126), (Y 127), (Y 128), (Y 129), (Y 130), (Y 131), (Y 132), (Y 133), (Y 134), (Y 135), (Y 136), (Y 137), (Y 138), U, U, U, U, U, U, (Y 139), (Y 140), (Y 141), (Y 142), (Y 143), (Y 2), (Z 37), (Z 146), (Y 147), (Y 148), (Y 149), (Y 150), (Y 151), (Y 152), (Y 153), (Y 154), (Y 155), (Y 156), U], [D 160 0 X7, D 0 160 X8, D 159 0 X7, D 0 159 X8, D 158 0 X7, D 0 158 X8, D 157 0 X7, D 0 157 X8, D 146 37 0, D 0 146 0, D 146 0 X7], [wm7, wm0, .emap 90, wm1, wm2, wm3, wm4, wm5, wm6]⟩ ⟨37, 0⟩ ⟨146, 0⟩
def h30x3 : Hint := .inv ⟨231, [(.ptr 91 0), (.bool false), U, U, (.ptr 208 0), (Y 213), (Y 214), U, U, (Y 209), (Y 210), (Y 211), (Y 212), (Y 1), (Z 11), (Z 215), (Y 216), (Y 217), (Y 218), (Y 219), (Y 220), (Y 221), (Y 222), (Y 223), (Y 224), (Y 225), (Y 226), U, U, U, U, U, U, (Y 227), U, U, U, U, U, U, U, U, U, U, U, U, U, U, U, U, U, U], [D 230 0 X7, D 0 230 X8, D 229 0 X7, D 0 229 X8, D 228 0 X7, D 0 228 X8, D 215 11 0, D 0 215 0, D 215 0 X7], [.blk 208 (.cells [(Z 228), (Z 229), (Z 230), (Z 0), (Z 0), (Z 0), (Z 0), (Z 0)]) false, wm8, .emap 206, wm9, wm10, .blk 202 (.cells []) false, wm0, wm11, wm7, wm1, wm2, wm3, wm4, wm5, wm12]⟩ ⟨11, 0⟩ ⟨215, 0⟩
def h30x4 : Hint := .inv ⟨275, [(Y 231), (Y 232), U, U, (.ptr 208 0), (Y 233), (Y 234), (Y 258), (Y 259), (Y 235), (Y 236), (Y 237), (Y 238), (Y 239), (Y 240), (Y 241), (Y 242), (Y 243), (Y 244), (Y 245), (Y 246), (Y 247), (Y 248), (Y 249), (Y 250), (Y 251), (Y 252), U, U, U, U, U, U, (Y 253), (Y 254), (Y 255), (Y 256), (Y 257), (Y 2), (Z 37), (Z 260), (Y 261), (Y 262), (Y 263), (Y 264), (Y 265), (Y 266), (Y 267), (Y 268), (Y 269), (Y 270), U], [D 274 0 X7, D 0 274 X8, D 273 0 X7, D 0 273 X8, D 272 0 X7, D 0 272 X8, D 271 0 X7, D 0 271 X8, D 260 37 0, D 0 260 0, D 260 0 X7], [.blk 208 (.cells [(Z 228), (Z 229), (Z 230), (Z 271), (Z 272), (Z 273), (Z 274), (Z 0)]) false, wm8, .emap 206, wm9, wm10, .blk 202 (.cells []) false, wm0, wm11, wm7, wm1, wm2, wm3, wm4, wm5, wm12]⟩ ⟨37, 0⟩ ⟨260, 0⟩
def h30x5 : Hint := .inv ⟨283, [(.ptr 91 0), (.bool false), U, U, (.ptr 260 0), (Y 265), (Y 266), U, U, (Y 261), (Y 262), (Y 263), (Y 264), (Y 1), (Z 11), (Z 267), (Y 268), (Y 269), (Y 270), (Y 271), (Y 272), (Y 273), (Y 274), (Y 275), (Y 276), (Y 277), (Y 278), U, U, U, U, U, U, (Y 279), U, U, U, U, U, U, U, U, U, U, U, U, U, U, U, U, U, U], [D 282 0 X7, D 0 282 X8, D 281 0 X7, D 0 281 X8, D 280 0 X7, D 0 280 X8, D 267 11 0, D 0 267 0, D 267 0 X7], [.blk 260 (.cells [(Z 280), (Z 281), (Z 282), (Z 0), (Z 0), (Z 0), (Z 0), (Z 0)]) false, wm13, .emap 258, wm14, wm15, .blk 254 (.cells []) false, wm16, wm0, wm11, wm7, wm1, wm2, wm3, wm4, wm5, wm17]⟩ ⟨11, 0⟩ ⟨267, 0⟩
def h30x6 : Hint := .inv ⟨327, [(Y 283), (Y 284), U, U, (.ptr 260 0), (Y 285), (Y 286), (Y 310), (Y 311), (Y 287), (Y 288), (Y 289), (Y 290), (Y 291), (Y 292), (Y 293), (Y 294), (Y 295), (Y 296), (Y 297), (Y 298), (Y 299), (Y 300), (Y 301), (Y 302), (Y 303), (Y 304), U, U, U, U, U, U, (Y 305), (Y 306), (Y 307), (Y 308), (Y 309), (Y 2), (Z 37), (Z 312), (Y 313), (Y 314), (Y 315), (Y 316), (Y 317), (Y 318), (Y 319), (Y 320), (Y 321), (Y 322), U], [D 326 0 X7, D 0 326 X8, D 325 0 X7, D 0 325 X8, D 324 0 X7, D 0 324 X8, D 323 0 X7, D 0 323 X8, D 312 37 0, D 0 312 0, D 312 0 X7], [.blk 260 (.cells [(Z 280), (Z 281), (Z 282), (Z 323), (Z 324), (Z 325), (Z 326), (Z 0)]) false, wm13, .emap 258, wm14, wm15, .blk 254 (.cells []) false, wm16, wm0, wm11, wm7, wm1, wm2, wm3, wm4, wm5, wm17]⟩ ⟨37, 0⟩ ⟨312, 0⟩
def h30 : Hs := [h30x0, h30x1, h30x2, h30x3, h30x4, h30x5, h30x6]
theorem chk30 : chkApiE tbl [(61, [.str], .bool)] 1000 [con50x3, con51x2, con50x1, con7] c30 Ts30 h30 (pRes sh30) = true := by kernel_rfl
theorem ap30 : Ap30 := fun h => ap_ofE nameOK (rfl : tbl 30 = some c30) rfl chk30 (gok_cons g50x3 (gok_cons g51x2 (gok_cons g50x1 (gok_cons g7 gok_nil)))) rfl h
end Sh
