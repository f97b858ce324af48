/- A part of a proof. -/
import Derived.Test.YtdkolkjcobngnacC37x2
import Derived.KernelRfl
set_option linter.unusedVariables false
set_option linter.unusedSimpArgs false
set_option maxRecDepth 1000000
namespace Do
open Go Ce Ce.L Ce.S
def wh0 : BE := .vec 201 26 [J, J, J, J, J, J, J, J, J, J, J, J, J, J, J, J, J, J, J, J, J, J, J, J, J, J] ⟨202, 0⟩ false
def wh1 : BE := .loop 183 0 183 []
def wh2 : BE := .blk 182 (.cells [(.ptr 137 0)]) false
def wh3 : BE := .blk 137 (.cells [(Z 1), (Z 2), (Z 3), (Y 4), (Y 5), (Z 6), (Y 7), (Z 0), (.map 136)]) false
def wh4 : BE := .map 136 true [(.i .i64), (.i .i64)] (.agg [J, J, J, J, J, J, J, J, J, J, J, J, J, J, J, J, J, J, J, J, J, J, J, J, J, J]) none
def wh5 : BE := .blk 8 (.cells [(Z 1), (Z 2), (Z 3), (Y 4), (Y 5), (Z 6), (Y 7)]) false
def wh6 : BE := .blk 185 (.cells [(.clo 74 [] [(.ptr 182 0), (.ptr 185 0), (.ptr 184 0)])]) false
def wh7 : BE := .blk 184 (.cells [(.yld 183)]) false
def wh8 : BE := .vec 255 1 [(.int .i64 ⟨0, 0⟩ ⟨70, (-1)⟩)] ⟨256, 0⟩ false
def h23x0 : Hint := .rng [] ⟨224, [(Z 221), (.vec 26 201 ⟨202, 0⟩)], [D 223 0 X7, D 0 223 X8, D 222 0 X7, D 0 222 X8, D 221 0 X7, D 0 221 X8, D 202 6 0, D 6 202 0, D 202 0 3, D 0 202 (-1)], [wh0, wh1, wh2, .blk 181 (.cells [(Z 222)]) false, .blk 180 (.cells [(Z 223)]) false, wh3, wh4, wh5]⟩ [((.bool true), ⟨226, [], [D 225 0 X7, D 0 225 X8, D 224 0 X7, D 0 224 X8], [wh0, wh1, wh2, .blk 181 (.cells [(Z 224)]) false, .blk 180 (.cells [(Z 225)]) false, wh3, wh4, wh5]⟩)]
def h23x1 : Hint := .rcs 74 ⟨190, [(Z 186), (Z 187), (.ptr 182 0), (.ptr 185 0), (.ptr 184 0)], [D 189 0 X7, D 0 189 X8, D 188 0 X7, D 0 188 X8, D 187 0 X7, D 0 187 X8, D 186 70 0, D 186 70 1, D 0 186 1, D 0 186 0, D 186 0 X7, D 0 186 X8], [wh6, wh7, wh1, wh2, .blk 181 (.cells [(Z 188)]) false, .blk 180 (.cells [(Z 189)]) false, wh3, wh4, wh5]⟩ [((.bool true), ⟨258, [], [D 257 0 X7, D 0 257 X8, D 256 0 X7, D 0 256 X8], [wh3, wh4, wh6, wh7, wh1, wh2, .blk 181 (.cells [(Z 256)]) false, .blk 180 (.cells [(Z 257)]) false, wh5]⟩)] ⟨70, 0⟩ ⟨186, 0⟩
def h23x2 : Hint := .inv ⟨225, [(Y 190), (Z 187), (.ptr 182 0), (Y 191), (.ptr 184 0), U, U, (Y 192), (.vec 26 205 ⟨206, 0⟩), (Y 207), (Y 208)] ++ ys 193 8 ++ us 26 ++ ys 201 4 ++ [(Z 6), (Z 209)] ++ ys 210 15 ++ [U, U, U, U], [D 209 206 0, D 206 209 0, D 209 6 0, D 0 209 0, D 209 0 X7, D 206 6 0, D 0 206 0, D 206 0 X7], [.vec 205 26 [J, J, J, J, J, J, J, J, J, J, J, J, J, J, J, J, J, J, J, J, J, J, J, J, J, J] ⟨206, 0⟩ false, wh6, wh7, wh1, wh2, .blk 181 (.cells [(Z 188)]) false, .blk 180 (.cells [(Z 189)]) false, wh3, wh4, wh5]⟩ ⟨6, 0⟩ ⟨209, 0⟩
def h23x3 : Hint := .inv ⟨271, [(Z 253), (Y 254), U, U, (.vec 1 255 ⟨256, 0⟩), (Y 257), (Z 70), (Z 258)] ++ ys 259 12 ++ [U], [D 256 258 0, D 258 70 0, D 0 258 0, D 258 0 X7, D 256 70 0, D 0 256 0, D 256 0 X7], [wh8, wh3, wh4, wh6, wh7, wh2, .blk 181 (.cells [(Z 252)]) false, .blk 180 (.cells [(Z 253)]) false, wh5]⟩ ⟨70, 0⟩ ⟨258, 0⟩
def h23x4 : Hint := .inv ⟨288, [(Z 252), (Y 271), U, U, (.vec 1 272 ⟨273, 0⟩), (Y 274), (Z 70), (Z 275)] ++ ys 276 12 ++ [U], [D 273 275 0, D 275 70 0, D 0 275 0, D 275 0 X7, D 273 70 0, D 0 273 0, D 273 0 X7], [.vec 272 1 [(.int .i64 ⟨0, 0⟩ ⟨70, (-1)⟩)] ⟨273, 0⟩ false, wh8, wh3, wh4, wh6, wh7, wh2, .blk 181 (.cells [(Z 252)]) false, .blk 180 (.cells [(Z 253)]) false, wh5]⟩ ⟨70, 0⟩ ⟨275, 0⟩
def h23 : Hs := [h23x0, h23x1, h23x2, h23x3, h23x4]
theorem chk23 : chkApiE tbl [(62, [.str], .bool)] 1000 [con37x2, con75x1, con7] c23 Ts23 h23 (pRes sh23) = true := by kernel_rfl
theorem ap23 : Ap23 := fun h => ap_ofE nameOK (rfl : tbl 23 = some c23) rfl chk23 (gok_cons g37x2 (gok_cons g75x1 (gok_cons g7 gok_nil))) rfl h
end Do
