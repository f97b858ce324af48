/- A part of a proof. -/
import Derived.Test.YtdkolkjcobngnacC37x2
import Derived.KernelRfl
set_option linter.unusedVariables false
set_option linter.unusedSimpArgs false
set_option maxRecDepth 1000000
namespace Do
open Go Ce Ce.L Ce.S
def wi0 : BE := .blk 179 (.cells [(Z 206)]) false
def wi1 : BE := .blk 138 (.cells [(Z 1), (Z 2), (Z 3), (Y 4), (Y 5), (Z 6), (Y 7), (Z 0), (.map 137)]) false
def wi2 : BE := .map 137 true [(.i .i64), (.i .i64)] (.agg [J, J, J, J, J, J, J, J, J, J, J, J, J, J, J, J, J, J, J, J, J, J, J, J, J, J]) none
def wi3 : BE := .blk 8 (.cells [(Z 1), (Z 2), (Z 3), (Y 4), (Y 5), (Z 6), (Y 7)]) false
def wi4 : BE := .vec 249 1 [(.int .i64 ⟨0, 0⟩ ⟨71, (-1)⟩)] ⟨250, 0⟩ false
def wi5 : BE := .vec 227 26 [J, J, J, J, J, J, J, J, J, J, J, J, J, J, J, J, J, J, J, J, J, J, J, J, J, J] ⟨228, 0⟩ false
def wi6 : BE := .loop 209 0 209 []
def wi7 : BE := .blk 208 (.cells [(.ptr 138 0)]) false
def wi8 : BE := .blk 207 (.cells [(Y 248)]) false
def wi9 : BE := .blk 9 (.cells [(.vec 1 249 ⟨250, 0⟩)]) false
def wi10 : BE := .vec 253 1 [(.int .i64 ⟨0, 0⟩ ⟨71, (-1)⟩)] ⟨254, 0⟩ false
def wi11 : BE := .vec 215 1 [(.int .i64 ⟨0, 0⟩ ⟨71, (-1)⟩)] ⟨216, 0⟩ false
def wi12 : BE := .blk 211 (.cells [(.clo 74 [] [(.ptr 208 0), (.ptr 211 0), (.ptr 210 0)])]) false
def wi13 : BE := .blk 210 (.cells [(.yld 209)]) false
def wi14 : BE := .blk 9 (.cells [(.vec 1 215 ⟨216, 0⟩)]) false
def h26x0 : Hint := .inv ⟨207, [(Y 180), (.ptr 8 0), (.ptr 9 0), (Z 0), (.ptr 138 0), (.ptr 179 0), (Y 189), (Y 190), U, U, U] ++ ys 181 7 ++ [U, (Y 188), (Y 5), (Z 71), (Z 191)] ++ ys 192 14 ++ us 19, [D 206 0 X7, D 0 206 X8, D 191 71 0, D 0 191 0, D 191 0 X7], [wi0, wi1, wi2, .blk 9 (.cells [.nils]) false, wi3]⟩ ⟨71, 0⟩ ⟨191, 0⟩
def h26x1 : Hint := .rng [] ⟨251, [(Z 247), (.vec 26 227 ⟨228, 0⟩)], [D 250 71 0, D 250 71 1, D 0 250 1, D 0 250 0, D 250 0 X7, D 0 250 X8, .ty 248 .bool, D 247 0 X7, D 0 247 X8, D 228 6 0, D 6 228 0, D 228 0 3, D 0 228 (-1)], [wi4, wi5, wi6, wi7, wi8, wi0, wi1, wi2, wi9, wi3]⟩ [((.bool true), ⟨254, [], [D 253 71 0, D 253 71 1, D 0 253 1, D 0 253 0, D 253 0 X7, D 0 253 X8, .ty 251 .bool], [.vec 252 1 [(.int .i64 ⟨0, 0⟩ ⟨71, (-1)⟩)] ⟨253, 0⟩ false, wi5, wi6, wi7, .blk 207 (.cells [(Y 251)]) false, wi0, wi1, wi2, .blk 9 (.cells [(.vec 1 252 ⟨253, 0⟩)]) false, wi3]⟩)]
def h26x2 : Hint := .inv ⟨269, [(Z 251), (Y 252), U, U, (.vec 1 253 ⟨254, 0⟩), (Y 255), (Z 71), (Z 256)] ++ ys 257 12 ++ [U], [D 254 256 0, D 256 71 0, D 0 256 0, D 256 0 X7, D 254 71 0, D 0 254 0, D 254 0 X7], [wi10, wi4, wi5, .loop 209 2 209 [], wi7, wi8, wi0, wi1, wi2, wi9, wi3]⟩ ⟨71, 0⟩ ⟨256, 0⟩
def h26x3 : Hint := .inv ⟨293, [(.vec 1 253 ⟨254, 0⟩), (.vec 1 249 ⟨250, 0⟩), U, U] ++ ys 269 5 ++ [(.vec 1 253 ⟨254, 0⟩), (Z 254), (Z 274)] ++ ys 275 17 ++ [U, (Y 292)] ++ us 5, [D 274 250 0, D 274 71 0, D 274 254 0, D 0 274 0, D 274 0 X7], [wi10, wi4, wi5, .loop 209 2 209 [], wi7, wi8, wi0, wi1, wi2, wi9, wi3]⟩ ⟨254, 0⟩ ⟨274, 0⟩
def h26x4 : Hint := .rcs 74 ⟨217, [(Z 212), (Z 213), (.ptr 208 0), (.ptr 211 0), (.ptr 210 0)], [D 216 71 0, D 216 71 1, D 0 216 1, D 0 216 0, D 216 0 X7, D 0 216 X8, .ty 214 .bool, D 213 0 X7, D 0 213 X8, D 212 71 0, D 212 71 1, D 0 212 1, D 0 212 0, D 212 0 X7, D 0 212 X8], [wi11, wi12, wi13, wi6, wi7, .blk 207 (.cells [(Y 214)]) false, wi0, wi1, wi2, wi14, wi3]⟩ [((.bool true), ⟨286, [], [D 285 71 0, D 285 71 1, D 0 285 1, D 0 285 0, D 285 0 X7, D 0 285 X8, .ty 283 .bool], [.vec 284 1 [(.int .i64 ⟨0, 0⟩ ⟨71, (-1)⟩)] ⟨285, 0⟩ false, wi1, wi2, wi12, wi13, wi6, wi7, .blk 207 (.cells [(Y 283)]) false, wi0, .blk 9 (.cells [(.vec 1 284 ⟨285, 0⟩)]) false, wi3]⟩)] ⟨71, 0⟩ ⟨212, 0⟩
def h26x5 : Hint := .inv ⟨252, [(Y 217), (Z 213), (.ptr 208 0), (Y 218), (.ptr 210 0), U, U, (Y 219), (.vec 26 232 ⟨233, 0⟩), (Y 234), (Y 235)] ++ ys 220 8 ++ us 26 ++ ys 228 4 ++ [(Z 6), (Z 236)] ++ ys 237 15 ++ [U, U, U, U], [D 236 233 0, D 233 236 0, D 236 6 0, D 0 236 0, D 236 0 X7, D 233 6 0, D 0 233 0, D 233 0 X7], [.vec 232 26 [J, J, J, J, J, J, J, J, J, J, J, J, J, J, J, J, J, J, J, J, J, J, J, J, J, J] ⟨233, 0⟩ false, wi11, wi12, wi13, wi6, wi7, .blk 207 (.cells [(Y 214)]) false, wi0, wi1, wi2, wi14, wi3]⟩ ⟨6, 0⟩ ⟨236, 0⟩
def h26 : Hs := [h26x0, h26x1, h26x2, h26x3, h26x4, h26x5]
theorem chk26 : chkApiE tbl [(62, [.str], .bool)] 1000 [con37x2, con75x1, con7] c26 Ts26 h26 (pRes sh26) = true := by kernel_rfl
theorem ap26 : Ap26 := fun h => ap_ofE nameOK (rfl : tbl 26 = some c26) rfl chk26 (gok_cons g37x2 (gok_cons g75x1 (gok_cons g7 gok_nil))) rfl h
end Do
