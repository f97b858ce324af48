/- A part of a proof. -/
import Derived.Test.YtdkolkjcobngnaaC51x3
import Derived.KernelRfl
set_option linter.unusedVariables false
set_option linter.unusedSimpArgs false
set_option maxRecDepth 1000000
namespace Ca
open Go Ce Ce.L Ce.S
def wk0 : BE := .loop 211 0 211 [.ret]
def wk1 : BE := .blk 210 (.cells [(.ptr 208 0)]) false
def wk2 : BE := .blk 209 (.cells [(.bool false)]) false
def wk3 : BE := .blk 208 (.cells [(Z 1), (Z 2), (Z 3), (.vec 6 140 ⟨13, 0⟩), (.map 207)]) false
def wk4 : BE := .blk 140 (.cells [(Y 141), (Z 142), (Z 143), (Z 144), (Z 145), (Z 146), (Y 147), (Z 148), (Z 149), (Z 150), (Z 151), (Z 152), (Y 153), (Z 154), (Z 155), (I 205 1), (Z 157), (Z 158)]) false
def wk5 : BE := .loop 211 1 211 [.ret]
def wk6 : BE := .blk 209 (.cells [(.bool true)]) false
def wk7 : BE := .loop 215 0 215 [.ret]
def wk8 : BE := .blk 214 (.cells [(I 0 11)]) false
def wk9 : BE := .blk 213 (.cells [(.ptr 208 0)]) false
def wk10 : BE := .blk 212 (.cells [(.yld 211)]) false
def wk11 : BE := .blk 224 (.cells [(Z 221), (Z 222), (Z 223)]) false
def wk12 : BE := .blk 219 (.cells [(.clo 73 [] [(.ptr 213 0), (.ptr 217 0), (.ptr 218 0), (.ptr 216 0), (.ptr 214 0), (.ptr 219 0)])]) false
def wk13 : BE := .blk 216 (.cells [(.yld 215)]) false
def hc51x4_0 : Hint := .rng [.ret] ⟨268, [(.agg [(Z 265), (Z 266), (Z 267)])], [D 267 0 X7, D 0 267 X8, D 266 0 X7, D 0 266 X8, D 265 0 X7, D 0 265 X8], [wk0, wk1, wk2, wk3, .emap 207, wk4]⟩ [((.bool true), ⟨268, [], [], [wk0, wk1, wk2, wk3, .emap 207, wk4]⟩), ((.bool false), ⟨268, [], [], [wk5, wk1, wk6, wk3, .emap 207, wk4]⟩)]
def hc51x4_1 : Hint := .rng [.ret] ⟨224, [(.agg [(Z 221), (Z 222), (Z 223)])], [D 223 0 X7, D 0 223 X8, D 222 0 X7, D 0 222 X8, D 221 0 X7, D 0 221 X8], [wk7, wk8, wk9, wk10, wk0, wk1, wk2, wk3, .emap 207, wk4]⟩ [((.bool true), ⟨224, [], [], [wk7, wk8, wk9, wk10, wk0, wk1, wk2, wk3, .emap 207, wk4]⟩), ((.bool false), ⟨268, [], [], [wk5, wk1, wk6, wk3, .emap 207, wk4, .loop 215 1 215 [.ret], wk8, wk9, wk10]⟩)]
def hc51x4_2 : Hint := .inv ⟨268, [(Y 225), (.ptr 210 0), (.ptr 212 0), (.ptr 224 0), (Y 235), (Z 236), (Y 237)] ++ ys 226 9 ++ ys 238 30 ++ us 7, [D 236 3 1, D 0 236 0, D 2 236 0, D 236 0 X7, .ty 235 .bool], [wk11, .loop 215 2 215 [.ret], wk8, wk9, wk10, wk0, wk1, wk2, wk3, .emap 207, wk4]⟩ ⟨0, 100⟩ ⟨236, 0⟩
def hc51x4_3 : Hint := .inv ⟨323, [(Y 270), (Y 271), (Z 236), U, (.ptr 268 0), U, (.ptr 269 0), (.clo 74 [(.ptr 208 0)] []), (Y 278), (Y 279)] ++ ys 272 6 ++ [(.vec 6 140 ⟨13, 0⟩), (Z 13), (Z 280)] ++ ys 281 4 ++ ys 291 7 ++ ys 285 5 ++ ys 298 8 ++ ys 307 14 ++ [(Y 290), U], [D 322 0 X7, D 0 322 X8, D 321 0 X7, D 0 321 X8, D 306 0 X7, D 0 306 X8, D 280 13 0, D 0 280 0, D 280 0 X7], [.blk 269 (.cells [(Z 321), (Z 322), (Z 306)]) false, .blk 268 (.cells [(Z 221), (Z 222), (Z 223)]) false, wk11, .loop 215 2 215 [.ret], wk8, wk9, wk10, wk0, wk1, wk2, wk3, .emap 207, wk4]⟩ ⟨13, 0⟩ ⟨280, 0⟩
def hc51x4_4 : Hint := .unroll
def hc51x4_5 : Hint := .unroll
def hc51x4_6 : Hint := .unroll
def hc51x4_7 : Hint := .rcs 73 ⟨227, [(Z 220), (.ptr 213 0), (.ptr 217 0), (.ptr 218 0), (.ptr 216 0), (.ptr 214 0), (.ptr 219 0)], [D 226 0 X7, D 0 226 X8, D 225 0 X7, D 0 225 X8, D 224 0 X7, D 0 224 X8, D 223 0 X7, D 0 223 X8, D 222 0 X7, D 0 222 X8, D 221 0 X7, D 0 221 X8, D 220 13 0, D 220 13 1, D 0 220 1, D 0 220 0, D 220 0 X7, D 0 220 X8], [wk12, .blk 218 (.cells [(Z 224), (Z 225), (Z 226)]) false, .blk 217 (.cells [(Z 221), (Z 222), (Z 223)]) false, wk13, wk7, wk8, wk9, wk10, wk0, wk1, wk2, wk3, .emap 207, wk4]⟩ [((.bool true), ⟨234, [], [D 233 0 X7, D 0 233 X8, D 232 0 X7, D 0 232 X8, D 231 0 X7, D 0 231 X8, D 230 0 X7, D 0 230 X8, D 229 0 X7, D 0 229 X8, D 228 0 X7, D 0 228 X8], [wk12, .blk 218 (.cells [(Z 228), (Z 229), (Z 230)]) false, .blk 217 (.cells [(Z 231), (Z 232), (Z 233)]) false, wk13, wk7, wk8, wk9, wk10, wk0, wk1, wk2, wk3, .emap 207, wk4]⟩), ((.bool false), ⟨278, [], [D 277 274 0, D 276 273 0, D 275 272 0, D 274 277 0, D 273 276 0, D 272 275 0, D 277 0 X7, D 0 277 X8, D 276 0 X7, D 0 276 X8, D 275 0 X7, D 0 275 X8, D 274 0 X7, D 0 274 X8, D 273 0 X7, D 0 273 X8, D 272 0 X7, D 0 272 X8], [wk5, wk1, wk6, wk3, .emap 207, wk4, .loop 215 1 215 [.ret], wk8, wk9, wk10, wk12, .blk 218 (.cells [(Z 272), (Z 273), (Z 274)]) false, .blk 217 (.cells [(Z 275), (Z 276), (Z 277)]) false, wk13]⟩)] ⟨13, 0⟩ ⟨220, 0⟩
def hc51x4_8 : Hint := .inv ⟨264, [(Z 220), (Y 227), (.ptr 217 0), (Y 228), (Y 229), (.ptr 214 0), (.ptr 219 0), U, (Y 230), (Y 240)] ++ ys 231 8 ++ us 7 ++ [(Y 239), (I 0 12), (Z 241)] ++ ys 242 8 ++ [(Y 262), (Y 263)] ++ ys 250 6, [D 261 0 X7, D 0 261 X8, D 260 0 X7, D 0 260 X8, D 259 0 X7, D 0 259 X8, D 258 0 X7, D 0 258 X8, D 257 0 X7, D 0 257 X8, D 256 0 X7, D 0 256 X8, D 0 241 0, D 241 0 X7], [wk12, .blk 218 (.cells [(Z 256), (Z 257), (Z 258)]) false, .blk 217 (.cells [(Z 259), (Z 260), (Z 261)]) false, wk13, wk7, wk8, wk9, wk10, wk0, wk1, wk2, wk3, .emap 207, wk4]⟩ ⟨0, 100⟩ ⟨241, 0⟩
def hc51x4 : Hs := [hc51x4_0, hc51x4_1, hc51x4_2, hc51x4_3, hc51x4_4, hc51x4_5, hc51x4_6, hc51x4_7, hc51x4_8]
def con51x4 : Con := ⟨false, 51, 1, ⟨209, [(.ptr 208 0)], [D 0 205 X8, D 0 13 0, D 0 142 X8, D 0 143 X8, D 0 144 X8, D 0 145 X8, D 0 146 X8, D 0 148 X8, D 0 149 X8, D 0 150 X8, D 0 151 X8, D 0 152 X8, D 0 154 X8, D 0 155 X8, D 0 157 X8, D 0 158 X8, D 0 3 0, D 0 2 0, D 0 1 0, D 1 0 200, D 3 0 10, D 143 0 X7, D 151 0 X7, D 155 0 X7, D 145 0 X7, D 13 0 3, D 149 0 X7, D 205 0 8, D 157 0 X7, D 2 3 0, D 2 0 10, D 144 0 X7, D 152 0 X7, D 148 0 X7, D 146 0 X7, D 154 0 X7, D 150 0 X7, D 142 0 X7, D 158 0 X7, .ty 141 .str, .ty 147 .str, .ty 153 .str], [wk3, .emap 207, wk4]⟩, [((.bool false), ⟨227, [], [], [wk3, .emap 207, wk4]⟩), ((.bool true), ⟨271, [], [], [wk3, .emap 207, wk4]⟩)], ⟨0, 0⟩, ⟨0, 0⟩, none⟩
theorem g51x4 : ∀ v : V, v.i 0 = 0 → GOK1 tbl v 1 con51x4 := con_chkE nameOK (n := 1000) (Γ := [con51x3, con51x2, con51x1, con7]) (hs := hc51x4) (by kernel_rfl) rfl rfl rfl (gok_cons g51x3 (gok_cons g51x2 (gok_cons g51x1 (gok_cons g7 gok_nil))))
end Ca
