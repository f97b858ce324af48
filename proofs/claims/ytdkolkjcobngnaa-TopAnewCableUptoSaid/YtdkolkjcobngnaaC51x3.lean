/- A part of a proof. -/
import Derived.Test.YtdkolkjcobngnaaC51x2
import Derived.KernelRfl
set_option linter.unusedVariables false
set_option linter.unusedSimpArgs false
set_option maxRecDepth 1000000
namespace Ca
open Go Ce Ce.L Ce.S
def wj0 : BE := .loop 205 0 205 [.ret]
def wj1 : BE := .blk 204 (.cells [(.ptr 202 0)]) false
def wj2 : BE := .blk 203 (.cells [(.bool false)]) false
def wj3 : BE := .blk 202 (.cells [(Z 1), (Z 2), (Z 3), (.vec 6 140 ⟨13, 0⟩), (.map 201)]) false
def wj4 : BE := .blk 140 (.cells [(Y 141), (Z 142), (Z 143), (I 199 1), (Z 145), (Z 146), (Y 147), (Z 148), (Z 149), (Z 150), (Z 151), (Z 152)]) false
def wj5 : BE := .loop 205 1 205 [.ret]
def wj6 : BE := .blk 203 (.cells [(.bool true)]) false
def wj7 : BE := .loop 209 0 209 [.ret]
def wj8 : BE := .blk 208 (.cells [(I 0 11)]) false
def wj9 : BE := .blk 207 (.cells [(.ptr 202 0)]) false
def wj10 : BE := .blk 206 (.cells [(.yld 205)]) false
def wj11 : BE := .blk 217 (.cells [(Z 215), (Z 216), (Z 0)]) false
def wj12 : BE := .blk 213 (.cells [(.clo 73 [] [(.ptr 207 0), (.ptr 211 0), (.ptr 212 0), (.ptr 210 0), (.ptr 208 0), (.ptr 213 0)])]) false
def wj13 : BE := .blk 210 (.cells [(.yld 209)]) false
def hc51x3_0 : Hint := .rng [.ret] ⟨261, [(.agg [(Z 259), (Z 260), (Z 0)])], [D 260 0 X7, D 0 260 X8, D 259 0 X7, D 0 259 X8], [wj0, wj1, wj2, wj3, .emap 201, wj4]⟩ [((.bool true), ⟨261, [], [], [wj0, wj1, wj2, wj3, .emap 201, wj4]⟩), ((.bool false), ⟨261, [], [], [wj5, wj1, wj6, wj3, .emap 201, wj4]⟩)]
def hc51x3_1 : Hint := .rng [.ret] ⟨217, [(.agg [(Z 215), (Z 216), (Z 0)])], [D 216 0 X7, D 0 216 X8, D 215 0 X7, D 0 215 X8], [wj7, wj8, wj9, wj10, wj0, wj1, wj2, wj3, .emap 201, wj4]⟩ [((.bool true), ⟨217, [], [], [wj7, wj8, wj9, wj10, wj0, wj1, wj2, wj3, .emap 201, wj4]⟩), ((.bool false), ⟨261, [], [], [wj5, wj1, wj6, wj3, .emap 201, wj4, .loop 209 1 209 [.ret], wj8, wj9, wj10]⟩)]
def hc51x3_2 : Hint := .inv ⟨261, [(Y 218), (.ptr 204 0), (.ptr 206 0), (.ptr 217 0), (Y 228), (Z 229), (Y 230)] ++ ys 219 9 ++ ys 231 30 ++ us 7, [D 229 3 1, D 0 229 0, D 2 229 0, D 229 0 X7, .ty 228 .bool], [wj11, .loop 209 2 209 [.ret], wj8, wj9, wj10, wj0, wj1, wj2, wj3, .emap 201, wj4]⟩ ⟨0, 100⟩ ⟨229, 0⟩
def hc51x3_3 : Hint := .inv ⟨316, [(Y 263), (Y 264), (Z 229), U, (.ptr 261 0), U, (.ptr 262 0), (.clo 74 [(.ptr 202 0)] []), (Y 271), (Y 272)] ++ ys 265 6 ++ [(.vec 6 140 ⟨13, 0⟩), (Z 13), (Z 273)] ++ ys 274 4 ++ ys 284 7 ++ ys 278 5 ++ ys 291 8 ++ ys 300 14 ++ [(Y 283), U], [D 315 0 X7, D 0 315 X8, D 314 0 X7, D 0 314 X8, D 299 0 X7, D 0 299 X8, D 273 13 0, D 273 0 2, D 0 273 0], [.blk 262 (.cells [(Z 314), (Z 315), (Z 299)]) false, .blk 261 (.cells [(Z 215), (Z 216), (Z 0)]) false, wj11, .loop 209 2 209 [.ret], wj8, wj9, wj10, wj0, wj1, wj2, wj3, .emap 201, wj4]⟩ ⟨13, 0⟩ ⟨273, 0⟩
def hc51x3_4 : Hint := .unroll
def hc51x3_5 : Hint := .unroll
def hc51x3_6 : Hint := .rcs 73 ⟨219, [(Z 214), (.ptr 207 0), (.ptr 211 0), (.ptr 212 0), (.ptr 210 0), (.ptr 208 0), (.ptr 213 0)], [D 218 0 X7, D 0 218 X8, D 217 0 X7, D 0 217 X8, D 216 0 X7, D 0 216 X8, D 215 0 X7, D 0 215 X8, D 214 13 0, D 214 13 1, D 214 0 2, D 0 214 1, D 0 214 0, D 214 0 X7, D 0 214 X8], [wj12, .blk 212 (.cells [(Z 217), (Z 218), (Z 0)]) false, .blk 211 (.cells [(Z 215), (Z 216), (Z 0)]) false, wj13, wj7, wj8, wj9, wj10, wj0, wj1, wj2, wj3, .emap 201, wj4]⟩ [((.bool true), ⟨224, [], [D 223 0 X7, D 0 223 X8, D 222 0 X7, D 0 222 X8, D 221 0 X7, D 0 221 X8, D 220 0 X7, D 0 220 X8], [wj12, .blk 212 (.cells [(Z 220), (Z 221), (Z 0)]) false, .blk 211 (.cells [(Z 222), (Z 223), (Z 0)]) false, wj13, wj7, wj8, wj9, wj10, wj0, wj1, wj2, wj3, .emap 201, wj4]⟩), ((.bool false), ⟨268, [], [D 267 265 0, D 266 264 0, D 265 267 0, D 264 266 0, D 267 0 X7, D 0 267 X8, D 266 0 X7, D 0 266 X8, D 265 0 X7, D 0 265 X8, D 264 0 X7, D 0 264 X8], [wj5, wj1, wj6, wj3, .emap 201, wj4, .loop 209 1 209 [.ret], wj8, wj9, wj10, wj12, .blk 212 (.cells [(Z 264), (Z 265), (Z 0)]) false, .blk 211 (.cells [(Z 266), (Z 267), (Z 0)]) false, wj13]⟩)] ⟨13, 0⟩ ⟨214, 0⟩
def hc51x3_7 : Hint := .inv ⟨254, [(Z 214), (Y 219), (.ptr 211 0), (Y 220), (Y 221), (.ptr 208 0), (.ptr 213 0), U, (Y 222), (Y 232)] ++ ys 223 8 ++ us 7 ++ [(Y 231), (I 0 12), (Z 233)] ++ ys 234 8 ++ [(Y 252), (Y 253)] ++ ys 242 6, [D 251 0 X7, D 0 251 X8, D 250 0 X7, D 0 250 X8, D 249 0 X7, D 0 249 X8, D 248 0 X7, D 0 248 X8, D 0 233 0, D 233 0 X7], [wj12, .blk 212 (.cells [(Z 248), (Z 249), (Z 0)]) false, .blk 211 (.cells [(Z 250), (Z 251), (Z 0)]) false, wj13, wj7, wj8, wj9, wj10, wj0, wj1, wj2, wj3, .emap 201, wj4]⟩ ⟨0, 100⟩ ⟨233, 0⟩
def hc51x3 : Hs := [hc51x3_0, hc51x3_1, hc51x3_2, hc51x3_3, hc51x3_4, hc51x3_5, hc51x3_6, hc51x3_7]
def con51x3 : Con := ⟨false, 51, 1, ⟨203, [(.ptr 202 0)], [D 0 199 X8, D 0 13 0, D 0 142 X8, D 0 143 X8, D 0 145 X8, D 0 146 X8, D 0 148 X8, D 0 149 X8, D 0 150 X8, D 0 151 X8, D 0 152 X8, D 0 3 0, D 0 2 0, D 0 1 0, D 1 0 200, D 3 0 10, D 143 0 X7, D 199 0 8, D 151 0 X7, D 145 0 X7, D 13 0 2, D 149 0 X7, D 2 3 0, D 2 0 10, D 152 0 X7, D 148 0 X7, D 146 0 X7, D 150 0 X7, D 142 0 X7, .ty 141 .str, .ty 147 .str], [wj3, .emap 201, wj4]⟩, [((.bool false), ⟨219, [], [], [wj3, .emap 201, wj4]⟩), ((.bool true), ⟨263, [], [], [wj3, .emap 201, wj4]⟩)], ⟨0, 0⟩, ⟨0, 0⟩, none⟩
theorem g51x3 : ∀ v : V, v.i 0 = 0 → GOK1 tbl v 1 con51x3 := con_chkE nameOK (n := 1000) (Γ := [con51x2, con51x1, con7]) (hs := hc51x3) (by kernel_rfl) rfl rfl rfl (gok_cons g51x2 (gok_cons g51x1 (gok_cons g7 gok_nil)))
end Ca
