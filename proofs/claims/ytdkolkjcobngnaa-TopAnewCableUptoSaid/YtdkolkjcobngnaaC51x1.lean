/- A part of a proof. -/
import Derived.Test.YtdkolkjcobngnaaC7
import Derived.KernelRfl
set_option linter.unusedVariables false
set_option linter.unusedSimpArgs false
set_option maxRecDepth 1000000
namespace Ca
open Go Ce Ce.L Ce.S
def wh0 : BE := .loop 199 0 199 [.ret]
def wh1 : BE := .blk 198 (.cells [(.ptr 196 0)]) false
def wh2 : BE := .blk 197 (.cells [(.bool false)]) false
def wh3 : BE := .blk 196 (.cells [(Z 1), (Z 2), (Z 3), (.vec 6 140 ⟨13, 0⟩), (.map 195)]) false
def wh4 : BE := .blk 140 (.cells [(Y 141), (Z 142), (Z 143), (I 193 1), (Z 145), (Z 146)]) false
def wh5 : BE := .loop 199 1 199 [.ret]
def wh6 : BE := .blk 197 (.cells [(.bool true)]) false
def wh7 : BE := .loop 203 0 203 [.ret]
def wh8 : BE := .blk 202 (.cells [(I 0 11)]) false
def wh9 : BE := .blk 201 (.cells [(.ptr 196 0)]) false
def wh10 : BE := .blk 200 (.cells [(.yld 199)]) false
def wh11 : BE := .blk 210 (.cells [(Z 209), (Z 0), (Z 0)]) false
def wh12 : BE := .blk 207 (.cells [(.clo 73 [] [(.ptr 201 0), (.ptr 205 0), (.ptr 206 0), (.ptr 204 0), (.ptr 202 0), (.ptr 207 0)])]) false
def wh13 : BE := .blk 204 (.cells [(.yld 203)]) false
def hc51x1_0 : Hint := .rng [.ret] ⟨254, [(.agg [(Z 253), (Z 0), (Z 0)])], [D 253 0 X7, D 0 253 X8], [wh0, wh1, wh2, wh3, .emap 195, wh4]⟩ [((.bool true), ⟨254, [], [], [wh0, wh1, wh2, wh3, .emap 195, wh4]⟩), ((.bool false), ⟨254, [], [], [wh5, wh1, wh6, wh3, .emap 195, wh4]⟩)]
def hc51x1_1 : Hint := .rng [.ret] ⟨210, [(.agg [(Z 209), (Z 0), (Z 0)])], [D 209 0 X7, D 0 209 X8], [wh7, wh8, wh9, wh10, wh0, wh1, wh2, wh3, .emap 195, wh4]⟩ [((.bool true), ⟨210, [], [], [wh7, wh8, wh9, wh10, wh0, wh1, wh2, wh3, .emap 195, wh4]⟩), ((.bool false), ⟨254, [], [], [wh5, wh1, wh6, wh3, .emap 195, wh4, .loop 203 1 203 [.ret], wh8, wh9, wh10]⟩)]
def hc51x1_2 : Hint := .inv ⟨254, [(Y 211), (.ptr 198 0), (.ptr 200 0), (.ptr 210 0), (Y 221), (Z 222), (Y 223)] ++ ys 212 9 ++ ys 224 30 ++ us 7, [D 222 3 1, D 0 222 0, D 2 222 0, D 222 0 X7, .ty 221 .bool], [wh11, .loop 203 2 203 [.ret], wh8, wh9, wh10, wh0, wh1, wh2, wh3, .emap 195, wh4]⟩ ⟨0, 100⟩ ⟨222, 0⟩
def hc51x1_3 : Hint := .inv ⟨309, [(Y 256), (Y 257), (Z 222), U, (.ptr 254 0), U, (.ptr 255 0), (.clo 74 [(.ptr 196 0)] []), (Y 264), (Y 265)] ++ ys 258 6 ++ [(.vec 6 140 ⟨13, 0⟩), (Z 13), (Z 266)] ++ ys 267 4 ++ ys 277 7 ++ ys 271 5 ++ ys 284 8 ++ ys 293 14 ++ [(Y 276), U], [D 308 0 X7, D 0 308 X8, D 307 0 X7, D 0 307 X8, D 292 0 X7, D 0 292 X8, D 266 3 1, D 266 2 1, D 266 1 0, D 266 13 0, D 266 222 1, D 266 0 1, D 0 266 0], [.blk 255 (.cells [(Z 307), (Z 308), (Z 292)]) false, .blk 254 (.cells [(Z 209), (Z 0), (Z 0)]) false, wh11, .loop 203 2 203 [.ret], wh8, wh9, wh10, wh0, wh1, wh2, wh3, .emap 195, wh4]⟩ ⟨13, 0⟩ ⟨266, 0⟩
def hc51x1_4 : Hint := .unroll
def hc51x1_5 : Hint := .rcs 73 ⟨211, [(Z 208), (.ptr 201 0), (.ptr 205 0), (.ptr 206 0), (.ptr 204 0), (.ptr 202 0), (.ptr 207 0)], [D 210 0 X7, D 0 210 X8, D 209 0 X7, D 0 209 X8, D 208 13 0, D 208 13 1, D 208 3 1, D 208 2 1, D 208 1 0, D 208 1 1, D 208 0 2, D 0 208 1, D 208 0 1, D 0 208 0, D 208 0 X7, D 0 208 X8], [wh12, .blk 206 (.cells [(Z 210), (Z 0), (Z 0)]) false, .blk 205 (.cells [(Z 209), (Z 0), (Z 0)]) false, wh13, wh7, wh8, wh9, wh10, wh0, wh1, wh2, wh3, .emap 195, wh4]⟩ [((.bool true), ⟨214, [], [D 213 0 X7, D 0 213 X8, D 212 0 X7, D 0 212 X8], [wh12, .blk 206 (.cells [(Z 212), (Z 0), (Z 0)]) false, .blk 205 (.cells [(Z 213), (Z 0), (Z 0)]) false, wh13, wh7, wh8, wh9, wh10, wh0, wh1, wh2, wh3, .emap 195, wh4]⟩), ((.bool false), ⟨258, [], [D 257 256 0, D 256 257 0, D 257 0 X7, D 0 257 X8, D 256 0 X7, D 0 256 X8], [wh5, wh1, wh6, wh3, .emap 195, wh4, .loop 203 1 203 [.ret], wh8, wh9, wh10, wh12, .blk 206 (.cells [(Z 256), (Z 0), (Z 0)]) false, .blk 205 (.cells [(Z 257), (Z 0), (Z 0)]) false, wh13]⟩)] ⟨1, 0⟩ ⟨208, 0⟩
def hc51x1_6 : Hint := .inv ⟨244, [(Z 208), (Y 211), (.ptr 205 0), (Y 212), (Y 213), (.ptr 202 0), (.ptr 207 0), U, (Y 214), (Y 224)] ++ ys 215 8 ++ us 7 ++ [(Y 223), (I 0 12), (Z 225)] ++ ys 226 8 ++ [(Y 242), (Y 243)] ++ ys 234 6, [D 241 0 X7, D 0 241 X8, D 240 0 X7, D 0 240 X8, D 208 225 0, D 0 225 0, D 225 0 X7], [wh12, .blk 206 (.cells [(Z 240), (Z 0), (Z 0)]) false, .blk 205 (.cells [(Z 241), (Z 0), (Z 0)]) false, wh13, wh7, wh8, wh9, wh10, wh0, wh1, wh2, wh3, .emap 195, wh4]⟩ ⟨0, 100⟩ ⟨225, 0⟩
def hc51x1 : Hs := [hc51x1_0, hc51x1_1, hc51x1_2, hc51x1_3, hc51x1_4, hc51x1_5, hc51x1_6]
def con51x1 : Con := ⟨false, 51, 1, ⟨197, [(.ptr 196 0)], [D 0 193 X8, D 0 13 0, D 0 142 X8, D 0 143 X8, D 0 145 X8, D 0 146 X8, D 0 3 0, D 0 2 0, D 0 1 0, D 1 0 200, D 3 0 10, D 143 0 X7, D 193 0 8, D 145 0 X7, D 13 0 1, D 2 3 0, D 2 0 10, D 146 0 X7, D 142 0 X7, .ty 141 .str, D 13 1 0], [wh3, .emap 195, wh4]⟩, [((.bool false), ⟨211, [], [], [wh3, .emap 195, wh4]⟩), ((.bool true), ⟨255, [], [], [wh3, .emap 195, wh4]⟩)], ⟨0, 0⟩, ⟨0, 0⟩, none⟩
theorem g51x1 : ∀ v : V, v.i 0 = 0 → GOK1 tbl v 1 con51x1 := con_chkE nameOK (n := 1000) (Γ := [con7]) (hs := hc51x1) (by kernel_rfl) rfl rfl rfl (gok_cons g7 gok_nil)
end Ca
