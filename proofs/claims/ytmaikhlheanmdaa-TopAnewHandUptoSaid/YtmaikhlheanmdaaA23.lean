/- A part of a proof. -/
import Derived.Test.YtmaikhlheanmdaaC11
import Derived.Test.YtmaikhlheanmdaaC63x2
import Derived.KernelRfl
set_option linter.unusedVariables false
set_option linter.unusedSimpArgs false
set_option maxRecDepth 1000000
namespace Ha
open Go Ce Ce.L Ce.S
def wi0 : BE := .loop 150 0 150 []
def wi1 : BE := .blk 149 (.cells [(.ptr 78 0)]) false
def wi2 : BE := .blk 148 (.cells [(.ptr 78 0)]) false
def wi3 : BE := .blk 78 (.cells [(Y 1), (Y 2), (Y 3), (Z 0), (.map 77)]) false
def wi4 : BE := .map 77 true [(.i .i64), (.i .i64)] J none
def wi5 : BE := .blk 76 (.cells [(Y 1), (Y 2), (Y 3)]) false
def wi6 : BE := .blk 75 (.cells [(I 8 (-1))]) false
def wi7 : BE := .blk 74 (.cells [(Z 0)]) false
def wi8 : BE := .blk 73 (.cells [(Z 4)]) false
def wi9 : BE := .blk 11 (.cells [(Y 1), (Y 2), (Y 3)]) false
def lT : BE := .blk 10 (.cells [(Z 8)]) false
def lS : BE := .blk 9 (.cells [(Z 4)]) false
def vP : BE := .blk 7 (.cells [(Z 209), (Z 210)]) false
def lR : BE := .blk 6 (.cells [(Z 4)]) false
def lQ : BE := .blk 5 (.cells [(Y 1), (Y 2), (Y 3)]) false
def wo : BE := .blk 211 (.cells [(Z 203), (Z 204), (Z 205), (Z 206), (Z 207), (Z 208)]) false
def wn : BE := .loop 150 2 150 []
def wi17 : BE := .blk 283 (.cells [(Z 281), (Z 282)]) false
def qBB : BE := .blk 277 (.cells [(Z 238), (Z 276)]) false
def wi19 : BE := .blk 282 (.cells [(Z 280), (Z 281)]) false
def wm : BE := .blk 155 (.cells [(.clo 81 [] [(.ptr 149 0), (.ptr 153 0), (.ptr 154 0), (.ptr 152 0), (.ptr 151 0), (.ptr 155 0)])]) false
def wi21 : BE := .blk 154 (.cells [(Z 163), (Z 164), (Z 165), (Z 166), (Z 167), (Z 168)]) false
def wi22 : BE := .blk 153 (.cells [(Z 157), (Z 158), (Z 159), (Z 160), (Z 161), (Z 162)]) false
def wl : BE := .blk 152 (.cells [(.clo 80 [(.ptr 78 0)] [])]) false
def wj : BE := .blk 151 (.cells [(.yld 150)]) false
def wi25 : BE := .blk 7 (.cells [(Z 169), (Z 170)]) false
def h23x0 : Hint := .unroll
def h23x1 : Hint := .rng [] ⟨211, [(.agg [(Z 203), (Z 204), (Z 205), (Z 206), (Z 207), (Z 208)])], [D 0 210 0, D 210 0 X7, D 209 0 72, D 0 209 X8, D 208 0 12, D 0 208 0, D 207 0 12, D 0 207 0, D 206 0 12, D 0 206 0, D 205 0 12, D 0 205 0, D 204 0 12, D 0 204 0, D 203 0 12, D 0 203 0], [wi0, wi1, wi2, wi3, wi4, wi5, wi6, wi7, wi8, wi9, lT, lS, vP, lR, lQ]⟩ [((.bool true), ⟨213, [], [D 0 212 1, D 0 212 0, D 210 212 0, D 212 0 X7, D 0 212 X8, D 211 0 72, D 211 209 0, D 211 0 X7, D 0 211 X8], [wi0, wi1, wi2, wi3, wi4, wi5, wi6, wi7, wi8, wi9, lT, lS, .blk 7 (.cells [(Z 211), (Z 212)]) false, lR, lQ]⟩)]
def h23x2 : Hint := .inv ⟨276, [(Y 212), (Y 213), (Y 214), (.ptr 6 0), (.ptr 7 0), (Y 215), (.ptr 148 0), (.ptr 211 0), (Z 234), (Z 235), (Y 236), (Y 237)] ++ ys 216 12 ++ [U, U] ++ ys 228 6 ++ [(Z 35), (Z 238)] ++ ys 239 24 ++ ys 264 12 ++ [(Y 263)] ++ us 10, [D 238 35 0, D 238 0 9, D 0 238 0, D 235 0 X7, D 0 235 X8, D 234 0 X7, D 0 234 X8], [wo, wn, wi1, wi2, wi3, wi4, wi5, wi6, wi7, wi8, wi9, lT, lS, vP, lR, lQ]⟩ ⟨35, 0⟩ ⟨238, 0⟩
def h23x3 : Hint := .inv ⟨331, [(.ptr 78 0), (Y 285), U, (.ptr 277 0), (Y 286), (Y 287), (Z 308), (.ptr 283 0), (.ptr 309 0), (Y 311)] ++ ys 288 8 ++ [U] ++ ys 296 12 ++ ys 312 19 ++ us 7, [D 310 0 12, D 0 310 0, D 281 310 0, D 308 0 X7, D 0 308 X8], [.blk 309 (.cells [(Z 310)]) false, wi17, qBB, wo, wn, wi1, wi2, wi3, wi4, wi5, wi6, wi7, wi8, wi9, lT, lS, vP, lR, lQ]⟩ ⟨0, 100⟩ ⟨310, 0⟩
def h23x4 : Hint := .inv ⟨344, [(Y 1), (.clo 83 [] [(.ptr 277 0), (.ptr 309 0)]), U, U, (Y 331), (Y 333), (Y 332), (Z 13), (Z 334)] ++ ys 335 8 ++ [U, (Y 343)], [D 334 8 0, D 334 13 0, D 334 0 9, D 0 334 0], [.blk 309 (.cells [(Z 310)]) false, wi17, qBB, wo, wn, wi1, wi2, wi3, wi4, wi5, wi6, wi7, wi8, wi9, lT, lS, vP, lR, lQ]⟩ ⟨13, 0⟩ ⟨334, 0⟩
def h23x5 : Hint := .inv ⟨330, [(.ptr 78 0), (Y 284), U, (.ptr 277 0), (Y 285), (Y 286), (Z 307), (.ptr 282 0), (.ptr 308 0), (Y 310)] ++ ys 287 8 ++ [U] ++ ys 295 12 ++ ys 311 19 ++ us 7, [D 309 0 12, D 0 309 0, D 280 309 0, D 307 0 X7, D 0 307 X8], [.blk 308 (.cells [(Z 309)]) false, wi19, qBB, wo, wn, wi1, wi2, wi3, wi4, wi5, wi6, wi7, wi8, wi9, lT, lS, vP, lR, lQ]⟩ ⟨0, 100⟩ ⟨309, 0⟩
def h23x6 : Hint := .inv ⟨343, [(Y 1), (.clo 83 [] [(.ptr 277 0), (.ptr 308 0)]), U, U, (Y 330), (Y 332), (Y 331), (Z 13), (Z 333)] ++ ys 334 8 ++ [U, (Y 342)], [D 333 8 0, D 333 13 0, D 333 0 9, D 0 333 0], [.blk 308 (.cells [(Z 309)]) false, wi19, qBB, wo, wn, wi1, wi2, wi3, wi4, wi5, wi6, wi7, wi8, wi9, lT, lS, vP, lR, lQ]⟩ ⟨13, 0⟩ ⟨333, 0⟩
def h23x7 : Hint := .rcs 81 ⟨171, [(Z 156), (.ptr 149 0), (.ptr 153 0), (.ptr 154 0), (.ptr 152 0), (.ptr 151 0), (.ptr 155 0)], [D 0 170 0, D 170 0 X7, D 169 0 72, D 168 0 12, D 0 168 0, D 167 0 12, D 0 167 0, D 166 0 12, D 0 166 0, D 165 0 12, D 0 165 0, D 164 0 12, D 0 164 0, D 163 0 12, D 0 163 0, D 162 0 12, D 0 162 0, D 161 0 12, D 0 161 0, D 160 0 12, D 0 160 0, D 159 0 12, D 0 159 0, D 158 0 12, D 0 158 0, D 157 0 12, D 0 157 0, D 156 35 0, D 156 0 9, D 0 156 0, D 0 169 X8], [wm, wi21, wi22, wl, wj, wi0, wi1, wi2, wi3, wi4, wi5, wi6, wi7, wi8, wi9, lT, lS, wi25, lR, lQ]⟩ [((.bool true), ⟨261, [], [D 260 0 12, D 0 260 0, D 259 0 12, D 0 259 0, D 258 0 12, D 0 258 0, D 257 0 12, D 0 257 0, D 256 0 12, D 0 256 0, D 255 0 12, D 0 255 0, D 0 254 0, D 254 0 X7, D 253 0 72, D 253 169 0, D 0 253 X8, D 252 0 12, D 0 252 0, D 251 0 12, D 0 251 0, D 250 0 12, D 0 250 0, D 249 0 12, D 0 249 0, D 248 0 12, D 0 248 0, D 247 0 12, D 0 247 0], [wm, .blk 154 (.cells [(Z 247), (Z 248), (Z 249), (Z 250), (Z 251), (Z 252)]) false, .blk 153 (.cells [(Z 255), (Z 256), (Z 257), (Z 258), (Z 259), (Z 260)]) false, wl, wj, wi0, wi1, wi2, wi3, wi4, wi5, wi6, wi7, wi8, wi9, lT, lS, .blk 7 (.cells [(Z 253), (Z 254)]) false, lR, lQ]⟩)] ⟨35, 0⟩ ⟨156, 0⟩
def h23x8 : Hint := .inv ⟨219, [(.ptr 78 0), (Y 173), U, (.ptr 172 0), (Y 174)] ++ ys 179 5 ++ ys 175 4 ++ [(Y 3), (Z 54), (Z 184)] ++ ys 185 34, [D 184 54 0, D 184 0 5, D 0 184 0], [.blk 172 (.cells [(Z 157), (Z 158), (Z 159), (Z 160), (Z 161), (Z 162)]) false, wm, wi21, wi22, wl, wj, wi0, wi1, wi2, wi3, wi4, wi5, wi6, wi7, wi8, wi9, lT, lS, wi25, lR, lQ]⟩ ⟨54, 0⟩ ⟨184, 0⟩
def h23x9 : Hint := .unroll
def h23x10 : Hint := .inv ⟨218, [(.ptr 78 0), (Y 172), U, (.ptr 171 0), (Y 173)] ++ ys 178 5 ++ ys 174 4 ++ [(Y 3), (Z 54), (Z 183)] ++ ys 184 34, [D 35 183 0, D 183 54 0, D 183 0 5, D 0 183 0], [.blk 171 (.cells [(Z 157), (Z 158), (Z 159), (Z 160), (Z 161), (Z 162)]) false, wm, wi21, wi22, wl, wj, wi0, wi1, wi2, wi3, wi4, wi5, wi6, wi7, wi8, wi9, lT, lS, wi25, lR, lQ]⟩ ⟨54, 0⟩ ⟨183, 0⟩
def h23x11 : Hint := .unroll
def h23x12 : Hint := .inv ⟨229, [(Z 156), (Y 176), (.ptr 153 0), (Y 177), (Y 178), (Y 179), (.ptr 155 0), U, (Y 180), (.ptr 175 0), (Z 200)] ++ ys 181 8 ++ us 17 ++ ys 189 11 ++ ys 201 14, [D 0 228 0, D 228 0 X7, D 227 0 72, D 227 169 0, D 0 227 X8, D 226 0 12, D 0 226 0, D 225 0 12, D 0 225 0, D 224 0 12, D 0 224 0, D 223 0 12, D 0 223 0, D 222 0 12, D 0 222 0, D 221 0 12, D 0 221 0, D 220 0 12, D 0 220 0, D 219 0 12, D 0 219 0, D 218 0 12, D 0 218 0, D 217 0 12, D 0 217 0, D 216 0 12, D 0 216 0, D 215 0 12, D 0 215 0, D 200 0 72, D 0 200 (-1), D 171 200 0], [.blk 175 (.cells [(Z 171), (Z 172)]) false, wm, .blk 154 (.cells [(Z 215), (Z 216), (Z 217), (Z 218), (Z 219), (Z 220)]) false, .blk 153 (.cells [(Z 221), (Z 222), (Z 223), (Z 224), (Z 225), (Z 226)]) false, wl, wj, wi0, wi1, wi2, wi3, wi4, wi5, wi6, wi7, wi8, wi9, lT, lS, .blk 7 (.cells [(Z 227), (Z 228)]) false, lR, lQ]⟩ ⟨0, 100⟩ ⟨200, 0⟩
def h23 : Hs := [h23x0, h23x1, h23x2, h23x3, h23x4, h23x5, h23x6, h23x7, h23x8, h23x9, h23x10, h23x11, h23x12]
theorem chk23 : di tbl [(7, [.str], .bool)] 1000 [fP, lM] c23 Ts23 h23 (md sh23) = true := by kernel_rfl
theorem ap23 : Ap23 := fun h => iH d8 (rfl : tbl 23 = some c23) rfl chk23 (ax nE (ax g11 dE)) rfl h
end Ha
