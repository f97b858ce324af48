/- A part of a proof. -/
import Derived.Test.YtkefopelclcljacC58x3
import Derived.Test.YtkefopelclcljacC68x2
import Derived.Test.YtkefopelclcljacC7
import Derived.KernelRfl
set_option linter.unusedVariables false
set_option linter.unusedSimpArgs false
set_option maxRecDepth 1000000
namespace Tu
open Go Ce Ce.L Ce.S
def wl0 : BE := .blk 142 (.cells [(Y 1), (Z 2), (Y 3), (Y 4), (Y 5), (Z 0), (.map 141)]) false
def wl1 : BE := .map 141 true [(.i .i64), (.i .i64), (.i .i64), (.i .i64), (.i .i64), (.i .i64), (.i .i64), (.i .i64)] (.agg [J, J, J, J, J]) none
def wl2 : BE := .loop 167 0 167 []
def wl3 : BE := .blk 166 (.cells [(Z 157)]) false
def wl4 : BE := .blk 165 (.cells [(.ptr 142 0)]) false
def wl5 : BE := .blk 162 (.cells [(.clo 58 [] [(.ptr 9 0), (.ptr 156 0), (.ptr 10 0)])]) false
def wl6 : BE := .blk 161 (.cells [(.ptr 142 0)]) false
def wl7 : BE := .blk 156 (.cells [(.ptr 142 0)]) false
def wl8 : BE := .blk 140 (.cells [(Y 1), (Z 2), (Y 3), (Y 4), (Y 5)]) false
def wl9 : BE := .blk 139 (.cells [(.eqc false 6 7 0), (I 0 2)]) false
def pp : BE := .blk 138 (.cells [(.bool false), (I 0 4)]) false
def po : BE := .blk 17 (.cells [(Y 1), (Z 2), (Y 3), (Y 4), (Y 5)]) false
def pm : BE := .blk 16 (.cells [(.bool false), (I 0 4), (.eqc false 6 7 0), (I 0 2)]) false
def pk : BE := .blk 15 (.cells [(I 11 (-1))]) false
def ph : BE := .blk 14 (.cells [(Z 0)]) false
def pg : BE := .blk 13 (.cells [(.bool false), (I 0 4)]) false
def pf : BE := .blk 12 (.cells [(Z 6), (Z 7)]) false
def pd : BE := .blk 10 (.cells [(Z 7)]) false
def pc : BE := .blk 9 (.cells [(Z 6)]) false
def pb : BE := .blk 8 (.cells [(Y 1), (Z 2), (Y 3), (Y 4), (Y 5)]) false
def ta : BE := .blk 169 (.cells [(.clo 87 [(.ptr 142 0)] [])]) false
def tZ : BE := .blk 168 (.cells [(.yld 167)]) false
def w8 : BE := .blk 194 (.cells [(.clo 88 [] [(.ptr 165 0), (.ptr 192 0), (.ptr 193 0), (.ptr 169 0), (.ptr 166 0), (.ptr 168 0), (.ptr 194 0)])]) false
def wl23 : BE := .blk 193 (.cells [(Z 258), (Z 259), (Z 260), (Z 261), (Z 262), (Z 263), (Z 0), (Z 264)]) false
def wl24 : BE := .blk 192 (.cells [(Z 157), (Z 246), (Z 254), (Z 255), (Z 256), (Z 257), (Z 0), (Z 175)]) false
def h23x0 : Hint := .unroll
def h23x1 : Hint := .unroll
def h23x2 : Hint := .unroll
def h23x3 : Hint := .unroll
def h23x4 : Hint := .unroll
def h23x5 : Hint := .unroll
def h23x6 : Hint := .rng [] ⟨285, [(.agg [(Z 157), (Z 195), (Z 221), (Z 280), (Z 281), (Z 282), (Z 0), (Z 175)])], [D 282 0 X7, D 0 282 X8, D 281 0 X7, D 0 281 X8, D 280 0 X7, D 0 280 X8, D 0 195 0, D 0 175 X8, D 175 0 X7, D 195 0 6, D 221 0 X7, D 0 221 X8], [wl0, wl1, wl2, wl3, wl4, .blk 164 (.cells [(Z 283)]) false, .blk 163 (.cells [(Z 284)]) false, wl5, wl6, wl7, wl8, wl9, pp, po, pm, pk, ph, pg, pf, pd, pc, pb]⟩ [((.bool true), ⟨287, [], [D 285 0 X7, D 0 285 X8], [wl0, wl1, wl2, wl3, wl4, .blk 164 (.cells [(Z 285)]) false, .blk 163 (.cells [(Z 286)]) false, wl5, wl6, wl7, wl8, wl9, pp, po, pm, pk, ph, pg, pf, pd, pc, pb]⟩)]
def h23x7 : Hint := .inv ⟨192, [(Y 170), (Z 157), U, U, (Z 175), (Y 176), (Y 177)] ++ ys 171 4 ++ [(Y 4), (Z 80), (Z 178)] ++ ys 179 13 ++ [U], [D 178 11 0, D 178 80 0, D 0 178 0, D 178 0 X7, D 175 0 X7, D 0 175 X8], [ta, tZ, wl2, wl3, wl4, .blk 164 (.cells [(Z 0)]) false, .blk 163 (.cells [(Z 0)]) false, wl5, wl6, wl7, wl0, wl1, wl8, wl9, pp, po, pm, pk, ph, pg, pf, pd, pc, pb]⟩ ⟨80, 0⟩ ⟨178, 0⟩
def h23x8 : Hint := .inv ⟨253, [(Y 197), (.ptr 165 0), (.ptr 166 0), (Y 198), (Y 199), (.ptr 192 0), (Y 200), (.ptr 194 0)] ++ ys 201 38, [D 240 246 0, D 250 0 X7, D 0 250 X8, D 249 0 X7, D 0 249 X8, D 248 0 X7, D 0 248 X8, D 247 0 X7, D 0 247 X8, D 0 246 0, D 195 246 0, D 246 0 X7, D 245 0 X7, D 0 245 X8, D 244 0 X7, D 0 244 X8, D 243 0 X7, D 0 243 X8, D 242 0 X7, D 0 242 X8, D 241 0 X7, D 0 241 X8, D 0 240 0, D 240 0 X7, D 239 157 0, D 239 11 1, D 239 51 0, D 239 0 2, D 0 239 1], [w8, .blk 193 (.cells [(Z 239), (Z 240), (Z 241), (Z 242), (Z 243), (Z 244), (Z 0), (Z 245)]) false, .blk 192 (.cells [(Z 157), (Z 246), (Z 247), (Z 248), (Z 249), (Z 250), (Z 0), (Z 175)]) false, ta, tZ, wl2, wl3, wl4, .blk 164 (.cells [(Z 251)]) false, .blk 163 (.cells [(Z 252)]) false, wl5, wl6, wl7, wl0, wl1, wl8, wl9, pp, po, pm, pk, ph, pg, pf, pd, pc, pb]⟩ ⟨0, 100⟩ ⟨246, 0⟩
def h23x9 : Hint := .rcs 88 ⟨267, [(Z 253), (.ptr 165 0), (.ptr 192 0), (.ptr 193 0), (.ptr 169 0), (.ptr 166 0), (.ptr 168 0), (.ptr 194 0)], [D 264 0 X7, D 0 264 X8, D 263 0 X7, D 0 263 X8, D 262 0 X7, D 0 262 X8, D 261 0 X7, D 0 261 X8, D 260 0 X7, D 0 260 X8, D 259 246 0, D 259 246 1, D 0 259 1, D 0 259 0, D 240 259 0, D 259 0 X7, D 0 259 X8, D 258 157 0, D 258 157 1, D 258 11 1, D 258 51 0, D 258 51 1, D 258 80 1, D 258 0 2, D 0 258 1, D 239 258 0, D 258 0 X7, D 0 258 X8, D 257 0 X7, D 0 257 X8, D 256 0 X7, D 0 256 X8, D 255 0 X7, D 0 255 X8, D 254 0 X7, D 0 254 X8, D 253 11 0, D 253 11 1, D 253 80 0, D 253 80 1, D 0 253 1, D 0 253 0, D 253 0 X7, D 0 253 X8], [w8, wl23, wl24, ta, tZ, wl2, wl3, wl4, .blk 164 (.cells [(Z 265)]) false, .blk 163 (.cells [(Z 266)]) false, wl5, wl6, wl7, wl0, wl1, wl8, wl9, pp, po, pm, pk, ph, pg, pf, pd, pc, pb]⟩ [((.bool true), ⟨350, [], [D 349 0 X7, D 0 349 X8, D 348 0 X7, D 0 348 X8, D 347 0 X7, D 0 347 X8, D 346 0 X7, D 0 346 X8, D 343 0 X7, D 0 343 X8, D 342 0 X7, D 0 342 X8, D 341 0 X7, D 0 341 X8, D 340 0 X7, D 0 340 X8, D 339 0 X7, D 0 339 X8, D 338 246 0, D 338 246 1, D 0 338 1, D 0 338 0, D 259 338 0, D 338 0 X7, D 0 338 X8, D 337 157 0, D 337 157 1, D 337 51 0, D 337 51 1, D 337 0 2, D 0 337 1, D 258 337 0, D 337 0 X7, D 0 337 X8], [wl0, wl1, w8, .blk 193 (.cells [(Z 337), (Z 338), (Z 339), (Z 340), (Z 341), (Z 342), (Z 0), (Z 343)]) false, .blk 192 (.cells [(Z 157), (Z 246), (Z 346), (Z 347), (Z 348), (Z 349), (Z 0), (Z 175)]) false, ta, tZ, wl2, wl3, wl4, .blk 164 (.cells [(Z 344)]) false, .blk 163 (.cells [(Z 345)]) false, wl5, wl6, wl7, wl8, wl9, pp, po, pm, pk, ph, pg, pf, pd, pc, pb]⟩)] ⟨80, 0⟩ ⟨253, 0⟩
def h23x10 : Hint := .inv ⟨325, [(.ptr 142 0), (Z 157), (Y 277), U, U, (.ptr 276 0), (Y 278), (Y 283), (Y 284)] ++ ys 279 4 ++ [(Y 5), (Z 109), (Z 285)] ++ ys 286 39, [D 285 109 0, D 0 285 0, D 285 0 X7], [.blk 276 (.cells [(Z 270), (Z 271), (Z 272), (Z 273), (Z 274)]) false, wl0, wl1, w8, wl23, wl24, ta, tZ, wl2, wl3, wl4, .blk 164 (.cells [(Z 265)]) false, .blk 163 (.cells [(Z 266)]) false, wl5, wl6, wl7, wl8, wl9, pp, po, pm, pk, ph, pg, pf, pd, pc, pb]⟩ ⟨109, 0⟩ ⟨285, 0⟩
def h23x11 : Hint := .inv ⟨337, [(Z 253), (Y 274), (.ptr 192 0)] ++ ys 275 4 ++ [(.ptr 194 0), U, (Y 279), (.ptr 271 0), (Z 308)] ++ ys 280 8 ++ us 16 ++ ys 288 20 ++ ys 309 15, [D 334 0 X7, D 0 334 X8, D 333 0 X7, D 0 333 X8, D 332 0 X7, D 0 332 X8, D 331 0 X7, D 0 331 X8, D 330 0 X7, D 0 330 X8, D 329 0 X7, D 0 329 X8, D 328 0 X7, D 0 328 X8, D 327 0 X7, D 0 327 X8, D 326 0 X7, D 0 326 X8, D 325 246 0, D 0 325 0, D 259 325 0, D 325 0 X7, D 324 157 0, D 324 11 1, D 324 51 0, D 324 80 1, D 324 0 2, D 0 324 1, D 258 324 0, D 0 308 0, D 269 308 0, D 308 0 X7], [.blk 271 (.cells [(Z 269), (Z 269)]) false, w8, .blk 193 (.cells [(Z 324), (Z 325), (Z 326), (Z 327), (Z 328), (Z 329), (Z 0), (Z 330)]) false, .blk 192 (.cells [(Z 157), (Z 246), (Z 331), (Z 332), (Z 333), (Z 334), (Z 0), (Z 175)]) false, ta, tZ, wl2, wl3, wl4, .blk 164 (.cells [(Z 335)]) false, .blk 163 (.cells [(Z 336)]) false, wl5, wl6, wl7, wl0, wl1, wl8, wl9, pp, po, pm, pk, ph, pg, pf, pd, pc, pb]⟩ ⟨0, 100⟩ ⟨308, 0⟩
def h23x12 : Hint := .inv ⟨334, [(Z 253), (Y 274), (.ptr 192 0)] ++ ys 275 4 ++ [(.ptr 194 0), U, (Y 279), (.ptr 271 0), (Z 305)] ++ ys 280 8 ++ us 16 ++ ys 288 15 ++ [U, U, U, (Y 303), (Y 304)] ++ ys 306 15, [D 331 0 X7, D 0 331 X8, D 330 0 X7, D 0 330 X8, D 329 0 X7, D 0 329 X8, D 328 0 X7, D 0 328 X8, D 327 0 X7, D 0 327 X8, D 326 0 X7, D 0 326 X8, D 325 0 X7, D 0 325 X8, D 324 0 X7, D 0 324 X8, D 323 0 X7, D 0 323 X8, D 322 246 0, D 0 322 0, D 259 322 0, D 322 0 X7, D 321 157 0, D 321 11 1, D 321 51 0, D 321 80 1, D 321 0 2, D 0 321 1, D 258 321 0, D 0 305 0, D 269 305 0, D 305 0 X7], [.blk 271 (.cells [(Z 269), (Z 270)]) false, w8, .blk 193 (.cells [(Z 321), (Z 322), (Z 323), (Z 324), (Z 325), (Z 326), (Z 0), (Z 327)]) false, .blk 192 (.cells [(Z 157), (Z 246), (Z 328), (Z 329), (Z 330), (Z 331), (Z 0), (Z 175)]) false, ta, tZ, wl2, wl3, wl4, .blk 164 (.cells [(Z 332)]) false, .blk 163 (.cells [(Z 333)]) false, wl5, wl6, wl7, wl0, wl1, wl8, wl9, pp, po, pm, pk, ph, pg, pf, pd, pc, pb]⟩ ⟨0, 100⟩ ⟨305, 0⟩
def h23 : Hs := [h23x0, h23x1, h23x2, h23x3, h23x4, h23x5, h23x6, h23x7, h23x8, h23x9, h23x10, h23x11, h23x12]
theorem chk23 : da tbl [] 1000 [wH, fN, bu, tD] c23 Ts23 h23 (mY sh23) = true := by kernel_rfl
theorem ap23 : Ap23 := fun h => iA cI (rfl : tbl 23 = some c23) rfl chk23 (aQ g58x3 (aQ mt (aQ eg (aQ g7 bW)))) rfl h
end Tu
