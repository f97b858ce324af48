/- A part of a proof. -/
import Derived.Test.YtkefopelclcljacC49x3
import Derived.Test.YtkefopelclcljacC68x2
import Derived.Test.YtkefopelclcljacC7
import Derived.KernelRfl
set_option linter.unusedVariables false
set_option linter.unusedSimpArgs false
set_option maxRecDepth 1000000
namespace Tu
open Go Ce Ce.L Ce.S
def wf0 : BE := .blk 140 (.cells [(Y 1), (Z 2), (Y 3), (Y 4), (Y 5), (Z 0), (.map 139)]) false
def wf1 : BE := .map 139 true [(.i .i64), (.i .i64), (.i .i64), (.i .i64), (.i .i64), (.i .i64), (.i .i64), (.i .i64)] (.agg [J, J, J, J, J]) none
def wf2 : BE := .loop 166 0 166 []
def wf3 : BE := .blk 165 (.cells [(Z 156)]) false
def wf4 : BE := .blk 164 (.cells [(.ptr 140 0)]) false
def wf5 : BE := .blk 161 (.cells [(.clo 49 [] [(.ptr 8 0), (.ptr 154 0), (.ptr 155 0), (.ptr 9 0)])]) false
def wf6 : BE := .blk 160 (.cells [(.ptr 140 0)]) false
def wf7 : BE := .blk 154 (.cells [(.ptr 140 0)]) false
def wf8 : BE := .blk 138 (.cells [(Y 1), (Z 2), (Y 3), (Y 4), (Y 5)]) false
def wf9 : BE := .blk 137 (.cells [(.bool false), (I 0 4)]) false
def qO : BE := .blk 16 (.cells [(Y 1), (Z 2), (Y 3), (Y 4), (Y 5)]) false
def qN : BE := .blk 15 (.cells [(.bool false), (I 0 4)]) false
def qM : BE := .blk 14 (.cells [(I 10 (-1))]) false
def qL : BE := .blk 13 (.cells [(Z 0)]) false
def qK : BE := .blk 12 (.cells [(.bool false), (I 0 4)]) false
def qJ : BE := .blk 11 (.cells [(Z 6)]) false
def qI : BE := .blk 8 (.cells [(Z 6)]) false
def qH : BE := .blk 7 (.cells [(Y 1), (Z 2), (Y 3), (Y 4), (Y 5)]) false
def ti : BE := .blk 168 (.cells [(.clo 87 [(.ptr 140 0)] [])]) false
def th : BE := .blk 167 (.cells [(.yld 166)]) false
def wc : BE := .blk 193 (.cells [(.clo 88 [] [(.ptr 164 0), (.ptr 191 0), (.ptr 192 0), (.ptr 168 0), (.ptr 165 0), (.ptr 167 0), (.ptr 193 0)])]) false
def wf21 : BE := .blk 192 (.cells [(Z 260), (Z 261), (Z 262), (Z 263), (Z 264), (Z 265), (Z 0), (Z 266)]) false
def wf22 : BE := .blk 191 (.cells [(Z 156), (Z 245), (Z 256), (Z 257), (Z 258), (Z 259), (Z 0), (Z 174)]) false
def wf23 : BE := .blk 9 (.cells [(Z 270), (Z 271)]) false
def h12x0 : Hint := .unroll
def h12x1 : Hint := .unroll
def h12x2 : Hint := .unroll
def h12x3 : Hint := .unroll
def h12x4 : Hint := .rng [] ⟨287, [(.agg [(Z 156), (Z 194), (Z 220), (Z 279), (Z 280), (Z 281), (Z 0), (Z 174)])], [D 285 286 0, D 286 0 X7, D 0 286 X8, D 285 0 X7, D 0 285 X8, .ty 284 .bool, D 281 0 X7, D 0 281 X8, D 280 0 X7, D 0 280 X8, D 279 0 X7, D 0 279 X8, D 0 194 0, D 0 174 X8, D 220 0 X7, D 194 0 6, D 174 0 X7, D 0 220 X8], [wf0, wf1, wf2, wf3, wf4, .blk 163 (.cells [(Z 282)]) false, .blk 162 (.cells [(Z 283)]) false, wf5, wf6, .blk 155 (.cells [(Y 284)]) false, wf7, wf8, wf9, qO, qN, qM, qL, qK, qJ, .blk 9 (.cells [(Z 285), (Z 286)]) false, qI, qH]⟩ [((.bool true), ⟨292, [], [D 290 291 0, D 291 0 X7, D 0 291 X8, D 290 0 X7, D 0 290 X8, .ty 289 .bool, D 287 0 X7, D 0 287 X8], [wf0, wf1, wf2, wf3, wf4, .blk 163 (.cells [(Z 287)]) false, .blk 162 (.cells [(Z 288)]) false, wf5, wf6, .blk 155 (.cells [(Y 289)]) false, wf7, wf8, wf9, qO, qN, qM, qL, qK, qJ, .blk 9 (.cells [(Z 290), (Z 291)]) false, qI, qH]⟩)]
def h12x5 : Hint := .inv ⟨191, [(Y 169), (Z 156), U, U, (Z 174), (Y 175), (Y 176)] ++ ys 170 4 ++ [(Y 4), (Z 79), (Z 177)] ++ ys 178 13 ++ [U], [D 177 10 0, D 177 79 0, D 0 177 0, D 177 0 X7, D 174 0 X7, D 0 174 X8], [ti, th, wf2, wf3, wf4, .blk 163 (.cells [(Z 0)]) false, .blk 162 (.cells [(Z 0)]) false, wf5, wf6, .blk 155 (.cells [(.bool true)]) false, wf7, wf0, wf1, wf8, wf9, qO, qN, qM, qL, qK, qJ, .blk 9 (.cells [(Z 0), (Z 0)]) false, qI, qH]⟩ ⟨79, 0⟩ ⟨177, 0⟩
def h12x6 : Hint := .inv ⟨255, [(Y 196), (.ptr 164 0), (.ptr 165 0), (Y 197), (Y 198), (.ptr 191 0), (Y 199), (.ptr 193 0)] ++ ys 200 38, [D 253 254 0, D 254 0 X7, D 0 254 X8, D 253 0 X7, D 0 253 X8, .ty 252 .bool, D 239 245 0, D 249 0 X7, D 0 249 X8, D 248 0 X7, D 0 248 X8, D 247 0 X7, D 0 247 X8, D 246 0 X7, D 0 246 X8, D 0 245 0, D 194 245 0, D 245 0 X7, D 244 0 X7, D 0 244 X8, D 243 0 X7, D 0 243 X8, D 242 0 X7, D 0 242 X8, D 241 0 X7, D 0 241 X8, D 240 0 X7, D 0 240 X8, D 0 239 0, D 239 0 X7, D 238 156 0, D 238 10 1, D 238 50 0, D 238 0 2, D 0 238 1], [wc, .blk 192 (.cells [(Z 238), (Z 239), (Z 240), (Z 241), (Z 242), (Z 243), (Z 0), (Z 244)]) false, .blk 191 (.cells [(Z 156), (Z 245), (Z 246), (Z 247), (Z 248), (Z 249), (Z 0), (Z 174)]) false, ti, th, wf2, wf3, wf4, .blk 163 (.cells [(Z 250)]) false, .blk 162 (.cells [(Z 251)]) false, wf5, wf6, .blk 155 (.cells [(Y 252)]) false, wf7, wf0, wf1, wf8, wf9, qO, qN, qM, qL, qK, qJ, .blk 9 (.cells [(Z 253), (Z 254)]) false, qI, qH]⟩ ⟨0, 100⟩ ⟨245, 0⟩
def h12x7 : Hint := .rcs 88 ⟨272, [(Z 255), (.ptr 164 0), (.ptr 191 0), (.ptr 192 0), (.ptr 168 0), (.ptr 165 0), (.ptr 167 0), (.ptr 193 0)], [D 270 271 0, D 271 0 X7, D 0 271 X8, D 270 0 X7, D 0 270 X8, .ty 269 .bool, D 266 0 X7, D 0 266 X8, D 265 0 X7, D 0 265 X8, D 264 0 X7, D 0 264 X8, D 263 0 X7, D 0 263 X8, D 262 0 X7, D 0 262 X8, D 261 245 0, D 261 245 1, D 0 261 1, D 0 261 0, D 239 261 0, D 261 0 X7, D 0 261 X8, D 260 156 0, D 260 156 1, D 260 10 1, D 260 50 0, D 260 50 1, D 260 79 1, D 260 0 2, D 0 260 1, D 238 260 0, D 260 0 X7, D 0 260 X8, D 259 0 X7, D 0 259 X8, D 258 0 X7, D 0 258 X8, D 257 0 X7, D 0 257 X8, D 256 0 X7, D 0 256 X8, D 255 10 0, D 255 10 1, D 255 79 0, D 255 79 1, D 0 255 1, D 0 255 0, D 255 0 X7, D 0 255 X8], [wc, wf21, wf22, ti, th, wf2, wf3, wf4, .blk 163 (.cells [(Z 267)]) false, .blk 162 (.cells [(Z 268)]) false, wf5, wf6, .blk 155 (.cells [(Y 269)]) false, wf7, wf0, wf1, wf8, wf9, qO, qN, qM, qL, qK, qJ, wf23, qI, qH]⟩ [((.bool true), ⟨358, [], [D 357 0 X7, D 0 357 X8, D 356 0 X7, D 0 356 X8, D 355 0 X7, D 0 355 X8, D 354 0 X7, D 0 354 X8, D 352 353 0, D 353 0 X7, D 0 353 X8, D 352 0 X7, D 0 352 X8, .ty 351 .bool, D 348 0 X7, D 0 348 X8, D 347 0 X7, D 0 347 X8, D 346 0 X7, D 0 346 X8, D 345 0 X7, D 0 345 X8, D 344 0 X7, D 0 344 X8, D 343 245 0, D 343 245 1, D 0 343 1, D 0 343 0, D 261 343 0, D 343 0 X7, D 0 343 X8, D 342 156 0, D 342 156 1, D 342 50 0, D 342 50 1, D 342 0 2, D 0 342 1, D 260 342 0, D 342 0 X7, D 0 342 X8], [wf0, wf1, wc, .blk 192 (.cells [(Z 342), (Z 343), (Z 344), (Z 345), (Z 346), (Z 347), (Z 0), (Z 348)]) false, .blk 191 (.cells [(Z 156), (Z 245), (Z 354), (Z 355), (Z 356), (Z 357), (Z 0), (Z 174)]) false, ti, th, wf2, wf3, wf4, .blk 163 (.cells [(Z 349)]) false, .blk 162 (.cells [(Z 350)]) false, wf5, wf6, .blk 155 (.cells [(Y 351)]) false, wf7, wf8, wf9, qO, qN, qM, qL, qK, qJ, .blk 9 (.cells [(Z 352), (Z 353)]) false, qI, qH]⟩)] ⟨79, 0⟩ ⟨255, 0⟩
def h12x8 : Hint := .inv ⟨330, [(.ptr 140 0), (Z 156), (Y 282), U, U, (.ptr 281 0), (Y 283), (Y 288), (Y 289)] ++ ys 284 4 ++ [(Y 5), (Z 108), (Z 290)] ++ ys 291 39, [D 290 108 0, D 0 290 0, D 290 0 X7], [.blk 281 (.cells [(Z 275), (Z 276), (Z 277), (Z 278), (Z 279)]) false, wf0, wf1, wc, wf21, wf22, ti, th, wf2, wf3, wf4, .blk 163 (.cells [(Z 267)]) false, .blk 162 (.cells [(Z 268)]) false, wf5, wf6, .blk 155 (.cells [(Y 269)]) false, wf7, wf8, wf9, qO, qN, qM, qL, qK, qJ, wf23, qI, qH]⟩ ⟨108, 0⟩ ⟨290, 0⟩
def h12x9 : Hint := .inv ⟨345, [(Z 255), (Y 279), (.ptr 191 0)] ++ ys 280 4 ++ [(.ptr 193 0), U, (Y 284), (.ptr 276 0), (Z 313)] ++ ys 285 8 ++ us 16 ++ ys 293 20 ++ ys 314 15, [D 343 344 0, D 344 0 X7, D 0 344 X8, D 343 0 X7, D 0 343 X8, .ty 342 .bool, D 339 0 X7, D 0 339 X8, D 338 0 X7, D 0 338 X8, D 337 0 X7, D 0 337 X8, D 336 0 X7, D 0 336 X8, D 335 0 X7, D 0 335 X8, D 334 0 X7, D 0 334 X8, D 333 0 X7, D 0 333 X8, D 332 0 X7, D 0 332 X8, D 331 0 X7, D 0 331 X8, D 330 245 0, D 0 330 0, D 261 330 0, D 330 0 X7, D 329 156 0, D 329 10 1, D 329 50 0, D 329 79 1, D 329 0 2, D 0 329 1, D 260 329 0, D 0 313 0, D 274 313 0, D 313 0 X7], [.blk 276 (.cells [(Z 274), (Z 274)]) false, wc, .blk 192 (.cells [(Z 329), (Z 330), (Z 331), (Z 332), (Z 333), (Z 334), (Z 0), (Z 335)]) false, .blk 191 (.cells [(Z 156), (Z 245), (Z 336), (Z 337), (Z 338), (Z 339), (Z 0), (Z 174)]) false, ti, th, wf2, wf3, wf4, .blk 163 (.cells [(Z 340)]) false, .blk 162 (.cells [(Z 341)]) false, wf5, wf6, .blk 155 (.cells [(Y 342)]) false, wf7, wf0, wf1, wf8, wf9, qO, qN, qM, qL, qK, qJ, .blk 9 (.cells [(Z 343), (Z 344)]) false, qI, qH]⟩ ⟨0, 100⟩ ⟨313, 0⟩
def h12x10 : Hint := .inv ⟨342, [(Z 255), (Y 279), (.ptr 191 0)] ++ ys 280 4 ++ [(.ptr 193 0), U, (Y 284), (.ptr 276 0), (Z 310)] ++ ys 285 8 ++ us 16 ++ ys 293 15 ++ [U, U, U, (Y 308), (Y 309)] ++ ys 311 15, [D 340 341 0, D 341 0 X7, D 0 341 X8, D 340 0 X7, D 0 340 X8, .ty 339 .bool, D 336 0 X7, D 0 336 X8, D 335 0 X7, D 0 335 X8, D 334 0 X7, D 0 334 X8, D 333 0 X7, D 0 333 X8, D 332 0 X7, D 0 332 X8, D 331 0 X7, D 0 331 X8, D 330 0 X7, D 0 330 X8, D 329 0 X7, D 0 329 X8, D 328 0 X7, D 0 328 X8, D 327 245 0, D 0 327 0, D 261 327 0, D 327 0 X7, D 326 156 0, D 326 10 1, D 326 50 0, D 326 79 1, D 326 0 2, D 0 326 1, D 260 326 0, D 0 310 0, D 274 310 0, D 310 0 X7], [.blk 276 (.cells [(Z 274), (Z 275)]) false, wc, .blk 192 (.cells [(Z 326), (Z 327), (Z 328), (Z 329), (Z 330), (Z 331), (Z 0), (Z 332)]) false, .blk 191 (.cells [(Z 156), (Z 245), (Z 333), (Z 334), (Z 335), (Z 336), (Z 0), (Z 174)]) false, ti, th, wf2, wf3, wf4, .blk 163 (.cells [(Z 337)]) false, .blk 162 (.cells [(Z 338)]) false, wf5, wf6, .blk 155 (.cells [(Y 339)]) false, wf7, wf0, wf1, wf8, wf9, qO, qN, qM, qL, qK, qJ, .blk 9 (.cells [(Z 340), (Z 341)]) false, qI, qH]⟩ ⟨0, 100⟩ ⟨310, 0⟩
def h12 : Hs := [h12x0, h12x1, h12x2, h12x3, h12x4, h12x5, h12x6, h12x7, h12x8, h12x9, h12x10]
theorem chk12 : da tbl [] 1000 [wK, fN, bu, tD] c12 Ts12 h12 (mY sh12) = true := by kernel_rfl
theorem ap12 : Ap12 := fun h => iA cI (rfl : tbl 12 = some c12) rfl chk12 (aQ g49x3 (aQ mt (aQ eg (aQ g7 bW)))) rfl h
end Tu
