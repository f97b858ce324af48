/- A part of a proof. -/
import Derived.Test.YtkefopelclcljacC56x3
import Derived.Test.YtkefopelclcljacC68x2
import Derived.Test.YtkefopelclcljacC7
import Derived.KernelRfl
set_option linter.unusedVariables false
set_option linter.unusedSimpArgs false
set_option maxRecDepth 1000000
namespace Tu
open Go Ce Ce.L Ce.S
def wj0 : BE := .vec 171 1 [(.int .i64 ⟨0, 0⟩ ⟨77, (-1)⟩)] ⟨172, 0⟩ false
def wj1 : BE := .blk 152 (.cells [(.ptr 138 0)]) false
def wj2 : BE := .blk 138 (.cells [(Y 1), (Z 2), (Y 3), (Y 4), (Y 5), (Z 0), (.map 137)]) false
def wj3 : BE := .map 137 true [(.i .i64), (.i .i64), (.i .i64), (.i .i64), (.i .i64), (.i .i64), (.i .i64), (.i .i64)] (.agg [J, J, J, J, J]) none
def wj4 : BE := .blk 136 (.cells [(Y 1), (Z 2), (Y 3), (Y 4), (Y 5)]) false
def wj5 : BE := .blk 135 (.cells [(.bool false), (I 0 4)]) false
def wj6 : BE := .blk 14 (.cells [(Y 1), (Z 2), (Y 3), (Y 4), (Y 5)]) false
def wj7 : BE := .blk 13 (.cells [(.bool false), (I 0 4)]) false
def wj8 : BE := .blk 12 (.cells [(I 8 (-1))]) false
def wj9 : BE := .blk 11 (.cells [(Z 0)]) false
def nl : BE := .blk 10 (.cells [(.bool false), (I 0 4)]) false
def nk : BE := .blk 9 (.cells [(Z 6)]) false
def nj : BE := .blk 7 (.cells [(Y 1), (Z 2), (Y 3), (Y 4), (Y 5)]) false
def pz : BE := .loop 212 0 212 []
def py : BE := .blk 211 (.cells [(Z 6)]) false
def px : BE := .blk 210 (.cells [(.ptr 138 0)]) false
def pw : BE := .blk 207 (.cells [(.clo 56 [] [(.ptr 203 0), (.ptr 152 0)])]) false
def pu : BE := .blk 206 (.cells [(.ptr 138 0)]) false
def pt : BE := .blk 205 (.cells [(.clo 56 [] [(.ptr 203 0), (.ptr 152 0)])]) false
def pr : BE := .blk 204 (.cells [(Z 199), (Z 200), (Z 201), (Z 202)]) false
def pq : BE := .blk 203 (.cells [(Z 176)]) false
def tc : BE := .blk 214 (.cells [(.clo 87 [(.ptr 138 0)] [])]) false
def tb : BE := .blk 213 (.cells [(.yld 212)]) false
def w9 : BE := .blk 239 (.cells [(.clo 88 [] [(.ptr 210 0), (.ptr 237 0), (.ptr 238 0), (.ptr 214 0), (.ptr 211 0), (.ptr 213 0), (.ptr 239 0)])]) false
def wj24 : BE := .blk 238 (.cells [(Z 303), (Z 304), (Z 305), (Z 306), (Z 307), (Z 308), (Z 0), (Z 309)]) false
def wj25 : BE := .blk 237 (.cells [(Z 6), (Z 291), (Z 299), (Z 300), (Z 301), (Z 302), (Z 0), (Z 220)]) false
def h20x0 : Hint := .unroll
def h20x1 : Hint := .unroll
def h20x2 : Hint := .unroll
def h20x3 : Hint := .unroll
def h20x4 : Hint := .inv ⟨199, [(Y 153), (Z 6), (Y 154), U, (.vec 1 171 ⟨172, 0⟩), (Y 155), (.ptr 152 0), (Y 173), (Y 174), (Y 175)] ++ ys 156 14 ++ [U, (Y 170), (Y 4), (Z 77), (Z 176)] ++ ys 177 22 ++ [U], [D 172 176 0, D 176 77 0, D 0 176 0, D 176 0 X7, D 172 77 0, D 0 172 0, D 172 0 X7], [wj0, wj1, wj2, wj3, wj4, wj5, wj6, wj7, wj8, wj9, nl, nk, nj]⟩ ⟨77, 0⟩ ⟨176, 0⟩
def h20x5 : Hint := .rng [] ⟨330, [(.agg [(Z 6), (Z 240), (Z 266), (Z 325), (Z 326), (Z 327), (Z 0), (Z 220)])], [D 327 0 X7, D 0 327 X8, D 326 0 X7, D 0 326 X8, D 325 0 X7, D 0 325 X8, D 0 240 0, D 0 220 X8, D 240 0 6, D 220 0 X7, D 266 0 X7, D 0 266 X8], [wj2, wj3, pz, py, px, .blk 209 (.cells [(Z 328)]) false, .blk 208 (.cells [(Z 329)]) false, pw, pu, pt, pr, pq, wj0, wj1, wj4, wj5, wj6, wj7, wj8, wj9, nl, nk, nj]⟩ [((.bool true), ⟨332, [], [D 330 0 X7, D 0 330 X8], [wj2, wj3, pz, py, px, .blk 209 (.cells [(Z 330)]) false, .blk 208 (.cells [(Z 331)]) false, pw, pu, pt, pr, pq, wj0, wj1, wj4, wj5, wj6, wj7, wj8, wj9, nl, nk, nj]⟩)]
def h20x6 : Hint := .inv ⟨237, [(Y 215), (Z 6), U, U, (Z 220), (Y 221), (Y 222)] ++ ys 216 4 ++ [(Y 4), (Z 77), (Z 223)] ++ ys 224 13 ++ [U], [D 223 77 0, D 0 223 0, D 223 0 X7, D 220 0 X7, D 0 220 X8], [tc, tb, pz, py, px, .blk 209 (.cells [(Z 0)]) false, .blk 208 (.cells [(Z 0)]) false, pw, pu, pt, pr, pq, wj0, wj1, wj2, wj3, wj4, wj5, wj6, wj7, wj8, wj9, nl, nk, nj]⟩ ⟨77, 0⟩ ⟨223, 0⟩
def h20x7 : Hint := .inv ⟨298, [(Y 242), (.ptr 210 0), (.ptr 211 0), (Y 243), (Y 244), (.ptr 237 0), (Y 245), (.ptr 239 0)] ++ ys 246 38, [D 285 291 0, D 295 0 X7, D 0 295 X8, D 294 0 X7, D 0 294 X8, D 293 0 X7, D 0 293 X8, D 292 0 X7, D 0 292 X8, D 0 291 0, D 240 291 0, D 291 0 X7, D 290 0 X7, D 0 290 X8, D 289 0 X7, D 0 289 X8, D 288 0 X7, D 0 288 X8, D 287 0 X7, D 0 287 X8, D 286 0 X7, D 0 286 X8, D 0 285 0, D 285 0 X7, D 284 8 (-1), D 284 199 0, D 284 6 0, D 284 48 0, D 284 77 1, D 284 0 2, D 0 284 1], [w9, .blk 238 (.cells [(Z 284), (Z 285), (Z 286), (Z 287), (Z 288), (Z 289), (Z 0), (Z 290)]) false, .blk 237 (.cells [(Z 6), (Z 291), (Z 292), (Z 293), (Z 294), (Z 295), (Z 0), (Z 220)]) false, tc, tb, pz, py, px, .blk 209 (.cells [(Z 296)]) false, .blk 208 (.cells [(Z 297)]) false, pw, pu, pt, pr, pq, wj0, wj1, wj2, wj3, wj4, wj5, wj6, wj7, wj8, wj9, nl, nk, nj]⟩ ⟨0, 100⟩ ⟨291, 0⟩
def h20x8 : Hint := .rcs 88 ⟨312, [(Z 298), (.ptr 210 0), (.ptr 237 0), (.ptr 238 0), (.ptr 214 0), (.ptr 211 0), (.ptr 213 0), (.ptr 239 0)], [D 309 0 X7, D 0 309 X8, D 308 0 X7, D 0 308 X8, D 307 0 X7, D 0 307 X8, D 306 0 X7, D 0 306 X8, D 305 0 X7, D 0 305 X8, D 304 291 0, D 304 291 1, D 0 304 1, D 0 304 0, D 285 304 0, D 304 0 X7, D 0 304 X8, D 303 8 (-1), D 303 8 0, D 303 199 0, D 303 199 1, D 303 6 0, D 303 6 1, D 303 8 1, D 303 48 0, D 303 48 1, D 303 77 1, D 303 0 2, D 0 303 1, D 284 303 0, D 303 0 X7, D 0 303 X8, D 302 0 X7, D 0 302 X8, D 301 0 X7, D 0 301 X8, D 300 0 X7, D 0 300 X8, D 299 0 X7, D 0 299 X8, D 298 77 0, D 298 77 1, D 0 298 1, D 0 298 0, D 298 0 X7, D 0 298 X8], [w9, wj24, wj25, tc, tb, pz, py, px, .blk 209 (.cells [(Z 310)]) false, .blk 208 (.cells [(Z 311)]) false, pw, pu, pt, pr, pq, wj0, wj1, wj2, wj3, wj4, wj5, wj6, wj7, wj8, wj9, nl, nk, nj]⟩ [((.bool true), ⟨395, [], [D 394 0 X7, D 0 394 X8, D 393 0 X7, D 0 393 X8, D 392 0 X7, D 0 392 X8, D 391 0 X7, D 0 391 X8, D 388 0 X7, D 0 388 X8, D 387 0 X7, D 0 387 X8, D 386 0 X7, D 0 386 X8, D 385 0 X7, D 0 385 X8, D 384 0 X7, D 0 384 X8, D 383 291 0, D 383 291 1, D 0 383 1, D 0 383 0, D 304 383 0, D 383 0 X7, D 0 383 X8, D 382 8 (-1), D 382 8 0, D 382 199 0, D 382 199 1, D 382 6 0, D 382 6 1, D 382 8 0, D 382 8 1, D 382 48 0, D 382 48 1, D 382 0 2, D 0 382 1, D 303 382 0, D 382 0 X7, D 0 382 X8], [wj2, wj3, w9, .blk 238 (.cells [(Z 382), (Z 383), (Z 384), (Z 385), (Z 386), (Z 387), (Z 0), (Z 388)]) false, .blk 237 (.cells [(Z 6), (Z 291), (Z 391), (Z 392), (Z 393), (Z 394), (Z 0), (Z 220)]) false, tc, tb, pz, py, px, .blk 209 (.cells [(Z 389)]) false, .blk 208 (.cells [(Z 390)]) false, pw, pu, pt, pr, pq, wj0, wj1, wj4, wj5, wj6, wj7, wj8, wj9, nl, nk, nj]⟩)] ⟨77, 0⟩ ⟨298, 0⟩
def h20x9 : Hint := .inv ⟨370, [(.ptr 138 0), (Z 6), (Y 322), U, U, (.ptr 321 0), (Y 323), (Y 328), (Y 329)] ++ ys 324 4 ++ [(Y 5), (Z 106), (Z 330)] ++ ys 331 39, [D 330 106 0, D 0 330 0, D 330 0 X7], [.blk 321 (.cells [(Z 315), (Z 316), (Z 317), (Z 318), (Z 319)]) false, wj2, wj3, w9, wj24, wj25, tc, tb, pz, py, px, .blk 209 (.cells [(Z 310)]) false, .blk 208 (.cells [(Z 311)]) false, pw, pu, pt, pr, pq, wj0, wj1, wj4, wj5, wj6, wj7, wj8, wj9, nl, nk, nj]⟩ ⟨106, 0⟩ ⟨330, 0⟩
def h20x10 : Hint := .inv ⟨382, [(Z 298), (Y 319), (.ptr 237 0)] ++ ys 320 4 ++ [(.ptr 239 0), U, (Y 324), (.ptr 316 0), (Z 353)] ++ ys 325 8 ++ us 16 ++ ys 333 20 ++ ys 354 15, [D 379 0 X7, D 0 379 X8, D 378 0 X7, D 0 378 X8, D 377 0 X7, D 0 377 X8, D 376 0 X7, D 0 376 X8, D 375 0 X7, D 0 375 X8, D 374 0 X7, D 0 374 X8, D 373 0 X7, D 0 373 X8, D 372 0 X7, D 0 372 X8, D 371 0 X7, D 0 371 X8, D 370 291 0, D 0 370 0, D 304 370 0, D 370 0 X7, D 369 8 (-1), D 369 199 0, D 369 6 0, D 369 48 0, D 369 77 1, D 369 0 2, D 0 369 1, D 303 369 0, D 0 353 0, D 314 353 0, D 353 0 X7], [.blk 316 (.cells [(Z 314), (Z 314)]) false, w9, .blk 238 (.cells [(Z 369), (Z 370), (Z 371), (Z 372), (Z 373), (Z 374), (Z 0), (Z 375)]) false, .blk 237 (.cells [(Z 6), (Z 291), (Z 376), (Z 377), (Z 378), (Z 379), (Z 0), (Z 220)]) false, tc, tb, pz, py, px, .blk 209 (.cells [(Z 380)]) false, .blk 208 (.cells [(Z 381)]) false, pw, pu, pt, pr, pq, wj0, wj1, wj2, wj3, wj4, wj5, wj6, wj7, wj8, wj9, nl, nk, nj]⟩ ⟨0, 100⟩ ⟨353, 0⟩
def h20x11 : Hint := .inv ⟨379, [(Z 298), (Y 319), (.ptr 237 0)] ++ ys 320 4 ++ [(.ptr 239 0), U, (Y 324), (.ptr 316 0), (Z 350)] ++ ys 325 8 ++ us 16 ++ ys 333 15 ++ [U, U, U, (Y 348), (Y 349)] ++ ys 351 15, [D 376 0 X7, D 0 376 X8, D 375 0 X7, D 0 375 X8, D 374 0 X7, D 0 374 X8, D 373 0 X7, D 0 373 X8, D 372 0 X7, D 0 372 X8, D 371 0 X7, D 0 371 X8, D 370 0 X7, D 0 370 X8, D 369 0 X7, D 0 369 X8, D 368 0 X7, D 0 368 X8, D 367 291 0, D 0 367 0, D 304 367 0, D 367 0 X7, D 366 8 (-1), D 366 199 0, D 366 6 0, D 366 48 0, D 366 77 1, D 366 0 2, D 0 366 1, D 303 366 0, D 0 350 0, D 314 350 0, D 350 0 X7], [.blk 316 (.cells [(Z 314), (Z 315)]) false, w9, .blk 238 (.cells [(Z 366), (Z 367), (Z 368), (Z 369), (Z 370), (Z 371), (Z 0), (Z 372)]) false, .blk 237 (.cells [(Z 6), (Z 291), (Z 373), (Z 374), (Z 375), (Z 376), (Z 0), (Z 220)]) false, tc, tb, pz, py, px, .blk 209 (.cells [(Z 377)]) false, .blk 208 (.cells [(Z 378)]) false, pw, pu, pt, pr, pq, wj0, wj1, wj2, wj3, wj4, wj5, wj6, wj7, wj8, wj9, nl, nk, nj]⟩ ⟨0, 100⟩ ⟨350, 0⟩
def h20 : Hs := [h20x0, h20x1, h20x2, h20x3, h20x4, h20x5, h20x6, h20x7, h20x8, h20x9, h20x10, h20x11]
theorem chk20 : da tbl [] 1000 [wI, fN, bu, tD] c20 Ts20 h20 (mY sh20) = true := by kernel_rfl
theorem ap20 : Ap20 := fun h => iA cI (rfl : tbl 20 = some c20) rfl chk20 (aQ g56x3 (aQ mt (aQ eg (aQ g7 bW)))) rfl h
end Tu
