/- A part of a proof. -/
import Derived.Test.YtkefopelclcljacC52x3
import Derived.Test.YtkefopelclcljacC68x2
import Derived.Test.YtkefopelclcljacC7
import Derived.KernelRfl
set_option linter.unusedVariables false
set_option linter.unusedSimpArgs false
set_option maxRecDepth 1000000
namespace Tu
open Go Ce Ce.L Ce.S
def wh0 : BE := .vec 171 1 [(.int .i64 ⟨0, 0⟩ ⟨79, (-1)⟩)] ⟨172, 0⟩ false
def wh1 : BE := .blk 140 (.cells [(Y 1), (Z 2), (Y 3), (Y 4), (Y 5), (Z 0), (.map 139)]) false
def wh2 : BE := .map 139 true [(.i .i64), (.i .i64), (.i .i64), (.i .i64), (.i .i64), (.i .i64), (.i .i64), (.i .i64)] (.agg [J, J, J, J, J]) none
def wh3 : BE := .blk 138 (.cells [(Y 1), (Z 2), (Y 3), (Y 4), (Y 5)]) false
def wh4 : BE := .blk 137 (.cells [(.bool false), (I 0 7)]) false
def wh5 : BE := .blk 16 (.cells [(Y 1), (Z 2), (Y 3), (Y 4), (Y 5)]) false
def wh6 : BE := .blk 15 (.cells [(.bool false), (I 0 7)]) false
def wh7 : BE := .blk 14 (.cells [(Z 12)]) false
def wh8 : BE := .blk 13 (.cells [(Z 0)]) false
def wh9 : BE := .blk 11 (.cells [(.bool false), (I 0 7)]) false
def nr : BE := .blk 10 (.cells [(Y 1), (Z 2), (Y 3), (Y 4), (Y 5)]) false
def nq : BE := .blk 9 (.cells [(Z 6)]) false
def np : BE := .blk 8 (.cells [(Z 6)]) false
def nm : BE := .blk 7 (.cells [(Y 1), (Z 2), (Y 3), (Y 4), (Y 5)]) false
def qG : BE := .loop 210 0 210 []
def qF : BE := .blk 209 (.cells [(Z 198)]) false
def qE : BE := .blk 208 (.cells [(.ptr 140 0)]) false
def qD : BE := .blk 205 (.cells [(.clo 52 [] [(.ptr 202 0), (.ptr 8 0)])]) false
def qC : BE := .blk 204 (.cells [(.ptr 140 0)]) false
def qB : BE := .blk 203 (.cells [(Z 198), (Z 199), (Z 200), (Z 201)]) false
def qA : BE := .blk 202 (.cells [(Z 175)]) false
def tf : BE := .blk 212 (.cells [(.clo 87 [(.ptr 140 0)] [])]) false
def te : BE := .blk 211 (.cells [(.yld 210)]) false
def wb : BE := .blk 237 (.cells [(.clo 88 [] [(.ptr 208 0), (.ptr 235 0), (.ptr 236 0), (.ptr 212 0), (.ptr 209 0), (.ptr 211 0), (.ptr 237 0)])]) false
def wh24 : BE := .blk 236 (.cells [(Z 301), (Z 302), (Z 303), (Z 304), (Z 305), (Z 306), (Z 0), (Z 307)]) false
def wh25 : BE := .blk 235 (.cells [(Z 198), (Z 289), (Z 297), (Z 298), (Z 299), (Z 300), (Z 0), (Z 218)]) false
def h15x0 : Hint := .unroll
def h15x1 : Hint := .unroll
def h15x2 : Hint := .unroll
def h15x3 : Hint := .unroll
def h15x4 : Hint := .inv ⟨198, [(Y 154), (Y 155), (Y 156), (.ptr 8 0), (.vec 1 171 ⟨172, 0⟩), (Y 157), (.ptr 140 0), (Y 173), (Y 174)] ++ ys 158 12 ++ [U, (Y 170), (Y 4), (Z 79), (Z 175)] ++ ys 176 22 ++ [U], [D 172 175 0, D 175 79 0, D 0 175 0, D 175 0 X7, D 172 79 0, D 0 172 0, D 172 0 X7], [wh0, wh1, wh2, wh3, wh4, wh5, wh6, wh7, wh8, wh9, nr, nq, np, nm]⟩ ⟨79, 0⟩ ⟨175, 0⟩
def h15x5 : Hint := .rng [] ⟨328, [(.agg [(Z 198), (Z 238), (Z 264), (Z 323), (Z 324), (Z 325), (Z 0), (Z 218)])], [D 325 0 X7, D 0 325 X8, D 324 0 X7, D 0 324 X8, D 323 0 X7, D 0 323 X8, D 0 238 0, D 0 218 X8, D 264 0 X7, D 218 0 X7, D 238 0 6, D 0 264 X8], [wh1, wh2, qG, qF, qE, .blk 207 (.cells [(Z 326)]) false, .blk 206 (.cells [(Z 327)]) false, qD, qC, qB, qA, wh0, wh3, wh4, wh5, wh6, wh7, wh8, wh9, nr, nq, np, nm]⟩ [((.bool true), ⟨330, [], [D 328 0 X7, D 0 328 X8], [wh1, wh2, qG, qF, qE, .blk 207 (.cells [(Z 328)]) false, .blk 206 (.cells [(Z 329)]) false, qD, qC, qB, qA, wh0, wh3, wh4, wh5, wh6, wh7, wh8, wh9, nr, nq, np, nm]⟩)]
def h15x6 : Hint := .inv ⟨235, [(Y 213), (Z 198), U, U, (Z 218), (Y 219), (Y 220)] ++ ys 214 4 ++ [(Y 4), (Z 79), (Z 221)] ++ ys 222 13 ++ [U], [D 221 79 0, D 0 221 0, D 221 0 X7, D 218 0 X7, D 0 218 X8], [tf, te, qG, qF, qE, .blk 207 (.cells [(Z 0)]) false, .blk 206 (.cells [(Z 0)]) false, qD, qC, qB, qA, wh0, wh1, wh2, wh3, wh4, wh5, wh6, wh7, wh8, wh9, nr, nq, np, nm]⟩ ⟨79, 0⟩ ⟨221, 0⟩
def h15x7 : Hint := .inv ⟨296, [(Y 240), (.ptr 208 0), (.ptr 209 0), (Y 241), (Y 242), (.ptr 235 0), (Y 243), (.ptr 237 0)] ++ ys 244 38, [D 283 289 0, D 293 0 X7, D 0 293 X8, D 292 0 X7, D 0 292 X8, D 291 0 X7, D 0 291 X8, D 290 0 X7, D 0 290 X8, D 0 289 0, D 238 289 0, D 289 0 X7, D 288 0 X7, D 0 288 X8, D 287 0 X7, D 0 287 X8, D 286 0 X7, D 0 286 X8, D 285 0 X7, D 0 285 X8, D 284 0 X7, D 0 284 X8, D 0 283 0, D 283 0 X7, D 282 198 0, D 282 50 0, D 282 79 1, D 282 0 2, D 0 282 1], [wb, .blk 236 (.cells [(Z 282), (Z 283), (Z 284), (Z 285), (Z 286), (Z 287), (Z 0), (Z 288)]) false, .blk 235 (.cells [(Z 198), (Z 289), (Z 290), (Z 291), (Z 292), (Z 293), (Z 0), (Z 218)]) false, tf, te, qG, qF, qE, .blk 207 (.cells [(Z 294)]) false, .blk 206 (.cells [(Z 295)]) false, qD, qC, qB, qA, wh0, wh1, wh2, wh3, wh4, wh5, wh6, wh7, wh8, wh9, nr, nq, np, nm]⟩ ⟨0, 100⟩ ⟨289, 0⟩
def h15x8 : Hint := .rcs 88 ⟨310, [(Z 296), (.ptr 208 0), (.ptr 235 0), (.ptr 236 0), (.ptr 212 0), (.ptr 209 0), (.ptr 211 0), (.ptr 237 0)], [D 307 0 X7, D 0 307 X8, D 306 0 X7, D 0 306 X8, D 305 0 X7, D 0 305 X8, D 304 0 X7, D 0 304 X8, D 303 0 X7, D 0 303 X8, D 302 289 0, D 302 289 1, D 0 302 1, D 0 302 0, D 283 302 0, D 302 0 X7, D 0 302 X8, D 301 198 0, D 301 198 1, D 301 50 0, D 301 50 1, D 301 79 1, D 301 0 2, D 0 301 1, D 282 301 0, D 301 0 X7, D 0 301 X8, D 300 0 X7, D 0 300 X8, D 299 0 X7, D 0 299 X8, D 298 0 X7, D 0 298 X8, D 297 0 X7, D 0 297 X8, D 296 79 0, D 296 79 1, D 0 296 1, D 0 296 0, D 296 0 X7, D 0 296 X8], [wb, wh24, wh25, tf, te, qG, qF, qE, .blk 207 (.cells [(Z 308)]) false, .blk 206 (.cells [(Z 309)]) false, qD, qC, qB, qA, wh0, wh1, wh2, wh3, wh4, wh5, wh6, wh7, wh8, wh9, nr, nq, np, nm]⟩ [((.bool true), ⟨393, [], [D 392 0 X7, D 0 392 X8, D 391 0 X7, D 0 391 X8, D 390 0 X7, D 0 390 X8, D 389 0 X7, D 0 389 X8, D 386 0 X7, D 0 386 X8, D 385 0 X7, D 0 385 X8, D 384 0 X7, D 0 384 X8, D 383 0 X7, D 0 383 X8, D 382 0 X7, D 0 382 X8, D 381 289 0, D 381 289 1, D 0 381 1, D 0 381 0, D 302 381 0, D 381 0 X7, D 0 381 X8, D 380 198 0, D 380 198 1, D 380 50 0, D 380 50 1, D 380 0 2, D 0 380 1, D 301 380 0, D 380 0 X7, D 0 380 X8], [wh1, wh2, wb, .blk 236 (.cells [(Z 380), (Z 381), (Z 382), (Z 383), (Z 384), (Z 385), (Z 0), (Z 386)]) false, .blk 235 (.cells [(Z 198), (Z 289), (Z 389), (Z 390), (Z 391), (Z 392), (Z 0), (Z 218)]) false, tf, te, qG, qF, qE, .blk 207 (.cells [(Z 387)]) false, .blk 206 (.cells [(Z 388)]) false, qD, qC, qB, qA, wh0, wh3, wh4, wh5, wh6, wh7, wh8, wh9, nr, nq, np, nm]⟩)] ⟨79, 0⟩ ⟨296, 0⟩
def h15x9 : Hint := .inv ⟨368, [(.ptr 140 0), (Z 198), (Y 320), U, U, (.ptr 319 0), (Y 321), (Y 326), (Y 327)] ++ ys 322 4 ++ [(Y 5), (Z 108), (Z 328)] ++ ys 329 39, [D 328 108 0, D 0 328 0, D 328 0 X7], [.blk 319 (.cells [(Z 313), (Z 314), (Z 315), (Z 316), (Z 317)]) false, wh1, wh2, wb, wh24, wh25, tf, te, qG, qF, qE, .blk 207 (.cells [(Z 308)]) false, .blk 206 (.cells [(Z 309)]) false, qD, qC, qB, qA, wh0, wh3, wh4, wh5, wh6, wh7, wh8, wh9, nr, nq, np, nm]⟩ ⟨108, 0⟩ ⟨328, 0⟩
def h15x10 : Hint := .inv ⟨380, [(Z 296), (Y 317), (.ptr 235 0)] ++ ys 318 4 ++ [(.ptr 237 0), U, (Y 322), (.ptr 314 0), (Z 351)] ++ ys 323 8 ++ us 16 ++ ys 331 20 ++ ys 352 15, [D 377 0 X7, D 0 377 X8, D 376 0 X7, D 0 376 X8, D 375 0 X7, D 0 375 X8, D 374 0 X7, D 0 374 X8, D 373 0 X7, D 0 373 X8, D 372 0 X7, D 0 372 X8, D 371 0 X7, D 0 371 X8, D 370 0 X7, D 0 370 X8, D 369 0 X7, D 0 369 X8, D 368 289 0, D 0 368 0, D 302 368 0, D 368 0 X7, D 367 198 0, D 367 50 0, D 367 79 1, D 367 0 2, D 0 367 1, D 301 367 0, D 0 351 0, D 312 351 0, D 351 0 X7], [.blk 314 (.cells [(Z 312), (Z 312)]) false, wb, .blk 236 (.cells [(Z 367), (Z 368), (Z 369), (Z 370), (Z 371), (Z 372), (Z 0), (Z 373)]) false, .blk 235 (.cells [(Z 198), (Z 289), (Z 374), (Z 375), (Z 376), (Z 377), (Z 0), (Z 218)]) false, tf, te, qG, qF, qE, .blk 207 (.cells [(Z 378)]) false, .blk 206 (.cells [(Z 379)]) false, qD, qC, qB, qA, wh0, wh1, wh2, wh3, wh4, wh5, wh6, wh7, wh8, wh9, nr, nq, np, nm]⟩ ⟨0, 100⟩ ⟨351, 0⟩
def h15x11 : Hint := .inv ⟨377, [(Z 296), (Y 317), (.ptr 235 0)] ++ ys 318 4 ++ [(.ptr 237 0), U, (Y 322), (.ptr 314 0), (Z 348)] ++ ys 323 8 ++ us 16 ++ ys 331 15 ++ [U, U, U, (Y 346), (Y 347)] ++ ys 349 15, [D 374 0 X7, D 0 374 X8, D 373 0 X7, D 0 373 X8, D 372 0 X7, D 0 372 X8, D 371 0 X7, D 0 371 X8, D 370 0 X7, D 0 370 X8, D 369 0 X7, D 0 369 X8, D 368 0 X7, D 0 368 X8, D 367 0 X7, D 0 367 X8, D 366 0 X7, D 0 366 X8, D 365 289 0, D 0 365 0, D 302 365 0, D 365 0 X7, D 364 198 0, D 364 50 0, D 364 79 1, D 364 0 2, D 0 364 1, D 301 364 0, D 0 348 0, D 312 348 0, D 348 0 X7], [.blk 314 (.cells [(Z 312), (Z 313)]) false, wb, .blk 236 (.cells [(Z 364), (Z 365), (Z 366), (Z 367), (Z 368), (Z 369), (Z 0), (Z 370)]) false, .blk 235 (.cells [(Z 198), (Z 289), (Z 371), (Z 372), (Z 373), (Z 374), (Z 0), (Z 218)]) false, tf, te, qG, qF, qE, .blk 207 (.cells [(Z 375)]) false, .blk 206 (.cells [(Z 376)]) false, qD, qC, qB, qA, wh0, wh1, wh2, wh3, wh4, wh5, wh6, wh7, wh8, wh9, nr, nq, np, nm]⟩ ⟨0, 100⟩ ⟨348, 0⟩
def h15 : Hs := [h15x0, h15x1, h15x2, h15x3, h15x4, h15x5, h15x6, h15x7, h15x8, h15x9, h15x10, h15x11]
theorem chk15 : da tbl [] 1000 [wJ, fN, bu, tD] c15 Ts15 h15 (mY sh15) = true := by kernel_rfl
theorem ap15 : Ap15 := fun h => iA cI (rfl : tbl 15 = some c15) rfl chk15 (aQ g52x3 (aQ mt (aQ eg (aQ g7 bW)))) rfl h
end Tu
