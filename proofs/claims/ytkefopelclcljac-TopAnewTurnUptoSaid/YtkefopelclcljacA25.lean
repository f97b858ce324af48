/- A part of a proof. -/
import Derived.Test.YtkefopelclcljacC41x4
import Derived.Test.YtkefopelclcljacC61x3
import Derived.Test.YtkefopelclcljacC68x2
import Derived.Test.YtkefopelclcljacC7
import Derived.KernelRfl
set_option linter.unusedVariables false
set_option linter.unusedSimpArgs false
set_option maxRecDepth 1000000
namespace Tu
open Go Ce Ce.L Ce.S
def wo0 : BE := .vec 220 1 [(.int .i64 ⟨0, 0⟩ ⟨62, (-1)⟩)] ⟨221, 0⟩ false
def wo1 : BE := .blk 170 (.rows 4 [(.int .i64 ⟨0, 0⟩ ⟨0, X7⟩), (.int .i64 ⟨0, 0⟩ ⟨0, X7⟩), (.int .i64 ⟨0, 0⟩ ⟨0, X7⟩), (.int .i64 ⟨0, 0⟩ ⟨0, X7⟩)] ⟨91, 1⟩) false
def wo2 : BE := .blk 169 (.cells [(Y 1), (Z 2), (Y 3), (.slc 4 170 0 ⟨0, 0⟩ ⟨91, 1⟩ ⟨91, 1⟩), (Y 5)]) false
def wo3 : BE := .blk 168 (.cells [(Z 91)]) false
def wo4 : BE := .blk 154 (.cells [(Y 1), (Z 2), (Y 3), (Y 4), (Y 5), (Z 0), (.map 153)]) false
def wo5 : BE := .map 153 true [(.i .i64), (.i .i64), (.i .i64), (.i .i64), (.i .i64), (.i .i64), (.i .i64), (.i .i64)] (.agg [J, J, J, J, J]) none
def wo6 : BE := .blk 152 (.cells [(Y 1), (Z 2), (Y 3), (Y 4), (Y 5)]) false
def wo7 : BE := .blk 151 (.cells [(.bool false), (I 0 2)]) false
def wo8 : BE := .blk 150 (.cells [(.bool false), (Z 0)]) false
def wo9 : BE := .blk 149 (.cells [(.bool false), (I 0 7)]) false
def ni : BE := .blk 28 (.cells [(Y 1), (Z 2), (Y 3), (Y 4), (Y 5)]) false
def nh : BE := .blk 27 (.cells [(.bool false), (I 0 7), (.bool false), (Z 0), (.bool false), (I 0 2)]) false
def ng : BE := .blk 26 (.cells [(Z 24)]) false
def nf : BE := .blk 25 (.cells [(Z 0)]) false
def nc : BE := .blk 23 (.cells [(.bool false), (I 0 7)]) false
def n9 : BE := .blk 22 (.cells [(Y 1), (Z 2), (Y 3), (Y 4), (Y 5)]) false
def n8 : BE := .blk 21 (.cells [(Z 8), (Z 9)]) false
def n7 : BE := .blk 12 (.cells [(Z 9)]) false
def n6 : BE := .blk 11 (.cells [(Z 6), (Z 7)]) false
def n5 : BE := .blk 10 (.cells [(Y 1), (Z 2), (Y 3), (Y 4), (Y 5)]) false
def pZ : BE := .loop 260 0 260 []
def pY : BE := .blk 259 (.cells [(Z 225)]) false
def pX : BE := .blk 258 (.cells [(.ptr 154 0)]) false
def pW : BE := .blk 255 (.cells [(.clo 61 [] [(.ptr 168 0), (.ptr 11 0), (.ptr 253 0), (.ptr 12 0)])]) false
def pV : BE := .blk 254 (.cells [(.ptr 154 0)]) false
def pU : BE := .blk 253 (.cells [(.ptr 252 0)]) false
def pT : BE := .blk 252 (.cells [(Y 1), (Z 2), (Y 3), (.slc 4 170 0 ⟨0, 0⟩ ⟨91, 1⟩ ⟨91, 1⟩), (Y 5), (Z 0), (.map 251)]) false
def rM : BE := .map 251 true [(.i .i64), (.i .i64), (.i .i64), (.i .i64), (.i .i64), (.i .i64), (.i .i64), (.i .i64)] (.agg [J, J, J, J, J]) none
def pS : BE := .blk 250 (.cells [(Y 1), (Z 2), (Y 3), (.slc 4 170 0 ⟨0, 0⟩ ⟨91, 1⟩ ⟨91, 1⟩), (Y 5)]) false
def tY : BE := .blk 262 (.cells [(.clo 87 [(.ptr 154 0)] [])]) false
def tW : BE := .blk 261 (.cells [(.yld 260)]) false
def w6 : BE := .blk 287 (.cells [(.clo 88 [] [(.ptr 258 0), (.ptr 285 0), (.ptr 286 0), (.ptr 262 0), (.ptr 259 0), (.ptr 261 0), (.ptr 287 0)])]) false
def wo32 : BE := .blk 286 (.cells [(Z 351), (Z 352), (Z 353), (Z 354), (Z 355), (Z 356), (Z 0), (Z 357)]) false
def wo33 : BE := .blk 285 (.cells [(Z 225), (Z 339), (Z 347), (Z 348), (Z 349), (Z 350), (Z 0), (Z 268)]) false
def h25x0 : Hint := .unroll
def h25x1 : Hint := .unroll
def h25x2 : Hint := .unroll
def h25x3 : Hint := .unroll
def h25x4 : Hint := .unroll
def h25x5 : Hint := .unroll
def h25x6 : Hint := .unroll
def h25x7 : Hint := .unroll
def h25x8 : Hint := .unroll
def h25x9 : Hint := .unroll
def h25x10 : Hint := .unroll
def h25x11 : Hint := .unroll
def h25x12 : Hint := .unroll
def h25x13 : Hint := .unroll
def h25x14 : Hint := .unroll
def h25x15 : Hint := .unroll
def h25x16 : Hint := .unroll
def h25x17 : Hint := .unroll
def h25x18 : Hint := .unroll
def h25x19 : Hint := .unroll
def h25x20 : Hint := .unroll
def h25x21 : Hint := .unroll
def h25x22 : Hint := .inv ⟨250, [(Y 172), (Y 173), (Z 8), (Y 174), (Y 175), (.ptr 11 0), U, (.ptr 12 0), (.vec 1 220 ⟨221, 0⟩), (Y 176), (Y 177), (.ptr 154 0), (.ptr 168 0), (.ptr 169 0), (Y 222), (Y 223), (Y 224)] ++ ys 178 27 ++ [U] ++ ys 205 15 ++ [(Z 62), (Z 225)] ++ ys 226 24 ++ [U], [D 221 225 0, D 225 62 0, D 0 225 0, D 225 0 X7, D 221 62 0, D 0 221 0, D 221 0 X7], [wo0, wo1, wo2, wo3, wo4, wo5, wo6, wo7, wo8, wo9, ni, nh, ng, nf, nc, n9, n8, n7, n6, n5]⟩ ⟨62, 0⟩ ⟨225, 0⟩
def h25x23 : Hint := .rng [] ⟨376, [(.agg [(Z 225), (Z 288), (Z 370), (Z 371), (Z 372), (Z 373), (Z 0), (Z 268)])], [D 373 0 X7, D 0 373 X8, D 372 0 X7, D 0 372 X8, D 371 0 X7, D 0 371 X8, D 370 0 X7, D 0 370 X8, D 0 288 0, D 0 268 X8, D 288 0 6, D 268 0 X7], [wo4, wo5, pZ, pY, pX, .blk 257 (.cells [(Z 374)]) false, .blk 256 (.cells [(Z 375)]) false, pW, pV, pU, pT, rM, pS, wo0, wo1, wo2, wo3, wo6, wo7, wo8, wo9, ni, nh, ng, nf, nc, n9, n8, n7, n6, n5]⟩ [((.bool true), ⟨378, [], [D 376 0 X7, D 0 376 X8], [wo4, wo5, pZ, pY, pX, .blk 257 (.cells [(Z 376)]) false, .blk 256 (.cells [(Z 377)]) false, pW, pV, pU, pT, rM, pS, wo0, wo1, wo2, wo3, wo6, wo7, wo8, wo9, ni, nh, ng, nf, nc, n9, n8, n7, n6, n5]⟩)]
def h25x24 : Hint := .inv ⟨285, [(Y 263), (Z 225), U, U, (Z 268), (Y 269), (Y 270)] ++ ys 264 4 ++ [(Y 4), (Z 91), (Z 271)] ++ ys 272 13 ++ [U], [D 271 91 0, D 0 271 0, D 271 0 X7, D 268 0 X7, D 0 268 X8], [tY, tW, pZ, pY, pX, .blk 257 (.cells [(Z 0)]) false, .blk 256 (.cells [(Z 0)]) false, pW, pV, pU, pT, .emap 251, pS, wo0, wo1, wo2, wo3, wo4, wo5, wo6, wo7, wo8, wo9, ni, nh, ng, nf, nc, n9, n8, n7, n6, n5]⟩ ⟨91, 0⟩ ⟨271, 0⟩
def h25x25 : Hint := .inv ⟨346, [(Y 290), (.ptr 258 0), (.ptr 259 0), (Y 291), (Y 292), (.ptr 285 0), (Y 293), (.ptr 287 0)] ++ ys 294 38, [D 333 339 0, D 343 0 X7, D 0 343 X8, D 342 0 X7, D 0 342 X8, D 341 0 X7, D 0 341 X8, D 340 0 X7, D 0 340 X8, D 0 339 0, D 288 339 0, D 339 0 X7, D 338 0 X7, D 0 338 X8, D 337 0 X7, D 0 337 X8, D 336 0 X7, D 0 336 X8, D 335 0 X7, D 0 335 X8, D 334 0 X7, D 0 334 X8, D 0 333 0, D 333 0 X7, D 332 225 0, D 332 62 0, D 0 332 1], [w6, .blk 286 (.cells [(Z 332), (Z 333), (Z 334), (Z 335), (Z 336), (Z 337), (Z 0), (Z 338)]) false, .blk 285 (.cells [(Z 225), (Z 339), (Z 340), (Z 341), (Z 342), (Z 343), (Z 0), (Z 268)]) false, tY, tW, pZ, pY, pX, .blk 257 (.cells [(Z 344)]) false, .blk 256 (.cells [(Z 345)]) false, pW, pV, pU, pT, rM, pS, wo0, wo1, wo2, wo3, wo4, wo5, wo6, wo7, wo8, wo9, ni, nh, ng, nf, nc, n9, n8, n7, n6, n5]⟩ ⟨0, 100⟩ ⟨339, 0⟩
def h25x26 : Hint := .rcs 88 ⟨360, [(Z 346), (.ptr 258 0), (.ptr 285 0), (.ptr 286 0), (.ptr 262 0), (.ptr 259 0), (.ptr 261 0), (.ptr 287 0)], [D 357 0 X7, D 0 357 X8, D 356 0 X7, D 0 356 X8, D 355 0 X7, D 0 355 X8, D 354 0 X7, D 0 354 X8, D 353 0 X7, D 0 353 X8, D 352 339 0, D 352 339 1, D 0 352 1, D 0 352 0, D 333 352 0, D 352 0 X7, D 0 352 X8, D 351 225 0, D 351 225 1, D 351 62 0, D 351 62 1, D 351 0 2, D 0 351 1, D 332 351 0, D 351 0 X7, D 0 351 X8, D 350 0 X7, D 0 350 X8, D 349 0 X7, D 0 349 X8, D 348 0 X7, D 0 348 X8, D 347 0 X7, D 0 347 X8, D 346 91 1, D 346 91 2, D 346 91 0, D 0 346 1, D 0 346 0, D 346 0 X7, D 0 346 X8], [w6, wo32, wo33, tY, tW, pZ, pY, pX, .blk 257 (.cells [(Z 358)]) false, .blk 256 (.cells [(Z 359)]) false, pW, pV, pU, pT, rM, pS, wo0, wo1, wo2, wo3, wo4, wo5, wo6, wo7, wo8, wo9, ni, nh, ng, nf, nc, n9, n8, n7, n6, n5]⟩ [((.bool true), ⟨443, [], [D 442 0 X7, D 0 442 X8, D 441 0 X7, D 0 441 X8, D 440 0 X7, D 0 440 X8, D 439 0 X7, D 0 439 X8, D 436 0 X7, D 0 436 X8, D 435 0 X7, D 0 435 X8, D 434 0 X7, D 0 434 X8, D 433 0 X7, D 0 433 X8, D 432 0 X7, D 0 432 X8, D 431 339 0, D 431 339 1, D 0 431 1, D 0 431 0, D 352 431 0, D 431 0 X7, D 0 431 X8, D 430 91 2, D 430 225 0, D 430 225 1, D 430 62 0, D 430 62 1, D 430 0 2, D 0 430 1, D 351 430 0, D 430 0 X7, D 0 430 X8], [wo4, wo5, w6, .blk 286 (.cells [(Z 430), (Z 431), (Z 432), (Z 433), (Z 434), (Z 435), (Z 0), (Z 436)]) false, .blk 285 (.cells [(Z 225), (Z 339), (Z 439), (Z 440), (Z 441), (Z 442), (Z 0), (Z 268)]) false, tY, tW, pZ, pY, pX, .blk 257 (.cells [(Z 437)]) false, .blk 256 (.cells [(Z 438)]) false, pW, pV, pU, pT, rM, pS, wo0, wo1, wo2, wo3, wo6, wo7, wo8, wo9, ni, nh, ng, nf, nc, n9, n8, n7, n6, n5]⟩)] ⟨91, 0⟩ ⟨346, 0⟩
def h25x27 : Hint := .inv ⟨418, [(.ptr 154 0), (Z 225), (Y 370), U, U, (.ptr 369 0), (Y 371), (Y 376), (Y 377)] ++ ys 372 4 ++ [(Y 5), (Z 120), (Z 378)] ++ ys 379 39, [D 378 120 0, D 0 378 0, D 378 0 X7], [.blk 369 (.cells [(Z 363), (Z 364), (Z 365), (Z 366), (Z 367)]) false, wo4, wo5, w6, wo32, wo33, tY, tW, pZ, pY, pX, .blk 257 (.cells [(Z 358)]) false, .blk 256 (.cells [(Z 359)]) false, pW, pV, pU, pT, rM, pS, wo0, wo1, wo2, wo3, wo6, wo7, wo8, wo9, ni, nh, ng, nf, nc, n9, n8, n7, n6, n5]⟩ ⟨120, 0⟩ ⟨378, 0⟩
def h25x28 : Hint := .inv ⟨430, [(Z 346), (Y 367), (.ptr 285 0)] ++ ys 368 4 ++ [(.ptr 287 0), U, (Y 372), (.ptr 364 0), (Z 401)] ++ ys 373 8 ++ us 16 ++ ys 381 20 ++ ys 402 15, [D 427 0 X7, D 0 427 X8, D 426 0 X7, D 0 426 X8, D 425 0 X7, D 0 425 X8, D 424 0 X7, D 0 424 X8, D 423 0 X7, D 0 423 X8, D 422 0 X7, D 0 422 X8, D 421 0 X7, D 0 421 X8, D 420 0 X7, D 0 420 X8, D 419 0 X7, D 0 419 X8, D 418 339 0, D 0 418 0, D 352 418 0, D 418 0 X7, D 417 91 1, D 417 9 1, D 417 225 0, D 417 62 0, D 417 0 2, D 0 417 1, D 351 417 0, D 0 401 0, D 362 401 0, D 401 0 X7], [.blk 364 (.cells [(Z 362), (Z 362)]) false, w6, .blk 286 (.cells [(Z 417), (Z 418), (Z 419), (Z 420), (Z 421), (Z 422), (Z 0), (Z 423)]) false, .blk 285 (.cells [(Z 225), (Z 339), (Z 424), (Z 425), (Z 426), (Z 427), (Z 0), (Z 268)]) false, tY, tW, pZ, pY, pX, .blk 257 (.cells [(Z 428)]) false, .blk 256 (.cells [(Z 429)]) false, pW, pV, pU, pT, rM, pS, wo0, wo1, wo2, wo3, wo4, wo5, wo6, wo7, wo8, wo9, ni, nh, ng, nf, nc, n9, n8, n7, n6, n5]⟩ ⟨0, 100⟩ ⟨401, 0⟩
def h25x29 : Hint := .inv ⟨427, [(Z 346), (Y 367), (.ptr 285 0)] ++ ys 368 4 ++ [(.ptr 287 0), U, (Y 372), (.ptr 364 0), (Z 398)] ++ ys 373 8 ++ us 16 ++ ys 381 15 ++ [U, U, U, (Y 396), (Y 397)] ++ ys 399 15, [D 424 0 X7, D 0 424 X8, D 423 0 X7, D 0 423 X8, D 422 0 X7, D 0 422 X8, D 421 0 X7, D 0 421 X8, D 420 0 X7, D 0 420 X8, D 419 0 X7, D 0 419 X8, D 418 0 X7, D 0 418 X8, D 417 0 X7, D 0 417 X8, D 416 0 X7, D 0 416 X8, D 415 339 0, D 0 415 0, D 352 415 0, D 415 0 X7, D 414 91 1, D 414 9 1, D 414 225 0, D 414 62 0, D 414 0 2, D 0 414 1, D 351 414 0, D 0 398 0, D 362 398 0, D 398 0 X7], [.blk 364 (.cells [(Z 362), (Z 363)]) false, w6, .blk 286 (.cells [(Z 414), (Z 415), (Z 416), (Z 417), (Z 418), (Z 419), (Z 0), (Z 420)]) false, .blk 285 (.cells [(Z 225), (Z 339), (Z 421), (Z 422), (Z 423), (Z 424), (Z 0), (Z 268)]) false, tY, tW, pZ, pY, pX, .blk 257 (.cells [(Z 425)]) false, .blk 256 (.cells [(Z 426)]) false, pW, pV, pU, pT, rM, pS, wo0, wo1, wo2, wo3, wo4, wo5, wo6, wo7, wo8, wo9, ni, nh, ng, nf, nc, n9, n8, n7, n6, n5]⟩ ⟨0, 100⟩ ⟨398, 0⟩
def h25 : Hs := [h25x0, h25x1, h25x2, h25x3, h25x4, h25x5, h25x6, h25x7, h25x8, h25x9, h25x10, h25x11, h25x12, h25x13, h25x14, h25x15, h25x16, h25x17, h25x18, h25x19, h25x20, h25x21, h25x22, h25x23, h25x24, h25x25, h25x26, h25x27, h25x28, h25x29]
theorem chk25 : da tbl [] 1000 [wL, wG, fN, bu, tD] c25 Ts25 h25 (mY sh25) = true := by kernel_rfl
theorem ap25 : Ap25 := fun h => iA cI (rfl : tbl 25 = some c25) rfl chk25 (aQ g41x4 (aQ g61x3 (aQ mt (aQ eg (aQ g7 bW))))) rfl h
end Tu
