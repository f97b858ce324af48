/- A part of a proof. -/
import Derived.Test.YtkefopelclcljacC59x1
import Derived.KernelRfl
set_option linter.unusedVariables false
set_option linter.unusedSimpArgs false
set_option maxRecDepth 1000000
namespace Tu
open Go Ce Ce.L Ce.S
def wp0 : BE := .vec 408 1 [(.int .i64 ⟨0, 0⟩ ⟨86, (-1)⟩)] ⟨409, 0⟩ false
def wp1 : BE := .blk 406 (.cells [(Z 400), (Z 401), (Z 402), (Z 403), (Z 404)]) false
def wp2 : BE := .blk 148 (.cells [(Y 1), (Z 390), (Y 3), (Y 4), (Y 5), (Z 391), (.map 147)]) false
def wp3 : BE := .map 147 true [(.i .i64), (.i .i64), (.i .i64), (.i .i64), (.i .i64), (.i .i64), (.i .i64), (.i .i64)] (.agg [J, J, J, J, J]) none
def wp4 : BE := .blk 396 (.cells [(Z 385), (Z 386), (Z 387), (Z 388), (Z 389)]) false
def wp5 : BE := .blk 395 (.cells [(Z 377), (Z 378), (Z 379), (Z 380), (Z 381), (Z 382), (Z 383), (Z 397)]) false
def wp6 : BE := .blk 242 (.cells [(Z 392)]) false
def wp7 : BE := .blk 162 (.cells [(.ptr 148 0)]) false
def wp8 : BE := .blk 10 (.cells [(Z 393)]) false
def wp9 : BE := .blk 8 (.cells [(Y 1), (Z 394), (Y 3), (Y 4), (Y 5)]) false
def qA8 : Hint := .inv ⟨424, [(Z 397), (Y 407), U, U, (.vec 1 408 ⟨409, 0⟩), (Y 410), (Z 86), (Z 411)] ++ ys 412 12 ++ [U], [D 409 411 0, D 0 411 0, D 411 0 X7, D 0 409 0, D 409 0 X7], [wp0, wp1, wp2, wp3, wp4, wp5, wp6, wp7, wp8, wp9]⟩ ⟨86, 0⟩ ⟨411, 0⟩
def qA7 : Hint := .inv ⟨465, ys 424 4 ++ [(.ptr 8 0), (.ptr 10 0), (Y 428), (Y 429), (Y 430), (.ptr 406 0), U, (Y 444)] ++ ys 431 13 ++ [(.vec 1 408 ⟨409, 0⟩), (Z 409), (Z 445)] ++ ys 446 19, [D 445 409 0, D 0 445 0, D 445 0 X7], [wp0, wp1, wp2, wp3, wp4, wp5, wp6, wp7, wp8, wp9]⟩ ⟨409, 0⟩ ⟨445, 0⟩
def hc65x3 : Hs := [qA8, qA7]
def rB : Con := ⟨false, 65, 1, ⟨395, [(.agg [(Z 377), (Z 378), (Z 379), (Z 380), (Z 381), (Z 382), (Z 383), (Z 384)]), (.agg [(Z 385), (Z 386), (Z 387), (Z 388), (Z 389)]), (.ptr 242 0), (.ptr 162 0), (.ptr 8 0), (.ptr 10 0)], [D 0 394 X8, D 394 0 X7, D 0 393 X8, D 393 0 X7, D 0 392 X8, D 392 0 X7, D 0 391 X8, D 391 0 X7, D 0 390 X8, D 390 0 X7, D 0 389 X8, D 389 0 X7, D 0 388 X8, D 388 0 X7, D 0 387 X8, D 387 0 X7, D 0 386 X8, D 386 0 X7, D 0 385 X8, D 385 0 X7, D 0 384 X8, D 384 0 X7, D 0 383 X8, D 383 0 X7, D 0 382 X8, D 382 0 X7, D 0 381 X8, D 381 0 X7, D 0 380 X8, D 380 0 X7, D 0 379 X8, D 379 0 X7, D 0 378 X8, D 378 0 X7, D 0 377 X8, D 377 0 X7, D 0 376 X8, D 376 0 X7, D 0 375 X8, D 375 0 X7, D 0 369 X8, D 0 370 X8, D 0 371 X8, D 0 372 X8, D 0 373 X8, D 0 365 X8, D 0 364 X8, D 0 363 X8, D 0 278 X8, D 0 258 X8, D 0 304 X8, D 0 193 X8, D 0 115 X8, D 0 86 X8, D 0 57 X8, D 0 2 X8, D 0 25 X8, D 0 7 X8, D 0 19 X8, D 0 6 X8, D 115 0 X7, D 371 0 X7, D 363 0 X7, D 369 0 X7, D 25 0 X7, D 57 0 X7, D 373 0 X7, D 365 0 X7, D 2 0 X7, D 304 0 X7, D 372 0 X7, D 364 0 X7, D 258 0 X7, D 370 0 X7, D 86 0 4, D 278 0 X7, .len 4 86, .len 3 57, .len 3 11, .ty 1 (.lst [J] ⟨0, 0⟩ ⟨0, 1048576⟩), .ty 4 (.lst [J, J, J, J] ⟨0, 0⟩ ⟨0, 1048576⟩), D 6 0 X7, D 193 0 X7, D 7 0 X7, D 19 0 X7, D 11 0 X7, D 0 11 X8], [wp2, wp3, wp6, wp7, wp8, wp9]⟩, [((.bool false), ⟨471, [], [], [wp2, wp3, wp6, wp7, wp8, wp9]⟩), ((.bool true), ⟨465, [], [], [wp2, wp3, wp6, wp7, wp8, wp9]⟩)], ⟨0, 0⟩, ⟨0, 0⟩, none⟩
theorem qGF : ∀ v : V, v.i 0 = 0 → GOK1 tbl v 1 rB := cr cI (n := 1000) (Γ := [bu]) (hs := hc65x3) (by kernel_rfl) rfl rfl rfl (aQ eg bW)
end Tu
