/- A part of a proof. -/
import Derived.Test.YtkefopelclcljacC59x1
import Derived.KernelRfl
set_option linter.unusedVariables false
set_option linter.unusedSimpArgs false
set_option maxRecDepth 1000000
namespace Tu
open Go Ce Ce.L Ce.S
def wm0 : BE := .blk 402 (.cells [(Z 393), (Z 394), (Z 395), (Z 396), (Z 397)]) false
def wm1 : BE := .blk 253 (.cells [(.ptr 252 0)]) false
def wm2 : BE := .blk 252 (.cells [(Y 1), (Z 398), (Y 3), (.slc 4 170 0 ⟨0, 0⟩ ⟨91, 1⟩ ⟨91, 1⟩), (Y 5), (Z 399), (.map 251)]) false
def wm3 : BE := .map 251 true [(.i .i64), (.i .i64), (.i .i64), (.i .i64), (.i .i64), (.i .i64), (.i .i64), (.i .i64)] (.agg [J, J, J, J, J]) none
def wm4 : BE := .blk 170 (.rows 4 [(.int .i64 ⟨0, 0⟩ ⟨0, X7⟩), (.int .i64 ⟨0, 0⟩ ⟨0, X7⟩), (.int .i64 ⟨0, 0⟩ ⟨0, X7⟩), (.int .i64 ⟨0, 0⟩ ⟨0, X7⟩)] ⟨91, 1⟩) false
def wm5 : BE := .blk 168 (.cells [(Z 400)]) false
def wm6 : BE := .blk 12 (.cells [(Z 9)]) false
def wm7 : BE := .blk 11 (.cells [(Z 6), (Z 7)]) false
def wm8 : BE := .blk 463 (.cells [(Z 595), (Z 596), (Z 597), (Z 598), (Z 599)]) false
def wm9 : BE := .blk 456 (.cells [(Z 0), (Z 0), (Z 0), (Z 0), (Z 0)]) false
def wm10 : BE := .blk 455 (.cells [(Z 0), (Z 0), (Z 0), (Z 0), (Z 0)]) false
def wm11 : BE := .blk 454 (.cells [(Z 385), (Z 386), (Z 449), (Z 450), (Z 451), (Z 452), (Z 453), (Z 404)]) false
def wm12 : BE := .blk 401 (.cells [(Z 385), (Z 386), (Z 449), (Z 450), (Z 451), (Z 452), (Z 453), (Z 404)]) false
def wm13 : BE := .blk 457 (.cells [(Z 731), (Z 732), (Z 733), (Z 734), (Z 735)]) false
def qAK : Hint := .inv ⟨449, [(Y 405), (Y 406), (.ptr 168 0), (.ptr 11 0), (.ptr 253 0), (.ptr 12 0), (.ptr 401 0), (.ptr 402 0), (Y 407), (Z 416), (Y 417)] ++ ys 408 8 ++ ys 418 26, [D 448 0 X7, D 0 448 X8, D 447 0 X7, D 0 447 X8, D 446 0 X7, D 0 446 X8, D 445 0 X7, D 0 445 X8, D 444 0 X7, D 0 444 X8, D 6 416 0, D 416 0 X7, D 0 416 X8], [wm0, .blk 401 (.cells [(Z 385), (Z 386), (Z 444), (Z 445), (Z 446), (Z 447), (Z 448), (Z 404)]) false, wm1, wm2, wm3, wm4, wm5, wm6, wm7]⟩ ⟨0, 100⟩ ⟨416, 0⟩
def qAJ : Hint := .unroll
def qAI : Hint := .inv ⟨605, [(.ptr 252 0), (Y 465), U, (.ptr 454 0), (.ptr 455 0), (Y 466), (Y 467), (.ptr 457 0), (Y 468), (.ptr 463 0)] ++ ys 495 6 ++ ys 469 10 ++ [U] ++ ys 479 16 ++ [(Z 464), (Z 501)] ++ ys 502 93 ++ us 7, [D 604 0 X7, D 0 604 X8, D 603 0 X7, D 0 603 X8, D 602 0 X7, D 0 602 X8, D 601 0 X7, D 0 601 X8, D 600 0 X7, D 0 600 X8, D 599 0 X7, D 0 599 X8, D 598 0 X7, D 0 598 X8, D 597 0 X7, D 0 597 X8, D 596 0 X7, D 0 596 X8, D 595 0 X7, D 0 595 X8, D 501 30 0, D 0 501 0, D 501 0 X7], [wm8, .blk 457 (.cells [(Z 600), (Z 601), (Z 602), (Z 603), (Z 604)]) false, wm9, wm10, wm11, wm0, wm12, wm1, wm2, wm3, wm4, wm5, wm6, wm7]⟩ ⟨30, 0⟩ ⟨501, 0⟩
def qAH : Hint := .inv ⟨736, [(.ptr 252 0), (Y 605), U, (.ptr 454 0), (.ptr 455 0), (Y 606), (Y 607), (.ptr 457 0), (Y 608), (.ptr 463 0), (Z 501), (Z 730)] ++ ys 609 14 ++ [U] ++ ys 623 16 ++ [(Z 464), (Z 501)] ++ ys 639 6 ++ [(.slc 4 170 0 ⟨0, 0⟩ ⟨91, 1⟩ ⟨91, 1⟩), (I 91 1), (Z 729)] ++ ys 645 84 ++ us 7, [D 735 0 X7, D 0 735 X8, D 734 0 X7, D 0 734 X8, D 733 0 X7, D 0 733 X8, D 732 0 X7, D 0 732 X8, D 731 0 X7, D 0 731 X8, D 730 0 X7, D 0 730 X8, D 729 91 1, D 0 729 0, D 729 0 X7], [wm8, wm13, wm9, wm10, wm11, wm0, wm12, wm1, wm2, wm3, wm4, wm5, wm6, wm7]⟩ ⟨91, 1⟩ ⟨729, 0⟩
def qAG : Hint := .inv ⟨866, [(.ptr 252 0), (Y 736), U, (.ptr 454 0), (.ptr 455 0), (Y 737), (Y 738), (.ptr 457 0), (Y 739), (.ptr 463 0), (Z 501), (Z 730)] ++ ys 740 14 ++ [U] ++ ys 754 16 ++ [(Z 464), (Z 501)] ++ ys 770 56 ++ [(.slc 4 170 0 ⟨0, 0⟩ ⟨91, 1⟩ ⟨91, 1⟩), (I 91 1), (Z 860)] ++ ys 826 34 ++ us 7, [D 865 0 X7, D 0 865 X8, D 864 0 X7, D 0 864 X8, D 863 0 X7, D 0 863 X8, D 862 0 X7, D 0 862 X8, D 861 0 X7, D 0 861 X8, D 860 91 1, D 0 860 0, D 860 0 X7], [.blk 463 (.cells [(Z 861), (Z 862), (Z 863), (Z 864), (Z 865)]) false, wm13, wm9, wm10, wm11, wm0, wm12, wm1, wm2, wm3, wm4, wm5, wm6, wm7]⟩ ⟨91, 1⟩ ⟨860, 0⟩
def hc61x3 : Hs := [qAK, qAJ, qAI, qAH, qAG]
def wG : Con := ⟨false, 61, 1, ⟨401, [(.agg [(Z 385), (Z 386), (Z 387), (Z 388), (Z 389), (Z 390), (Z 391), (Z 392)]), (.agg [(Z 393), (Z 394), (Z 395), (Z 396), (Z 397)]), (.ptr 168 0), (.ptr 11 0), (.ptr 253 0), (.ptr 12 0)], [D 0 400 X8, D 400 0 X7, D 0 400 0, D 400 0 4, D 0 399 X8, D 399 0 X7, D 0 398 X8, D 398 0 X7, D 0 397 X8, D 397 0 X7, D 0 396 X8, D 396 0 X7, D 0 395 X8, D 395 0 X7, D 0 394 X8, D 394 0 X7, D 0 393 X8, D 393 0 X7, D 0 392 X8, D 392 0 X7, D 0 391 X8, D 391 0 X7, D 0 390 X8, D 390 0 X7, D 0 389 X8, D 389 0 X7, D 0 388 X8, D 388 0 X7, D 0 387 X8, D 387 0 X7, D 0 386 X8, D 386 0 X7, D 0 385 X8, D 385 0 X7, D 0 384 X8, D 384 0 X7, D 0 383 X8, D 383 0 X7, D 0 377 X8, D 0 378 X8, D 0 379 X8, D 0 380 X8, D 0 381 X8, D 0 373 X8, D 0 372 X8, D 0 371 X8, D 0 370 X8, D 0 288 X8, D 0 268 X8, D 0 225 X8, D 0 120 X8, D 0 91 0, D 0 62 X8, D 0 2 X8, D 0 30 X8, D 0 7 X8, D 0 6 X8, D 7 0 40, D 371 0 X7, D 91 0 4, D 379 0 X7, D 377 0 X7, D 373 0 X7, D 381 0 X7, D 2 0 X7, D 288 0 X7, D 120 0 X7, D 372 0 X7, D 268 0 X7, D 380 0 X7, D 6 0 X7, D 370 0 X7, D 378 0 X7, D 30 0 X7, D 62 0 X7, .len 1 30, .len 1 24, .ty 1 (.lst [J] ⟨0, 0⟩ ⟨0, 1048576⟩), D 225 0 X7, D 9 30 0, D 9 0 X7, D 0 9 (-1), D 24 0 X7, D 0 24 X8], [wm1, wm2, wm3, wm4, wm5, wm6, wm7]⟩, [((.bool false), ⟨464, [], [], [wm1, wm2, wm3, wm4, wm5, wm6, wm7]⟩), ((.bool true), ⟨449, [], [], [wm1, wm2, wm3, wm4, wm5, wm6, wm7]⟩)], ⟨0, 0⟩, ⟨0, 0⟩, none⟩
theorem g61x3 : ∀ v : V, v.i 0 = 0 → GOK1 tbl v 1 wG := cr cI (n := 1000) (Γ := [bu]) (hs := hc61x3) (by kernel_rfl) rfl rfl rfl (aQ eg bW)
end Tu
