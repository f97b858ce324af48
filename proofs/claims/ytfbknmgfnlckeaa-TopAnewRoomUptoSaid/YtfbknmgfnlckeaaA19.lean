/- A part of a proof. -/
import Derived.Test.YtfbknmgfnlckeaaC59x2
import Derived.KernelRfl
set_option linter.unusedVariables false
set_option linter.unusedSimpArgs false
set_option maxRecDepth 1000000
namespace Ro
open Go Ce Ce.L Ce.S
def wh0 : BE := .blk 121 (.cells [(I 28 (-1))]) false
def wh1 : BE := .blk 120 (.cells [(Z 0)]) false
def wh2 : BE := .blk 12 (.cells [(Z 1), (Z 2), (Z 3), (Y 4), (Z 5), (Y 6), (Y 7)]) false
def wh3 : BE := .blk 11 (.cells [(Z 0), (Z 0)]) false
def wh4 : BE := .blk 10 (.cells [(Y 8)]) false
def wh5 : BE := .blk 9 (.cells [(Z 1), (Z 2), (Z 3), (Y 4), (Z 5), (Y 6), (Y 7)]) false
def wh6 : BE := .blk 432 (.cells [(Z 475), (Z 476)]) false
def wh7 : BE := .blk 431 (.rows 1 [(.int .i64 ⟨0, 0⟩ ⟨28, (-1)⟩)] ⟨118, 0⟩) false
def wh8 : BE := .blk 137 (.cells [(Z 1), (Z 2), (Z 3), (Y 4), (Z 5), (Y 6), (Y 7), (Z 417), (Z 418), (Z 419), (Z 420), (Z 421), (Z 422), (Z 423), (Z 424), (Z 425), (Z 426), (Z 427), (Z 428), (Z 228), (Z 229), (.map 136)]) false
def h19x0 : Hint := .inv ⟨135, [(Y 8), (.clo 73 [] [(.ptr 120 0), (.ptr 121 0)]), U, U, (Y 122), (Y 124), (Y 123), (Z 118), (Z 125)] ++ ys 126 8 ++ [U, (Y 134)], [.pre 8 ⟨125, 0⟩ [(.int .i64 ⟨0, 0⟩ ⟨28, (-1)⟩)], D 125 1 0, D 125 118 0, D 125 0 7, D 0 125 0], [wh0, wh1, wh2, wh3, wh4, wh5]⟩ ⟨118, 0⟩ ⟨125, 0⟩
def h19x1 : Hint := .inv ⟨477, [(Y 433), (Y 434), (.ptr 9 0), (Y 435), (.ptr 11 0)] ++ ys 436 4 ++ [(.ptr 432 0), U, (Y 461)] ++ ys 440 8 ++ [U, U] ++ ys 448 13 ++ [(.slc 1 431 0 ⟨0, 0⟩ ⟨118, 0⟩ ⟨118, 0⟩), (Z 118), (Z 462)] ++ ys 463 12 ++ [U, U], [D 476 0 X7, D 0 476 X8, D 475 0 X7, D 0 475 X8, D 462 1 0, D 58 462 0, D 462 118 0, D 462 0 7, D 0 462 0], [wh6, wh7, wh8, .emap 136, wh0, wh1, wh2, wh3, wh4, wh5]⟩ ⟨118, 0⟩ ⟨462, 0⟩
def h19x2 : Hint := .inv ⟨477, [(Y 433), (Y 434), (.ptr 9 0), (Y 435), (.ptr 11 0)] ++ ys 436 4 ++ [(.ptr 432 0), U, (Y 461)] ++ ys 440 8 ++ [U, U] ++ ys 448 13 ++ [(.slc 1 431 0 ⟨0, 0⟩ ⟨118, 0⟩ ⟨118, 0⟩), (Z 118), (Z 462)] ++ ys 463 12 ++ [U, U], [D 476 0 X7, D 0 476 X8, D 475 0 X7, D 0 475 X8, D 462 1 0, D 462 118 0, D 462 0 7, D 0 462 0], [wh6, wh7, wh8, .emap 136, wh0, wh1, wh2, wh3, wh4, wh5]⟩ ⟨118, 0⟩ ⟨462, 0⟩
def h19x3 : Hint := .inv ⟨477, [(Y 433), (Y 434), (.ptr 9 0), (Y 435), (.ptr 11 0)] ++ ys 436 4 ++ [(.ptr 432 0), U, (Y 461)] ++ ys 440 8 ++ [U, U] ++ ys 448 13 ++ [(.slc 1 431 0 ⟨0, 0⟩ ⟨118, 0⟩ ⟨118, 0⟩), (Z 118), (Z 462)] ++ ys 463 12 ++ [U, U], [D 476 0 X7, D 0 476 X8, D 475 0 X7, D 0 475 X8, D 462 1 0, D 462 118 0, D 462 0 7, D 0 462 0], [wh6, wh7, wh8, .emap 136, wh0, wh1, wh2, wh3, wh4, wh5]⟩ ⟨118, 0⟩ ⟨462, 0⟩
def h19x4 : Hint := .inv ⟨477, [(Y 433), (Y 434), (.ptr 9 0), (Y 435), (.ptr 11 0)] ++ ys 436 4 ++ [(.ptr 432 0), U, (Y 461)] ++ ys 440 8 ++ [U, U] ++ ys 448 13 ++ [(.slc 1 431 0 ⟨0, 0⟩ ⟨118, 0⟩ ⟨118, 0⟩), (Z 118), (Z 462)] ++ ys 463 12 ++ [U, U], [D 476 0 X7, D 0 476 X8, D 475 0 X7, D 0 475 X8, D 462 1 0, D 462 118 0, D 462 0 7, D 0 462 0], [wh6, wh7, wh8, .emap 136, wh0, wh1, wh2, wh3, wh4, wh5]⟩ ⟨118, 0⟩ ⟨462, 0⟩
def h19x5 : Hint := .inv ⟨477, [(Y 433), (Y 434), (.ptr 9 0), (Y 435), (.ptr 11 0)] ++ ys 436 4 ++ [(.ptr 432 0), U, (Y 461)] ++ ys 440 8 ++ [U, U] ++ ys 448 13 ++ [(.slc 1 431 0 ⟨0, 0⟩ ⟨118, 0⟩ ⟨118, 0⟩), (Z 118), (Z 462)] ++ ys 463 12 ++ [U, U], [D 476 0 X7, D 0 476 X8, D 475 0 X7, D 0 475 X8, D 462 1 0, D 462 118 0, D 462 0 7, D 0 462 0], [wh6, wh7, wh8, .emap 136, wh0, wh1, wh2, wh3, wh4, wh5]⟩ ⟨118, 0⟩ ⟨462, 0⟩
def h19x6 : Hint := .inv ⟨477, [(Y 433), (Y 434), (.ptr 9 0), (Y 435), (.ptr 11 0)] ++ ys 436 4 ++ [(.ptr 432 0), U, (Y 461)] ++ ys 440 8 ++ [U, U] ++ ys 448 13 ++ [(.slc 1 431 0 ⟨0, 0⟩ ⟨118, 0⟩ ⟨118, 0⟩), (Z 118), (Z 462)] ++ ys 463 12 ++ [U, U], [D 476 0 X7, D 0 476 X8, D 475 0 X7, D 0 475 X8, D 462 1 0, D 462 118 0, D 462 0 7, D 0 462 0], [wh6, wh7, wh8, .emap 136, wh0, wh1, wh2, wh3, wh4, wh5]⟩ ⟨118, 0⟩ ⟨462, 0⟩
def h19x7 : Hint := .inv ⟨477, [(Y 433), (Y 434), (.ptr 9 0), (Y 435), (.ptr 11 0)] ++ ys 436 4 ++ [(.ptr 432 0), U, (Y 461)] ++ ys 440 8 ++ [U, U] ++ ys 448 13 ++ [(.slc 1 431 0 ⟨0, 0⟩ ⟨118, 0⟩ ⟨118, 0⟩), (Z 118), (Z 462)] ++ ys 463 12 ++ [U, U], [D 476 0 X7, D 0 476 X8, D 475 0 X7, D 0 475 X8, D 462 1 0, D 462 118 0, D 462 0 7, D 0 462 0], [wh6, wh7, wh8, .emap 136, wh0, wh1, wh2, wh3, wh4, wh5]⟩ ⟨118, 0⟩ ⟨462, 0⟩
def h19 : Hs := [h19x0, h19x1, h19x2, h19x3, h19x4, h19x5, h19x6, h19x7]
theorem chk19 : dO tbl [(40, [.str], .bool)] 1000 [dm, gj, lD] c19 Ts19 h19 (lh sh19) = true := by kernel_rfl
theorem ap19 : Ap19 := fun h => gZ de (rfl : tbl 19 = some c19) rfl chk19 (aQ ix (aQ g7L (aQ g7 cZ))) rfl h
end Ro
