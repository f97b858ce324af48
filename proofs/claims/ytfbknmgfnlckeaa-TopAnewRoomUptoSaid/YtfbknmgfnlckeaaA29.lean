/- A part of a proof. -/
import Derived.Test.YtfbknmgfnlckeaaC54x3
import Derived.KernelRfl
set_option linter.unusedVariables false
set_option linter.unusedSimpArgs false
set_option maxRecDepth 1000000
namespace Ro
open Go Ce Ce.L Ce.S
def wl0 : BE := .map 125 true [(.i .i64), (.i .i64), (.i .i64), (.i .i64)] (.agg [J, J]) none
def wl1 : BE := .blk 117 (.cells [(.slc 1 116 0 ⟨0, 0⟩ ⟨0, 6⟩ ⟨0, 6⟩)]) false
def wl2 : BE := .blk 116 (.cells [(Z 8), (Z 0), (Z 1), (Z 9), (I 0 1), (I 0 7)]) false
def wl3 : BE := .blk 10 (.cells [(Z 1), (Z 2), (Z 3), (Y 4), (Z 5), .nils, .nils]) false
def h29x0 : Hint := .unroll
def h29x1 : Hint := .unroll
def h29x2 : Hint := .unroll
def h29x3 : Hint := .inv ⟨360, [(Y 307), (Z 8), (Z 9), (.ptr 10 0), U, U, (.vec 1 335 ⟨336, 0⟩), (Y 308), (.ptr 126 0), (Y 309), (Y 337), (Y 338), (Y 339)] ++ ys 310 17 ++ [U] ++ ys 327 8 ++ [(I 8 1), (Z 340)] ++ ys 341 19 ++ [U], [D 336 340 0, D 340 1 1, D 340 8 1, D 340 0 7, D 0 340 0, D 336 1 1, D 336 8 1, D 336 0 15, D 0 336 0], [.vec 335 1 [J] ⟨336, 0⟩ false, .blk 126 (.cells [(Z 1), (Z 2), (Z 3), (Y 4), (Z 5), .nils, .nils, (Z 186), (Z 187), (Z 207), (Z 208), (Z 209), (Z 210), (Z 211), (Z 212), (Z 213), (Z 214), (Z 215), (Z 216), (Z 217), (Z 218), (.map 125)]) false, wl0, .blk 123 (.cells [(I 0 7)]) false, .blk 122 (.cells [(I 0 1)]) false, .blk 121 (.cells [(Z 9)]) false, .blk 120 (.cells [(Z 1)]) false, .blk 119 (.cells [(Z 0)]) false, .blk 118 (.cells [(Z 8)]) false, wl1, wl2, wl3]⟩ ⟨8, 1⟩ ⟨340, 0⟩
def h29x4 : Hint := .inv ⟨473, [(Y 420), (Z 8), (Z 9), (.ptr 10 0), U, U, (.vec 1 448 ⟨449, 0⟩), (Y 421), (.ptr 126 0), (Y 422), (Y 450), (Y 451), (Y 452)] ++ ys 423 17 ++ [U] ++ ys 440 8 ++ [(I 8 1), (Z 453)] ++ ys 454 19 ++ [U], [D 449 453 0, D 453 1 1, D 453 8 1, D 453 0 7, D 0 453 0, D 449 1 1, D 449 8 1, D 449 0 15, D 0 449 0], [.vec 448 1 [J] ⟨449, 0⟩ false, .blk 126 (.cells [(Z 1), (Z 2), (Z 3), (Y 4), (Z 5), .nils, .nils, (Z 406), (Z 407), (Z 408), (Z 409), (Z 410), (Z 411), (Z 412), (Z 413), (Z 414), (Z 415), (Z 416), (Z 417), (Z 217), (Z 218), (.map 125)]) false, wl0, .blk 123 (.cells [(I 0 7)]) false, .blk 122 (.cells [(I 0 1)]) false, .blk 121 (.cells [(Z 9)]) false, .blk 120 (.cells [(Z 1)]) false, .blk 119 (.cells [(Z 0)]) false, .blk 118 (.cells [(Z 8)]) false, wl1, wl2, wl3]⟩ ⟨8, 1⟩ ⟨453, 0⟩
def h29 : Hs := [h29x0, h29x1, h29x2, h29x3, h29x4]
theorem chk29 : dO tbl [(40, [.str], .bool)] 1000 [mN, dm, gj, lD] c29 Ts29 h29 (lh sh29) = true := by kernel_rfl
theorem ap29 : Ap29 := fun h => gZ de (rfl : tbl 29 = some c29) rfl chk29 (aQ qAE (aQ ix (aQ g7L (aQ g7 cZ)))) rfl h
end Ro
