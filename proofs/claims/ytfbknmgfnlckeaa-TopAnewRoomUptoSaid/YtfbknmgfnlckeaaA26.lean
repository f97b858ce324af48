/- A part of a proof. -/
import Derived.Test.YtfbknmgfnlckeaaC54x3
import Derived.KernelRfl
set_option linter.unusedVariables false
set_option linter.unusedSimpArgs false
set_option maxRecDepth 1000000
namespace Ro
open Go Ce Ce.L Ce.S
def h26x0 : Hint := .unroll
def h26x1 : Hint := .unroll
def h26x2 : Hint := .inv ⟨472, [(Y 417), (Z 8), (Y 418), U, (.vec 1 437 ⟨438, 0⟩), (Y 419), (.ptr 123 0), (.clo 54 [(.ptr 123 0)] []), (Y 439), (Y 440), (Y 441)] ++ ys 420 15 ++ [U, (Y 435), (Y 436), (Z 442)] ++ ys 443 29 ++ [U], [D 438 442 0, D 442 0 7, D 0 442 0, D 438 0 7, D 0 438 0], [.vec 437 1 [J] ⟨438, 0⟩ false, .blk 123 (.cells [(Z 1), (Z 2), (Z 3), (Y 4), (Z 5), (Y 6), (Y 7), (Z 403), (Z 404), (Z 405), (Z 406), (Z 407), (Z 408), (Z 409), (Z 410), (Z 411), (Z 412), (Z 413), (Z 414), (Z 214), (Z 215), (.map 122)]) false, .map 122 true [(.i .i64), (.i .i64), (.i .i64), (.i .i64)] (.agg [J, J]) none, .blk 120 (.cells [(Z 1)]) false, .blk 119 (.cells [(Z 10)]) false, .blk 118 (.cells [(Z 8)]) false, .blk 13 (.cells [(Z 1), (Z 2), (Z 3), (Y 4), (Z 5), (Y 6), (Y 7)]) false, .blk 12 (.cells [(.slc 1 11 0 ⟨0, 0⟩ ⟨0, 3⟩ ⟨0, 3⟩)]) false, .blk 11 (.cells [(Z 8), (Z 10), (Z 1)]) false, .blk 9 (.cells [(Z 1), (Z 2), (Z 3), (Y 4), (Z 5), (Y 6), (Y 7)]) false]⟩ ⟨0, 7⟩ ⟨442, 0⟩
def h26 : Hs := [h26x0, h26x1, h26x2]
theorem chk26 : dO tbl [(40, [.str], .bool)] 1000 [mN, dm, gj, lD] c26 Ts26 h26 (lh sh26) = true := by kernel_rfl
theorem ap26 : Ap26 := fun h => gZ de (rfl : tbl 26 = some c26) rfl chk26 (aQ qAE (aQ ix (aQ g7L (aQ g7 cZ)))) rfl h
end Ro
