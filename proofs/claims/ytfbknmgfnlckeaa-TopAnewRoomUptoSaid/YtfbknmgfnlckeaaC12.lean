/- A part of a proof. -/
import Derived.Test.YtfbknmgfnlckeaaC59x2
import Derived.KernelRfl
set_option linter.unusedVariables false
set_option linter.unusedSimpArgs false
set_option maxRecDepth 1000000
namespace Ro
open Go Ce Ce.L Ce.S
def hc12x0 : Hint := .unroll
def hc12x1 : Hint := .unroll
def hc12 : Hs := [hc12x0, hc12x1]
def qAV : Con := ⟨false, 12, 1, ⟨9, [(.agg [(Z 1), (Z 2), (Z 3), (Y 4), (Z 5), (Y 6), (Y 7)]), (Z 8)], [D 0 1 X8, D 1 0 X7, D 0 2 X8, D 2 0 X7, D 0 3 X8, D 3 0 X7, .ty 4 (.lst [.str, J, J] ⟨0, 0⟩ ⟨0, 1048576⟩), D 0 5 X8, D 5 0 X7, .ty 6 (.lst [J] ⟨0, 0⟩ ⟨0, 1048576⟩), .ty 7 (.lst [J, J] ⟨0, 0⟩ ⟨0, 1048576⟩), D 0 8 X8, D 8 0 X7], []⟩, [((.tup [(.agg [(Z 0), (Z 0)]), (Z 22)]), ⟨24, [], [D 0 22 (-1), D 0 11 0, D 11 0 1048576, .len 6 11, D 22 0 X7], []⟩), ((.tup [(.agg [(Z 404), (Z 405)]), (Z 0)]), ⟨418, [], [D 0 8 0, D 0 405 X8, D 0 404 X8, D 0 89 0, D 0 30 (-1), D 0 5 0, D 0 3 0, D 0 2 0, D 0 1 (-1), D 0 11 0, D 1 0 6, D 3 0 69, D 11 1 0, D 11 0 1048576, D 5 0 6, D 89 0 4, D 405 0 X7, D 2 3 0, D 2 0 69, D 8 11 0, D 404 0 X7, D 30 0 4, .ty 7 (.lst [(.int .i64 ⟨0, 0⟩ ⟨11, 0⟩), (.int .i64 ⟨0, 1⟩ ⟨0, 7⟩)] ⟨89, 0⟩ ⟨89, 0⟩), .len 7 89, .ty 6 (.lst [(.int .i64 ⟨0, 0⟩ ⟨30, (-1)⟩)] ⟨11, 0⟩ ⟨11, 0⟩), .ty 4 (.lst [.str, (.int .i64 ⟨0, 0⟩ ⟨0, 15⟩), (.int .i64 ⟨0, 0⟩ ⟨0, 15⟩)] ⟨30, 0⟩ ⟨30, 0⟩), .len 4 30, .len 6 11], []⟩)], ⟨0, 0⟩, ⟨0, 0⟩, none⟩
theorem g12 : ∀ v : V, v.i 0 = 0 → GOK1 tbl v 1 qAV := iO de (n := 1000) (Γ := [dm, gj, lD]) (hs := hc12) (by kernel_rfl) rfl rfl rfl (aQ ix (aQ g7L (aQ g7 cZ)))
end Ro
