/- A part of a proof. -/
import Derived.Test.YtkefopelclcljacLaw
import Derived.Test.YtkefopelclcljacNm
import Derived.KernelRfl
set_option linter.unusedVariables false
set_option linter.unusedSimpArgs false
set_option maxRecDepth 1000000
namespace Tu
open Go Ce Ce.L Ce.S
def qAU : Hint := .unroll
def qAT : Hint := .unroll
def hc41x4 : Hs := [qAU, qAT]
def wL : Con := ⟨false, 41, 1, ⟨16, [(.agg [(Z 13), (Z 14)]), (Z 15)], [D 0 15 X8, D 15 0 X7, D 0 14 X8, D 14 0 X7, D 0 13 X8, D 13 0 X7, D 0 6 X8, D 0 7 X8, D 7 0 X7, D 6 0 X7], []⟩, [((Z 20), ⟨21, [], [D 0 20 (-1), D 0 20 0, D 20 0 7, D 20 0 X7, D 0 20 X8], []⟩), ((Z 0), ⟨24, [], [D 0 14 0, D 0 13 0, D 13 14 0, D 13 15 0, D 14 13 3, D 14 15 0], []⟩)], ⟨0, 0⟩, ⟨0, 0⟩, none⟩
theorem g41x4 : ∀ v : V, v.i 0 = 0 → GOK1 tbl v 1 wL := cr cI (n := 1000) (Γ := []) (hs := hc41x4) (by kernel_rfl) rfl rfl rfl bW
end Tu
