/- A part of a proof. -/
import Derived.Test.YtkefopelclcljacC59x1
import Derived.KernelRfl
set_option linter.unusedVariables false
set_option linter.unusedSimpArgs false
set_option maxRecDepth 1000000
namespace Tu
open Go Ce Ce.L Ce.S
def hc52x3 : Hs := []
def wJ : Con := ⟨false, 52, 1, ⟨351, [(.agg [(Z 336), (Z 337), (Z 338), (Z 339), (Z 340), (Z 341), (Z 342), (Z 343)]), (.agg [(Z 344), (Z 345), (Z 346), (Z 347), (Z 348)]), (.ptr 202 0), (.ptr 8 0)], [D 0 350 X8, D 350 0 X7, D 0 349 X8, D 349 0 X7, D 0 349 0, D 349 0 3, D 0 348 X8, D 348 0 X7, D 0 347 X8, D 347 0 X7, D 0 346 X8, D 346 0 X7, D 0 345 X8, D 345 0 X7, D 0 344 X8, D 344 0 X7, D 0 343 X8, D 343 0 X7, D 0 342 X8, D 342 0 X7, D 0 341 X8, D 341 0 X7, D 0 340 X8, D 340 0 X7, D 0 339 X8, D 339 0 X7, D 0 338 X8, D 338 0 X7, D 0 337 X8, D 337 0 X7, D 0 336 X8, D 336 0 X7, D 0 335 X8, D 335 0 X7, D 0 329 X8, D 0 330 X8, D 0 331 X8, D 0 332 X8, D 0 333 X8, D 0 325 X8, D 0 324 X8, D 0 323 X8, D 0 238 X8, D 0 218 X8, D 0 264 X8, D 0 198 X8, D 0 175 X8, D 0 6 X8, D 323 0 X7, D 331 0 X7, D 329 0 X7, D 325 0 X7, D 333 0 X7, D 264 0 X7, D 324 0 X7, D 332 0 X7, D 330 0 X7, D 218 0 X7, D 238 0 X7, D 198 0 X7, D 175 0 X7, D 6 0 X7], [.blk 202 (.cells [(Z 349)]) false, .blk 8 (.cells [(Z 350)]) false]⟩, [((Y 354), ⟨355, [], [.ty 354 .bool, D 0 353 X8, D 353 0 X7], [.blk 202 (.cells [(Z 349)]) false, .blk 8 (.cells [(Z 350)]) false]⟩)], ⟨0, 0⟩, ⟨0, 0⟩, none⟩
theorem g52x3 : ∀ v : V, v.i 0 = 0 → GOK1 tbl v 1 wJ := cr cI (n := 1000) (Γ := [bu]) (hs := hc52x3) (by kernel_rfl) rfl rfl rfl (aQ eg bW)
end Tu
