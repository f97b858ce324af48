/- A part of a proof. -/
import Derived.Test.YtkefopelclcljacC59x1
import Derived.KernelRfl
set_option linter.unusedVariables false
set_option linter.unusedSimpArgs false
set_option maxRecDepth 1000000
namespace Tu
open Go Ce Ce.L Ce.S
def wi0 : BE := .blk 138 (.cells [(Y 1), (Z 352), (Y 3), (Y 4), (Y 5), (Z 353), (.map 137)]) false
def wi1 : BE := .map 137 true [(.i .i64), (.i .i64), (.i .i64), (.i .i64), (.i .i64), (.i .i64), (.i .i64), (.i .i64)] (.agg [J, J, J, J, J]) none
def wi2 : BE := .blk 203 (.cells [(Z 354)]) false
def wi3 : BE := .blk 152 (.cells [(.ptr 138 0)]) false
def qAS : Hint := .unroll
def qAR : Hint := .unroll
def qAQ : Hint := .unroll
def qAP : Hint := .unroll
def hc56x3 : Hs := [qAS, qAR, qAQ, qAP]
def wI : Con := ⟨false, 56, 1, ⟨355, [(.agg [(Z 339), (Z 340), (Z 341), (Z 342), (Z 343), (Z 344), (Z 345), (Z 346)]), (.agg [(Z 347), (Z 348), (Z 349), (Z 350), (Z 351)]), (.ptr 203 0), (.ptr 152 0)], [D 0 354 X8, D 354 0 X7, D 0 354 0, D 354 0 3, D 0 353 X8, D 353 0 X7, D 0 352 X8, D 352 0 X7, D 0 351 X8, D 351 0 X7, D 0 350 X8, D 350 0 X7, D 0 349 X8, D 349 0 X7, D 0 348 X8, D 348 0 X7, D 0 347 X8, D 347 0 X7, D 0 346 X8, D 346 0 X7, D 0 345 X8, D 345 0 X7, D 0 344 X8, D 344 0 X7, D 0 343 X8, D 343 0 X7, D 0 342 X8, D 342 0 X7, D 0 341 X8, D 341 0 X7, D 0 340 X8, D 340 0 X7, D 0 339 X8, D 339 0 X7, D 0 338 X8, D 338 0 X7, D 0 337 X8, D 337 0 X7, D 0 331 X8, D 0 332 X8, D 0 333 X8, D 0 334 X8, D 0 335 X8, D 0 327 X8, D 0 326 X8, D 0 325 X8, D 0 240 X8, D 0 220 X8, D 0 266 X8, D 0 176 X8, D 0 106 X8, D 0 48 X8, D 0 2 X8, D 0 16 X8, D 0 6 X8, D 335 0 X7, D 327 0 X7, D 331 0 X7, D 325 0 X7, D 77 0 X7, D 333 0 X7, D 2 0 X7, D 16 0 X7, D 48 0 X7, D 240 0 X7, D 332 0 X7, D 220 0 X7, D 266 0 X7, D 106 0 X7, D 326 0 X7, D 334 0 X7, .len 4 77, .len 3 48, .len 3 8, .ty 1 (.lst [J] ⟨0, 0⟩ ⟨0, 1048576⟩), D 6 0 X7, D 176 0 X7, D 0 77 X8, D 8 0 X7, D 0 8 X8], [wi0, wi1, wi2, wi3]⟩, [((Y 362), ⟨363, [], [.ty 362 .bool, D 0 361 X8, D 0 357 0, D 357 0 1048576, .len 1 357], [wi0, wi1, wi2, wi3]⟩), ((.bool false), ⟨358, [], [D 0 357 0, D 357 347 (-1), D 357 0 1048576, D 354 0 0, .len 1 357], [wi0, wi1, wi2, wi3]⟩)], ⟨0, 0⟩, ⟨0, 0⟩, none⟩
theorem g56x3 : ∀ v : V, v.i 0 = 0 → GOK1 tbl v 1 wI := cr cI (n := 1000) (Γ := [bu]) (hs := hc56x3) (by kernel_rfl) rfl rfl rfl (aQ eg bW)
end Tu
