/- A part of a proof. -/
import Derived.Test.YtkefopelclcljacC59x1
import Derived.KernelRfl
set_option linter.unusedVariables false
set_option linter.unusedSimpArgs false
set_option maxRecDepth 1000000
namespace Tu
open Go Ce Ce.L Ce.S
def wk0 : BE := .blk 142 (.cells [(Y 1), (Z 307), (Y 3), (Y 4), (Y 5), (Z 308), (.map 141)]) false
def wk1 : BE := .map 141 true [(.i .i64), (.i .i64), (.i .i64), (.i .i64), (.i .i64), (.i .i64), (.i .i64), (.i .i64)] (.agg [J, J, J, J, J]) none
def wk2 : BE := .blk 156 (.cells [(.ptr 142 0)]) false
def hc58x3 : Hs := []
def wH : Con := ⟨false, 58, 1, ⟨311, [(.agg [(Z 294), (Z 295), (Z 296), (Z 297), (Z 298), (Z 299), (Z 300), (Z 301)]), (.agg [(Z 302), (Z 303), (Z 304), (Z 305), (Z 306)]), (.ptr 9 0), (.ptr 156 0), (.ptr 10 0)], [D 0 310 X8, D 310 0 X7, D 0 310 0, D 0 309 X8, D 309 0 X7, D 0 309 0, D 309 0 3, D 0 308 X8, D 308 0 X7, D 0 307 X8, D 307 0 X7, D 0 306 X8, D 306 0 X7, D 0 305 X8, D 305 0 X7, D 0 304 X8, D 304 0 X7, D 0 303 X8, D 303 0 X7, D 0 302 X8, D 302 0 X7, D 0 301 X8, D 301 0 X7, D 0 300 X8, D 300 0 X7, D 0 299 X8, D 299 0 X7, D 0 298 X8, D 298 0 X7, D 0 297 X8, D 297 0 X7, D 0 296 X8, D 296 0 X7, D 0 295 X8, D 295 0 X7, D 0 294 X8, D 294 0 X7, D 0 293 X8, D 293 0 X7, D 0 292 X8, D 292 0 X7, D 0 286 X8, D 0 287 X8, D 0 288 X8, D 0 289 X8, D 0 290 X8, D 0 282 X8, D 0 281 X8, D 0 280 X8, D 0 195 X8, D 0 175 X8, D 0 221 X8, D 0 157 X8, D 0 109 X8, D 0 51 X8, D 0 2 X8, D 0 19 X8, D 0 7 X8, D 0 6 X8, D 287 0 X7, D 175 0 X7, D 19 0 X7, D 195 0 X7, D 51 0 X7, D 289 0 X7, D 281 0 X7, D 109 0 X7, D 221 0 X7, D 2 0 X7, D 288 0 X7, D 80 0 4, D 280 0 X7, D 290 0 X7, D 282 0 X7, D 286 0 X7, .len 4 80, .len 4 11, .ty 1 (.lst [J] ⟨0, 0⟩ ⟨0, 1048576⟩), .ty 4 (.lst [J, J, J, J] ⟨0, 0⟩ ⟨0, 1048576⟩), D 157 0 X7, D 7 0 X7, D 6 0 X7, D 0 80 X8, D 11 0 X7, D 0 11 X8], [wk0, wk1, wk2, .blk 10 (.cells [(Z 309)]) false, .blk 9 (.cells [(Z 310)]) false]⟩, [((Y 324), ⟨325, [], [.ty 324 .bool, D 0 323 X8, D 323 0 X7], [wk0, wk1, wk2, .blk 10 (.cells [(Z 309)]) false, .blk 9 (.cells [(Z 310)]) false]⟩)], ⟨0, 0⟩, ⟨0, 0⟩, none⟩
theorem g58x3 : ∀ v : V, v.i 0 = 0 → GOK1 tbl v 1 wH := cr cI (n := 1000) (Γ := [bu]) (hs := hc58x3) (by kernel_rfl) rfl rfl rfl (aQ eg bW)
end Tu
