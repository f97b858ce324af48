/- A part of a proof. -/
import Derived.Test.YtkefopelclcljacC59x1
import Derived.KernelRfl
set_option linter.unusedVariables false
set_option linter.unusedSimpArgs false
set_option maxRecDepth 1000000
namespace Tu
open Go Ce Ce.L Ce.S
def we0 : BE := .blk 140 (.cells [(Y 1), (Z 308), (Y 3), (Y 4), (Y 5), (Z 309), (.map 139)]) false
def we1 : BE := .map 139 true [(.i .i64), (.i .i64), (.i .i64), (.i .i64), (.i .i64), (.i .i64), (.i .i64), (.i .i64)] (.agg [J, J, J, J, J]) none
def we2 : BE := .blk 155 (.cells [(.bool true)]) false
def we3 : BE := .blk 154 (.cells [(.ptr 140 0)]) false
def we4 : BE := .blk 9 (.cells [(Z 310), (Z 311)]) false
def we5 : BE := .blk 8 (.cells [(Z 312)]) false
def hc49x3 : Hs := []
def wK : Con := ⟨false, 49, 1, ⟨313, [(.agg [(Z 295), (Z 296), (Z 297), (Z 298), (Z 299), (Z 300), (Z 301), (Z 302)]), (.agg [(Z 303), (Z 304), (Z 305), (Z 306), (Z 307)]), (.ptr 8 0), (.ptr 154 0), (.ptr 155 0), (.ptr 9 0)], [D 0 312 X8, D 312 0 X7, D 0 312 0, D 312 0 3, D 0 311 X8, D 311 0 X7, D 0 310 X8, D 310 0 X7, D 0 309 X8, D 309 0 X7, D 0 308 X8, D 308 0 X7, D 0 307 X8, D 307 0 X7, D 0 306 X8, D 306 0 X7, D 0 305 X8, D 305 0 X7, D 0 304 X8, D 304 0 X7, D 0 303 X8, D 303 0 X7, D 0 302 X8, D 302 0 X7, D 0 301 X8, D 301 0 X7, D 0 300 X8, D 300 0 X7, D 0 299 X8, D 299 0 X7, D 0 298 X8, D 298 0 X7, D 0 297 X8, D 297 0 X7, D 0 296 X8, D 296 0 X7, D 0 295 X8, D 295 0 X7, D 0 292 X8, D 292 0 X7, D 0 293 X8, D 293 0 X7, D 0 294 X8, D 294 0 X7, D 0 291 X8, D 291 0 X7, D 0 285 X8, D 0 286 X8, D 0 287 X8, D 0 288 X8, D 0 289 X8, D 0 281 X8, D 0 280 X8, D 0 279 X8, D 0 194 X8, D 0 174 X8, D 0 220 X8, D 0 156 X8, D 0 108 X8, D 0 50 X8, D 0 2 X8, D 0 18 X8, D 0 6 X8, D 287 0 X7, D 79 0 X7, D 279 0 X7, D 289 0 X7, D 281 0 X7, D 285 0 X7, D 2 0 X7, D 288 0 X7, D 280 0 X7, D 108 0 X7, D 220 0 X7, D 18 0 X7, D 194 0 X7, D 50 0 X7, D 174 0 X7, D 286 0 X7, .len 4 79, .len 4 10, .ty 1 (.lst [J] ⟨0, 0⟩ ⟨0, 1048576⟩), D 156 0 X7, D 6 0 X7, D 0 79 X8, D 10 0 X7, D 0 10 X8], [we0, we1, we2, we3, we4, we5]⟩, [((.bool false), ⟨317, [], [D 0 316 0, D 316 0 1048576, .len 1 316], [we0, we1, we2, we3, we4, we5]⟩), ((.bool true), ⟨317, [], [D 0 316 0, D 0 315 X8, D 315 0 X7, D 316 0 1048576, .len 1 316], [we0, we1, .blk 155 (.cells [(.bool false)]) false, we3, .blk 9 (.cells [(Z 315), (Z 315)]) false, we5]⟩)], ⟨0, 0⟩, ⟨0, 0⟩, none⟩
theorem g49x3 : ∀ v : V, v.i 0 = 0 → GOK1 tbl v 1 wK := cr cI (n := 1000) (Γ := [bu]) (hs := hc49x3) (by kernel_rfl) rfl rfl rfl (aQ eg bW)
end Tu
