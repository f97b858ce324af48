/- A part of a proof. -/
import Derived.Test.YtkefopelclcljacLaw
import Derived.Test.YtkefopelclcljacNm
import Derived.KernelRfl
set_option linter.unusedVariables false
set_option linter.unusedSimpArgs false
set_option maxRecDepth 1000000
namespace Tu
open Go Ce Ce.L Ce.S
def wc0 : BE := .blk 248 (.cells [(Z 379), (Z 380), (Z 381), (Z 382), (Z 239)]) false
def wc1 : BE := .blk 245 (.cells [(Z 0), (Z 0), (Z 0), (Z 0), (Z 0)]) false
def wc2 : BE := .blk 244 (.cells [(Z 0), (Z 0), (Z 0), (Z 0), (Z 0)]) false
def wc3 : BE := .blk 243 (.cells [(Z 234), (Z 220), (Z 235), (Z 236), (Z 237), (Z 238), (Z 239), (Z 240)]) false
def wc4 : BE := .blk 140 (.cells [(Y 1), (Z 241), (Y 3), (Y 4), (Y 5), (Z 242), (.map 139)]) false
def wc5 : BE := .map 139 true [(.i .i64), (.i .i64), (.i .i64), (.i .i64), (.i .i64), (.i .i64), (.i .i64), (.i .i64)] (.agg [J, J, J, J, J]) none
def wc6 : BE := .blk 246 (.cells [(Z 513), (Z 514), (Z 515), (Z 516), (I 247 1)]) false
def qAO : Hint := .unroll
def qAN : Hint := .inv ⟨387, [(.ptr 140 0), (Y 249), U, (.ptr 243 0), (.ptr 244 0), (Y 250), (Y 251), (.ptr 246 0), (Y 252), (.ptr 248 0)] ++ ys 279 6 ++ ys 253 10 ++ [U] ++ ys 263 16 ++ [(I 247 1), (Z 285)] ++ ys 286 93 ++ us 7, [D 386 0 X7, D 0 386 X8, D 385 0 X7, D 0 385 X8, D 384 0 X7, D 0 384 X8, D 383 0 X7, D 0 383 X8, D 382 0 X7, D 0 382 X8, D 381 0 X7, D 0 381 X8, D 380 0 X7, D 0 380 X8, D 379 0 X7, D 0 379 X8, D 285 247 0, D 0 285 0, D 285 0 X7], [wc0, .blk 246 (.cells [(Z 383), (Z 384), (Z 385), (Z 386), (I 247 1)]) false, wc1, wc2, wc3, wc4, wc5]⟩ ⟨247, 1⟩ ⟨285, 0⟩
def qAM : Hint := .inv ⟨517, [(.ptr 140 0), (Y 387), U, (.ptr 243 0), (.ptr 244 0), (Y 388), (Y 389), (.ptr 246 0), (Y 390), (.ptr 248 0), (Z 285), (Z 512)] ++ ys 391 14 ++ [U] ++ ys 405 16 ++ [(I 247 1), (Z 285)] ++ ys 421 6 ++ [(Y 4), (Z 79), (Z 511)] ++ ys 427 84 ++ us 7, [D 516 0 X7, D 0 516 X8, D 515 0 X7, D 0 515 X8, D 514 0 X7, D 0 514 X8, D 513 0 X7, D 0 513 X8, D 512 0 X7, D 0 512 X8, D 0 511 0, D 511 0 X7], [wc0, wc6, wc1, wc2, wc3, wc4, wc5]⟩ ⟨79, 0⟩ ⟨511, 0⟩
def qAL : Hint := .inv ⟨646, [(.ptr 140 0), (Y 517), U, (.ptr 243 0), (.ptr 244 0), (Y 518), (Y 519), (.ptr 246 0), (Y 520), (.ptr 248 0), (Z 285), (Z 512)] ++ ys 521 14 ++ [U] ++ ys 535 16 ++ [(I 247 1), (Z 285)] ++ ys 551 56 ++ [(Y 4), (Z 79), (Z 641)] ++ ys 607 34 ++ us 7, [D 645 0 X7, D 0 645 X8, D 644 0 X7, D 0 644 X8, D 643 0 X7, D 0 643 X8, D 642 0 X7, D 0 642 X8, D 0 641 0, D 641 0 X7], [.blk 248 (.cells [(Z 642), (Z 643), (Z 644), (Z 645), (Z 239)]) false, wc6, wc1, wc2, wc3, wc4, wc5]⟩ ⟨79, 0⟩ ⟨641, 0⟩
def hc59x1 : Hs := [qAO, qAN, qAM, qAL]
def bu : Con := ⟨false, 59, 1, ⟨243, [(.ptr 140 0), (.agg [(Z 234), (Z 220), (Z 235), (Z 236), (Z 237), (Z 238), (Z 239), (Z 240)])], [D 0 242 X8, D 242 0 X7, D 0 241 X8, D 241 0 X7, D 0 240 X8, D 240 0 X7, D 0 239 X8, D 239 0 X7, D 0 238 X8, D 238 0 X7, D 0 237 X8, D 237 0 X7, D 0 236 X8, D 236 0 X7, D 0 235 X8, D 235 0 X7, D 0 234 X8, D 234 0 X7, D 0 233 X8, D 233 0 X7, D 0 231 X8, D 231 0 X7, D 0 232 X8, D 232 0 X7, D 0 229 X8, D 0 228 X8, D 0 227 X8, D 0 226 X8, D 0 220 X8, D 0 176 X8, D 0 177 X8, D 0 156 X8, D 0 108 X8, D 0 50 X8, D 0 2 X8, D 0 18 X8, D 79 0 4, D 227 0 X7, D 177 0 X7, D 229 0 X7, D 2 0 X7, D 176 0 X7, D 228 0 X7, D 108 0 X7, D 156 0 X7, D 18 0 8, D 226 0 X7, D 50 0 X7, .len 4 79, .len 4 10, .ty 1 (.lst [J] ⟨0, 0⟩ ⟨0, 1048576⟩), .ty 4 (.lst [J, J, J, J] ⟨0, 0⟩ ⟨0, 1048576⟩), D 220 0 X7, D 0 79 X8, D 10 0 X7, D 0 10 X8], [wc4, wc5]⟩, [((.agg [(Z 245), (Z 246), (Z 247), (Z 248), (Z 249)]), ⟨251, [], [D 0 245 X8, D 0 246 X8, D 0 247 X8, D 0 248 X8, D 0 249 X8, D 247 0 X7, D 249 0 X7, D 245 0 X7, D 248 0 X7, D 246 0 X7], [wc4, wc5]⟩)], ⟨0, 0⟩, ⟨0, 0⟩, none⟩
theorem eg : ∀ v : V, v.i 0 = 0 → GOK1 tbl v 1 bu := cr cI (n := 1000) (Γ := []) (hs := hc59x1) (by kernel_rfl) rfl rfl rfl bW
end Tu
