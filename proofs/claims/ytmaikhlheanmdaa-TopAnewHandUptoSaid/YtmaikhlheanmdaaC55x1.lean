/- A part of a proof. -/
import Derived.Test.YtmaikhlheanmdaaLaw
import Derived.Test.YtmaikhlheanmdaaNm
import Derived.KernelRfl
set_option linter.unusedVariables false
set_option linter.unusedSimpArgs false
set_option maxRecDepth 1000000
namespace Ha
open Go Ce Ce.L Ce.S
def we0 : BE := .blk 226 (.cells [(Z 224), (Z 225)]) false
def we1 : BE := .blk 220 (.cells [(Z 217), (Z 218)]) false
def we2 : BE := .blk 77 (.cells [(Y 1), (Y 2), (Y 3), (Z 219), (.map 76)]) false
def we3 : BE := .map 76 true [(.i .i64), (.i .i64)] J none
def we4 : BE := .blk 225 (.cells [(Z 223), (Z 224)]) false
def zS : Hint := .inv ⟨274, [(.ptr 77 0), (Y 228), U, (.ptr 220 0), (Y 229), (Y 230), (Z 251), (.ptr 226 0), (.ptr 252 0), (Y 254)] ++ ys 231 8 ++ [U] ++ ys 239 12 ++ ys 255 19 ++ us 7, [D 253 0 12, D 0 253 0, D 224 253 0, D 251 0 X7, D 0 251 X8], [.blk 252 (.cells [(Z 253)]) false, we0, we1, we2, we3]⟩ ⟨0, 100⟩ ⟨253, 0⟩
def zR : Hint := .inv ⟨288, [(Y 1), (.clo 83 [] [(.ptr 220 0), (.ptr 252 0)]), U, U, (Y 275), (Y 277), (Y 276), (Z 274), (Z 278)] ++ ys 279 8 ++ [U, (Y 287)], [D 278 274 0, D 0 278 0, D 278 0 X7], [.blk 252 (.cells [(Z 253)]) false, we0, we1, we2, we3]⟩ ⟨274, 0⟩ ⟨278, 0⟩
def zQ : Hint := .inv ⟨273, [(.ptr 77 0), (Y 227), U, (.ptr 220 0), (Y 228), (Y 229), (Z 250), (.ptr 225 0), (.ptr 251 0), (Y 253)] ++ ys 230 8 ++ [U] ++ ys 238 12 ++ ys 254 19 ++ us 7, [D 252 0 12, D 0 252 0, D 223 252 0, D 250 0 X7, D 0 250 X8], [.blk 251 (.cells [(Z 252)]) false, we4, we1, we2, we3]⟩ ⟨0, 100⟩ ⟨252, 0⟩
def zP : Hint := .inv ⟨287, [(Y 1), (.clo 83 [] [(.ptr 220 0), (.ptr 251 0)]), U, U, (Y 274), (Y 276), (Y 275), (Z 273), (Z 277)] ++ ys 278 8 ++ [U, (Y 286)], [D 277 273 0, D 0 277 0, D 277 0 X7], [.blk 251 (.cells [(Z 252)]) false, we4, we1, we2, we3]⟩ ⟨273, 0⟩ ⟨277, 0⟩
def hc55x1 : Hs := [zS, zR, zQ, zP]
def ur : Con := ⟨false, 55, 1, ⟨220, [(.ptr 77 0), (.agg [(Z 217), (Z 218)])], [D 0 219 X8, D 219 0 X7, D 0 218 X8, D 218 0 X7, D 0 217 X8, D 217 0 X7, D 0 217 0, D 217 7 (-1), D 0 216 X8, D 216 0 X7, D 0 215 X8, D 0 4 X8, D 0 53 X8, D 0 12 X8, D 7 34 0, D 215 0 X7, D 53 0 X7, D 12 0 X7, D 34 0 X7, .ty 2 (.lst [(.int .i64 ⟨0, 1⟩ ⟨0, 12⟩), (.int .i64 ⟨0, 1⟩ ⟨0, 12⟩), (.int .i64 ⟨0, 0⟩ ⟨0, 9⟩), (.int .i64 ⟨0, 0⟩ ⟨0, 9⟩)] ⟨34, 0⟩ ⟨34, 0⟩), .len 2 34, .len 2 7, .ty 1 (.lst [.str, J, J] ⟨0, 0⟩ ⟨0, 1048576⟩), D 4 0 X7, D 0 34 X8, D 7 0 X7, D 0 7 X8], [we2, we3]⟩, [((Z 221), ⟨222, [], [D 221 0 X7], [we2, we3]⟩)], ⟨0, 0⟩, ⟨0, 0⟩, none⟩
theorem g55x1 : ∀ v : V, v.i 0 = 0 → GOK1 tbl v 1 ur := gz d8 (n := 1000) (Γ := []) (hs := hc55x1) (by kernel_rfl) rfl rfl rfl dE
end Ha
