/- A part of a proof. -/
import Derived.Test.YtfbknmgfnlckeaaLaw
import Derived.Test.YtfbknmgfnlckeaaNm
import Derived.KernelRfl
set_option linter.unusedVariables false
set_option linter.unusedSimpArgs false
set_option maxRecDepth 1000000
namespace Ro
open Go Ce Ce.L Ce.S
def wa0 : BE := .blk 26 (.cells [(I 0 4)]) false
def wa1 : BE := .blk 25 (.cells [(I 0 1)]) false
def wa2 : BE := .blk 24 (.cells [(Z 23)]) false
def wa3 : BE := .blk 22 (.cells [(Z 1), (Z 2), (Z 3), (Y 4), (Z 5), (Y 6), (Y 7)]) false
def wa4 : BE := .blk 21 (.cells [(I 0 2), (.clo 69 [] [])]) false
def wa5 : BE := .blk 20 (.cells [(I 0 6)]) false
def wa6 : BE := .blk 19 (.cells [(Z 0)]) false
def wa7 : BE := .blk 18 (.cells [(Z 5)]) false
def wa8 : BE := .blk 17 (.cells [(I 0 69)]) false
def wa9 : BE := .blk 16 (.cells [(Z 0)]) false
def qCN : BE := .blk 15 (.cells [(Z 2), (Z 3)]) false
def qCM : BE := .blk 14 (.cells [(I 0 6)]) false
def qCL : BE := .blk 13 (.cells [(I 0 1)]) false
def qCK : BE := .blk 12 (.cells [(Z 1)]) false
def qCJ : BE := .blk 11 (.cells [(Z 1), (Z 2), (Z 3), (Y 4), (Z 5), (Y 6), (Y 7)]) false
def qCI : BE := .blk 10 (.cells [(I 0 7), (.clo 68 [] [])]) false
def qCH : BE := .blk 9 (.cells [(I 0 7), (.clo 68 [] []), (I 0 2), (.clo 69 [] [])]) false
def qCG : BE := .blk 8 (.cells [(Z 1), (Z 2), (Z 3), (Y 4), (Z 5), (Y 6), (Y 7)]) false
def hc7x0 : Hint := .unroll
def hc7x1 : Hint := .unroll
def hc7x2 : Hint := .unroll
def hc7x3 : Hint := .unroll
def hc7x4 : Hint := .unroll
def hc7x5 : Hint := .inv ⟨53, [(Y 27), (Y 28), (Y 29), (.clo 39 [] [(.ptr 8 0)]), U, U, U, U, (Y 30), (Y 31), (Y 38), (Y 39), (Y 40)] ++ ys 32 6 ++ [(Y 4), (Z 23), (Z 41)] ++ ys 42 10 ++ [U, U, (Y 52)], [.pre 4 ⟨41, 0⟩ [.str, (.int .i64 ⟨0, 0⟩ ⟨0, 15⟩), (.int .i64 ⟨0, 0⟩ ⟨0, 15⟩)], D 41 23 0, D 0 41 0, D 41 0 X7], [wa0, wa1, wa2, wa3, wa4, wa5, wa6, wa7, wa8, wa9, qCN, qCM, qCL, qCK, qCJ, qCI, qCH, qCG]⟩ ⟨23, 0⟩ ⟨41, 0⟩
def hc7x6 : Hint := .inv ⟨75, [(Y 60), (.clo 42 [] [(.ptr 57 0)]), U, U, (Y 62), (Y 64), (Y 63), (Z 61), (Z 65)] ++ ys 66 8 ++ [U, (Y 74)], [D 65 23 0, D 65 61 0, D 0 65 0, D 65 0 X7], [.blk 57 (.cells [(Y 53), (Z 54), (Z 55)]) false, .blk 56 (.cells [(Y 53), (Z 54), (Z 55)]) false, wa0, wa1, wa2, wa3, wa4, wa5, wa6, wa7, wa8, wa9, qCN, qCM, qCL, qCK, qCJ, qCI, qCH, qCG]⟩ ⟨61, 0⟩ ⟨65, 0⟩
def hc7x7 : Hint := .unroll
def hc7x8 : Hint := .unroll
def hc7x9 : Hint := .inv ⟨83, [(Y 57), (Y 58), (Y 59), (.clo 45 [] [(.ptr 8 0)]), U, U, U, U, (Y 60), (Y 61), (Y 68), (Y 69), (Y 70)] ++ ys 62 6 ++ [(Y 6), (Z 53), (Z 71)] ++ ys 72 10 ++ [U, U, (Y 82)], [.pre 6 ⟨71, 0⟩ [(.int .i64 ⟨0, 0⟩ ⟨23, (-1)⟩)], D 71 1 0, D 71 53 0, D 71 0 15, D 0 71 0], [.blk 56 (.cells [(Z 1)]) false, .blk 55 (.cells [(Z 0)]) false, .blk 54 (.cells [(Z 53)]) false, wa0, wa1, wa2, wa3, wa4, wa5, wa6, wa7, wa8, wa9, qCN, qCM, qCL, qCK, qCJ, qCI, qCH, qCG]⟩ ⟨1, 0⟩ ⟨71, 0⟩
def hc7x10 : Hint := .unroll
def hc7x11 : Hint := .unroll
def hc7x12 : Hint := .inv ⟨113, [(Y 87), (Y 88), (Y 89), (.clo 47 [] [(.ptr 8 0)]), U, U, U, U, (Y 90), (Y 91), (Y 98), (Y 99), (Y 100)] ++ ys 92 6 ++ [(Y 7), (Z 83), (Z 101)] ++ ys 102 10 ++ [U, U, (Y 112)], [.pre 7 ⟨101, 0⟩ [(.int .i64 ⟨0, 0⟩ ⟨53, 0⟩), (.int .i64 ⟨0, 1⟩ ⟨0, 7⟩)], D 101 83 0, D 101 0 15, D 0 101 0], [.blk 86 (.cells [(I 0 4)]) false, .blk 85 (.cells [(Z 0)]) false, .blk 84 (.cells [(Z 83)]) false, .blk 56 (.cells [(Z 1)]) false, .blk 55 (.cells [(Z 0)]) false, .blk 54 (.cells [(Z 53)]) false, wa0, wa1, wa2, wa3, wa4, wa5, wa6, wa7, wa8, wa9, qCN, qCM, qCL, qCK, qCJ, qCI, qCH, qCG]⟩ ⟨83, 0⟩ ⟨101, 0⟩
def hc7x13 : Hint := .unroll
def hc7x14 : Hint := .unroll
def hc7 : Hs := [hc7x0, hc7x1, hc7x2, hc7x3, hc7x4, hc7x5, hc7x6, hc7x7, hc7x8, hc7x9, hc7x10, hc7x11, hc7x12, hc7x13, hc7x14]
def lD : Con := ⟨false, 7, 1, ⟨8, [(.agg [(Z 1), (Z 2), (Z 3), (Y 4), (Z 5), (Y 6), (Y 7)])], [D 0 1 X8, D 1 0 X7, D 0 2 X8, D 2 0 X7, D 0 3 X8, D 3 0 X7, .ty 4 (.lst [.str, J, J] ⟨0, 0⟩ ⟨0, 1048576⟩), D 0 5 X8, D 5 0 X7, .ty 6 (.lst [J] ⟨0, 0⟩ ⟨0, 1048576⟩), .ty 7 (.lst [J, J] ⟨0, 0⟩ ⟨0, 1048576⟩)], []⟩, [((.tup [(Z 16), (Z 0), (Z 15)]), ⟨17, [], [D 0 16 (-1), D 16 0 X7, D 0 15 (-1), D 15 0 7], []⟩), ((.tup [(Z 61), (Z 41), (Z 60)]), ⟨62, [], [D 0 61 (-2), D 61 0 X7, D 0 60 (-1), D 60 0 X7, D 0 41 0, D 0 23 (-1), D 0 5 0, D 0 3 0, D 0 2 0, D 0 1 (-1), D 1 0 6, D 3 0 69, D 23 0 4, D 5 0 6, D 41 0 X7, D 2 3 0, D 2 0 69, .len 4 23], []⟩), ((.tup [(Z 0), (Z 0), (Z 0)]), ⟨113, [], [D 0 83 0, D 0 53 0, D 0 23 (-1), D 0 5 0, D 0 3 0, D 0 2 0, D 0 1 (-1), D 1 0 6, D 3 0 69, D 23 0 4, D 83 0 4, D 5 0 6, D 53 1 0, D 53 0 1048576, D 2 3 0, D 2 0 69, .ty 7 (.lst [(.int .i64 ⟨0, 0⟩ ⟨53, 0⟩), (.int .i64 ⟨0, 1⟩ ⟨0, 7⟩)] ⟨83, 0⟩ ⟨83, 0⟩), .len 7 83, .ty 6 (.lst [(.int .i64 ⟨0, 0⟩ ⟨23, (-1)⟩)] ⟨53, 0⟩ ⟨53, 0⟩), .len 6 53, .ty 4 (.lst [.str, (.int .i64 ⟨0, 0⟩ ⟨0, 15⟩), (.int .i64 ⟨0, 0⟩ ⟨0, 15⟩)] ⟨23, 0⟩ ⟨23, 0⟩), .len 4 23], []⟩)], ⟨0, 0⟩, ⟨0, 0⟩, none⟩
theorem g7 : ∀ v : V, v.i 0 = 0 → GOK1 tbl v 1 lD := iO de (n := 1000) (Γ := []) (hs := hc7) (by kernel_rfl) rfl rfl rfl cZ
end Ro
