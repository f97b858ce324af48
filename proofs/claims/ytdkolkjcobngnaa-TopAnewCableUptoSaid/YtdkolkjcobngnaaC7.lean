/- A part of a proof. -/
import Derived.Test.YtdkolkjcobngnaaLaw
import Derived.Test.YtdkolkjcobngnaaNm
import Derived.KernelRfl
set_option linter.unusedVariables false
set_option linter.unusedSimpArgs false
set_option maxRecDepth 1000000
namespace Ca
open Go Ce Ce.L Ce.S
def wb0 : BE := .blk 9 (.cells [(Z 2), (Z 3)]) false
def wb1 : BE := .blk 5 (.cells [(Z 1), (Z 2), (Z 3), (Y 4)]) false
def hc7x0 : Hint := .unroll
def hc7x1 : Hint := .unroll
def hc7x2 : Hint := .inv ⟨66, [(Y 13), (.ptr 5 0), (Y 14), (Y 15), (Y 16), (Y 47), U, (Y 48)] ++ ys 17 30 ++ [(Z 12), (Z 49)] ++ ys 50 14 ++ [U, U, U, (Y 64), (Y 65)], [D 49 12 0, D 49 0 3, D 0 49 0], [.blk 11 (.cells [(I 0 10)]) false, .blk 10 (.cells [(Z 0)]) false, wb0, .blk 8 (.cells [(I 0 200)]) false, .blk 7 (.cells [(I 0 1)]) false, .blk 6 (.cells [(Z 1)]) false, wb1]⟩ ⟨12, 0⟩ ⟨49, 0⟩
def hc7x3 : Hint := .unroll
def hc7x4 : Hint := .inv ⟨94, [(Y 79), (.clo 66 [] [(.ptr 77 0), (.ptr 78 0)]), U, U, (Y 81), (Y 83), (Y 82), (Z 80), (Z 84)] ++ ys 85 8 ++ [U, (Y 93)], [D 84 49 0, D 84 12 0, D 84 80 0, D 0 84 0, D 84 0 X7], [.blk 78 (.cells [(Z 49)]) false, .blk 77 (.cells [(Y 4)]) false, .blk 76 (.cells [(I 0 5), (.clo 64 [] [])]) false, .blk 67 (.cells [(I 0 6), (.clo 62 [] [])]) false, .blk 66 (.cells [(I 0 6), (.clo 62 [] []), (I 0 5), (.clo 64 [] []), (I 0 7), (.clo 67 [] []), (I 0 2), (.clo 68 [] [])]) false, .blk 11 (.cells [(I 0 10)]) false, .blk 10 (.cells [(Z 0)]) false, wb0, .blk 8 (.cells [(I 0 200)]) false, .blk 7 (.cells [(I 0 1)]) false, .blk 6 (.cells [(Z 1)]) false, wb1]⟩ ⟨80, 0⟩ ⟨84, 0⟩
def hc7x5 : Hint := .unroll
def hc7x6 : Hint := .unroll
def hc7x7 : Hint := .unroll
def hc7x8 : Hint := .unroll
def hc7 : Hs := [hc7x0, hc7x1, hc7x2, hc7x3, hc7x4, hc7x5, hc7x6, hc7x7, hc7x8]
def con7 : Con := ⟨false, 7, 1, ⟨5, [(.agg [(Z 1), (Z 2), (Z 3), (Y 4)])], [D 0 1 X8, D 1 0 X7, D 0 2 X8, D 2 0 X7, D 0 3 X8, D 3 0 X7, .ty 4 (.lst [.str, J, J, J, J, J] ⟨0, 0⟩ ⟨0, 1048576⟩)], []⟩, [((.tup [(I 0 1), (Z 0), (I 0 7)]), ⟨9, [], [], []⟩), ((.tup [(I 0 1), (Z 0), (I 0 2)]), ⟨12, [], [D 0 3 0, D 0 2 0, D 0 1 (-1), D 1 0 200, D 3 2 (-1), D 3 0 10, D 2 0 10], []⟩), ((.tup [(I 0 2), (Z 0), (I 0 3)]), ⟨13, [], [D 0 12 (-4), D 0 3 0, D 0 2 0, D 0 1 (-1), D 1 0 200, D 3 0 10, D 2 3 0, D 2 0 10, D 12 0 1048576, .len 4 12], []⟩), ((.tup [(I 0 2), (Z 49), (I 0 6)]), ⟨76, [], [D 0 49 0, D 0 12 0, D 0 3 0, D 0 2 0, D 0 1 (-1), D 1 0 200, D 3 0 10, D 49 12 (-1), D 49 0 3, D 2 3 0, D 2 0 10, D 12 0 3, .len 4 12], []⟩), ((.tup [(I 0 2), (Z 49), (I 0 5)]), ⟨108, [], [D 0 49 0, D 0 12 0, D 0 3 0, D 0 2 0, D 0 1 (-1), D 1 0 200, D 3 0 10, D 49 12 (-1), D 49 0 3, D 2 3 0, D 2 0 10, D 12 0 3, .len 4 12], []⟩), ((.tup [(I 0 2), (Z 49), (I 0 7)]), ⟨105, [], [D 0 49 0, D 0 12 0, D 0 3 0, D 0 2 0, D 0 1 (-1), D 1 0 200, D 3 0 10, D 49 12 (-1), D 49 0 3, D 2 3 0, D 2 0 10, D 12 0 3, .len 4 12], []⟩), ((.tup [(I 0 2), (Z 49), (I 0 2)]), ⟨127, [], [D 0 49 0, D 0 12 0, D 0 3 0, D 0 2 0, D 0 1 (-1), D 1 0 200, D 3 0 10, D 49 12 (-1), D 49 0 3, D 2 3 0, D 2 0 10, D 12 0 3, .len 4 12], []⟩), ((.tup [(Z 0), (Z 0), (Z 0)]), ⟨66, [], [D 0 12 0, D 0 3 0, D 0 2 0, D 0 1 (-1), D 1 0 200, D 3 0 10, D 2 3 0, D 2 0 10, D 12 0 3, .len 4 12], []⟩)], ⟨0, 0⟩, ⟨0, 0⟩, none⟩
theorem g7 : ∀ v : V, v.i 0 = 0 → GOK1 tbl v 1 con7 := con_chkE nameOK (n := 1000) (Γ := []) (hs := hc7) (by kernel_rfl) rfl rfl rfl gok_nil
end Ca
