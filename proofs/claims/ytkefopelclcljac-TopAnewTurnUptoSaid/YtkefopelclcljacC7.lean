/- A part of a proof. -/
import Derived.Test.YtkefopelclcljacLaw
import Derived.Test.YtkefopelclcljacNm
import Derived.KernelRfl
set_option linter.unusedVariables false
set_option linter.unusedSimpArgs false
set_option maxRecDepth 1000000
namespace Tu
open Go Ce Ce.L Ce.S
def wb0 : BE := .blk 10 (.cells [(I 0 8)]) false
def wb1 : BE := .blk 9 (.cells [(Z 0)]) false
def wb2 : BE := .blk 8 (.cells [(Z 7)]) false
def wb3 : BE := .blk 6 (.cells [(Y 1), (Z 2), (Y 3), (Y 4), (Y 5)]) false
def wb4 : BE := .blk 42 (.cells [(I 0 3)]) false
def wb5 : BE := .blk 41 (.cells [(I 0 1)]) false
def wb6 : BE := .blk 40 (.cells [(Z 39)]) false
def wb7 : BE := .blk 38 (.cells [(I 0 3)]) false
def wb8 : BE := .blk 37 (.cells [(Z 0)]) false
def wb9 : BE := .blk 36 (.cells [(Z 2)]) false
def hc7x0 : Hint := .unroll
def hc7x1 : Hint := .inv ⟨36, [(Y 11), (Y 12), (Y 13), (.clo 37 [] []), U, U, U, U, (Y 14), (Y 15), (Y 22), (Y 23), (Y 24)] ++ ys 16 6 ++ [(Y 1), (Z 7), (Z 25)] ++ ys 26 9 ++ [U, U, (Y 35)], [.pre 1 ⟨25, 0⟩ [(.int .i64 ⟨0, 0⟩ ⟨0, 3⟩)], D 25 7 0, D 0 25 0, D 25 0 X7], [wb0, wb1, wb2, wb3]⟩ ⟨7, 0⟩ ⟨25, 0⟩
def hc7x2 : Hint := .unroll
def hc7x3 : Hint := .unroll
def hc7x4 : Hint := .unroll
def hc7x5 : Hint := .inv ⟨68, [(Y 43), (Y 44), (Y 45), (.clo 40 [] []), U, U, U, U, (Y 46), (Y 47), (Y 54), (Y 55), (Y 56)] ++ ys 48 6 ++ [(Y 3), (Z 39), (Z 57)] ++ ys 58 9 ++ [U, U, (Y 67)], [.pre 3 ⟨57, 0⟩ [(.int .i64 ⟨0, 0⟩ ⟨0, 6⟩), (.int .i64 ⟨0, 0⟩ ⟨0, 6⟩)], D 57 39 0, D 0 57 0, D 57 0 X7], [wb4, wb5, wb6, wb7, wb8, wb9, wb0, wb1, wb2, wb3]⟩ ⟨39, 0⟩ ⟨57, 0⟩
def hc7x6 : Hint := .unroll
def hc7x7 : Hint := .unroll
def hc7x8 : Hint := .unroll
def hc7x9 : Hint := .inv ⟨97, [(Y 72), (Y 73), (Y 74), (.clo 43 [] [(.ptr 6 0)]), U, U, U, U, (Y 75), (Y 76), (Y 83), (Y 84), (Y 85)] ++ ys 77 6 ++ [(Y 4), (Z 68), (Z 86)] ++ ys 87 9 ++ [U, U, (Y 96)], [.pre 4 ⟨86, 0⟩ [(.int .i64 ⟨0, 0⟩ ⟨39, (-1)⟩), (.int .i64 ⟨0, 0⟩ ⟨7, 0⟩), (.int .i64 ⟨0, 0⟩ ⟨0, 40⟩), (.int .i64 ⟨0, 0⟩ ⟨0, 40⟩)], D 86 68 0, D 0 86 0, D 86 0 X7], [.blk 71 (.cells [(I 0 4)]) false, .blk 70 (.cells [(Z 0)]) false, .blk 69 (.cells [(Z 68)]) false, wb4, wb5, wb6, wb7, wb8, wb9, wb0, wb1, wb2, wb3]⟩ ⟨68, 0⟩ ⟨86, 0⟩
def hc7x10 : Hint := .unroll
def hc7x11 : Hint := .unroll
def hc7x12 : Hint := .unroll
def hc7x13 : Hint := .unroll
def hc7x14 : Hint := .unroll
def hc7x15 : Hint := .inv ⟨126, [(Y 101), (Y 102), (Y 103), (.clo 45 [] [(.ptr 6 0)]), U, U, U, U, (Y 104), (Y 105), (Y 112), (Y 113), (Y 114)] ++ ys 106 6 ++ [(Y 5), (Z 97), (Z 115)] ++ ys 116 9 ++ [U, U, (Y 125)], [.pre 5 ⟨115, 0⟩ [(.int .i64 ⟨0, 0⟩ ⟨68, (-1)⟩), (.int .i64 ⟨0, 0⟩ ⟨7, 0⟩), .bool], D 115 97 0, D 0 115 0, D 115 0 X7], [.blk 100 (.cells [(I 0 4)]) false, .blk 99 (.cells [(Z 0)]) false, .blk 98 (.cells [(Z 97)]) false, .blk 71 (.cells [(I 0 4)]) false, .blk 70 (.cells [(Z 0)]) false, .blk 69 (.cells [(Z 68)]) false, wb4, wb5, wb6, wb7, wb8, wb9, wb0, wb1, wb2, wb3]⟩ ⟨97, 0⟩ ⟨115, 0⟩
def hc7x16 : Hint := .unroll
def hc7x17 : Hint := .unroll
def hc7 : Hs := [hc7x0, hc7x1, hc7x2, hc7x3, hc7x4, hc7x5, hc7x6, hc7x7, hc7x8, hc7x9, hc7x10, hc7x11, hc7x12, hc7x13, hc7x14, hc7x15, hc7x16, hc7x17]
def tD : Con := ⟨false, 7, 1, ⟨6, [(.agg [(Y 1), (Z 2), (Y 3), (Y 4), (Y 5)])], [.ty 1 (.lst [J] ⟨0, 0⟩ ⟨0, 1048576⟩), D 0 2 X8, D 2 0 X7, .ty 3 (.lst [J, J] ⟨0, 0⟩ ⟨0, 1048576⟩), .ty 4 (.lst [J, J, J, J] ⟨0, 0⟩ ⟨0, 1048576⟩), .ty 5 (.lst [J, J, .bool] ⟨0, 0⟩ ⟨0, 1048576⟩)], []⟩, [((.tup [(Z 11), (Z 0), (Z 12)]), ⟨13, [], [D 11 12 0, D 0 12 (-1), D 0 12 0, D 0 12 (-3), D 12 0 X7, D 0 12 X8, D 0 11 (-1), D 0 11 0, D 0 11 (-1), D 11 0 X7, D 0 11 X8, D 7 0 1048576, .len 1 7], []⟩), ((.tup [(Z 40), (Z 25), (Z 41)]), ⟨42, [], [D 0 41 (-1), D 0 41 0, D 41 0 7, D 41 0 X7, D 0 41 X8, D 0 40 (-1), D 0 40 0, D 0 40 (-1), D 40 0 X7, D 0 40 X8, D 0 25 0, D 0 7 0, D 7 0 8, D 25 0 X7, .len 1 7], []⟩), ((.tup [(Z 0), (Z 0), (Z 0)]), ⟨126, [], [D 0 97 0, D 0 68 0, D 0 39 (-1), D 0 2 0, D 0 7 0, D 7 0 8, D 39 0 3, D 97 0 4, D 2 0 3, D 68 0 4, .ty 5 (.lst [(.int .i64 ⟨0, 0⟩ ⟨68, (-1)⟩), (.int .i64 ⟨0, 0⟩ ⟨7, 0⟩), .bool] ⟨97, 0⟩ ⟨97, 0⟩), .len 5 97, .ty 4 (.lst [(.int .i64 ⟨0, 0⟩ ⟨39, (-1)⟩), (.int .i64 ⟨0, 0⟩ ⟨7, 0⟩), (.int .i64 ⟨0, 0⟩ ⟨0, 40⟩), (.int .i64 ⟨0, 0⟩ ⟨0, 40⟩)] ⟨68, 0⟩ ⟨68, 0⟩), .len 4 68, .ty 3 (.lst [(.int .i64 ⟨0, 0⟩ ⟨0, 6⟩), (.int .i64 ⟨0, 0⟩ ⟨0, 6⟩)] ⟨39, 0⟩ ⟨39, 0⟩), .len 3 39, .ty 1 (.lst [(.int .i64 ⟨0, 0⟩ ⟨0, 3⟩)] ⟨7, 0⟩ ⟨7, 0⟩), .len 1 7], []⟩)], ⟨0, 0⟩, ⟨0, 0⟩, none⟩
theorem g7 : ∀ v : V, v.i 0 = 0 → GOK1 tbl v 1 tD := cr cI (n := 1000) (Γ := []) (hs := hc7) (by kernel_rfl) rfl rfl rfl bW
end Tu
