/- A part of a proof. -/
import Derived.Test.YtdkolkjcobngnacLaw
import Derived.Test.YtdkolkjcobngnacNm
import Derived.KernelRfl
set_option linter.unusedVariables false
set_option linter.unusedSimpArgs false
set_option maxRecDepth 1000000
namespace Do
open Go Ce Ce.L Ce.S
def wb0 : BE := .blk 30 (.cells [(Y 27), (Z 28)]) false
def wb1 : BE := .blk 29 (.cells [(Y 27), (Z 28)]) false
def wb2 : BE := .blk 26 (.cells [(I 0 5)]) false
def wb3 : BE := .blk 25 (.cells [(I 0 1)]) false
def wb4 : BE := .blk 24 (.cells [(Z 23)]) false
def wb5 : BE := .blk 22 (.cells [(Z 1), (Z 2), (Z 3), (Y 4), (Y 5), (Z 6), (Y 7)]) false
def wb6 : BE := .blk 21 (.cells [(.clo 59 [] [])]) false
def wb7 : BE := .blk 20 (.cells [(I 0 3)]) false
def wb8 : BE := .blk 19 (.cells [(I 0 1)]) false
def wb9 : BE := .blk 18 (.cells [(Z 6)]) false
def wb10 : BE := .blk 17 (.cells [(I 0 8)]) false
def wb11 : BE := .blk 16 (.cells [(Z 0)]) false
def wb12 : BE := .blk 15 (.cells [(Z 2), (Z 3)]) false
def wb13 : BE := .blk 14 (.cells [(I 0 24)]) false
def wb14 : BE := .blk 13 (.cells [(I 0 1)]) false
def wb15 : BE := .blk 12 (.cells [(Z 1)]) false
def wb16 : BE := .blk 11 (.cells [(Z 1), (Z 2), (Z 3), (Y 4), (Y 5), (Z 6), (Y 7)]) false
def wb17 : BE := .blk 10 (.cells [(.clo 57 [] [])]) false
def wb18 : BE := .blk 9 (.cells [(.clo 57 [] []), (.clo 59 [] []), (.clo 65 [] []), (.clo 68 [] [])]) false
def wb19 : BE := .blk 8 (.cells [(Z 1), (Z 2), (Z 3), (Y 4), (Y 5), (Z 6), (Y 7)]) false
def wb20 : BE := .blk 39 (.cells [(Z 1)]) false
def wb21 : BE := .blk 38 (.cells [(Z 0)]) false
def wb22 : BE := .blk 37 (.cells [(Z 28)]) false
def wb23 : BE := .blk 67 (.cells [(Z 1), (Z 2), (Z 3), (Y 4), (Y 5), (Z 6), (Y 7)]) false
def wb24 : BE := .blk 66 (.cells [(.clo 65 [] [])]) false
def hc7x0 : Hint := .unroll
def hc7x1 : Hint := .unroll
def hc7x2 : Hint := .unroll
def hc7x3 : Hint := .unroll
def hc7x4 : Hint := .unroll
def hc7x5 : Hint := .peel
def hc7x6 : Hint := .inv ⟨37, [(Y 33), (.clo 64 [] [(.ptr 30 0)]), U, U, (Y 35), U, (Y 36), (Z 34), (Z 0)] ++ us 10, [], [wb0, wb1, wb2, wb3, wb4, wb5, wb6, wb7, wb8, wb9, wb10, wb11, wb12, wb13, wb14, wb15, wb16, wb17, wb18, wb19]⟩ ⟨0, 0⟩ ⟨0, 0⟩
def hc7x7 : Hint := .unroll
def hc7x8 : Hint := .inv ⟨66, [(Y 40), (Y 41), (Y 42), (.clo 61 [] [(.ptr 22 0)]), U, U, U, U] ++ ys 43 11 ++ [(Y 4), (Z 23), (Z 65)] ++ ys 54 10 ++ [U, U, (Y 64)], [.pre 4 ⟨65, 0⟩ [.str, (.int .i64 ⟨0, 0⟩ ⟨1, 0⟩)], D 28 65 0, D 34 65 0, D 65 23 0, D 0 65 (-1), D 65 0 X7], [wb20, wb21, wb22, wb0, wb1, wb2, wb3, wb4, wb5, wb6, wb7, wb8, wb9, wb10, wb11, wb12, wb13, wb14, wb15, wb16, wb17, wb18, wb19]⟩ ⟨23, 0⟩ ⟨65, 0⟩
def hc7x9 : Hint := .inv ⟨87, [(Y 72), (.clo 64 [] [(.ptr 69 0)]), U, U, (Y 74), (Y 76), (Y 75), (Z 73), (Z 77)] ++ ys 78 8 ++ [U, (Y 86)], [D 28 77 0, D 77 23 0, D 34 77 0, D 77 73 0, D 0 77 0], [.blk 69 (.cells [(Y 66), (Z 67)]) false, .blk 68 (.cells [(Y 66), (Z 67)]) false, wb20, wb21, wb22, wb0, wb1, wb2, wb3, wb4, wb5, wb6, wb7, wb8, wb9, wb10, wb11, wb12, wb13, wb14, wb15, wb16, wb17, wb18, wb19]⟩ ⟨73, 0⟩ ⟨77, 0⟩
def hc7x10 : Hint := .unroll
def hc7x11 : Hint := .unroll
def hc7x12 : Hint := .inv ⟨98, [(Y 72), (Y 73), (Y 74), (.clo 67 [] [(.ptr 67 0)]), U, U, U, U, (Y 75), (Y 76), (Y 83), (Y 84), (Y 85)] ++ ys 77 6 ++ [(Y 5), (Z 68), (Z 86)] ++ ys 87 10 ++ [U, U, (Y 97)], [.pre 5 ⟨86, 0⟩ [(.int .i64 ⟨0, 0⟩ ⟨1, 0⟩), .bool], D 28 86 0, D 34 86 0, D 86 68 0, D 0 86 0, D 86 0 X7], [.blk 71 (.cells [(I 0 4)]) false, .blk 70 (.cells [(Z 0)]) false, .blk 69 (.cells [(Z 68)]) false, wb23, wb24, wb20, wb21, wb22, wb0, wb1, wb2, wb3, wb4, wb5, wb6, wb7, wb8, wb9, wb10, wb11, wb12, wb13, wb14, wb15, wb16, wb17, wb18, wb19]⟩ ⟨68, 0⟩ ⟨86, 0⟩
def hc7x13 : Hint := .unroll
def hc7x14 : Hint := .unroll
def hc7x15 : Hint := .inv ⟨130, [(Y 104), (Y 105), (Y 106), (.clo 70 [] [(.ptr 99 0)]), U, U, U, U, (Y 107), (Y 108), (Y 115), (Y 116), (Y 117)] ++ ys 109 6 ++ [(Y 7), (Z 100), (Z 118)] ++ ys 119 10 ++ [U, U, (Y 129)], [.pre 7 ⟨118, 0⟩ [(.int .i64 ⟨0, 0⟩ ⟨6, (-1)⟩), (.int .i64 ⟨0, 0⟩ ⟨1, 0⟩), .bool], D 28 118 0, D 34 118 0, D 118 100 0, D 0 118 0, D 118 0 X7], [.blk 103 (.cells [(I 0 5)]) false, .blk 102 (.cells [(Z 0)]) false, .blk 101 (.cells [(Z 100)]) false, .blk 99 (.cells [(Z 1), (Z 2), (Z 3), (Y 4), (Y 5), (Z 6), (Y 7)]) false, .blk 98 (.cells [(.clo 68 [] [])]) false, .blk 71 (.cells [(I 0 4)]) false, .blk 70 (.cells [(Z 0)]) false, .blk 69 (.cells [(Z 68)]) false, wb23, wb24, wb20, wb21, wb22, wb0, wb1, wb2, wb3, wb4, wb5, wb6, wb7, wb8, wb9, wb10, wb11, wb12, wb13, wb14, wb15, wb16, wb17, wb18, wb19]⟩ ⟨100, 0⟩ ⟨118, 0⟩
def hc7x16 : Hint := .unroll
def hc7x17 : Hint := .unroll
def hc7 : Hs := [hc7x0, hc7x1, hc7x2, hc7x3, hc7x4, hc7x5, hc7x6, hc7x7, hc7x8, hc7x9, hc7x10, hc7x11, hc7x12, hc7x13, hc7x14, hc7x15, hc7x16, hc7x17]
def con7 : Con := ⟨false, 7, 1, ⟨8, [(.agg [(Z 1), (Z 2), (Z 3), (Y 4), (Y 5), (Z 6), (Y 7)])], [D 0 1 X8, D 1 0 X7, D 0 2 X8, D 2 0 X7, D 0 3 X8, D 3 0 X7, .ty 4 (.lst [.str, J] ⟨0, 0⟩ ⟨0, 1048576⟩), .ty 5 (.lst [J, .bool] ⟨0, 0⟩ ⟨0, 1048576⟩), D 0 6 X8, D 6 0 X7, .ty 7 (.lst [J, J, .bool] ⟨0, 0⟩ ⟨0, 1048576⟩)], []⟩, [((.tup [(I 0 1), (Z 0), (I 0 7)]), ⟨15, [], [], []⟩), ((.tup [(I 0 1), (Z 0), (I 0 2)]), ⟨21, [], [D 0 6 (-1), D 0 3 0, D 0 2 0, D 0 1 (-1), D 1 0 24, D 3 2 (-1), D 3 0 8, D 2 0 8, D 6 0 3], []⟩), ((.tup [(I 0 2), (Z 0), (I 0 3)]), ⟨27, [], [D 0 6 (-1), D 0 3 0, D 0 2 0, D 0 1 (-1), D 1 0 24, D 3 0 8, D 23 0 1048576, D 2 3 0, D 2 0 8, D 6 0 3, .len 4 23], []⟩), ((.tup [(I 0 2), (Z 0), (I 0 6)]), ⟨33, [], [D 0 28 X8, D 0 23 (-1), D 0 6 (-1), D 0 3 0, D 0 2 0, D 0 1 (-1), D 1 0 24, D 3 0 8, D 23 0 5, D 2 3 0, D 2 0 8, D 28 0 X7, D 6 0 3, .row 4 ⟨0, 0⟩ [(Y 27), (Z 28)], .ty 27 .str, .len 4 23], []⟩), ((.tup [(I 0 2), (Z 0), (I 0 7)]), ⟨40, [], [D 0 23 (-1), D 0 6 (-1), D 0 3 0, D 0 2 0, D 0 1 (-1), D 1 0 24, D 3 0 8, D 23 0 5, D 2 3 0, D 2 0 8, D 28 0 X7, D 6 0 3, .row 4 ⟨0, 0⟩ [(Y 27), (Z 28)], .ty 27 .str, .len 4 23], []⟩), ((.tup [(I 0 2), (Z 0), (I 0 2)]), ⟨40, [], [D 0 28 (-1), D 0 23 (-1), D 0 6 (-1), D 0 3 0, D 0 2 0, D 0 1 (-1), D 1 0 24, D 3 0 8, D 23 0 5, D 2 3 0, D 2 0 8, D 28 1 0, D 28 0 X7, D 6 0 3, .row 4 ⟨0, 0⟩ [(Y 27), (Z 28)], .ty 27 .str, .len 4 23], []⟩), ((.tup [(I 0 2), (Z 65), (I 0 6)]), ⟨72, [], [D 0 65 (-1), D 0 28 0, D 0 23 (-1), D 0 6 (-1), D 0 3 0, D 0 2 0, D 0 1 (-1), D 1 0 24, D 3 0 8, D 23 0 5, D 65 23 (-1), D 65 0 X7, D 2 3 0, D 2 0 8, D 28 65 0, D 28 0 0, D 28 1 0, D 6 0 3, .row 4 ⟨0, 0⟩ [(Y 27), (Z 28)], .ty 27 .str, .len 4 23], []⟩), ((.tup [(I 0 2), (Z 65), (I 0 5)]), ⟨91, [], [D 0 65 (-1), D 0 28 0, D 0 23 (-1), D 0 6 (-1), D 0 3 0, D 0 2 0, D 0 1 (-1), D 1 0 24, D 3 0 8, D 23 0 5, D 65 23 (-1), D 65 0 X7, D 2 3 0, D 2 0 8, D 28 65 0, D 28 0 0, D 28 1 0, D 6 0 3, .row 4 ⟨0, 0⟩ [(Y 27), (Z 28)], .ty 27 .str, .len 4 23], []⟩), ((.tup [(I 0 2), (Z 65), (I 0 7)]), ⟨90, [], [D 0 65 (-1), D 0 28 0, D 0 23 (-1), D 0 6 (-1), D 0 3 0, D 0 2 0, D 0 1 (-1), D 1 0 24, D 3 0 8, D 23 0 5, D 65 23 (-1), D 65 0 X7, D 2 3 0, D 2 0 8, D 28 65 0, D 28 0 0, D 28 1 0, D 6 0 3, .row 4 ⟨0, 0⟩ [(Y 27), (Z 28)], .ty 27 .str, .len 4 23], []⟩), ((.tup [(I 0 2), (Z 65), (I 0 2)]), ⟨92, [], [D 0 65 (-1), D 0 28 0, D 0 23 (-1), D 0 6 (-1), D 0 3 0, D 0 2 0, D 0 1 (-1), D 1 0 24, D 3 0 8, D 23 0 5, D 65 23 (-1), D 65 0 X7, D 2 3 0, D 2 0 8, D 28 65 0, D 28 0 0, D 28 1 0, D 6 0 3, .row 4 ⟨0, 0⟩ [(Y 27), (Z 28)], .ty 27 .str, .len 4 23], []⟩), ((.tup [(I 0 3), (Z 0), (I 0 3)]), ⟨72, [], [D 0 68 (-5), D 0 28 0, D 0 23 (-1), D 0 6 (-1), D 0 3 0, D 0 2 0, D 0 1 (-1), D 1 0 24, D 3 0 8, D 23 0 5, D 2 3 0, D 2 0 8, D 68 0 1048576, D 28 0 0, D 28 1 0, D 6 0 3, .len 5 68, .ty 4 (.lst [.str, (.int .i64 ⟨0, 0⟩ ⟨1, 0⟩)] ⟨23, 0⟩ ⟨23, 0⟩), .row 4 ⟨0, 0⟩ [(Y 27), (Z 28)], .ty 27 .str, .len 4 23], []⟩), ((.tup [(I 0 3), (Z 86), (I 0 7)]), ⟨105, [], [D 0 86 0, D 0 68 0, D 0 28 0, D 0 23 (-1), D 0 6 (-1), D 0 3 0, D 0 2 0, D 0 1 (-1), D 1 0 24, D 3 0 8, D 23 0 5, D 2 3 0, D 2 0 8, D 68 0 4, D 28 86 0, D 28 0 0, D 28 1 0, D 6 0 3, D 86 68 (-1), D 86 0 X7, .len 5 68, .ty 4 (.lst [.str, (.int .i64 ⟨0, 0⟩ ⟨1, 0⟩)] ⟨23, 0⟩ ⟨23, 0⟩), .row 4 ⟨0, 0⟩ [(Y 27), (Z 28)], .ty 27 .str, .len 4 23], []⟩), ((.tup [(I 0 4), (Z 0), (I 0 3)]), ⟨104, [], [D 0 100 (-6), D 0 68 0, D 0 28 0, D 0 23 (-1), D 0 6 (-1), D 0 3 0, D 0 2 0, D 0 1 (-1), D 1 0 24, D 3 0 8, D 23 0 5, D 2 3 0, D 2 0 8, D 68 0 4, D 100 0 1048576, D 28 0 0, D 28 1 0, D 6 0 3, .len 7 100, .ty 5 (.lst [(.int .i64 ⟨0, 0⟩ ⟨1, 0⟩), .bool] ⟨68, 0⟩ ⟨68, 0⟩), .len 5 68, .ty 4 (.lst [.str, (.int .i64 ⟨0, 0⟩ ⟨1, 0⟩)] ⟨23, 0⟩ ⟨23, 0⟩), .row 4 ⟨0, 0⟩ [(Y 27), (Z 28)], .ty 27 .str, .len 4 23], []⟩), ((.tup [(I 0 4), (Z 118), (I 0 4)]), ⟨138, [], [D 0 118 0, D 0 100 0, D 0 68 0, D 0 28 0, D 0 23 (-1), D 0 6 (-1), D 0 3 0, D 0 2 0, D 0 1 (-1), D 1 0 24, D 3 0 8, D 23 0 5, D 2 3 0, D 2 0 8, D 68 0 4, D 100 0 5, D 28 118 0, D 28 0 0, D 28 1 0, D 6 0 3, D 118 100 (-1), D 118 0 X7, .len 7 100, .ty 5 (.lst [(.int .i64 ⟨0, 0⟩ ⟨1, 0⟩), .bool] ⟨68, 0⟩ ⟨68, 0⟩), .len 5 68, .ty 4 (.lst [.str, (.int .i64 ⟨0, 0⟩ ⟨1, 0⟩)] ⟨23, 0⟩ ⟨23, 0⟩), .row 4 ⟨0, 0⟩ [(Y 27), (Z 28)], .ty 27 .str, .len 4 23], []⟩), ((.tup [(I 0 4), (Z 118), (I 0 7)]), ⟨141, [], [D 0 118 0, D 0 100 0, D 0 68 0, D 0 28 0, D 0 23 (-1), D 0 6 (-1), D 0 3 0, D 0 2 0, D 0 1 (-1), D 1 0 24, D 3 0 8, D 23 0 5, D 2 3 0, D 2 0 8, D 68 0 4, D 100 0 5, D 28 118 0, D 28 0 0, D 28 1 0, D 6 0 3, D 118 100 (-1), D 118 0 X7, .len 7 100, .ty 5 (.lst [(.int .i64 ⟨0, 0⟩ ⟨1, 0⟩), .bool] ⟨68, 0⟩ ⟨68, 0⟩), .len 5 68, .ty 4 (.lst [.str, (.int .i64 ⟨0, 0⟩ ⟨1, 0⟩)] ⟨23, 0⟩ ⟨23, 0⟩), .row 4 ⟨0, 0⟩ [(Y 27), (Z 28)], .ty 27 .str, .len 4 23], []⟩), ((.tup [(Z 0), (Z 0), (Z 0)]), ⟨130, [], [D 0 100 0, D 0 68 0, D 0 28 0, D 0 23 (-1), D 0 6 (-1), D 0 3 0, D 0 2 0, D 0 1 (-1), D 1 0 24, D 3 0 8, D 23 0 5, D 2 3 0, D 2 0 8, D 68 0 4, D 100 0 5, D 28 0 0, D 28 1 0, D 6 0 3, .ty 7 (.lst [(.int .i64 ⟨0, 0⟩ ⟨6, (-1)⟩), (.int .i64 ⟨0, 0⟩ ⟨1, 0⟩), .bool] ⟨100, 0⟩ ⟨100, 0⟩), .len 7 100, .ty 5 (.lst [(.int .i64 ⟨0, 0⟩ ⟨1, 0⟩), .bool] ⟨68, 0⟩ ⟨68, 0⟩), .len 5 68, .ty 4 (.lst [.str, (.int .i64 ⟨0, 0⟩ ⟨1, 0⟩)] ⟨23, 0⟩ ⟨23, 0⟩), .row 4 ⟨0, 0⟩ [(Y 27), (Z 28)], .ty 27 .str, .len 4 23], []⟩)], ⟨0, 0⟩, ⟨0, 0⟩, none⟩
theorem g7 : ∀ v : V, v.i 0 = 0 → GOK1 tbl v 1 con7 := con_chkE nameOK (n := 1000) (Γ := []) (hs := hc7) (by kernel_rfl) rfl rfl rfl gok_nil
end Do
