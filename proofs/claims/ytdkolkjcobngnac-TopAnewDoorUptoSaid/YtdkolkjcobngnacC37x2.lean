/- A part of a proof. -/
import Derived.Test.YtdkolkjcobngnacC75x1
import Derived.KernelRfl
set_option linter.unusedVariables false
set_option linter.unusedSimpArgs false
set_option maxRecDepth 1000000
namespace Do
open Go Ce Ce.L Ce.S
def wd0 : BE := .vec 160 26 [J, J, J, J, J, J, J, J, J, J, J, J, J, J, J, J, J, J, J, J, J, J, J, J, J, J] ⟨161, 0⟩ false
def wd1 : BE := .loop 142 0 142 [.ret]
def wd2 : BE := .blk 141 (.cells [(.ptr 139 0)]) false
def wd3 : BE := .blk 140 (.cells [(.bool false)]) false
def wd4 : BE := .blk 139 (.cells [(Z 1), (Z 2), (Z 3), (Y 4), (Y 5), (Z 6), (Y 7), (Z 0), (.map 138)]) false
def wd5 : BE := .map 138 true [(.i .i64), (.i .i64)] (.agg [J, J, J, J, J, J, J, J, J, J, J, J, J, J, J, J, J, J, J, J, J, J, J, J, J, J]) none
def wd6 : BE := .blk 137 (.cells [(Z 1), (Z 2), (Z 3), (Y 4), (Y 5), (Z 6), (Y 7)]) false
def wd7 : BE := .blk 136 (.cells [(I 6 (-1))]) false
def wd8 : BE := .blk 135 (.cells [(Z 0)]) false
def wd9 : BE := .blk 134 (.cells [(Z 8)]) false
def wd10 : BE := .blk 11 (.cells [(Z 1), (Z 2), (Z 3), (Y 4), (Y 5), (Z 6), (Y 7)]) false
def wd11 : BE := .blk 140 (.cells [(.bool true)]) false
def wd12 : BE := .blk 144 (.cells [(.clo 74 [] [(.ptr 141 0), (.ptr 144 0), (.ptr 143 0)])]) false
def wd13 : BE := .blk 143 (.cells [(.yld 142)]) false
def hc37x2_0 : Hint := .unroll
def hc37x2_1 : Hint := .rng [.ret] ⟨181, [(Z 180), (.vec 26 160 ⟨161, 0⟩)], [D 180 0 X7, D 0 180 X8, D 161 6 0, D 6 161 0, D 8 161 (-1), D 161 0 3, D 0 161 (-1)], [wd0, wd1, wd2, wd3, wd4, wd5, wd6, wd7, wd8, wd9, wd10]⟩ [((.bool true), ⟨181, [], [], [wd0, wd1, wd2, wd3, wd4, wd5, wd6, wd7, wd8, wd9, wd10]⟩), ((.bool false), ⟨181, [], [], [wd0, .loop 142 1 142 [.ret], wd2, wd11, wd4, wd5, wd6, wd7, wd8, wd9, wd10]⟩)]
def hc37x2_2 : Hint := .rcs 74 ⟨147, [(Z 145), (Z 146), (.ptr 141 0), (.ptr 144 0), (.ptr 143 0)], [D 146 0 X7, D 0 146 X8, D 145 72 0, D 145 72 1, D 0 145 1, D 0 145 0, D 145 0 X7, D 0 145 X8], [wd12, wd13, wd1, wd2, wd3, wd4, wd5, wd6, wd7, wd8, wd9, wd10]⟩ [((.bool true), ⟨213, [], [], [wd4, wd5, wd12, wd13, wd1, wd2, wd3, wd6, wd7, wd8, wd9, wd10]⟩), ((.bool false), ⟨182, [], [], [.loop 142 1 142 [.ret], wd2, wd11, wd4, wd5, wd6, wd7, wd8, wd9, wd10, wd12, wd13]⟩)] ⟨72, 0⟩ ⟨145, 0⟩
def hc37x2_3 : Hint := .inv ⟨182, [(Y 147), (Z 146), (.ptr 141 0), (Y 148), (.ptr 143 0), U, U, (Y 149), (.vec 26 162 ⟨163, 0⟩), (Y 164), (Y 165)] ++ ys 150 8 ++ us 26 ++ ys 158 4 ++ [(Z 6), (Z 166)] ++ ys 167 15 ++ [U, U, U, U], [D 166 163 0, D 163 166 0, D 166 6 0, D 0 166 0, D 166 0 X7, D 163 6 0, D 0 163 0, D 163 0 X7], [.vec 162 26 [J, J, J, J, J, J, J, J, J, J, J, J, J, J, J, J, J, J, J, J, J, J, J, J, J, J] ⟨163, 0⟩ false, wd12, wd13, wd1, wd2, wd3, wd4, wd5, wd6, wd7, wd8, wd9, wd10]⟩ ⟨6, 0⟩ ⟨166, 0⟩
def hc37x2 : Hs := [hc37x2_0, hc37x2_1, hc37x2_2, hc37x2_3]
def con37x2 : Con := ⟨false, 37, 1, ⟨11, [(.agg [(Z 1), (Z 2), (Z 3), (Y 4), (Y 5), (Z 6), (Y 7)]), (Z 8)], [D 0 1 X8, D 0 2 X8, D 0 3 X8, D 0 6 X8, D 0 8 X8, D 1 0 X7, D 3 0 X7, D 2 0 X7, D 8 0 X7, D 6 0 X7, .ty 4 (.lst [.str, J] ⟨0, 0⟩ ⟨0, 1048576⟩), .ty 5 (.lst [J, .bool] ⟨0, 0⟩ ⟨0, 1048576⟩), .ty 7 (.lst [J, J, .bool] ⟨0, 0⟩ ⟨0, 1048576⟩)], []⟩, [((.tup [.nilp, (I 0 7)]), ⟨19, [], [], []⟩), ((.tup [.nilp, (I 0 2)]), ⟨25, [], [D 0 6 (-1), D 0 3 0, D 0 2 0, D 0 1 (-1), D 1 0 24, D 3 0 8, D 2 0 8, D 6 0 3], []⟩), ((.tup [.nilp, (I 0 3)]), ⟨31, [], [D 0 6 (-1), D 0 3 0, D 0 2 0, D 0 1 (-1), D 1 0 24, D 3 0 8, D 27 0 1048576, D 2 3 0, D 2 0 8, D 6 0 3, .len 4 27], []⟩), ((.tup [.nilp, (I 0 6)]), ⟨37, [], [D 0 32 X8, D 0 27 (-1), D 0 6 (-1), D 0 3 0, D 0 2 0, D 0 1 (-1), D 1 0 24, D 3 0 8, D 27 0 5, D 2 3 0, D 2 0 8, D 32 0 X7, D 6 0 3, .row 4 ⟨0, 0⟩ [(Y 31), (Z 32)], .ty 31 .str, .len 4 27], []⟩), ((.tup [.nilp, (I 0 5)]), ⟨95, [], [D 0 32 0, D 0 27 (-1), D 0 6 (-1), D 0 3 0, D 0 2 0, D 0 1 (-1), D 1 0 24, D 3 0 8, D 27 0 5, D 2 3 0, D 2 0 8, D 32 0 0, D 32 1 0, D 6 0 3, .row 4 ⟨0, 0⟩ [(Y 31), (Z 32)], .ty 31 .str, .len 4 27], []⟩), ((.tup [.nilp, (I 0 4)]), ⟨142, [], [D 0 104 0, D 0 72 0, D 0 32 0, D 0 27 (-1), D 0 6 (-1), D 0 3 0, D 0 2 0, D 0 1 (-1), D 1 0 24, D 3 0 8, D 27 0 5, D 2 3 0, D 2 0 8, D 32 0 0, D 32 1 0, D 72 0 4, D 104 0 5, D 6 0 3, .len 7 104, .ty 5 (.lst [(.int .i64 ⟨0, 0⟩ ⟨1, 0⟩), .bool] ⟨72, 0⟩ ⟨72, 0⟩), .len 5 72, .ty 4 (.lst [.str, (.int .i64 ⟨0, 0⟩ ⟨1, 0⟩)] ⟨27, 0⟩ ⟨27, 0⟩), .row 4 ⟨0, 0⟩ [(Y 31), (Z 32)], .ty 31 .str, .len 4 27], []⟩), ((.tup [.nilp, (I 0 8)]), ⟨211, [], [D 0 8 0, D 0 104 0, D 0 72 0, D 0 32 0, D 0 27 (-1), D 0 6 (-1), D 0 3 0, D 0 2 0, D 0 1 (-1), D 1 0 24, D 3 0 8, D 27 0 5, D 2 3 0, D 2 0 8, D 8 6 (-1), D 32 0 0, D 32 1 0, D 72 0 4, D 104 0 5, D 6 0 3, .ty 7 (.lst [(.int .i64 ⟨0, 0⟩ ⟨6, (-1)⟩), (.int .i64 ⟨0, 0⟩ ⟨1, 0⟩), .bool] ⟨104, 0⟩ ⟨104, 0⟩), .len 7 104, .ty 5 (.lst [(.int .i64 ⟨0, 0⟩ ⟨1, 0⟩), .bool] ⟨72, 0⟩ ⟨72, 0⟩), .len 5 72, .ty 4 (.lst [.str, (.int .i64 ⟨0, 0⟩ ⟨1, 0⟩)] ⟨27, 0⟩ ⟨27, 0⟩), .row 4 ⟨0, 0⟩ [(Y 31), (Z 32)], .ty 31 .str, .len 4 27], []⟩), ((.tup [(.ptr 139 0), (Z 0)]), ⟨180, [], [D 0 8 0, D 0 104 0, D 0 72 0, D 0 32 0, D 0 27 (-1), D 0 6 (-1), D 0 3 0, D 0 2 0, D 0 1 (-1), D 1 0 24, D 3 0 8, D 27 0 5, D 2 3 0, D 2 0 8, D 8 6 (-1), D 32 0 0, D 32 1 0, D 72 0 4, D 104 0 5, D 6 0 3, .ty 7 (.lst [(.int .i64 ⟨0, 0⟩ ⟨6, (-1)⟩), (.int .i64 ⟨0, 0⟩ ⟨1, 0⟩), .bool] ⟨104, 0⟩ ⟨104, 0⟩), .len 7 104, .ty 5 (.lst [(.int .i64 ⟨0, 0⟩ ⟨1, 0⟩), .bool] ⟨72, 0⟩ ⟨72, 0⟩), .len 5 72, .ty 4 (.lst [.str, (.int .i64 ⟨0, 0⟩ ⟨1, 0⟩)] ⟨27, 0⟩ ⟨27, 0⟩), .row 4 ⟨0, 0⟩ [(Y 31), (Z 32)], .ty 31 .str, .len 4 27], [wd4, wd5]⟩)], ⟨0, 0⟩, ⟨0, 0⟩, none⟩
theorem g37x2 : ∀ v : V, v.i 0 = 0 → GOK1 tbl v 1 con37x2 := con_chkE nameOK (n := 1000) (Γ := [con75x1, con7]) (hs := hc37x2) (by kernel_rfl) rfl rfl rfl (gok_cons g75x1 (gok_cons g7 gok_nil))
end Do
