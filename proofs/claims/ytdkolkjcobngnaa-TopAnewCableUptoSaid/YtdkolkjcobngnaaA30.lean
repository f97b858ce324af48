/- A part of a proof. -/
import Derived.Test.YtdkolkjcobngnaaC7
import Derived.KernelRfl
set_option linter.unusedVariables false
set_option linter.unusedSimpArgs false
set_option maxRecDepth 1000000
namespace Ca
open Go Ce Ce.L Ce.S
def wp0 : BE := .loop 79 0 79 []
def wp1 : BE := .blk 78 (.cells [(Z 5)]) false
def wp2 : BE := .blk 77 (.cells [(.ptr 74 0)]) false
def wp3 : BE := .blk 76 (.cells [(Z 88)]) false
def wp4 : BE := .blk 75 (.cells [(.ptr 74 0)]) false
def wp5 : BE := .blk 74 (.cells [(Z 1), (Z 2), (Z 3), (Y 4), (.map 73)]) false
def wp6 : BE := .blk 72 (.cells [(Z 1), (Z 2), (Z 3), (Y 4)]) false
def wp7 : BE := .blk 71 (.cells [(I 0 10)]) false
def wp8 : BE := .blk 70 (.cells [(Z 0)]) false
def wp9 : BE := .blk 69 (.cells [(Z 5)]) false
def wp10 : BE := .blk 7 (.cells [(Z 5)]) false
def wp11 : BE := .blk 6 (.cells [(Z 1), (Z 2), (Z 3), (Y 4)]) false
def wp12 : BE := .blk 90 (.cells [(Z 85), (Z 86), (Z 87)]) false
def wp13 : BE := .blk 89 (.cells [(Z 85), (Z 86), (Z 87)]) false
def wp14 : BE := .blk 174 (.cells [(Z 226), (Z 227), (Z 211)]) false
def wp15 : BE := .blk 173 (.cells [(Z 85), (Z 86), (Z 87)]) false
def wp16 : BE := .blk 83 (.cells [(.clo 73 [] [(.ptr 77 0), (.ptr 81 0), (.ptr 82 0), (.ptr 80 0), (.ptr 78 0), (.ptr 83 0)])]) false
def wp17 : BE := .blk 80 (.cells [(.yld 79)]) false
def h30x0 : Hint := .unroll
def h30x1 : Hint := .rng [] ⟨89, [(.agg [(Z 85), (Z 86), (Z 87)])], [D 0 88 1, D 88 0 X7, D 0 88 X8, D 87 0 X7, D 0 87 X8, D 86 0 X7, D 0 86 X8, D 85 0 X7, D 0 85 X8], [wp0, wp1, wp2, wp3, wp4, wp5, .emap 73, wp6, wp7, wp8, wp9, wp10, wp11]⟩ [((.bool true), ⟨90, [], [D 0 89 1, D 89 0 X7, D 0 89 X8], [wp0, wp1, wp2, .blk 76 (.cells [(Z 89)]) false, wp4, wp5, .emap 73, wp6, wp7, wp8, wp9, wp10, wp11]⟩)]
def h30x2 : Hint := .inv ⟨173, [(.ptr 74 0), (Y 91), (Z 5), U, (.ptr 90 0), U, (Z 98), (Z 99)] ++ ys 100 4 ++ ys 92 6 ++ ys 104 69 ++ [U], [D 99 3 1, D 0 99 0, D 2 99 0, D 99 0 X7, D 0 98 0, D 98 0 X7], [wp12, wp13, .loop 79 2 79 [], wp1, wp2, wp3, wp4, wp5, .emap 73, wp6, wp7, wp8, wp9, wp10, wp11]⟩ ⟨0, 100⟩ ⟨99, 0⟩
def h30x3 : Hint := .inv ⟨228, [(Y 175), (Y 176), (Z 99), U, (.ptr 173 0), U, (.ptr 174 0), (.clo 74 [(.ptr 74 0)] []), (Y 183), (Y 184)] ++ ys 177 6 ++ [(Y 4), (Z 15), (Z 185)] ++ ys 186 4 ++ ys 196 7 ++ ys 190 5 ++ ys 203 8 ++ ys 212 14 ++ [(Y 195), U], [D 227 0 X7, D 0 227 X8, D 226 0 X7, D 0 226 X8, D 211 0 X7, D 0 211 X8, D 185 15 0, D 0 185 0, D 185 0 X7], [wp14, wp15, wp12, wp13, .loop 79 2 79 [], wp1, wp2, wp3, wp4, wp5, .emap 73, wp6, wp7, wp8, wp9, wp10, wp11]⟩ ⟨15, 0⟩ ⟨185, 0⟩
def h30x4 : Hint := .unroll
def h30x5 : Hint := .inv ⟨307, [(.ptr 74 0), (Y 229), (Z 5), U, (.ptr 90 0), U, (Z 98), (Z 99), (.ptr 228 0)] ++ ys 230 27 ++ [(Y 4), (Z 15), (Z 305)] ++ ys 257 48 ++ [U], [D 306 0 X7, D 0 306 X8, D 305 15 0, D 0 305 0, D 305 0 X7], [.blk 228 (.cells [(Z 306), (Z 227), (Z 211)]) false, wp14, wp15, wp12, wp13, .loop 79 2 79 [], wp1, wp2, wp3, wp4, wp5, .emap 73, wp6, wp7, wp8, wp9, wp10, wp11]⟩ ⟨15, 0⟩ ⟨305, 0⟩
def h30x6 : Hint := .unroll
def h30x7 : Hint := .rcs 73 ⟨92, [(Z 84), (.ptr 77 0), (.ptr 81 0), (.ptr 82 0), (.ptr 80 0), (.ptr 78 0), (.ptr 83 0)], [D 0 91 1, D 91 0 X7, D 0 91 X8, D 90 0 X7, D 0 90 X8, D 89 0 X7, D 0 89 X8, D 88 0 X7, D 0 88 X8, D 87 0 X7, D 0 87 X8, D 86 0 X7, D 0 86 X8, D 85 0 X7, D 0 85 X8, D 84 15 0, D 84 15 1, D 0 84 1, D 0 84 0, D 84 0 X7, D 0 84 X8], [wp16, .blk 82 (.cells [(Z 88), (Z 89), (Z 90)]) false, .blk 81 (.cells [(Z 85), (Z 86), (Z 87)]) false, wp17, wp0, wp1, wp2, .blk 76 (.cells [(Z 91)]) false, wp4, wp5, .emap 73, wp6, wp7, wp8, wp9, wp10, wp11]⟩ [((.bool true), ⟨100, [], [D 99 0 X7, D 0 99 X8, D 98 0 X7, D 0 98 X8, D 97 0 X7, D 0 97 X8, D 0 96 1, D 96 0 X7, D 0 96 X8, D 95 0 X7, D 0 95 X8, D 94 0 X7, D 0 94 X8, D 93 0 X7, D 0 93 X8], [wp16, .blk 82 (.cells [(Z 93), (Z 94), (Z 95)]) false, .blk 81 (.cells [(Z 97), (Z 98), (Z 99)]) false, wp17, wp0, wp1, wp2, .blk 76 (.cells [(Z 96)]) false, wp4, wp5, .emap 73, wp6, wp7, wp8, wp9, wp10, wp11]⟩)] ⟨15, 0⟩ ⟨84, 0⟩
def h30x8 : Hint := .inv ⟨130, [(Z 84), (Y 92), (.ptr 81 0), (Y 93), (Y 94), (.ptr 78 0), (.ptr 83 0), U, (Y 95), (Y 105)] ++ ys 96 8 ++ us 7 ++ [(Y 104), (I 5 1), (Z 106)] ++ ys 107 16, [D 0 129 1, D 129 0 X7, D 128 0 X7, D 0 128 X8, D 127 0 X7, D 0 127 X8, D 126 0 X7, D 0 126 X8, D 125 0 X7, D 0 125 X8, D 124 0 X7, D 0 124 X8, D 123 0 X7, D 0 123 X8, D 106 5 1, D 0 106 0, D 106 0 X7], [wp16, .blk 82 (.cells [(Z 123), (Z 124), (Z 125)]) false, .blk 81 (.cells [(Z 126), (Z 127), (Z 128)]) false, wp17, wp0, wp1, wp2, .blk 76 (.cells [(Z 129)]) false, wp4, wp5, .emap 73, wp6, wp7, wp8, wp9, wp10, wp11]⟩ ⟨5, 1⟩ ⟨106, 0⟩
def h30 : Hs := [h30x0, h30x1, h30x2, h30x3, h30x4, h30x5, h30x6, h30x7, h30x8]
theorem chk30 : chkApiE tbl [(63, [.str], .bool)] 1000 [con7] c30 Ts30 h30 (pRes sh30) = true := by kernel_rfl
theorem ap30 : Ap30 := fun h => ap_ofE nameOK (rfl : tbl 30 = some c30) rfl chk30 (gok_cons g7 gok_nil) rfl h
end Ca
