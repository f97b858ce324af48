/- A part of a proof. -/
import Derived.Test.YtdkolkjcobngnaaC51x6
import Derived.KernelRfl
set_option linter.unusedVariables false
set_option linter.unusedSimpArgs false
set_option maxRecDepth 1000000
namespace Ca
open Go Ce Ce.L Ce.S
def wn0 : BE := .loop 72 0 72 [.ret]
def wn1 : BE := .blk 71 (.cells [(.ptr 69 0)]) false
def wn2 : BE := .blk 70 (.cells [(.bool false)]) false
def wn3 : BE := .blk 69 (.cells [(Z 1), (Z 2), (Z 3), (Y 4), (.map 68)]) false
def wn4 : BE := .blk 70 (.cells [(.bool true)]) false
def wn5 : BE := .loop 76 0 76 [.ret]
def wn6 : BE := .blk 75 (.cells [(I 0 11)]) false
def wn7 : BE := .blk 74 (.cells [(.ptr 69 0)]) false
def wn8 : BE := .blk 73 (.cells [(.yld 72)]) false
def wn9 : BE := .blk 85 (.cells [(Z 82), (Z 83), (Z 84)]) false
def wn10 : BE := .blk 80 (.cells [(.clo 73 [] [(.ptr 74 0), (.ptr 78 0), (.ptr 79 0), (.ptr 77 0), (.ptr 75 0), (.ptr 80 0)])]) false
def wn11 : BE := .blk 77 (.cells [(.yld 76)]) false
def hc51x7_0 : Hint := .rng [.ret] ⟨129, [(.agg [(Z 126), (Z 127), (Z 128)])], [D 128 0 X7, D 0 128 X8, D 127 0 X7, D 0 127 X8, D 126 0 X7, D 0 126 X8], [wn0, wn1, wn2, wn3, .emap 68]⟩ [((.bool true), ⟨129, [], [], [wn0, wn1, wn2, wn3, .emap 68]⟩), ((.bool false), ⟨129, [], [], [.loop 72 1 72 [.ret], wn1, wn4, wn3, .emap 68]⟩)]
def hc51x7_1 : Hint := .rng [.ret] ⟨85, [(.agg [(Z 82), (Z 83), (Z 84)])], [D 84 0 X7, D 0 84 X8, D 83 0 X7, D 0 83 X8, D 82 0 X7, D 0 82 X8], [wn5, wn6, wn7, wn8, wn0, wn1, wn2, wn3, .emap 68]⟩ [((.bool true), ⟨85, [], [], [wn5, wn6, wn7, wn8, wn0, wn1, wn2, wn3, .emap 68]⟩), ((.bool false), ⟨129, [], [], [.loop 72 1 72 [.ret], wn1, wn4, wn3, .emap 68, .loop 76 1 76 [.ret], wn6, wn7, wn8]⟩)]
def hc51x7_2 : Hint := .inv ⟨129, [(Y 86), (.ptr 71 0), (.ptr 73 0), (.ptr 85 0), (Y 96), (Z 97), (Y 98)] ++ ys 87 9 ++ ys 99 30 ++ us 7, [D 97 3 1, D 0 97 0, D 2 97 0, D 97 0 X7, .ty 96 .bool], [wn9, .loop 76 2 76 [.ret], wn6, wn7, wn8, wn0, wn1, wn2, wn3, .emap 68]⟩ ⟨0, 100⟩ ⟨97, 0⟩
def hc51x7_3 : Hint := .inv ⟨184, [(Y 131), (Y 132), (Z 97), U, (.ptr 129 0), U, (.ptr 130 0), (.clo 74 [(.ptr 69 0)] []), (Y 139), (Y 140)] ++ ys 133 6 ++ [(Y 4), (Z 13), (Z 141)] ++ ys 142 4 ++ ys 152 7 ++ ys 146 5 ++ ys 159 8 ++ ys 168 14 ++ [(Y 151), U], [D 183 0 X7, D 0 183 X8, D 182 0 X7, D 0 182 X8, D 167 0 X7, D 0 167 X8, D 141 13 0, D 0 141 0, D 141 0 X7], [.blk 130 (.cells [(Z 182), (Z 183), (Z 167)]) false, .blk 129 (.cells [(Z 82), (Z 83), (Z 84)]) false, wn9, .loop 76 2 76 [.ret], wn6, wn7, wn8, wn0, wn1, wn2, wn3, .emap 68]⟩ ⟨13, 0⟩ ⟨141, 0⟩
def hc51x7_4 : Hint := .unroll
def hc51x7_5 : Hint := .rcs 73 ⟨88, [(Z 81), (.ptr 74 0), (.ptr 78 0), (.ptr 79 0), (.ptr 77 0), (.ptr 75 0), (.ptr 80 0)], [D 87 0 X7, D 0 87 X8, D 86 0 X7, D 0 86 X8, D 85 0 X7, D 0 85 X8, D 84 0 X7, D 0 84 X8, D 83 0 X7, D 0 83 X8, D 82 0 X7, D 0 82 X8, D 81 13 0, D 81 13 1, D 0 81 1, D 0 81 0, D 81 0 X7, D 0 81 X8], [wn10, .blk 79 (.cells [(Z 85), (Z 86), (Z 87)]) false, .blk 78 (.cells [(Z 82), (Z 83), (Z 84)]) false, wn11, wn5, wn6, wn7, wn8, wn0, wn1, wn2, wn3, .emap 68]⟩ [((.bool true), ⟨95, [], [D 94 0 X7, D 0 94 X8, D 93 0 X7, D 0 93 X8, D 92 0 X7, D 0 92 X8, D 91 0 X7, D 0 91 X8, D 90 0 X7, D 0 90 X8, D 89 0 X7, D 0 89 X8], [wn10, .blk 79 (.cells [(Z 89), (Z 90), (Z 91)]) false, .blk 78 (.cells [(Z 92), (Z 93), (Z 94)]) false, wn11, wn5, wn6, wn7, wn8, wn0, wn1, wn2, wn3, .emap 68]⟩), ((.bool false), ⟨139, [], [D 138 135 0, D 137 134 0, D 136 133 0, D 135 138 0, D 134 137 0, D 133 136 0, D 138 0 X7, D 0 138 X8, D 137 0 X7, D 0 137 X8, D 136 0 X7, D 0 136 X8, D 135 0 X7, D 0 135 X8, D 134 0 X7, D 0 134 X8, D 133 0 X7, D 0 133 X8], [.loop 72 1 72 [.ret], wn1, wn4, wn3, .emap 68, .loop 76 1 76 [.ret], wn6, wn7, wn8, wn10, .blk 79 (.cells [(Z 133), (Z 134), (Z 135)]) false, .blk 78 (.cells [(Z 136), (Z 137), (Z 138)]) false, wn11]⟩)] ⟨13, 0⟩ ⟨81, 0⟩
def hc51x7_6 : Hint := .inv ⟨125, [(Z 81), (Y 88), (.ptr 78 0), (Y 89), (Y 90), (.ptr 75 0), (.ptr 80 0), U, (Y 91), (Y 101)] ++ ys 92 8 ++ us 7 ++ [(Y 100), (I 0 12), (Z 102)] ++ ys 103 8 ++ [(Y 123), (Y 124)] ++ ys 111 6, [D 122 0 X7, D 0 122 X8, D 121 0 X7, D 0 121 X8, D 120 0 X7, D 0 120 X8, D 119 0 X7, D 0 119 X8, D 118 0 X7, D 0 118 X8, D 117 0 X7, D 0 117 X8, D 0 102 0, D 102 0 X7], [wn10, .blk 79 (.cells [(Z 117), (Z 118), (Z 119)]) false, .blk 78 (.cells [(Z 120), (Z 121), (Z 122)]) false, wn11, wn5, wn6, wn7, wn8, wn0, wn1, wn2, wn3, .emap 68]⟩ ⟨0, 100⟩ ⟨102, 0⟩
def hc51x7 : Hs := [hc51x7_0, hc51x7_1, hc51x7_2, hc51x7_3, hc51x7_4, hc51x7_5, hc51x7_6]
def con51x7 : Con := ⟨false, 51, 1, ⟨70, [(.ptr 69 0)], [D 0 13 0, D 0 3 0, D 0 2 0, D 0 1 0, D 1 0 200, D 3 0 10, D 13 0 3, D 2 3 0, D 2 0 10, .len 4 13, .ty 4 (.lst [.str, J, J, J, J, J] ⟨0, 0⟩ ⟨0, 1048576⟩)], [wn3, .emap 68]⟩, [((.bool false), ⟨88, [], [], [wn3, .emap 68]⟩), ((.bool true), ⟨132, [], [], [wn3, .emap 68]⟩)], ⟨0, 0⟩, ⟨0, 0⟩, none⟩
theorem g51x7 : ∀ v : V, v.i 0 = 0 → GOK1 tbl v 1 con51x7 := con_chkE nameOK (n := 1000) (Γ := [con51x6, con51x5, con51x4, con51x3, con51x2, con51x1, con7]) (hs := hc51x7) (by kernel_rfl) rfl rfl rfl (gok_cons g51x6 (gok_cons g51x5 (gok_cons g51x4 (gok_cons g51x3 (gok_cons g51x2 (gok_cons g51x1 (gok_cons g7 gok_nil)))))))
end Ca
