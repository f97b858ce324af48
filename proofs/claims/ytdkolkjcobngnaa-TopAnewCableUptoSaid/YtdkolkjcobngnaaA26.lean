/- A part of a proof. -/
import Derived.Test.YtdkolkjcobngnaaC7
import Derived.KernelRfl
set_option linter.unusedVariables false
set_option linter.unusedSimpArgs false
set_option maxRecDepth 1000000
namespace Ca
open Go Ce Ce.L Ce.S
def wg0 : BE := .loop 80 0 80 [.ret]
def wg1 : BE := .blk 79 (.cells [(.ptr 78 0)]) false
def wg2 : BE := .blk 78 (.cells [(Z 1), (Z 2), (Z 3), (Y 4), (.map 77)]) false
def wg3 : BE := .blk 76 (.cells [(Z 1), (Z 2), (Z 3), (Y 4)]) false
def wg4 : BE := .blk 73 (.cells [(I 17 (-1))]) false
def wg5 : BE := .blk 72 (.cells [(Z 0)]) false
def wg6 : BE := .blk 71 (.cells [(Z 5)]) false
def wg7 : BE := .blk 9 (.cells [(Z 0)]) false
def wg8 : BE := .blk 8 (.cells [(Z 0)]) false
def wg9 : BE := .blk 7 (.cells [(Z 5)]) false
def wg10 : BE := .blk 6 (.cells [(Z 1), (Z 2), (Z 3), (Y 4)]) false
def wg11 : BE := .blk 75 (.cells [(.bool true)]) false
def wg12 : BE := .blk 8 (.cells [(I 0 (-1))]) false
def wg13 : BE := .loop 84 0 84 [.ret]
def wg14 : BE := .blk 83 (.cells [(I 0 11)]) false
def wg15 : BE := .blk 82 (.cells [(.ptr 78 0)]) false
def wg16 : BE := .blk 81 (.cells [(.yld 80)]) false
def wg17 : BE := .blk 75 (.cells [(Y 94)]) false
def wg18 : BE := .blk 74 (.cells [(Z 95)]) false
def wg19 : BE := .blk 96 (.cells [(Z 91), (Z 92), (Z 93)]) false
def wg20 : BE := .blk 88 (.cells [(.clo 73 [] [(.ptr 82 0), (.ptr 86 0), (.ptr 87 0), (.ptr 85 0), (.ptr 83 0), (.ptr 88 0)])]) false
def wg21 : BE := .blk 85 (.cells [(.yld 84)]) false
def h26x0 : Hint := .unroll
def h26x1 : Hint := .rng [.ret] ⟨140, [(.agg [(Z 135), (Z 136), (Z 137)])], [D 0 139 1, D 0 139 0, D 139 0 X7, D 0 139 X8, .ty 138 .bool, D 137 0 X7, D 0 137 X8, D 136 0 X7, D 0 136 X8, D 135 0 X7, D 0 135 X8], [wg0, wg1, wg2, .emap 77, wg3, .blk 75 (.cells [(Y 138)]) false, .blk 74 (.cells [(Z 139)]) false, wg4, wg5, wg6, wg7, wg8, wg9, wg10]⟩ [((.bool true), ⟨142, [], [D 0 141 1, D 0 141 0, D 139 141 0, D 141 0 X7, D 0 141 X8, .ty 140 .bool], [wg0, wg1, wg2, .emap 77, wg3, .blk 75 (.cells [(Y 140)]) false, .blk 74 (.cells [(Z 141)]) false, wg4, wg5, wg6, wg7, wg8, wg9, wg10]⟩), ((.bool false), ⟨142, [], [], [.loop 80 1 80 [.ret], wg1, wg2, .emap 77, wg3, wg11, .blk 74 (.cells [(Z 139)]) false, wg4, wg5, wg6, wg7, wg12, wg9, wg10]⟩)]
def h26x2 : Hint := .rng [.ret] ⟨96, [(.agg [(Z 91), (Z 92), (Z 93)])], [D 0 95 1, D 0 95 0, D 95 0 X7, D 0 95 X8, .ty 94 .bool, D 93 0 X7, D 0 93 X8, D 92 0 X7, D 0 92 X8, D 91 0 X7, D 0 91 X8], [wg13, wg14, wg15, wg16, wg0, wg1, wg2, .emap 77, wg3, wg17, wg18, wg4, wg5, wg6, wg7, wg8, wg9, wg10]⟩ [((.bool true), ⟨98, [], [D 0 97 1, D 0 97 0, D 97 0 X7, D 0 97 X8, .ty 96 .bool], [wg13, wg14, wg15, wg16, wg0, wg1, wg2, .emap 77, wg3, .blk 75 (.cells [(Y 96)]) false, .blk 74 (.cells [(Z 97)]) false, wg4, wg5, wg6, wg7, wg8, wg9, wg10]⟩), ((.bool false), ⟨143, [], [D 0 142 1, D 0 142 0, D 0 142 0, D 142 0 X7, D 0 142 X8], [.loop 80 1 80 [.ret], wg1, wg2, .emap 77, wg3, wg11, .blk 74 (.cells [(Z 142)]) false, wg4, wg5, wg6, wg7, wg12, wg9, wg10, .loop 84 1 84 [.ret], wg14, wg15, wg16]⟩)]
def h26x3 : Hint := .inv ⟨140, [(Y 97), (.ptr 79 0), (.ptr 81 0), (.ptr 96 0), (Y 107), (Z 108), (Y 109)] ++ ys 98 9 ++ ys 110 30 ++ us 7, [D 108 3 1, D 0 108 0, D 2 108 0, D 108 0 X7, .ty 107 .bool], [wg19, .loop 84 2 84 [.ret], wg14, wg15, wg16, wg0, wg1, wg2, .emap 77, wg3, wg17, wg18, wg4, wg5, wg6, wg7, wg8, wg9, wg10]⟩ ⟨0, 100⟩ ⟨108, 0⟩
def h26x4 : Hint := .inv ⟨195, [(Y 142), (Y 143), (Z 108), U, (.ptr 140 0), U, (.ptr 141 0), (.clo 74 [(.ptr 78 0)] []), (Y 150), (Y 151)] ++ ys 144 6 ++ [(Y 4), (Z 17), (Z 152)] ++ ys 153 4 ++ ys 163 7 ++ ys 157 5 ++ ys 170 8 ++ ys 179 14 ++ [(Y 162), U], [D 194 0 X7, D 0 194 X8, D 193 0 X7, D 0 193 X8, D 178 0 X7, D 0 178 X8, D 152 17 0, D 0 152 0, D 152 0 X7], [.blk 141 (.cells [(Z 193), (Z 194), (Z 178)]) false, .blk 140 (.cells [(Z 91), (Z 92), (Z 93)]) false, wg19, .loop 84 2 84 [.ret], wg14, wg15, wg16, wg0, wg1, wg2, .emap 77, wg3, wg17, wg18, wg4, wg5, wg6, wg7, wg8, wg9, wg10]⟩ ⟨17, 0⟩ ⟨152, 0⟩
def h26x5 : Hint := .unroll
def h26x6 : Hint := .rcs 73 ⟨98, [(Z 89), (.ptr 82 0), (.ptr 86 0), (.ptr 87 0), (.ptr 85 0), (.ptr 83 0), (.ptr 88 0)], [D 0 97 1, D 0 97 0, D 97 0 X7, D 0 97 X8, .ty 96 .bool, D 95 0 X7, D 0 95 X8, D 94 0 X7, D 0 94 X8, D 93 0 X7, D 0 93 X8, D 92 0 X7, D 0 92 X8, D 91 0 X7, D 0 91 X8, D 90 0 X7, D 0 90 X8, D 89 17 0, D 89 17 1, D 0 89 1, D 0 89 0, D 89 0 X7, D 0 89 X8], [wg20, .blk 87 (.cells [(Z 93), (Z 94), (Z 95)]) false, .blk 86 (.cells [(Z 90), (Z 91), (Z 92)]) false, wg21, wg13, wg14, wg15, wg16, wg0, wg1, wg2, .emap 77, wg3, .blk 75 (.cells [(Y 96)]) false, .blk 74 (.cells [(Z 97)]) false, wg4, wg5, wg6, wg7, wg8, wg9, wg10]⟩ [((.bool true), ⟨107, [], [D 106 0 X7, D 0 106 X8, D 105 0 X7, D 0 105 X8, D 104 0 X7, D 0 104 X8, D 0 103 1, D 0 103 0, D 103 0 X7, D 0 103 X8, .ty 102 .bool, D 101 0 X7, D 0 101 X8, D 100 0 X7, D 0 100 X8, D 99 0 X7, D 0 99 X8], [wg20, .blk 87 (.cells [(Z 99), (Z 100), (Z 101)]) false, .blk 86 (.cells [(Z 104), (Z 105), (Z 106)]) false, wg21, wg13, wg14, wg15, wg16, wg0, wg1, wg2, .emap 77, wg3, .blk 75 (.cells [(Y 102)]) false, .blk 74 (.cells [(Z 103)]) false, wg4, wg5, wg6, wg7, wg8, wg9, wg10]⟩), ((.bool false), ⟨152, [], [D 0 151 1, D 0 151 0, D 0 151 0, D 151 0 X7, D 0 151 X8, D 150 147 0, D 149 146 0, D 148 145 0, D 147 150 0, D 146 149 0, D 145 148 0, D 150 0 X7, D 0 150 X8, D 149 0 X7, D 0 149 X8, D 148 0 X7, D 0 148 X8, D 147 0 X7, D 0 147 X8, D 146 0 X7, D 0 146 X8, D 145 0 X7, D 0 145 X8], [.loop 80 1 80 [.ret], wg1, wg2, .emap 77, wg3, wg11, .blk 74 (.cells [(Z 151)]) false, wg4, wg5, wg6, wg7, wg12, wg9, wg10, .loop 84 1 84 [.ret], wg14, wg15, wg16, wg20, .blk 87 (.cells [(Z 145), (Z 146), (Z 147)]) false, .blk 86 (.cells [(Z 148), (Z 149), (Z 150)]) false, wg21]⟩)] ⟨17, 0⟩ ⟨89, 0⟩
def h26x7 : Hint := .inv ⟨137, [(Z 89), (Y 98), (.ptr 86 0), (Y 99), (Y 100), (.ptr 83 0), (.ptr 88 0), U, (Y 101), (Y 111)] ++ ys 102 8 ++ us 7 ++ [(Y 110), (I 0 12), (Z 112)] ++ ys 113 8 ++ [(Y 135), (Y 136)] ++ ys 121 6, [D 0 134 0, D 134 0 X7, .ty 133 .bool, D 132 0 X7, D 0 132 X8, D 131 0 X7, D 0 131 X8, D 130 0 X7, D 0 130 X8, D 129 0 X7, D 0 129 X8, D 128 0 X7, D 0 128 X8, D 127 0 X7, D 0 127 X8, D 0 112 0, D 112 0 X7], [wg20, .blk 87 (.cells [(Z 127), (Z 128), (Z 129)]) false, .blk 86 (.cells [(Z 130), (Z 131), (Z 132)]) false, wg21, wg13, wg14, wg15, wg16, wg0, wg1, wg2, .emap 77, wg3, .blk 75 (.cells [(Y 133)]) false, .blk 74 (.cells [(Z 134)]) false, wg4, wg5, wg6, wg7, wg8, wg9, wg10]⟩ ⟨0, 100⟩ ⟨112, 0⟩
def h26 : Hs := [h26x0, h26x1, h26x2, h26x3, h26x4, h26x5, h26x6, h26x7]
theorem chk26 : chkApiE tbl [(63, [.str], .bool)] 1000 [con7] c26 Ts26 h26 (pRes sh26) = true := by kernel_rfl
theorem ap26 : Ap26 := fun h => ap_ofE nameOK (rfl : tbl 26 = some c26) rfl chk26 (gok_cons g7 gok_nil) rfl h
end Ca
