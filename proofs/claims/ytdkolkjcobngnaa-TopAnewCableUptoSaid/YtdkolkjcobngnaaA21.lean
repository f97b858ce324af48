/- A part of a proof. -/
import Derived.Test.YtdkolkjcobngnaaC7
import Derived.KernelRfl
set_option linter.unusedVariables false
set_option linter.unusedSimpArgs false
set_option maxRecDepth 1000000
namespace Ca
open Go Ce Ce.L Ce.S
def wf0 : BE := .loop 76 0 76 []
def wf1 : BE := .blk 75 (.cells [(Z 133), (Z 134)]) false
def wf2 : BE := .blk 74 (.cells [(Y 135)]) false
def wf3 : BE := .blk 73 (.cells [(Z 136), (Z 137), (Z 138)]) false
def wf4 : BE := .blk 72 (.cells [(.clo 46 [] [(.ptr 70 0)])]) false
def wf5 : BE := .blk 71 (.cells [(.ptr 69 0)]) false
def wf6 : BE := .blk 70 (.cells [(.ptr 69 0)]) false
def wf7 : BE := .blk 69 (.cells [(Z 1), (Z 2), (Z 3), (Y 4), (.map 68)]) false
def wf8 : BE := .map 68 true [(.i .i64), (.i .i64), (.i .i64)] (.lst [J, J, J] ⟨0, 1⟩ ⟨0, 11⟩) none
def wf9 : BE := .blk 67 (.cells [(Z 1), (Z 2), (Z 3), (Y 4)]) false
def wf10 : BE := .blk 5 (.cells [(Z 1), (Z 2), (Z 3), (Y 4)]) false
def wf11 : BE := .blk 143 (.cells [(Z 130), (Z 131), (Z 132)]) false
def wf12 : BE := .blk 142 (.cells [(Z 130), (Z 131), (Z 132)]) false
def wf13 : BE := .blk 141 (.cells [(Z 0), (Z 0)]) false
def wf14 : BE := .blk 140 (.cells [(Z 130), (Z 131), (Z 132)]) false
def wf15 : BE := .blk 139 (.cells [(Z 130), (Z 131), (Z 132)]) false
def wf16 : BE := .loop 76 2 76 []
def wf17 : BE := .loop 80 0 80 []
def wf18 : BE := .blk 79 (.cells [(I 0 11)]) false
def wf19 : BE := .blk 78 (.cells [(.ptr 69 0)]) false
def wf20 : BE := .blk 77 (.cells [(.yld 76)]) false
def wf21 : BE := .blk 75 (.cells [(Z 89), (Z 90)]) false
def wf22 : BE := .blk 74 (.cells [(Y 91)]) false
def wf23 : BE := .blk 73 (.cells [(Z 92), (Z 93), (Z 94)]) false
def wf24 : BE := .blk 95 (.cells [(Z 86), (Z 87), (Z 88)]) false
def wf25 : BE := .blk 84 (.cells [(.clo 73 [] [(.ptr 78 0), (.ptr 82 0), (.ptr 83 0), (.ptr 81 0), (.ptr 79 0), (.ptr 84 0)])]) false
def wf26 : BE := .blk 81 (.cells [(.yld 80)]) false
def wf27 : BE := .blk 103 (.cells [(Z 92), (Z 93), (Z 94)]) false
def wf28 : BE := .blk 102 (.cells [(Z 92), (Z 93), (Z 94)]) false
def wf29 : BE := .blk 100 (.rows 1 [J] ⟨13, 0⟩) false
def wf30 : BE := .blk 98 (.cells [(Z 92), (Z 93), (Z 94)]) false
def wf31 : BE := .blk 83 (.cells [(Z 86), (Z 87), (Z 88)]) false
def wf32 : BE := .blk 82 (.cells [(Z 95), (Z 96), (Z 97)]) false
def h21x0 : Hint := .rng [] ⟨139, [(.agg [(Z 130), (Z 131), (Z 132)])], [D 138 0 X7, D 0 138 X8, D 137 0 X7, D 0 137 X8, D 136 0 X7, D 0 136 X8, .ty 135 .bool, D 134 0 X7, D 0 134 X8, D 0 133 1, D 0 133 0, D 133 0 X7, D 0 133 X8, D 132 0 X7, D 0 132 X8, D 131 0 X7, D 0 131 X8, D 130 0 X7, D 0 130 X8], [wf0, wf1, wf2, wf3, wf4, wf5, wf6, wf7, wf8, wf9, wf10]⟩ [((.bool true), ⟨145, [], [D 144 0 X7, D 0 144 X8, D 143 0 X7, D 0 143 X8, D 142 0 X7, D 0 142 X8, .ty 141 .bool, D 140 0 X7, D 0 140 X8, D 0 139 1, D 0 139 0, D 139 0 X7, D 0 139 X8], [wf0, .blk 75 (.cells [(Z 139), (Z 140)]) false, .blk 74 (.cells [(Y 141)]) false, .blk 73 (.cells [(Z 142), (Z 143), (Z 144)]) false, wf4, wf5, wf6, wf7, wf8, wf9, wf10]⟩)]
def h21x1 : Hint := .inv ⟨193, [(.ptr 69 0), (Y 145), U, (.ptr 143 0), (Y 146), (Y 147), (Y 148), (.vec 3 172 ⟨173, 0⟩), (Y 174)] ++ ys 149 10 ++ [U] ++ ys 159 13 ++ [(I 144 1), (Z 175)] ++ ys 176 17 ++ us 7, [D 175 173 0, D 173 175 0, D 175 3 1, D 175 144 1, D 0 175 0, D 175 0 X7, D 173 3 1, D 173 144 1, D 0 173 0, D 173 0 X7], [.vec 172 3 [J, J, J] ⟨173, 0⟩ false, wf11, wf12, wf13, wf14, wf15, wf16, wf1, wf2, wf3, wf4, wf5, wf6, wf7, wf8, wf9, wf10]⟩ ⟨144, 1⟩ ⟨175, 0⟩
def h21x2 : Hint := .inv ⟨249, [(Y 196), (Y 197), (Z 193), U, (.ptr 194 0), U, (.ptr 195 0), (.clo 74 [(.ptr 69 0)] []), (Y 204), (Y 205)] ++ ys 198 6 ++ [(Y 4), (Z 13), (Z 206)] ++ ys 207 4 ++ ys 217 7 ++ ys 211 5 ++ ys 224 8 ++ ys 233 14 ++ [(Y 216), U], [D 248 0 X7, D 0 248 X8, D 247 0 X7, D 0 247 X8, D 232 0 X7, D 0 232 X8, D 206 13 0, D 0 206 0, D 206 0 X7], [.blk 195 (.cells [(Z 247), (Z 248), (Z 232)]) false, .blk 194 (.cells [(Z 130), (Z 131), (Z 132)]) false, .vec 172 3 [J, J, J] ⟨173, 0⟩ false, wf11, wf12, wf13, wf14, wf15, wf16, wf1, wf2, wf3, wf4, wf5, wf6, wf7, wf8, wf9, wf10]⟩ ⟨13, 0⟩ ⟨206, 0⟩
def h21x3 : Hint := .unroll
def h21x4 : Hint := .inv ⟨162, [(Y 146), (Y 147), U, (Y 148), (Z 151), U, (Y 152), (Y 149), (Y 150), (Y 144), (Z 145), (Z 153)] ++ ys 154 8 ++ [U], [D 153 145 0, D 0 153 0, D 153 0 X7, D 0 151 0, D 151 0 X7], [wf11, wf12, wf13, wf14, wf15, wf16, wf1, wf2, wf3, wf4, wf5, wf6, wf7, wf8, wf9, wf10]⟩ ⟨145, 0⟩ ⟨153, 0⟩
def h21x5 : Hint := .inv ⟨211, [(Y 195), (Y 196), U, (Y 197), (Z 200), U, (Y 201), (Y 198), (Y 199), (.vec 3 172 ⟨173, 0⟩), (Z 173), (Z 202)] ++ ys 203 8 ++ [U], [D 202 3 1, D 202 194 1, D 202 173 0, D 0 202 0, D 202 0 X7, D 0 200 0, D 200 0 X7], [.vec 172 3 [J, J, J] ⟨173, 0⟩ true, wf11, wf12, wf13, wf14, wf15, wf16, wf1, wf2, wf3, wf4, wf5, wf6, wf7, wf8, wf9, wf10]⟩ ⟨173, 0⟩ ⟨202, 0⟩
def h21x6 : Hint := .inv ⟨187, [(Y 163), (Y 164), U, (.ptr 162 0), (Z 169), (Y 170), (Y 171)] ++ ys 165 4 ++ [(Y 4), (Z 13), (Z 172)] ++ ys 173 14 ++ [U], [D 172 13 0, D 0 172 0, D 172 0 X7, D 169 0 X7, D 0 169 X8], [.blk 162 (.cells [(Z 130), (Z 131), (Z 132)]) false, wf11, wf12, wf13, wf14, wf15, wf16, wf1, wf2, wf3, wf4, wf5, wf6, wf7, wf8, wf9, wf10]⟩ ⟨13, 0⟩ ⟨172, 0⟩
def h21x7 : Hint := .inv ⟨236, [(Y 212), (Y 213), U, (.ptr 211 0), (Z 218), (Y 219), (Y 220)] ++ ys 214 4 ++ [(Y 4), (Z 13), (Z 221)] ++ ys 222 14 ++ [U], [D 221 13 0, D 0 221 0, D 221 0 X7, D 218 0 X7, D 0 218 X8], [.blk 211 (.cells [(Z 130), (Z 131), (Z 132)]) false, .vec 172 3 [J, J, J] ⟨173, 0⟩ true, wf11, wf12, wf13, wf14, wf15, wf16, wf1, wf2, wf3, wf4, wf5, wf6, wf7, wf8, wf9, wf10]⟩ ⟨13, 0⟩ ⟨221, 0⟩
def h21x8 : Hint := .unroll
def h21x9 : Hint := .unroll
def h21x10 : Hint := .rng [] ⟨95, [(.agg [(Z 86), (Z 87), (Z 88)])], [D 94 0 X7, D 0 94 X8, D 93 0 X7, D 0 93 X8, D 92 0 X7, D 0 92 X8, .ty 91 .bool, D 90 0 X7, D 0 90 X8, D 0 89 1, D 0 89 0, D 89 0 X7, D 0 89 X8, D 88 0 X7, D 0 88 X8, D 87 0 X7, D 0 87 X8, D 86 0 X7, D 0 86 X8], [wf17, wf18, wf19, wf20, wf0, wf21, wf22, wf23, wf4, wf5, wf6, wf7, wf8, wf9, wf10]⟩ [((.bool true), ⟨101, [], [D 100 0 X7, D 0 100 X8, D 99 0 X7, D 0 99 X8, D 98 0 X7, D 0 98 X8, .ty 97 .bool, D 96 0 X7, D 0 96 X8, D 0 95 1, D 0 95 0, D 95 0 X7, D 0 95 X8], [wf17, wf18, wf19, wf20, wf0, .blk 75 (.cells [(Z 95), (Z 96)]) false, .blk 74 (.cells [(Y 97)]) false, .blk 73 (.cells [(Z 98), (Z 99), (Z 100)]) false, wf4, wf5, wf6, wf7, wf8, wf9, wf10]⟩)]
def h21x11 : Hint := .inv ⟨139, [(Y 96), (.ptr 71 0), (.ptr 77 0), (.ptr 95 0), (Y 106), (Z 107), (Y 108)] ++ ys 97 9 ++ ys 109 30 ++ us 7, [D 107 3 1, D 0 107 0, D 2 107 0, D 107 0 X7, .ty 106 .bool], [wf24, .loop 80 2 80 [], wf18, wf19, wf20, wf0, wf21, wf22, wf23, wf4, wf5, wf6, wf7, wf8, wf9, wf10]⟩ ⟨0, 100⟩ ⟨107, 0⟩
def h21x12 : Hint := .inv ⟨194, [(Y 141), (Y 142), (Z 107), U, (.ptr 139 0), U, (.ptr 140 0), (.clo 74 [(.ptr 69 0)] []), (Y 149), (Y 150)] ++ ys 143 6 ++ [(Y 4), (Z 13), (Z 151)] ++ ys 152 4 ++ ys 162 7 ++ ys 156 5 ++ ys 169 8 ++ ys 178 14 ++ [(Y 161), U], [D 193 0 X7, D 0 193 X8, D 192 0 X7, D 0 192 X8, D 177 0 X7, D 0 177 X8, D 151 13 0, D 0 151 0, D 151 0 X7], [.blk 140 (.cells [(Z 192), (Z 193), (Z 177)]) false, .blk 139 (.cells [(Z 86), (Z 87), (Z 88)]) false, wf24, .loop 80 2 80 [], wf18, wf19, wf20, wf0, wf21, wf22, wf23, wf4, wf5, wf6, wf7, wf8, wf9, wf10]⟩ ⟨13, 0⟩ ⟨151, 0⟩
def h21x13 : Hint := .unroll
def h21x14 : Hint := .rcs 73 ⟨98, [(Z 85), (.ptr 78 0), (.ptr 82 0), (.ptr 83 0), (.ptr 81 0), (.ptr 79 0), (.ptr 84 0)], [D 97 0 X7, D 0 97 X8, D 96 0 X7, D 0 96 X8, D 95 0 X7, D 0 95 X8, .ty 94 .bool, D 93 0 X7, D 0 93 X8, D 0 92 1, D 0 92 0, D 92 0 X7, D 0 92 X8, D 91 0 X7, D 0 91 X8, D 90 0 X7, D 0 90 X8, D 89 0 X7, D 0 89 X8, D 88 0 X7, D 0 88 X8, D 87 0 X7, D 0 87 X8, D 86 0 X7, D 0 86 X8, D 85 13 0, D 85 13 1, D 0 85 1, D 0 85 0, D 85 0 X7, D 0 85 X8], [wf25, .blk 83 (.cells [(Z 89), (Z 90), (Z 91)]) false, .blk 82 (.cells [(Z 86), (Z 87), (Z 88)]) false, wf26, wf17, wf18, wf19, wf20, wf0, .blk 75 (.cells [(Z 92), (Z 93)]) false, .blk 74 (.cells [(Y 94)]) false, .blk 73 (.cells [(Z 95), (Z 96), (Z 97)]) false, wf4, wf5, wf6, wf7, wf8, wf9, wf10]⟩ [((.bool true), ⟨111, [], [D 110 0 X7, D 0 110 X8, D 109 0 X7, D 0 109 X8, D 108 0 X7, D 0 108 X8, D 107 0 X7, D 0 107 X8, D 106 0 X7, D 0 106 X8, D 105 0 X7, D 0 105 X8, .ty 104 .bool, D 103 0 X7, D 0 103 X8, D 0 102 1, D 0 102 0, D 102 0 X7, D 0 102 X8, D 101 0 X7, D 0 101 X8, D 100 0 X7, D 0 100 X8, D 99 0 X7, D 0 99 X8], [wf25, .blk 83 (.cells [(Z 99), (Z 100), (Z 101)]) false, .blk 82 (.cells [(Z 108), (Z 109), (Z 110)]) false, wf26, wf17, wf18, wf19, wf20, wf0, .blk 75 (.cells [(Z 102), (Z 103)]) false, .blk 74 (.cells [(Y 104)]) false, .blk 73 (.cells [(Z 105), (Z 106), (Z 107)]) false, wf4, wf5, wf6, wf7, wf8, wf9, wf10]⟩)] ⟨13, 0⟩ ⟨85, 0⟩
def h21x15 : Hint := .inv ⟨141, [(Z 85), (Y 98), (.ptr 82 0), (Y 99), (Y 100), (.ptr 79 0), (.ptr 84 0), U, (Y 101), (Y 111)] ++ ys 102 8 ++ us 7 ++ [(Y 110), (I 0 12), (Z 112)] ++ ys 113 8 ++ [(Y 139), (Y 140)] ++ ys 121 6, [D 138 0 X7, D 0 138 X8, D 137 0 X7, D 0 137 X8, D 136 0 X7, D 0 136 X8, .ty 135 .bool, D 134 0 X7, D 0 134 X8, D 0 133 0, D 133 0 X7, D 132 0 X7, D 0 132 X8, D 131 0 X7, D 0 131 X8, D 130 0 X7, D 0 130 X8, D 129 0 X7, D 0 129 X8, D 128 0 X7, D 0 128 X8, D 127 0 X7, D 0 127 X8, D 0 112 0, D 112 0 X7], [wf25, .blk 83 (.cells [(Z 127), (Z 128), (Z 129)]) false, .blk 82 (.cells [(Z 130), (Z 131), (Z 132)]) false, wf26, wf17, wf18, wf19, wf20, wf0, wf1, wf2, wf3, wf4, wf5, wf6, wf7, wf8, wf9, wf10]⟩ ⟨0, 100⟩ ⟨112, 0⟩
def h21x16 : Hint := .inv ⟨153, [(.ptr 69 0), (Y 105), U, (.ptr 103 0), (Y 106), (Y 107), (Y 108), (.vec 3 132 ⟨133, 0⟩), (Y 134)] ++ ys 109 10 ++ [U] ++ ys 119 13 ++ [(I 104 1), (Z 135)] ++ ys 136 17 ++ us 7, [D 135 133 0, D 133 135 0, D 135 3 1, D 135 104 1, D 0 135 0, D 135 0 X7, D 133 3 1, D 133 104 1, D 0 133 0, D 133 0 X7], [.vec 132 3 [J, J, J] ⟨133, 0⟩ false, wf27, wf28, wf29, wf30, wf25, wf31, wf32, wf26, wf18, wf19, wf20, wf21, wf22, wf23, wf4, wf5, wf6, wf7, wf8, wf9, wf10]⟩ ⟨104, 1⟩ ⟨135, 0⟩
def h21x17 : Hint := .inv ⟨209, [(Y 156), (Y 157), (Z 153), U, (.ptr 154 0), U, (.ptr 155 0), (.clo 74 [(.ptr 69 0)] []), (Y 164), (Y 165)] ++ ys 158 6 ++ [(Y 4), (Z 13), (Z 166)] ++ ys 167 4 ++ ys 177 7 ++ ys 171 5 ++ ys 184 8 ++ ys 193 14 ++ [(Y 176), U], [D 208 0 X7, D 0 208 X8, D 207 0 X7, D 0 207 X8, D 192 0 X7, D 0 192 X8, D 166 13 0, D 0 166 0, D 166 0 X7], [.blk 155 (.cells [(Z 207), (Z 208), (Z 192)]) false, .blk 154 (.cells [(Z 92), (Z 93), (Z 94)]) false, .vec 132 3 [J, J, J] ⟨133, 0⟩ false, wf27, wf28, wf29, wf30, wf25, wf31, wf32, wf26, wf18, wf19, wf20, wf21, wf22, wf23, wf4, wf5, wf6, wf7, wf8, wf9, wf10]⟩ ⟨13, 0⟩ ⟨166, 0⟩
def h21x18 : Hint := .unroll
def h21x19 : Hint := .inv ⟨122, [(Y 106), (Y 107), U, (Y 108), (Z 111), U, (Y 112), (Y 109), (Y 110), (Y 104), (Z 105), (Z 113)] ++ ys 114 8 ++ [U], [D 113 105 0, D 0 113 0, D 113 0 X7, D 0 111 0, D 111 0 X7], [wf27, wf28, wf29, wf30, wf25, wf31, wf32, wf26, wf18, wf19, wf20, wf21, wf22, wf23, wf4, wf5, wf6, wf7, wf8, wf9, wf10]⟩ ⟨105, 0⟩ ⟨113, 0⟩
def h21x20 : Hint := .inv ⟨171, [(Y 155), (Y 156), U, (Y 157), (Z 160), U, (Y 161), (Y 158), (Y 159), (.vec 3 132 ⟨133, 0⟩), (Z 133), (Z 162)] ++ ys 163 8 ++ [U], [D 162 3 1, D 162 154 1, D 162 133 0, D 0 162 0, D 162 0 X7, D 0 160 0, D 160 0 X7], [.vec 132 3 [J, J, J] ⟨133, 0⟩ true, wf27, wf28, wf29, wf30, wf25, wf31, wf32, wf26, wf18, wf19, wf20, wf21, wf22, wf23, wf4, wf5, wf6, wf7, wf8, wf9, wf10]⟩ ⟨133, 0⟩ ⟨162, 0⟩
def h21 : Hs := [h21x0, h21x1, h21x2, h21x3, h21x4, h21x5, h21x6, h21x7, h21x8, h21x9, h21x10, h21x11, h21x12, h21x13, h21x14, h21x15, h21x16, h21x17, h21x18, h21x19, h21x20]
theorem chk21 : chkApiE tbl [(63, [.str], .bool)] 1000 [con7] c21 Ts21 h21 (pRes sh21) = true := by kernel_rfl
theorem ap21 : Ap21 := fun h => ap_ofE nameOK (rfl : tbl 21 = some c21) rfl chk21 (gok_cons g7 gok_nil) rfl h
end Ca
