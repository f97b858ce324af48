/- A part of a proof. -/
import Derived.Test.YtmaikhlheanmdaaLaw
import Derived.Test.YtmaikhlheanmdaaNm
import Derived.KernelRfl
set_option linter.unusedVariables false
set_option linter.unusedSimpArgs false
set_option maxRecDepth 1000000
namespace Ha
open Go Ce Ce.L Ce.S
def wd0 : BE := .loop 92 0 92 [.ret]
def wd1 : BE := .blk 91 (.cells [(.ptr 87 0)]) false
def wd2 : BE := .blk 90 (.cells [(.bool false)]) false
def wd3 : BE := .blk 87 (.cells [(Y 1), (Y 2), (Y 3), (Z 89), (.map 86)]) false
def wd4 : BE := .blk 90 (.cells [(.bool true)]) false
def wd5 : BE := .blk 97 (.cells [(.clo 81 [] [(.ptr 91 0), (.ptr 95 0), (.ptr 96 0), (.ptr 94 0), (.ptr 93 0), (.ptr 97 0)])]) false
def wd6 : BE := .blk 96 (.cells [(Z 105), (Z 106), (Z 107), (Z 108), (Z 109), (Z 110)]) false
def wd7 : BE := .blk 95 (.cells [(Z 99), (Z 100), (Z 101), (Z 102), (Z 103), (Z 104)]) false
def wd8 : BE := .blk 94 (.cells [(.clo 80 [(.ptr 87 0)] [])]) false
def wd9 : BE := .blk 93 (.cells [(.yld 92)]) false
def zF : Hint := .rng [.ret] ⟨152, [(.agg [(Z 146), (Z 147), (Z 148), (Z 149), (Z 150), (Z 151)])], [D 151 0 12, D 0 151 0, D 150 0 12, D 0 150 0, D 149 0 12, D 0 149 0, D 148 0 12, D 0 148 0, D 147 0 12, D 0 147 0, D 146 0 12, D 0 146 0], [wd0, wd1, wd2, wd3, .emap 86]⟩ [((.bool true), ⟨152, [], [], [wd0, wd1, wd2, wd3, .emap 86]⟩), ((.bool false), ⟨152, [], [], [.loop 92 1 92 [.ret], wd1, wd4, wd3, .emap 86]⟩)]
def zE : Hint := .rcs 81 ⟨111, [(Z 98), (.ptr 91 0), (.ptr 95 0), (.ptr 96 0), (.ptr 94 0), (.ptr 93 0), (.ptr 97 0)], [D 110 0 12, D 0 110 0, D 109 0 12, D 0 109 0, D 108 0 12, D 0 108 0, D 107 0 12, D 0 107 0, D 106 0 12, D 0 106 0, D 105 0 12, D 0 105 0, D 104 0 12, D 0 104 0, D 103 0 12, D 0 103 0, D 102 0 12, D 0 102 0, D 101 0 12, D 0 101 0, D 100 0 12, D 0 100 0, D 99 0 12, D 0 99 0, D 98 28 0, D 98 0 9, D 0 98 0], [wd5, wd6, wd7, wd8, wd9, wd0, wd1, wd2, wd3, .emap 86]⟩ [((.bool true), ⟨200, [], [D 199 0 12, D 0 199 0, D 198 0 12, D 0 198 0, D 197 0 12, D 0 197 0, D 196 0 12, D 0 196 0, D 195 0 12, D 0 195 0, D 194 0 12, D 0 194 0, D 193 0 12, D 0 193 0, D 192 0 12, D 0 192 0, D 191 0 12, D 0 191 0, D 190 0 12, D 0 190 0, D 189 0 12, D 0 189 0, D 188 0 12, D 0 188 0], [wd5, .blk 96 (.cells [(Z 188), (Z 189), (Z 190), (Z 191), (Z 192), (Z 193)]) false, .blk 95 (.cells [(Z 194), (Z 195), (Z 196), (Z 197), (Z 198), (Z 199)]) false, wd8, wd9, wd0, wd1, wd2, wd3, .emap 86]⟩), ((.bool false), ⟨172, [], [D 171 165 0, D 170 164 0, D 169 163 0, D 168 162 0, D 167 161 0, D 166 160 0, D 165 171 0, D 164 170 0, D 163 169 0, D 162 168 0, D 161 167 0, D 160 166 0, D 171 0 12, D 0 171 0, D 170 0 12, D 0 170 0, D 169 0 12, D 0 169 0, D 168 0 12, D 0 168 0, D 167 0 12, D 0 167 0, D 166 0 12, D 0 166 0, D 165 0 12, D 0 165 0, D 164 0 12, D 0 164 0, D 163 0 12, D 0 163 0, D 162 0 12, D 0 162 0, D 161 0 12, D 0 161 0, D 160 0 12, D 0 160 0], [.loop 92 1 92 [.ret], wd1, wd4, wd3, .emap 86, wd5, .blk 96 (.cells [(Z 160), (Z 161), (Z 162), (Z 163), (Z 164), (Z 165)]) false, .blk 95 (.cells [(Z 166), (Z 167), (Z 168), (Z 169), (Z 170), (Z 171)]) false, wd8, wd9]⟩)] ⟨28, 0⟩ ⟨98, 0⟩
def zD : Hint := .inv ⟨160, [(.ptr 87 0), (Y 114), U, (.ptr 112 0), (Y 115)] ++ ys 120 5 ++ ys 116 4 ++ [(Y 3), (Z 113), (Z 125)] ++ ys 126 34, [D 125 113 0, D 0 125 0, D 125 0 X7], [.blk 112 (.cells [(Z 99), (Z 100), (Z 101), (Z 102), (Z 103), (Z 104)]) false, wd5, wd6, wd7, wd8, wd9, wd0, wd1, wd2, wd3, .emap 86]⟩ ⟨113, 0⟩ ⟨125, 0⟩
def zC : Hint := .unroll
def zB : Hint := .inv ⟨159, [(.ptr 87 0), (Y 113), U, (.ptr 111 0), (Y 114)] ++ ys 119 5 ++ ys 115 4 ++ [(Y 3), (Z 112), (Z 124)] ++ ys 125 34, [D 28 124 0, D 124 112 0, D 0 124 0, D 124 0 X7], [.blk 111 (.cells [(Z 99), (Z 100), (Z 101), (Z 102), (Z 103), (Z 104)]) false, wd5, wd6, wd7, wd8, wd9, wd0, wd1, wd2, wd3, .emap 86]⟩ ⟨112, 0⟩ ⟨124, 0⟩
def yz : Hint := .unroll
def yy : Hint := .inv ⟨167, [(Z 98), (Y 116), (.ptr 95 0), (Y 117), (Y 118), (Y 119), (.ptr 97 0), U, (Y 120), (.ptr 115 0), (Z 140)] ++ ys 121 8 ++ us 17 ++ ys 129 11 ++ ys 141 14, [D 166 0 12, D 0 166 0, D 165 0 12, D 0 165 0, D 164 0 12, D 0 164 0, D 163 0 12, D 0 163 0, D 162 0 12, D 0 162 0, D 161 0 12, D 0 161 0, D 160 0 12, D 0 160 0, D 159 0 12, D 0 159 0, D 158 0 12, D 0 158 0, D 157 0 12, D 0 157 0, D 156 0 12, D 0 156 0, D 155 0 12, D 0 155 0, D 0 140 (-1), D 111 140 0, D 140 0 X7], [.blk 115 (.cells [(Z 111), (Z 112)]) false, wd5, .blk 96 (.cells [(Z 155), (Z 156), (Z 157), (Z 158), (Z 159), (Z 160)]) false, .blk 95 (.cells [(Z 161), (Z 162), (Z 163), (Z 164), (Z 165), (Z 166)]) false, wd8, wd9, wd0, wd1, wd2, wd3, .emap 86]⟩ ⟨0, 100⟩ ⟨140, 0⟩
def hc63x2 : Hs := [zF, zE, zD, zC, zB, yz, yy]
def fP : Con := ⟨false, 63, 1, ⟨90, [(.ptr 87 0)], [D 0 89 X8, D 89 0 X7, D 0 88 X8, D 88 0 X7, D 0 47 X8, D 0 28 0, D 0 6 X8, D 47 0 X7, D 28 0 6, D 6 0 X7, .ty 2 (.lst [(.int .i64 ⟨0, 1⟩ ⟨0, 12⟩), (.int .i64 ⟨0, 1⟩ ⟨0, 12⟩), (.int .i64 ⟨0, 0⟩ ⟨0, 9⟩), (.int .i64 ⟨0, 0⟩ ⟨0, 9⟩)] ⟨28, 0⟩ ⟨28, 0⟩), .len 2 28, .ty 3 (.lst [J, J] ⟨0, 0⟩ ⟨0, 1048576⟩)], [wd3, .emap 86]⟩, [((.bool false), ⟨187, [], [], [wd3, .emap 86]⟩), ((.bool true), ⟨159, [], [], [wd3, .emap 86]⟩)], ⟨0, 0⟩, ⟨0, 0⟩, none⟩
theorem nE : ∀ v : V, v.i 0 = 0 → GOK1 tbl v 1 fP := gz d8 (n := 1000) (Γ := []) (hs := hc63x2) (by kernel_rfl) rfl rfl rfl dE
end Ha
