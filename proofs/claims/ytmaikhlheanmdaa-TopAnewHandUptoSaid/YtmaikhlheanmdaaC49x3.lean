/- A part of a proof. -/
import Derived.Test.YtmaikhlheanmdaaC55x1
import Derived.KernelRfl
set_option linter.unusedVariables false
set_option linter.unusedSimpArgs false
set_option maxRecDepth 1000000
namespace Ha
open Go Ce Ce.L Ce.S
def wf0 : BE := .loop 155 0 155 []
def wf1 : BE := .blk 154 (.cells [(.ptr 77 0)]) false
def wf2 : BE := .blk 151 (.cells [(Z 148)]) false
def wf3 : BE := .blk 150 (.cells [(.ptr 77 0)]) false
def wf4 : BE := .blk 77 (.cells [(Y 1), (Y 2), (Y 3), (Z 149), (.map 76)]) false
def wf5 : BE := .map 76 true [(.i .i64), (.i .i64)] J none
def wf6 : BE := .blk 160 (.cells [(.clo 81 [] [(.ptr 154 0), (.ptr 158 0), (.ptr 159 0), (.ptr 157 0), (.ptr 156 0), (.ptr 160 0)])]) false
def wf7 : BE := .blk 159 (.cells [(Z 168), (Z 169), (Z 170), (Z 171), (Z 172), (Z 173)]) false
def wf8 : BE := .blk 158 (.cells [(Z 162), (Z 163), (Z 164), (Z 165), (Z 166), (Z 167)]) false
def wf9 : BE := .blk 157 (.cells [(.clo 80 [(.ptr 77 0)] [])]) false
def wp : BE := .blk 156 (.cells [(.yld 155)]) false
def wf11 : BE := .blk 153 (.cells [(Z 174)]) false
def wf12 : BE := .blk 152 (.cells [(Z 175), (Z 176)]) false
def zZ : Hint := .rng [] ⟨220, [(.agg [(Z 162), (Z 212), (Z 213), (Z 214), (Z 215), (Z 216)])], [D 219 0 12, D 0 219 0, D 218 0 12, D 0 218 0, D 217 0 X7, D 0 217 X8, D 216 0 12, D 0 216 0, D 215 0 12, D 0 215 0, D 214 0 12, D 0 214 0, D 213 0 12, D 0 213 0, D 212 0 12, D 0 212 0, D 162 0 12, D 0 162 0], [wf0, wf1, .blk 153 (.cells [(Z 217)]) false, .blk 152 (.cells [(Z 218), (Z 219)]) false, wf2, wf3, wf4, wf5]⟩ [((.bool true), ⟨223, [], [D 222 0 12, D 0 222 1, D 0 222 0, D 219 222 0, D 222 0 X7, D 0 222 X8, D 221 0 12, D 0 221 1, D 0 221 0, D 221 218 0, D 221 0 X7, D 0 221 X8, D 220 0 X7, D 0 220 X8], [wf0, wf1, .blk 153 (.cells [(Z 220)]) false, .blk 152 (.cells [(Z 221), (Z 222)]) false, wf2, wf3, wf4, wf5]⟩)]
def zY : Hint := .rcs 81 ⟨177, [(Z 161), (.ptr 154 0), (.ptr 158 0), (.ptr 159 0), (.ptr 157 0), (.ptr 156 0), (.ptr 160 0)], [D 176 0 12, D 0 176 0, D 175 0 12, D 0 175 0, D 174 0 X7, D 0 174 X8, D 173 0 12, D 0 173 0, D 172 0 12, D 0 172 0, D 171 0 12, D 0 171 0, D 170 0 12, D 0 170 0, D 169 0 12, D 0 169 0, D 168 0 12, D 0 168 0, D 167 0 12, D 0 167 0, D 166 0 12, D 0 166 0, D 165 0 12, D 0 165 0, D 164 0 12, D 0 164 0, D 163 0 12, D 0 163 0, D 162 0 12, D 0 162 0, D 161 34 0, D 161 0 9, D 0 161 0], [wf6, wf7, wf8, wf9, wp, wf0, wf1, wf11, wf12, wf2, wf3, wf4, wf5]⟩ [((.bool true), ⟨269, [], [D 268 0 12, D 0 268 0, D 267 0 12, D 0 267 0, D 266 0 12, D 0 266 0, D 265 0 12, D 0 265 0, D 264 0 12, D 0 264 0, D 263 0 12, D 0 263 0, D 262 0 12, D 0 262 0, D 261 0 12, D 0 261 0, D 260 0 X7, D 0 260 X8, D 259 0 12, D 0 259 0, D 258 0 12, D 0 258 0, D 257 0 12, D 0 257 0, D 256 0 12, D 0 256 0, D 255 0 12, D 0 255 0, D 254 0 12, D 0 254 0], [wf6, .blk 159 (.cells [(Z 254), (Z 255), (Z 256), (Z 257), (Z 258), (Z 259)]) false, .blk 158 (.cells [(Z 263), (Z 264), (Z 265), (Z 266), (Z 267), (Z 268)]) false, wf9, wp, wf0, wf1, .blk 153 (.cells [(Z 260)]) false, .blk 152 (.cells [(Z 261), (Z 262)]) false, wf2, wf3, wf4, wf5]⟩)] ⟨34, 0⟩ ⟨161, 0⟩
def zX : Hint := .inv ⟨226, [(.ptr 77 0), (Y 180), U, (.ptr 178 0), (Y 181)] ++ ys 186 5 ++ ys 182 4 ++ [(Y 3), (Z 179), (Z 191)] ++ ys 192 34, [D 191 179 0, D 0 191 0, D 191 0 X7], [.blk 178 (.cells [(Z 162), (Z 163), (Z 164), (Z 165), (Z 166), (Z 167)]) false, wf6, wf7, wf8, wf9, wp, wf0, wf1, wf11, wf12, wf2, wf3, wf4, wf5]⟩ ⟨179, 0⟩ ⟨191, 0⟩
def zW : Hint := .unroll
def zV : Hint := .inv ⟨225, [(.ptr 77 0), (Y 179), U, (.ptr 177 0), (Y 180)] ++ ys 185 5 ++ ys 181 4 ++ [(Y 3), (Z 178), (Z 190)] ++ ys 191 34, [D 7 190 0, D 34 190 0, D 190 178 0, D 0 190 0, D 190 0 X7], [.blk 177 (.cells [(Z 162), (Z 163), (Z 164), (Z 165), (Z 166), (Z 167)]) false, wf6, wf7, wf8, wf9, wp, wf0, wf1, wf11, wf12, wf2, wf3, wf4, wf5]⟩ ⟨178, 0⟩ ⟨190, 0⟩
def zU : Hint := .unroll
def zT : Hint := .inv ⟨236, [(Z 161), (Y 182), (.ptr 158 0), (Y 183), (Y 184), (Y 185), (.ptr 160 0), U, (Y 186), (.ptr 181 0), (Z 206)] ++ ys 187 8 ++ us 17 ++ ys 195 11 ++ ys 207 14, [D 235 0 12, D 0 235 0, D 234 0 12, D 0 234 0, D 233 0 X7, D 0 233 X8, D 232 0 12, D 0 232 0, D 231 0 12, D 0 231 0, D 230 0 12, D 0 230 0, D 229 0 12, D 0 229 0, D 228 0 12, D 0 228 0, D 227 0 12, D 0 227 0, D 226 0 12, D 0 226 0, D 225 0 12, D 0 225 0, D 224 0 12, D 0 224 0, D 223 0 12, D 0 223 0, D 222 0 12, D 0 222 0, D 221 0 12, D 0 221 0, D 0 206 (-1), D 177 206 0, D 206 0 X7], [.blk 181 (.cells [(Z 177), (Z 178)]) false, wf6, .blk 159 (.cells [(Z 221), (Z 222), (Z 223), (Z 224), (Z 225), (Z 226)]) false, .blk 158 (.cells [(Z 227), (Z 228), (Z 229), (Z 230), (Z 231), (Z 232)]) false, wf9, wp, wf0, wf1, .blk 153 (.cells [(Z 233)]) false, .blk 152 (.cells [(Z 234), (Z 235)]) false, wf2, wf3, wf4, wf5]⟩ ⟨0, 100⟩ ⟨206, 0⟩
def hc49x3 : Hs := [zZ, zY, zX, zW, zV, zU, zT]
def jl : Con := ⟨false, 49, 1, ⟨150, [(.ptr 77 0), (Z 148)], [D 0 149 X8, D 149 0 X7, D 0 148 X8, D 148 0 X7, D 0 148 0, D 148 7 (-1), D 0 147 X8, D 147 0 X7, D 0 4 X8, D 0 53 X8, D 0 12 X8, D 7 34 0, D 53 0 X7, D 12 0 X7, D 34 0 6, .ty 2 (.lst [(.int .i64 ⟨0, 1⟩ ⟨0, 12⟩), (.int .i64 ⟨0, 1⟩ ⟨0, 12⟩), (.int .i64 ⟨0, 0⟩ ⟨0, 9⟩), (.int .i64 ⟨0, 0⟩ ⟨0, 9⟩)] ⟨34, 0⟩ ⟨34, 0⟩), .len 2 34, .len 2 7, .ty 1 (.lst [.str, J, J] ⟨0, 0⟩ ⟨0, 1048576⟩), .ty 3 (.lst [J, J] ⟨0, 0⟩ ⟨0, 1048576⟩), D 4 0 X7, D 0 34 X8, D 7 0 X7, D 0 7 X8], [wf4, wf5]⟩, [((.tup [(.agg [(Z 245), (Z 246)]), (Z 244)]), ⟨253, [], [D 0 246 0, D 0 245 0, D 0 244 X8, D 245 0 12, D 244 0 X7, D 246 0 12], [wf4, wf5]⟩)], ⟨0, 0⟩, ⟨0, 0⟩, none⟩
theorem u9 : ∀ v : V, v.i 0 = 0 → GOK1 tbl v 1 jl := gz d8 (n := 1000) (Γ := [ur]) (hs := hc49x3) (by kernel_rfl) rfl rfl rfl (ax g55x1 dE)
end Ha
