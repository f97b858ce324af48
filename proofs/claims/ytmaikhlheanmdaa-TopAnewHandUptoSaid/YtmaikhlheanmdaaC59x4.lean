/- A part of a proof. -/
import Derived.Test.YtmaikhlheanmdaaLaw
import Derived.Test.YtmaikhlheanmdaaNm
import Derived.KernelRfl
set_option linter.unusedVariables false
set_option linter.unusedSimpArgs false
set_option maxRecDepth 1000000
namespace Ha
open Go Ce Ce.L Ce.S
def wk0 : BE := .loop 225 0 225 [.ret]
def wk1 : BE := .blk 224 (.cells [(.ptr 81 0)]) false
def wk2 : BE := .blk 222 (.cells [(.bool false)]) false
def wk3 : BE := .blk 221 (.cells [(Z 217)]) false
def wk4 : BE := .blk 152 (.cells [(Z 218)]) false
def wk5 : BE := .blk 151 (.cells [(.ptr 81 0)]) false
def wk6 : BE := .blk 81 (.cells [(Y 1), (Y 2), (Y 3), (Z 219), (.map 80)]) false
def wk7 : BE := .map 80 true [(.i .i64), (.i .i64)] J none
def wk8 : BE := .blk 8 (.cells [(Z 220)]) false
def wk9 : BE := .blk 6 (.cells [(Y 1), (Y 2), (Y 3)]) false
def wk10 : BE := .vec 287 1 [(.int .i64 ⟨0, 0⟩ ⟨33, (-1)⟩)] ⟨288, 0⟩ false
def wk11 : BE := .blk 285 (.cells [(Z 279), (Z 280), (Z 281), (Z 282), (Z 283), (Z 284)]) false
def vN : BE := .blk 230 (.cells [(.clo 81 [] [(.ptr 224 0), (.ptr 228 0), (.ptr 229 0), (.ptr 227 0), (.ptr 226 0), (.ptr 230 0)])]) false
def wk13 : BE := .blk 229 (.cells [(Z 238), (Z 239), (Z 240), (Z 241), (Z 242), (Z 243)]) false
def wk14 : BE := .blk 228 (.cells [(Z 232), (Z 233), (Z 234), (Z 235), (Z 236), (Z 237)]) false
def vM : BE := .blk 227 (.cells [(.clo 80 [(.ptr 81 0)] [])]) false
def vL : BE := .blk 226 (.cells [(.yld 225)]) false
def zO : Hint := .rng [.ret] ⟨285, [(.agg [(Z 279), (Z 280), (Z 281), (Z 282), (Z 283), (Z 284)])], [D 284 0 12, D 0 284 0, D 283 0 12, D 0 283 0, D 282 0 12, D 0 282 0, D 281 0 12, D 0 281 0, D 280 0 12, D 0 280 0, D 279 0 12, D 0 279 0], [wk0, wk1, wk2, wk3, wk4, wk5, wk6, wk7, wk8, wk9]⟩ [((.bool true), ⟨285, [], [], [wk0, wk1, wk2, wk3, wk4, wk5, wk6, wk7, wk8, wk9]⟩), ((.bool false), ⟨331, [], [], [.loop 225 1 225 [.ret], wk1, wk2, wk3, wk4, wk5, wk6, wk7, wk8, wk9]⟩)]
def zN : Hint := .inv ⟨303, [(Z 217), (Y 286), U, U, (.vec 1 287 ⟨288, 0⟩), (Y 289), (Z 33), (Z 290)] ++ ys 291 12 ++ [U], [D 288 290 0, D 290 33 0, D 290 0 9, D 0 290 0, D 288 33 0, D 288 0 9, D 0 288 0], [wk10, wk11, .loop 225 2 225 [.ret], wk1, wk2, wk3, wk4, wk5, wk6, wk7, wk8, wk9]⟩ ⟨33, 0⟩ ⟨290, 0⟩
def zM : Hint := .inv ⟨331, ys 303 4 ++ [(.ptr 8 0), (Y 307), (.ptr 222 0), (.ptr 285 0), (Z 319), U, (Y 320)] ++ ys 308 11 ++ [(.vec 1 287 ⟨288, 0⟩), (Z 288), (Z 321)] ++ ys 322 9 ++ [U, U, U], [D 321 33 0, D 321 288 0, D 321 0 9, D 0 321 0, D 319 0 X7, D 0 319 X8], [wk10, wk11, .loop 225 2 225 [.ret], wk1, wk2, wk3, wk4, wk5, wk6, wk7, wk8, wk9]⟩ ⟨33, 0⟩ ⟨321, 0⟩
def zL : Hint := .rcs 81 ⟨244, [(Z 231), (.ptr 224 0), (.ptr 228 0), (.ptr 229 0), (.ptr 227 0), (.ptr 226 0), (.ptr 230 0)], [D 243 0 12, D 0 243 0, D 242 0 12, D 0 242 0, D 241 0 12, D 0 241 0, D 240 0 12, D 0 240 0, D 239 0 12, D 0 239 0, D 238 0 12, D 0 238 0, D 237 0 12, D 0 237 0, D 236 0 12, D 0 236 0, D 235 0 12, D 0 235 0, D 234 0 12, D 0 234 0, D 233 0 12, D 0 233 0, D 232 0 12, D 0 232 0, D 231 33 0, D 231 0 9, D 0 231 0], [vN, wk13, wk14, vM, vL, wk0, wk1, wk2, wk3, wk4, wk5, wk6, wk7, wk8, wk9]⟩ [((.bool true), ⟨333, [], [D 332 0 12, D 0 332 0, D 331 0 12, D 0 331 0, D 330 0 12, D 0 330 0, D 329 0 12, D 0 329 0, D 328 0 12, D 0 328 0, D 327 0 12, D 0 327 0, D 326 0 12, D 0 326 0, D 325 0 12, D 0 325 0, D 324 0 12, D 0 324 0, D 323 0 12, D 0 323 0, D 322 0 12, D 0 322 0, D 321 0 12, D 0 321 0], [vN, .blk 229 (.cells [(Z 321), (Z 322), (Z 323), (Z 324), (Z 325), (Z 326)]) false, .blk 228 (.cells [(Z 327), (Z 328), (Z 329), (Z 330), (Z 331), (Z 332)]) false, vM, vL, wk0, wk1, wk2, wk3, wk4, wk5, wk6, wk7, wk8, wk9]⟩), ((.bool false), ⟨350, [], [D 349 343 0, D 348 342 0, D 347 341 0, D 346 340 0, D 345 339 0, D 344 338 0, D 343 349 0, D 342 348 0, D 341 347 0, D 340 346 0, D 339 345 0, D 338 344 0, D 349 0 12, D 0 349 0, D 348 0 12, D 0 348 0, D 347 0 12, D 0 347 0, D 346 0 12, D 0 346 0, D 345 0 12, D 0 345 0, D 344 0 12, D 0 344 0, D 343 0 12, D 0 343 0, D 342 0 12, D 0 342 0, D 341 0 12, D 0 341 0, D 340 0 12, D 0 340 0, D 339 0 12, D 0 339 0, D 338 0 12, D 0 338 0], [.loop 225 1 225 [.ret], wk1, wk2, wk3, wk4, wk5, wk6, wk7, wk8, wk9, vN, .blk 229 (.cells [(Z 338), (Z 339), (Z 340), (Z 341), (Z 342), (Z 343)]) false, .blk 228 (.cells [(Z 344), (Z 345), (Z 346), (Z 347), (Z 348), (Z 349)]) false, vM, vL]⟩)] ⟨33, 0⟩ ⟨231, 0⟩
def zK : Hint := .inv ⟨293, [(.ptr 81 0), (Y 247), U, (.ptr 245 0), (Y 248)] ++ ys 253 5 ++ ys 249 4 ++ [(Y 3), (Z 246), (Z 258)] ++ ys 259 34, [D 258 246 0, D 0 258 0, D 258 0 X7], [.blk 245 (.cells [(Z 232), (Z 233), (Z 234), (Z 235), (Z 236), (Z 237)]) false, vN, wk13, wk14, vM, vL, wk0, wk1, wk2, wk3, wk4, wk5, wk6, wk7, wk8, wk9]⟩ ⟨246, 0⟩ ⟨258, 0⟩
def zJ : Hint := .unroll
def zI : Hint := .inv ⟨292, [(.ptr 81 0), (Y 246), U, (.ptr 244 0), (Y 247)] ++ ys 252 5 ++ ys 248 4 ++ [(Y 3), (Z 245), (Z 257)] ++ ys 258 34, [D 33 257 0, D 257 245 0, D 0 257 0, D 257 0 X7], [.blk 244 (.cells [(Z 232), (Z 233), (Z 234), (Z 235), (Z 236), (Z 237)]) false, vN, wk13, wk14, vM, vL, wk0, wk1, wk2, wk3, wk4, wk5, wk6, wk7, wk8, wk9]⟩ ⟨245, 0⟩ ⟨257, 0⟩
def zH : Hint := .unroll
def zG : Hint := .inv ⟨300, [(Z 231), (Y 249), (.ptr 228 0), (Y 250), (Y 251), (Y 252), (.ptr 230 0), U, (Y 253), (.ptr 248 0), (Z 273)] ++ ys 254 8 ++ us 17 ++ ys 262 11 ++ ys 274 14, [D 299 0 12, D 0 299 0, D 298 0 12, D 0 298 0, D 297 0 12, D 0 297 0, D 296 0 12, D 0 296 0, D 295 0 12, D 0 295 0, D 294 0 12, D 0 294 0, D 293 0 12, D 0 293 0, D 292 0 12, D 0 292 0, D 291 0 12, D 0 291 0, D 290 0 12, D 0 290 0, D 289 0 12, D 0 289 0, D 288 0 12, D 0 288 0, D 0 273 (-1), D 244 273 0, D 273 0 X7], [.blk 248 (.cells [(Z 244), (Z 245)]) false, vN, .blk 229 (.cells [(Z 288), (Z 289), (Z 290), (Z 291), (Z 292), (Z 293)]) false, .blk 228 (.cells [(Z 294), (Z 295), (Z 296), (Z 297), (Z 298), (Z 299)]) false, vM, vL, wk0, wk1, wk2, wk3, wk4, wk5, wk6, wk7, wk8, wk9]⟩ ⟨0, 100⟩ ⟨273, 0⟩
def hc59x4 : Hs := [zO, zN, zM, zL, zK, zJ, zI, zH, zG]
def uq : Con := ⟨false, 59, 1, ⟨221, [(Z 217), (.ptr 152 0), (.ptr 151 0), (.ptr 6 0), (.ptr 8 0)], [D 0 220 X8, D 220 0 X7, D 0 219 X8, D 219 0 X7, D 0 218 X8, D 218 0 X7, D 0 217 X8, D 217 0 X7, D 0 216 X8, D 216 0 X7, D 0 196 X8, D 0 5 X8, D 0 52 X8, D 0 33 0, D 0 11 X8, D 11 0 X7, D 5 0 X7, D 33 0 6, D 196 0 X7, D 52 0 X7, .ty 2 (.lst [(.int .i64 ⟨0, 1⟩ ⟨0, 12⟩), (.int .i64 ⟨0, 1⟩ ⟨0, 12⟩), (.int .i64 ⟨0, 0⟩ ⟨0, 9⟩), (.int .i64 ⟨0, 0⟩ ⟨0, 9⟩)] ⟨33, 0⟩ ⟨33, 0⟩), .len 2 33, .ty 3 (.lst [J, J] ⟨0, 0⟩ ⟨0, 1048576⟩)], [wk4, wk5, wk6, wk7, wk8, wk9]⟩, [((.bool false), ⟨224, [], [], [wk4, wk5, wk6, wk7, wk8, wk9]⟩), ((.bool true), ⟨320, [], [], [wk4, wk5, wk6, wk7, wk8, wk9]⟩)], ⟨0, 0⟩, ⟨0, 0⟩, none⟩
theorem g59x4 : ∀ v : V, v.i 0 = 0 → GOK1 tbl v 1 uq := gz d8 (n := 1000) (Γ := []) (hs := hc59x4) (by kernel_rfl) rfl rfl rfl dE
end Ha
