/- A part of a proof. -/
import Derived.Test.YtmaikhlheanmdaaC11
import Derived.Test.YtmaikhlheanmdaaC63x2
import Derived.KernelRfl
set_option linter.unusedVariables false
set_option linter.unusedSimpArgs false
set_option maxRecDepth 1000000
namespace Ha
open Go Ce Ce.L Ce.S
def wn0 : BE := .vec 83 1 [(.int .i64 ⟨0, 0⟩ ⟨47, (-1)⟩)] ⟨84, 0⟩ false
def wn1 : BE := .blk 4 (.cells [(Y 1), (Y 2), (Y 3)]) false
def wn2 : BE := .vec 106 1 [(.int .i64 ⟨0, 0⟩ ⟨47, (-1)⟩)] ⟨107, 0⟩ false
def h33x0 : Hint := .inv ⟨105, [(Z 47), (.clo 61 [] [(.ptr 4 0)]), U, U, (.vec 1 83 ⟨84, 0⟩), (Y 85), (Y 68), (Y 69), (Y 67), (Z 66), (Z 70)] ++ ys 71 7 ++ ys 87 18 ++ ys 78 4 ++ [(Y 86), (Y 82), U, U], [.ty 85 .bool, D 84 47 0, D 84 0 9, D 0 84 0, D 0 70 0, D 70 0 X7], [wn0, wn1]⟩ ⟨66, 0⟩ ⟨70, 0⟩
def h33x1 : Hint := .inv ⟨122, [(Z 70), (Y 105), U, U, (.vec 1 106 ⟨107, 0⟩), (Y 108), (Z 47), (Z 109)] ++ ys 110 12 ++ [U], [D 107 109 0, D 109 47 0, D 109 0 9, D 0 109 0, D 107 47 0, D 107 0 9, D 0 107 0], [wn2, wn0, wn1]⟩ ⟨47, 0⟩ ⟨109, 0⟩
def h33x2 : Hint := .inv ⟨146, [(.vec 1 106 ⟨107, 0⟩), (.vec 1 83 ⟨84, 0⟩), U, U] ++ ys 122 5 ++ [(.vec 1 106 ⟨107, 0⟩), (Z 107), (Z 127)] ++ ys 128 17 ++ [U, (Y 145)] ++ us 5, [D 127 47 0, D 127 107 0, D 127 0 9, D 0 127 0], [wn2, wn0, wn1]⟩ ⟨107, 0⟩ ⟨127, 0⟩
def h33 : Hs := [h33x0, h33x1, h33x2]
theorem chk33 : di tbl [(7, [.str], .bool)] 1000 [fP, lM] c33 Ts33 h33 (md sh33) = true := by kernel_rfl
theorem ap33 : Ap33 := fun h => iH d8 (rfl : tbl 33 = some c33) rfl chk33 (ax nE (ax g11 dE)) rfl h
end Ha
