/- A part of a proof. -/
import Derived.Test.YtdkolkjcobngnabC58
set_option linter.unusedVariables false
set_option linter.unusedSimpArgs false
set_option maxRecDepth 1000000
namespace Ho
open Go Ce Ce.L Ce.S
def h30x0 : Hint := .inv ⟨114, [(Z 58), (.clo 56 [] [(.ptr 8 0)]), U, U, (.vec 1 92 ⟨93, 0⟩), (Y 94), (Y 77), (Y 78), (Z 58), (Z 76), (Z 79), (Y 80), (Y 81), (Y 82), (Y 83), (Y 84), (Y 85), (Y 86), (Y 96), (Y 97), (Y 98), (Y 99), (Y 100), (Y 101), (Y 102), (Y 103), (Y 104), (Y 105), (Y 106), (Y 107), (Y 108), (Y 109), (Y 110), (Y 111), (Y 112), (Y 113), (Y 87), (Y 88), (Y 89), (Y 90), (Y 95), (Y 91), U, U], [.ty 94 .bool, D 93 58 0, D 0 93 0, D 93 0 X7, D 0 79 0, D 79 0 X7], [.vec 92 1 [(.int .i64 ⟨0, 0⟩ ⟨58, (-1)⟩)] ⟨93, 0⟩ false, .blk 8 (.cells [(Z 1), (Z 2), (Z 3), (Y 4), (Z 5), (Y 6), (Y 7)]) false]⟩ ⟨76, 0⟩ ⟨79, 0⟩
def h30x1 : Hint := .inv ⟨130, [(Z 79), (Z 58), U, U, (.vec 1 114 ⟨115, 0⟩), (Y 116), (Z 58), (Z 117), (Y 118), (Y 119), (Y 120), (Y 121), (Y 122), (Y 123), (Y 124), (Y 125), (Y 126), (Y 127), (Y 128), (Y 129), U], [D 115 117 0, D 117 58 0, D 0 117 0, D 117 0 X7, D 115 58 0, D 0 115 0, D 115 0 X7], [.vec 114 1 [(.int .i64 ⟨0, 0⟩ ⟨58, (-1)⟩)] ⟨115, 0⟩ false, .vec 92 1 [(.int .i64 ⟨0, 0⟩ ⟨58, (-1)⟩)] ⟨93, 0⟩ false, .blk 8 (.cells [(Z 1), (Z 2), (Z 3), (Y 4), (Z 5), (Y 6), (Y 7)]) false]⟩ ⟨58, 0⟩ ⟨117, 0⟩
def h30x2 : Hint := .inv ⟨153, [(.vec 1 114 ⟨115, 0⟩), (.vec 1 92 ⟨93, 0⟩), U, U, (Z 0), (Y 130), (Y 131), (Y 132), (Y 133), (.vec 1 114 ⟨115, 0⟩), (Z 115), (Z 134), (Y 135), (Y 136), (Y 137), (Y 138), (Y 139), (Y 140), (Y 141), (Y 142), (Y 143), (Y 144), (Y 145), (Y 146), (Y 147), (Y 148), (Y 149), (Y 150), (Y 151), U, (Y 152), U, U, U, U, U], [D 134 58 0, D 134 115 0, D 0 134 0, D 134 0 X7], [.vec 114 1 [(.int .i64 ⟨0, 0⟩ ⟨58, (-1)⟩)] ⟨115, 0⟩ false, .vec 92 1 [(.int .i64 ⟨0, 0⟩ ⟨58, (-1)⟩)] ⟨93, 0⟩ false, .blk 8 (.cells [(Z 1), (Z 2), (Z 3), (Y 4), (Z 5), (Y 6), (Y 7)]) false]⟩ ⟨115, 0⟩ ⟨134, 0⟩
def h30 : Hs := [h30x0, h30x1, h30x2]
theorem chk30 : chkApi tbl 1000 [con58, con42, con7] c30 Ts30 h30 (pRes sh30) = true := by kernel_rfl
theorem ap30 : Ap30 := fun h => ap_of (rfl : tbl 30 = some c30) rfl chk30 gok58 rfl h
end Ho
