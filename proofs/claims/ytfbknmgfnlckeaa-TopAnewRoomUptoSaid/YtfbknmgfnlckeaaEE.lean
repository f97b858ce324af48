/- A part of a proof. -/
import Derived.Test.YtfbknmgfnlckeaaLxA
import Derived.Test.YtfbknmgfnlckeaaTab
set_option linter.unusedVariables false
set_option linter.unusedSimpArgs false
set_option maxRecDepth 1000000
namespace Ro
open Go Ce Ce.L
def e0 : ME := ⟨12, [(ag [(iv 5), (iv 3), (iv 8), (.lst [[(.str ⟨⟨[99, 111, 111, 108]⟩⟩), (iv 1), (iv 2)], [(.str ⟨⟨[119, 97, 114, 109]⟩⟩), (iv 5), (iv 7)], [(.str ⟨⟨[103, 97, 115]⟩⟩), (iv 9), (iv 10)]] false), (iv 2), (.lst [[(iv 1)], [(iv 1)]] false), .nils]), (iv 2)], [.v (ag [(iv 13), (iv 22)]), .v zz]⟩
def e1 : ME := ⟨12, [(ag [(iv 5), (iv 3), (iv 8), (.lst [[(.str ⟨⟨[99, 111, 111, 108]⟩⟩), (iv 1), (iv 2)], [(.str ⟨⟨[119, 97, 114, 109]⟩⟩), (iv 5), (iv 7)], [(.str ⟨⟨[103, 97, 115]⟩⟩), (iv 9), (iv 10)]] false), (iv 2), (.lst [[(iv 1)], [(iv 1)]] false), (.lst [[(iv 1), (iv 1)]] false)]), (iv 2)], [.v (ag [(iv 13), (iv 16)]), .v zz]⟩
def e2 : ME := ⟨15, [(ag [(iv 5), (iv 3), (iv 8), (.lst [[(.str ⟨⟨[99, 111, 111, 108]⟩⟩), (iv 1), (iv 2)], [(.str ⟨⟨[119, 97, 114, 109]⟩⟩), (iv 5), (iv 7)], [(.str ⟨⟨[103, 97, 115]⟩⟩), (iv 9), (iv 10)]] false), (iv 2), (.lst [[(iv 1)], [(iv 1)]] false), .nils]), (iv 2)], [.v (ag [(iv 2), (iv 3)]), .v zz]⟩
def e3 : ME := ⟨17, [(ag [(iv 5), (iv 3), (iv 8), (.lst [[(.str ⟨⟨[99, 111, 111, 108]⟩⟩), (iv 1), (iv 2)], [(.str ⟨⟨[119, 97, 114, 109]⟩⟩), (iv 5), (iv 7)], [(.str ⟨⟨[103, 97, 115]⟩⟩), (iv 9), (iv 10)]] false), (iv 2), (.lst [[(iv 1)], [(iv 1)]] false), (.lst [[(iv 1), (iv 1)]] false)])], [.v (ag [(iv 3), (iv 4)]), .v zz]⟩
def e4 : ME := ⟨19, [(ag [(iv 5), (iv 3), (iv 8), (.lst [[(.str ⟨⟨[99, 111, 111, 108]⟩⟩), (iv 1), (iv 2)], [(.str ⟨⟨[119, 97, 114, 109]⟩⟩), (iv 5), (iv 7)], [(.str ⟨⟨[103, 97, 115]⟩⟩), (iv 9), (iv 10)]] false), (iv 2), (.lst [[(iv 1)], [(iv 1)]] false), (.lst [[(iv 1), (iv 1)]] false)]), (.lst [[(iv 2)]] false)], [.v (ag [(iv 3), (iv 3)]), .v zz]⟩
def e5 : ME := ⟨21, [(ag [(iv 5), (iv 3), (iv 8), (.lst [[(.str ⟨⟨[99, 111, 111, 108]⟩⟩), (iv 1), (iv 2)], [(.str ⟨⟨[119, 97, 114, 109]⟩⟩), (iv 5), (iv 7)], [(.str ⟨⟨[103, 97, 115]⟩⟩), (iv 9), (iv 10)]] false), (iv 2), (.lst [[(iv 1)], [(iv 1)]] false), (.lst [[(iv 1), (iv 1)]] false)]), (iv 4), (iv 3)], [.s 1 0 2 none [zz, (iv 2)], .v (iv 2), .v zz]⟩
def e6 : ME := ⟨21, [(ag [(iv 5), (iv 3), (iv 8), (.lst [[(.str ⟨⟨[99, 111, 111, 108]⟩⟩), (iv 1), (iv 2)], [(.str ⟨⟨[119, 97, 114, 109]⟩⟩), (iv 5), (iv 7)], [(.str ⟨⟨[103, 97, 115]⟩⟩), (iv 9), (iv 10)]] false), (iv 1), (.lst [[(iv 1)], [(iv 1)]] false), (.lst [[(iv 1), (iv 1)]] false)]), (iv 4), (iv 3)], [.v .nils, .v zz, .v (iv 9)]⟩
def e7 : ME := ⟨26, [(ag [(iv 5), (iv 3), (iv 8), (.lst [[(.str ⟨⟨[99, 111, 111, 108]⟩⟩), (iv 1), (iv 2)], [(.str ⟨⟨[119, 97, 114, 109]⟩⟩), (iv 5), (iv 7)], [(.str ⟨⟨[103, 97, 115]⟩⟩), (iv 9), (iv 10)]] false), (iv 2), (.lst [[(iv 1)], [(iv 1)]] false), (.lst [[(iv 1), (iv 1)]] false)]), (iv 3)], [.s 1 0 2 none [(iv 2), (iv 3)], .v zz]⟩
def e8 : ME := ⟨29, [(ag [(iv 5), (iv 3), (iv 8), (.lst [[(.str ⟨⟨[99, 111, 111, 108]⟩⟩), (iv 1), (iv 2)], [(.str ⟨⟨[119, 97, 114, 109]⟩⟩), (iv 5), (iv 7)], [(.str ⟨⟨[103, 97, 115]⟩⟩), (iv 9), (iv 10)]] false), (iv 2), (.lst [[(iv 1)], [(iv 1)]] false), .nils]), (iv 5), (iv 4)], [.s 1 0 1 none [(iv 2)], .v zz]⟩
def e9 : ME := ⟨32, [(ag [(iv 5), (iv 3), (iv 8), (.lst [[(.str ⟨⟨[99, 111, 111, 108]⟩⟩), (iv 1), (iv 2)], [(.str ⟨⟨[119, 97, 114, 109]⟩⟩), (iv 5), (iv 7)], [(.str ⟨⟨[103, 97, 115]⟩⟩), (iv 9), (iv 10)]] false), (iv 2), (.lst [[(iv 1)], [(iv 1)]] false), (.lst [[(iv 1), (iv 1)], [(iv 2), (iv 3)]] false)])], [.s 1 0 1 none [zz], .v zz]⟩
def e10 : ME := ⟨26, [(ag [(iv 5), (iv 3), (iv 8), (.lst [[(.str ⟨⟨[99, 111, 111, 108]⟩⟩), (iv 1), (iv 2)], [(.str ⟨⟨[119, 97, 114, 109]⟩⟩), (iv 5), (iv 7)], [(.str ⟨⟨[103, 97, 115]⟩⟩), (iv 9), (iv 10)]] false), (iv 2), (.lst [[(iv 1)], [(iv 1)]] false), (.lst [[(iv 1), (iv 1)], [(iv 2), (iv 3)]] false)]), (iv 2)], [.v .nils, .v (iv 8)]⟩
end Ro
