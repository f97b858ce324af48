/- A part of a proof. -/
import Derived.Test.YtkefopelclcljacLxA
import Derived.Test.YtkefopelclcljacTab
set_option linter.unusedVariables false
set_option linter.unusedSimpArgs false
set_option maxRecDepth 1000000
namespace Tu
open Go Ce Ce.L
def e0 : ME := ⟨12, [(ag [(.lst [[zz], [zz], [zz], [(iv 1)], [zz], [zz]] false), (iv 2), (.lst [[(iv 1), (iv 2)], [(iv 1), (iv 1)]] false), (.lst [[zz, zz, (iv 4), (iv 5)], [zz, zz, (iv 10), (iv 10)], [(iv 1), (iv 2), (iv 6), (iv 6)]] false), .nils]), zz], [.v (ag [(iv 2), (iv 4)]), .v (iv 1), .v zz]⟩
def e1 : ME := ⟨12, [(ag [(.lst [[zz], [zz], [zz], [(iv 1)], [zz], [zz]] false), (iv 2), (.lst [[(iv 1), (iv 2)], [(iv 1), (iv 1)]] false), (.lst [[zz, zz, (iv 4), (iv 5)], [zz, zz, (iv 10), (iv 10)], [(iv 1), (iv 2), (iv 6), (iv 6)]] false), .nils]), (iv 1)], [.v (ag [(iv 4), (iv 6)]), .v (iv 1), .v zz]⟩
def e2 : ME := ⟨12, [(ag [(.lst [[zz], [zz], [zz], [(iv 1)], [zz], [zz]] false), (iv 2), (.lst [[(iv 1), (iv 2)], [(iv 1), (iv 1)]] false), (.lst [[zz, zz, (iv 4), (iv 5)], [zz, zz, (iv 10), (iv 10)], [(iv 1), (iv 2), (iv 6), (iv 6)]] false), .nils]), (iv 2)], [.v (ag [zz, zz]), .v (iv 2), .v zz]⟩
def e3 : ME := ⟨12, [(ag [(.lst [[zz], [zz], [zz], [(iv 1)], [zz], [zz]] false), (iv 2), (.lst [[(iv 1), (iv 2)], [(iv 1), (iv 1)]] false), (.lst [[zz, zz, (iv 4), (iv 5)], [zz, zz, (iv 10), (iv 10)], [(iv 1), (iv 2), (iv 6), (iv 6)]] false), (.lst [[zz, (iv 3), (.bool false)]] false)]), (iv 1)], [.v (ag [(iv 6), (iv 6)]), .v (iv 1), .v zz]⟩
def e4 : ME := ⟨15, [(ag [(.lst [[zz], [zz], [zz], [(iv 1)], [zz], [zz]] false), (iv 2), (.lst [[(iv 1), (iv 2)], [(iv 1), (iv 1)]] false), (.lst [[zz, zz, (iv 4), (iv 5)], [zz, zz, (iv 10), (iv 10)], [(iv 1), (iv 2), (iv 6), (iv 6)]] false), .nils]), (iv 3)], [.s 1 0 2 none [(iv 1), (iv 2)], .v zz]⟩
def e5 : ME := ⟨20, [(ag [(.lst [[zz], [zz], [zz], [(iv 1)], [zz], [zz]] false), (iv 2), (.lst [[(iv 1), (iv 2)], [(iv 1), (iv 1)]] false), (.lst [[zz, zz, (iv 4), (iv 5)], [zz, zz, (iv 10), (iv 10)], [(iv 1), (iv 2), (iv 6), (iv 6)]] false), .nils]), zz], [.s 1 0 1 none [zz], .v zz]⟩
def e6 : ME := ⟨23, [(ag [(.lst [[zz], [zz], [zz], [(iv 1)], [zz], [zz]] false), (iv 2), (.lst [[(iv 1), (iv 2)], [(iv 1), (iv 1)]] false), (.lst [[zz, zz, (iv 4), (iv 5)], [zz, zz, (iv 10), (iv 10)], [(iv 1), (iv 2), (iv 6), (iv 6)]] false), .nils]), zz, (iv 1)], [.v (iv 1), .v zz]⟩
def e7 : ME := ⟨25, [(ag [(.lst [[zz], [zz], [zz], [(iv 1)], [zz], [zz]] false), (iv 2), (.lst [[(iv 1), (iv 2)], [(iv 1), (iv 1)]] false), (.lst [[zz, zz, (iv 4), (iv 5)], [zz, zz, (iv 10), (iv 10)], [(iv 1), (iv 2), (iv 6), (iv 6)]] false), .nils]), (ag [(iv 8), (iv 8)]), (iv 1), (iv 5)], [.s 1 0 1 none [(iv 1)], .v zz]⟩
def e8 : ME := ⟨28, [(ag [(.lst [[zz], [zz], [zz], [(iv 1)], [zz], [zz]] false), (iv 2), (.lst [[(iv 1), (iv 2)], [(iv 1), (iv 1)]] false), (.lst [[zz, zz, (iv 4), (iv 5)], [zz, zz, (iv 10), (iv 10)], [(iv 1), (iv 2), (iv 6), (iv 6)]] false), .nils]), zz, (iv 4)], [.s 1 0 1 none [zz], .v zz]⟩
def e9 : ME := ⟨31, [(ag [(.lst [[zz], [zz], [zz], [(iv 1)], [zz], [zz]] false), (iv 2), (.lst [[(iv 1), (iv 2)], [(iv 1), (iv 1)]] false), (.lst [[zz, zz, (iv 4), (iv 5)], [zz, zz, (iv 10), (iv 10)], [(iv 1), (iv 2), (iv 6), (iv 6)]] false), (.lst [[zz, (iv 4), (.bool false)]] false)])], [.s 1 0 1 none [zz], .v zz]⟩
def e10 : ME := ⟨12, [(ag [(.lst [[zz], [zz], [zz], [(iv 1)], [zz], [zz]] false), (iv 2), (.lst [[(iv 1), (iv 2)], [(iv 1), (iv 1)]] false), (.lst [[zz, zz, (iv 4), (iv 5)], [zz, zz, (iv 10), (iv 10)], [(iv 1), (iv 2), (iv 6), (iv 6)]] false), (.lst [[zz, (iv 4), (.bool false)]] false)]), zz], [.v (ag [zz, zz]), .v zz, .v (iv 8)]⟩
def e11 : ME := ⟨23, [(ag [(.lst [[zz], [zz], [zz], [(iv 1)], [zz], [zz]] false), (iv 2), (.lst [[(iv 1), (iv 2)], [(iv 1), (iv 1)]] false), (.lst [[zz, zz, (iv 4), (iv 5)], [zz, zz, (iv 10), (iv 10)], [(iv 1), (iv 2), (iv 6), (iv 6)]] false), .nils]), (iv 1), (iv 1)], [.v zz, .v (iv 2)]⟩
end Tu
