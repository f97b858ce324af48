/- A part of a proof. -/
import Derived.Test.YtdkolkjcobngnabC53
set_option linter.unusedVariables false
set_option linter.unusedSimpArgs false
set_option maxRecDepth 1000000
namespace Ho
open Go Ce Ce.L Ce.S
def h22 : Hs := []
theorem chk22 : chkApi tbl 1000 [con53, con42, con7] c22 Ts22 h22 (pRes sh22) = true := by kernel_rfl
theorem ap22 : Ap22 := fun h => ap_of (rfl : tbl 22 = some c22) rfl chk22 gok53 rfl h
end Ho
