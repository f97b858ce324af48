/- A part of a proof. -/
import Derived.Test.YtglkncbccadnoadGreatCA
import Derived.KernelRfl
set_option linter.unusedVariables false
set_option linter.unusedSimpArgs false
set_option maxRecDepth 1000000
namespace Cl
open Go Ce Ce.L Ce.S
def h7:Hs:=[.inv ⟨31,(wAa 8 36 1 7),[D 19 7 0,D 0 19 0,D 19 0 X7],[B 6 (ys 1 5)]⟩ ⟨7,0⟩ ⟨19,0⟩,.inv ⟨49,(wAb ),[D 39 7 0,D 39 35 0,D 0 39 0,D 39 0 X7],[B 6 (ys 1 5)]⟩ ⟨35,0⟩ ⟨39,0⟩,.inv ⟨55,(wAc ),[wFB,D 43 7 0,D 43 31 0,D 0 43 0,D 43 0 X7],[B 6 (ys 1 5)]⟩ ⟨31,0⟩ ⟨43,0⟩,.unroll,.unroll]
theorem chk7:pT tbl [(37,[.str],.bool)] 1000 qCF c7 Ts7 h7 (cj sh7)=true:=by kernel_rfl
theorem ap7:Ap7:=fun h=>ap_ofE bO (rfl:tbl 7=some c7) rfl chk7 yT rfl h
end Cl
