/- A part of a proof. -/
import Derived.Test.YtglkncbccadnoadGreatEE
import Derived.KernelRfl
set_option linter.unusedVariables false
set_option linter.unusedSimpArgs false
set_option maxRecDepth 1000000
namespace Cl
open Go Ce Ce.L
theorem e0ok:ApB tbl 5000 e0:=ApB.mono (k:=0+2000) (by omega) (Ce.Q.chkQ_ok (kk:=0) (n:=2000) (Ce.Q.noM_ok tbl) (by kernel_rfl))
end Cl
namespace Cl
open Go Ce Ce.L
theorem e1ok:ApB tbl 5000 e1:=ApB.mono (k:=0+2000) (by omega) (Ce.Q.chkQ_ok (kk:=0) (n:=2000) (Ce.Q.noM_ok tbl) (by kernel_rfl))
end Cl
namespace Cl
open Go Ce Ce.L
theorem e2ok:ApB tbl 5000 e2:=ApB.mono (k:=0+2000) (by omega) (Ce.Q.chkQ_ok (kk:=0) (n:=2000) (Ce.Q.noM_ok tbl) (by kernel_rfl))
end Cl
namespace Cl
open Go Ce Ce.L
theorem e3ok:ApB tbl 5000 e3:=ApB.mono (k:=0+2000) (by omega) (Ce.Q.chkQ_ok (kk:=0) (n:=2000) (Ce.Q.noM_ok tbl) (by kernel_rfl))
end Cl
namespace Cl
open Go Ce Ce.L
theorem e4ok:ApB tbl 5000 e4:=ApB.mono (k:=0+2000) (by omega) (Ce.Q.chkQ_ok (kk:=0) (n:=2000) (Ce.Q.noM_ok tbl) (by kernel_rfl))
end Cl
namespace Cl
open Go Ce Ce.L
theorem e5ok:ApB tbl 5000 e5:=ApB.mono (k:=0+2000) (by omega) (Ce.Q.chkQ_ok (kk:=0) (n:=2000) (Ce.Q.noM_ok tbl) (by kernel_rfl))
end Cl
