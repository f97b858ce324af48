/- A part of a proof. -/
import Derived.Test.YtglkncbccadnoadGreatEE
import Derived.KernelRfl
set_option linter.unusedVariables false
set_option linter.unusedSimpArgs false
set_option maxRecDepth 1000000
namespace Cl
open Go Ce Ce.L
theorem e6ok:ApB tbl 5000 e6:=ApB.mono (k:=0+2000) (by omega) (Ce.Q.chkQ_ok (kk:=0) (n:=2000) (Ce.Q.noM_ok tbl) (by kernel_rfl))
end Cl
namespace Cl
open Go Ce Ce.L
theorem e7ok:ApB tbl 5000 e7:=ApB.mono (k:=0+2000) (by omega) (Ce.Q.chkQ_ok (kk:=0) (n:=2000) (Ce.Q.noM_ok tbl) (by kernel_rfl))
end Cl
namespace Cl
open Go Ce Ce.L
theorem e8ok:ApB tbl 5000 e8:=ApB.mono (k:=0+2000) (by omega) (Ce.Q.chkQ_ok (kk:=0) (n:=2000) (Ce.Q.noM_ok tbl) (by kernel_rfl))
end Cl
namespace Cl
open Go Ce Ce.L
theorem e9ok:ApB tbl 5000 e9:=ApB.mono (k:=0+2000) (by omega) (Ce.Q.chkQ_ok (kk:=0) (n:=2000) (Ce.Q.noM_ok tbl) (by kernel_rfl))
end Cl
namespace Cl
open Go Ce Ce.L
theorem e10ok:ApB tbl 5000 e10:=ApB.mono (k:=0+2000) (by omega) (Ce.Q.chkQ_ok (kk:=0) (n:=2000) (Ce.Q.noM_ok tbl) (by kernel_rfl))
end Cl
namespace Cl
open Go Ce Ce.L
theorem e11ok:ApB tbl 5000 e11:=ApB.mono (k:=0+2000) (by omega) (Ce.Q.chkQ_ok (kk:=0) (n:=2000) (Ce.Q.noM_ok tbl) (by kernel_rfl))
end Cl
