/- A part of a proof. -/
import Derived.Test.YtglkncbccadnoadGreatA30a
import Derived.KernelRfl
set_option linter.unusedVariables false
set_option linter.unusedSimpArgs false
set_option maxRecDepth 1000000
namespace Cl
open Go Ce Ce.L Ce.S
def zAN:Hs:=[.invs [(⟨290,(wAu 259 258),[D 0 274 0],[B 7 (ys 1 5)]⟩,[(⟨258,0⟩,⟨274,0⟩)]),(⟨473,(wAv 423 272 210),[D 0 454 (-1),D 0 277 0,D 277 210 0],[wCk,wAD]⟩,[(⟨258,0⟩,⟨454,0⟩)])],.mkr [(.int .i64 ⟨0,0⟩ ⟨0,0⟩)],.inv ⟨314,(wAl 274 291 290 210),[D 295 297 0,D 295 210 0,D 0 295 0],[.blk 290 (.rows 1 [(.int .i64 ⟨0,0⟩ ⟨210,(-1)⟩)] ⟨210,0⟩) false,wAD]⟩ ⟨210,0⟩ ⟨297,0⟩,.mkr [(.int .i64 ⟨0,0⟩ ⟨0,0⟩)],.inv ⟨497,(wAl 454 474 473 210),[D 478 480 0,D 478 57 1,D 478 210 0,D 0 478 0],[wDQ,wCk,wAD]⟩ ⟨210,0⟩ ⟨480,0⟩,.inv ⟨521,(wAw 473 210),[D 0 502 0],[wDQ,wCk,wAD]⟩ ⟨478,0⟩ ⟨502,0⟩]
theorem qYC:aX tbl [(37,[.str],.bool)] 1000 an c30 yu zAN (cj xg) 3 4 4=true:=by kernel_rfl
theorem ap30:Ap30:=fun h=>by
  refine lq bO (rfl:tbl 30=some c30) rfl rfl 3 1048576 (R:=_) (lo:=_) (.tail _ (.tail _ (.head _))) (by decide) (fun m hm=>?_) h
  by_cases h0:m=0
  · exact ⟨1000,_,zAR,0,0,by omega,by omega,aY,qYG⟩
  by_cases h1:m=1
  · exact ⟨1000,_,zAQ,1,1,by omega,by omega,aY,qYF⟩
  by_cases h2:m=2
  · exact ⟨1000,_,zAP,2,2,by omega,by omega,aY,qYE⟩
  by_cases h3:m=3
  · exact ⟨1000,_,zAO,3,3,by omega,by omega,aY,qYD⟩
  by_cases h4:m=4
  · exact ⟨1000,_,zAN,4,4,by omega,by omega,aY,qYC⟩
  exact ⟨1000,_,zAM,5,1048576,by omega,by omega,aY,qYB⟩
end Cl
