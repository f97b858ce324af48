/- A part of a proof. -/
import Derived.Test.YtglkncbccadnoadGreatA12a
import Derived.KernelRfl
set_option linter.unusedVariables false
set_option linter.unusedSimpArgs false
set_option maxRecDepth 1000000
namespace Cl
open Go Ce Ce.L Ce.S
def zBN:Hs:=[.unroll,.rng [] ⟨573,[(.agg (zs 568 4))],[D 571 177 0,D 176 571 0,D 570 139 0,D 138 570 0,D 569 101 0,D 100 569 0,D 568 63 0,D 62 568 0],([wA6,wEq,wFa,B 392 [(Z 572)],wCZ]++wJi)⟩ [((.bool true),⟨574,[],[D 573 0 X7,D 0 573 X8],([wA6,wEq,wFa,B 392 [(Z 573)],wCZ]++wJi)⟩)],.inv ⟨449,(wAi 401 397),[D 448 0 X7,D 0 448 X8,D 440 425 0,D 447 177 0,D 447 0 3,wIJ,D 446 139 0,D 446 0 3,wIK,D 445 101 0,D 445 0 3,D 0 445 0,D 443 177 0,D 443 0 3,D 0 443 0,D 442 139 0,D 442 0 3,D 0 442 0,D 441 101 0,D 441 0 3,D 0 441 0,D 440 7 (-1),D 0 440 1,D 425 66 0,D 62 425 0],([wFv,wBh,B 398 (zs 440 4),B 397 (zs 444 4),wCs,wGz,wEq,wFa,B 392 [(Z 448)],wCZ,wA6]++wJi)⟩ ⟨66,0⟩ ⟨425,0⟩,.inv ⟨497,([wDh,(Y 450),(O 397),(Y 451),(Y 452),(Y 453),(O 399)]++wJ1),[D 496 0 X7,D 0 496 X8,D 495 177 0,D 495 0 3,D 0 495 0,D 494 139 0,D 494 0 3,D 0 494 0,D 493 101 0,D 0 493 0,D 492 177 0,D 492 0 3,D 0 492 0,D 491 139 0,D 491 0 3,D 0 491 0,D 490 101 0,D 490 0 3,D 0 490 0,D 489 7 (-1),D 489 425 0,D 440 489 0,D 474 104 0,D 100 474 0],([wGA,wFv,wBh,B 398 (zs 489 4),B 397 ([(Z 425)]++zs 493 3),wCs,wGz,wEq,wFa,B 392 [(Z 496)],wCZ,wA6]++wJi)⟩ ⟨104,0⟩ ⟨474,0⟩,.inv ⟨544,([wEQ,(Y 498),(O 397),(Y 499),(Y 500),(Y 501),(O 399),U,(Y 502),(O 497),(Z 522)]++ys 503 8++us 13++ys 511 11++ys 523 14),[D 543 0 X7,D 0 543 X8,D 542 177 0,D 542 0 3,D 0 542 0,D 541 139 0,D 0 541 0,D 540 177 0,D 540 0 3,D 0 540 0,D 539 139 0,D 539 0 3,D 0 539 0,D 538 101 0,D 538 0 3,D 0 538 0,D 537 7 (-1),D 537 425 0,D 489 537 0,D 522 142 0,D 138 522 0],([B 497 [(Z 138),(Z 139)],wGA,wFv,wBh,B 398 (zs 537 4),B 397 [(Z 425),(Z 474),(Z 541),(Z 542)],wCs,wGz,wEq,wFa,B 392 [(Z 543)],wCZ,wA6]++wJi)⟩ ⟨142,0⟩ ⟨522,0⟩,.inv ⟨590,([wIn,(Y 545),(O 397),(Y 546),(Y 547),(Y 548),(O 399),U,(Y 549),(O 544),(Z 569)]++ys 550 8++us 13++ys 558 11++ys 570 14),[D 589 0 X7,D 0 589 X8,D 588 177 0,D 0 588 0,D 587 139 0,D 0 587 0,D 586 101 0,D 0 586 0,D 585 425 0,D 585 0 3,D 537 585 0,D 584 177 0,D 0 584 0,D 176 569 0],([B 544 [(Z 176),(Z 177)],B 497 [(Z 138),(Z 139)],wGA,wFv,wBh,B 398 (zs 585 4),B 397 [(Z 425),(Z 474),(Z 522),(Z 584)],wCs,wGz,wEq,wFa,B 392 [(Z 589)],wCZ,wA6]++wJi)⟩ ⟨180,0⟩ ⟨569,0⟩,.mkr [(.int .i64 ⟨0,0⟩ ⟨0,0⟩)],.inv ⟨473,(wAl 448 450 449 204),[D 454 456 0,D 456 12 0,D 0 454 0],[.blk 449 (.rows 1 [(.int .i64 ⟨0,0⟩ ⟨204,(-1)⟩)] ⟨204,0⟩) false]⟩ ⟨204,0⟩ ⟨456,0⟩]
theorem qZC:aX tbl [(37,[.str],.bool)] 1000 an c12 zC zBN (cj xq) 3 4 4=true:=by kernel_rfl
theorem ap12:Ap12:=fun h=>by
  refine lq bO (rfl:tbl 12=some c12) rfl rfl 3 1048576 (R:=_) (lo:=_) (.tail _ (.tail _ (.head _))) (by decide) (fun m hm=>?_) h
  by_cases h0:m=0
  · exact ⟨1000,_,zBR,0,0,by omega,by omega,aY,qZG⟩
  by_cases h1:m=1
  · exact ⟨1000,_,zBQ,1,1,by omega,by omega,aY,qZF⟩
  by_cases h2:m=2
  · exact ⟨1000,_,zBP,2,2,by omega,by omega,aY,qZE⟩
  by_cases h3:m=3
  · exact ⟨1000,_,zBO,3,3,by omega,by omega,aY,qZD⟩
  by_cases h4:m=4
  · exact ⟨1000,_,zBN,4,4,by omega,by omega,aY,qZC⟩
  exact ⟨1000,_,zBM,5,1048576,by omega,by omega,aY,qZB⟩
end Cl
