/- A part of a proof. -/
import Derived.Test.YtglkncbccadnoadGreatA17a
import Derived.KernelRfl
set_option linter.unusedVariables false
set_option linter.unusedSimpArgs false
set_option maxRecDepth 1000000
namespace Cl
open Go Ce Ce.L Ce.S
def zBH:Hs:=[.unroll,.rng [] ⟨575,[(.agg (zs 569 4))],[D 572 177 0,D 176 572 0,D 571 139 0,D 138 571 0,D 570 101 0,D 100 570 0,D 569 63 0,D 62 569 0],([wA6,wEs,wFe,B 393 [(Z 573)],B 392 [(Z 574)],wCZ]++wJy++[wAC])⟩ [((.bool true),⟨577,[],[D 576 0 X7,D 0 576 X8,D 575 0 X7,D 0 575 X8],([wA6,wEs,wFe,B 393 [(Z 575)],B 392 [(Z 576)],wCZ]++wJy++[wAC])⟩)],.inv ⟨451,(wAi 402 398),[D 450 0 X7,D 0 450 X8,D 449 0 X7,D 0 449 X8,D 441 426 0,D 448 177 0,wII,wHW,D 447 139 0,D 447 0 3,wIJ,D 446 101 0,D 446 0 3,wIK,D 444 177 0,D 444 0 3,D 0 444 0,D 443 139 0,D 443 0 3,D 0 443 0,D 442 101 0,D 442 0 3,D 0 442 0,D 441 0 3,D 0 441 1,D 426 66 0,D 62 426 0],([wFw,wBi,B 399 (zs 441 4),B 398 (zs 445 4),wCt,wGE,wEs,wFe,B 393 [(Z 449)],B 392 [(Z 450)],wCZ,wA6]++wJy++[wAC])⟩ ⟨66,0⟩ ⟨426,0⟩,.inv ⟨500,([wDh,(Y 452),(O 398),(Y 453),(Y 454),(Y 455),(O 400),U,(Y 456),(O 451),(Z 476)]++ys 457 8++us 13++ys 465 11++ys 477 14),[D 499 0 X7,D 0 499 X8,D 498 0 X7,D 0 498 X8,D 497 177 0,D 497 0 3,D 0 497 0,D 496 139 0,D 496 0 3,D 0 496 0,D 495 101 0,D 0 495 0,D 494 177 0,D 494 0 3,D 0 494 0,D 493 139 0,D 493 0 3,D 0 493 0,D 492 101 0,D 492 0 3,D 0 492 0,D 491 426 0,D 491 0 3,D 441 491 0,D 476 104 0,D 100 476 0],([wGF,wFw,wBi,B 399 (zs 491 4),B 398 ([(Z 426)]++zs 495 3),wCt,wGE,wEs,wFe,B 393 [(Z 498)],B 392 [(Z 499)],wCZ,wA6]++wJy++[wAC])⟩ ⟨104,0⟩ ⟨476,0⟩,.inv ⟨548,([wEQ,(Y 501),(O 398),(Y 502),(Y 503),(Y 504),(O 400),U,(Y 505),(O 500),(Z 525)]++ys 506 8++us 13++ys 514 11++ys 526 14),[D 547 0 X7,D 0 547 X8,D 546 0 X7,D 0 546 X8,D 545 177 0,D 545 0 3,D 0 545 0,D 544 139 0,D 0 544 0,D 543 177 0,D 543 0 3,D 0 543 0,D 542 139 0,D 542 0 3,D 0 542 0,D 541 101 0,D 541 0 3,D 0 541 0,D 540 426 0,D 540 0 3,D 491 540 0,D 525 142 0,D 138 525 0],([B 500 [(Z 138),(Z 139)],wGF,wFw,wBi,B 399 (zs 540 4),B 398 [(Z 426),(Z 476),(Z 544),(Z 545)],wCt,wGE,wEs,wFe,B 393 [(Z 546)],B 392 [(Z 547)],wCZ,wA6]++wJy++[wAC])⟩ ⟨142,0⟩ ⟨525,0⟩,.inv ⟨595,([wIn,(Y 549),(O 398),(Y 550),(Y 551),(Y 552),(O 400),U,(Y 553),(O 548),(Z 573)]++ys 554 8++us 13++ys 562 11++ys 574 14),[D 594 0 X7,D 0 594 X8,D 593 0 X7,D 0 593 X8,D 592 177 0,D 0 592 0,D 591 139 0,D 0 591 0,D 590 101 0,D 0 590 0,D 589 426 0,D 589 0 3,D 540 589 0,D 588 177 0,D 0 588 0,D 176 573 0],([B 548 [(Z 176),(Z 177)],B 500 [(Z 138),(Z 139)],wGF,wFw,wBi,B 399 (zs 589 4),B 398 [(Z 426),(Z 476),(Z 525),(Z 588)],wCt,wGE,wEs,wFe,B 393 [(Z 593)],B 392 [(Z 594)],wCZ,wA6]++wJy++[wAC])⟩ ⟨180,0⟩ ⟨573,0⟩]
theorem qZ6:aX tbl [(37,[.str],.bool)] 1000 an c17 zB zBH (cj xn) 3 4 4=true:=by kernel_rfl
theorem ap17:Ap17:=fun h=>by
  refine lq bO (rfl:tbl 17=some c17) rfl rfl 3 1048576 (R:=_) (lo:=_) (.tail _ (.tail _ (.head _))) (by decide) (fun m hm=>?_) h
  by_cases h0:m=0
  · exact ⟨1000,_,zBL,0,0,by omega,by omega,aY,qZA⟩
  by_cases h1:m=1
  · exact ⟨1000,_,zBK,1,1,by omega,by omega,aY,qZ9⟩
  by_cases h2:m=2
  · exact ⟨1000,_,zBJ,2,2,by omega,by omega,aY,qZ8⟩
  by_cases h3:m=3
  · exact ⟨1000,_,zBI,3,3,by omega,by omega,aY,qZ7⟩
  by_cases h4:m=4
  · exact ⟨1000,_,zBH,4,4,by omega,by omega,aY,qZ6⟩
  exact ⟨1000,_,zBG,5,1048576,by omega,by omega,aY,qZ5⟩
end Cl
