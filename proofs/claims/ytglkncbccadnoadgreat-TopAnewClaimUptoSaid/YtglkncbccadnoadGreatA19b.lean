/- A part of a proof. -/
import Derived.Test.YtglkncbccadnoadGreatA19a
import Derived.KernelRfl
set_option linter.unusedVariables false
set_option linter.unusedSimpArgs false
set_option maxRecDepth 1000000
namespace Cl
open Go Ce Ce.L Ce.S
def zBB:Hs:=[.unroll,.rng [] ⟨573,[(.agg (zs 567 4))],[D 570 175 0,D 174 570 0,D 569 137 0,D 136 569 0,D 568 99 0,D 98 568 0,D 567 61 0,D 60 567 0],([wB1,wEv,wFg,B 391 [(Z 571)],B 390 [(Z 572)],wFh]++wJC++[wAC,wAD])⟩ [((.bool true),⟨575,[],[D 574 0 X7,D 0 574 X8,D 573 0 X7,D 0 573 X8],([wB1,wEv,wFg,B 391 [(Z 573)],B 390 [(Z 574)],wFh]++wJC++[wAC,wAD])⟩)],.inv ⟨449,(wAi 400 396),[D 448 0 X7,D 0 448 X8,D 447 0 X7,D 0 447 X8,D 439 424 0,D 446 175 0,D 446 0 3,wIK,D 445 137 0,D 445 0 3,D 0 445 0,D 444 99 0,D 444 0 3,D 0 444 0,D 442 175 0,D 442 0 3,D 0 442 0,D 441 137 0,D 441 0 3,D 0 441 0,D 440 99 0,D 440 0 3,D 0 440 0,D 439 0 3,D 0 439 1,D 424 64 0,D 60 424 0],([wFx,wBj,B 397 (zs 439 4),B 396 (zs 443 4),wCu,wGH,wEv,wFg,B 391 [(Z 447)],B 390 [(Z 448)]]++wKd)⟩ ⟨64,0⟩ ⟨424,0⟩,.inv ⟨498,([wDh,(Y 450),(O 396),(Y 451),(Y 452),(Y 453),(O 398)]++wJ1),[D 497 0 X7,D 0 497 X8,D 496 0 X7,D 0 496 X8,D 495 175 0,D 495 0 3,D 0 495 0,D 494 137 0,D 494 0 3,D 0 494 0,D 493 99 0,D 0 493 0,D 492 175 0,D 492 0 3,D 0 492 0,D 491 137 0,D 491 0 3,D 0 491 0,D 490 99 0,D 490 0 3,D 0 490 0,D 489 424 0,D 489 0 3,D 439 489 0,D 474 102 0,D 98 474 0],([wHc,wFx,wBj,B 397 (zs 489 4),B 396 ([(Z 424)]++zs 493 3),wCu,wGH,wEv,wFg,B 391 [(Z 496)],B 390 [(Z 497)]]++wKd)⟩ ⟨102,0⟩ ⟨474,0⟩,.inv ⟨546,([wEQ,(Y 499),(O 396),(Y 500),(Y 501),(Y 502),(O 398),U,(Y 503),(O 498),(Z 523)]++ys 504 8++us 13++ys 512 11++ys 524 14),[D 545 0 X7,D 0 545 X8,D 544 0 X7,D 0 544 X8,D 543 175 0,D 543 0 3,D 0 543 0,D 542 137 0,D 0 542 0,D 541 175 0,D 541 0 3,D 0 541 0,D 540 137 0,D 540 0 3,D 0 540 0,D 539 99 0,D 539 0 3,D 0 539 0,D 538 424 0,D 538 0 3,D 489 538 0,D 523 140 0,D 136 523 0],([B 498 [(Z 136),(Z 137)],wHc,wFx,wBj,B 397 (zs 538 4),B 396 [(Z 424),(Z 474),(Z 542),(Z 543)],wCu,wGH,wEv,wFg,B 391 [(Z 544)],B 390 [(Z 545)]]++wKd)⟩ ⟨140,0⟩ ⟨523,0⟩,.inv ⟨593,([wIn,(Y 547),(O 396),(Y 548),(Y 549),(Y 550),(O 398),U,(Y 551),(O 546),(Z 571)]++ys 552 8++us 13++ys 560 11++ys 572 14),[D 592 0 X7,D 0 592 X8,D 591 0 X7,D 0 591 X8,D 590 175 0,D 0 590 0,D 589 137 0,D 0 589 0,D 588 99 0,D 0 588 0,D 587 424 0,D 587 0 3,D 538 587 0,D 586 175 0,D 0 586 0,D 174 571 0],([B 546 [(Z 174),(Z 175)],B 498 [(Z 136),(Z 137)],wHc,wFx,wBj,B 397 (zs 587 4),B 396 [(Z 424),(Z 474),(Z 523),(Z 586)],wCu,wGH,wEv,wFg,B 391 [(Z 591)],B 390 [(Z 592)]]++wKd)⟩ ⟨178,0⟩ ⟨571,0⟩,.mkr [(.int .i64 ⟨0,0⟩ ⟨0,0⟩)],.inv ⟨474,(wAl 449 451 450 235),[D 455 457 0,D 455 235 0,D 0 455 0],[.blk 450 (.rows 1 [(.int .i64 ⟨0,0⟩ ⟨235,(-1)⟩)] ⟨235,0⟩) false]⟩ ⟨235,0⟩ ⟨457,0⟩]
theorem qZ0:aX tbl [(37,[.str],.bool)] 1000 an c19 yz zBB (cj xm) 3 4 4=true:=by kernel_rfl
theorem ap19:Ap19:=fun h=>by
  refine lq bO (rfl:tbl 19=some c19) rfl rfl 3 1048576 (R:=_) (lo:=_) (.tail _ (.tail _ (.head _))) (by decide) (fun m hm=>?_) h
  by_cases h0:m=0
  · exact ⟨1000,_,zBF,0,0,by omega,by omega,aY,qZ4⟩
  by_cases h1:m=1
  · exact ⟨1000,_,zBE,1,1,by omega,by omega,aY,qZ3⟩
  by_cases h2:m=2
  · exact ⟨1000,_,zBD,2,2,by omega,by omega,aY,qZ2⟩
  by_cases h3:m=3
  · exact ⟨1000,_,zBC,3,3,by omega,by omega,aY,qZ1⟩
  by_cases h4:m=4
  · exact ⟨1000,_,zBB,4,4,by omega,by omega,aY,qZ0⟩
  exact ⟨1000,_,zBA,5,1048576,by omega,by omega,aY,qYZ⟩
end Cl
