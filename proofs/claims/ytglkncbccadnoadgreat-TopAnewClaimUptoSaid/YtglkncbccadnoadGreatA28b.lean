/- A part of a proof. -/
import Derived.Test.YtglkncbccadnoadGreatA28a
import Derived.KernelRfl
set_option linter.unusedVariables false
set_option linter.unusedSimpArgs false
set_option maxRecDepth 1000000
namespace Cl
open Go Ce Ce.L Ce.S
def zAT:Hs:=[.unroll,.unroll,.unroll,.rng [] ⟨581,[(.agg (zs 573 4))],[D 580 0 X7,D 0 580 X8,D 579 0 X7,D 0 579 X8,D 578 0 X7,D 0 578 X8,D 577 0 X7,D 0 577 X8,D 576 182 0,D 181 576 0,D 575 144 0,D 143 575 0,D 574 106 0,D 105 574 0,D 573 68 0,D 67 573 0],([wB5,wEz,wFr,B 397 (zs 577 4),wFs]++wJv)⟩ [((.bool true),⟨585,[],[D 584 0 X7,D 0 584 X8,D 583 0 X7,D 0 583 X8,D 582 0 X7,D 0 582 X8,D 581 0 X7,D 0 581 X8],([wB5,wEz,wFr,B 397 (zs 581 4),wFs]++wJv)⟩)],.inv ⟨457,(wAi 406 402),[D 445 449 0,D 445 430 0,D 452 182 0,D 452 0 3,D 0 452 0,D 451 144 0,D 451 0 3,D 0 451 0,D 450 106 0,D 450 0 3,wHt,D 449 0 3,D 448 182 0,wII,wHW,D 447 144 0,D 447 0 3,wIJ,D 446 106 0,D 446 0 3,wIK,D 0 445 1,D 430 71 0,D 67 430 0,D 453 0 X7,D 454 0 X7,D 455 0 X7,D 456 0 X7,D 0 453 X8,D 0 454 X8,D 0 455 X8,D 0 456 X8],([wFA,wBn,B 403 (zs 445 4),B 402 (zs 449 4),wCy,wGP,wEz,wFr,B 397 (zs 453 4),wFs,wB5]++wJv)⟩ ⟨71,0⟩ ⟨430,0⟩,.inv ⟨508,([wDh,(Y 458),(O 402),(Y 459),(Y 460),(Y 461),(O 404),U,(Y 462),(O 457),(Z 482)]++ys 463 8++us 13++ys 471 11++ys 483 14),[D 503 182 0,D 503 0 3,D 0 503 0,D 502 144 0,D 502 0 3,D 0 502 0,D 501 106 0,D 0 501 0,D 500 182 0,D 500 0 3,D 0 500 0,D 499 144 0,D 499 0 3,D 0 499 0,D 498 106 0,D 498 0 3,D 0 498 0,D 497 8 (-1),D 497 430 0,D 445 497 0,D 482 109 0,D 105 482 0,D 504 0 X7,D 505 0 X7,D 506 0 X7,D 507 0 X7,D 0 504 X8,D 0 505 X8,D 0 506 X8,D 0 507 X8],([wGQ,wFA,wBn,B 403 (zs 497 4),B 402 ([(Z 430)]++zs 501 3),wCy,wGP,wEz,wFr,B 397 (zs 504 4),wFs,wB5]++wJv)⟩ ⟨109,0⟩ ⟨482,0⟩,.inv ⟨558,([wEQ,(Y 509),(O 402),(Y 510),(Y 511),(Y 512),(O 404),U,(Y 513),(O 508),(Z 533)]++ys 514 8++us 13++ys 522 11++ys 534 14),[D 553 182 0,D 553 0 3,D 0 553 0,D 552 144 0,D 0 552 0,D 551 182 0,D 551 0 3,D 0 551 0,D 550 144 0,D 550 0 3,D 0 550 0,D 549 106 0,D 549 0 3,D 0 549 0,D 548 8 (-1),D 548 430 0,D 497 548 0,D 533 147 0,D 143 533 0,D 554 0 X7,D 555 0 X7,D 556 0 X7,D 557 0 X7,D 0 554 X8,D 0 555 X8,D 0 556 X8,D 0 557 X8],([B 508 [(Z 143),(Z 144)],wGQ,wFA,wBn,B 403 (zs 548 4),B 402 [(Z 430),(Z 482),(Z 552),(Z 553)],wCy,wGP,wEz,wFr,B 397 (zs 554 4),wFs,wB5]++wJv)⟩ ⟨147,0⟩ ⟨533,0⟩,.inv ⟨607,([wIn,(Y 559),(O 402),(Y 560),(Y 561),(Y 562),(O 404),U,(Y 563),(O 558),(Z 583)]++ys 564 8++us 13++ys 572 11++ys 584 14),[D 602 182 0,D 0 602 0,D 601 144 0,D 0 601 0,D 600 106 0,D 0 600 0,D 599 430 0,D 599 0 3,D 548 599 0,D 598 182 0,D 0 598 0,D 181 583 0,D 603 0 X7,D 604 0 X7,D 605 0 X7,D 606 0 X7,D 0 603 X8,D 0 604 X8,D 0 605 X8,D 0 606 X8],([B 558 [(Z 181),(Z 182)],B 508 [(Z 143),(Z 144)],wGQ,wFA,wBn,B 403 (zs 599 4),B 402 [(Z 430),(Z 482),(Z 533),(Z 598)],wCy,wGP,wEz,wFr,B 397 (zs 603 4),wFs,wB5]++wJv)⟩ ⟨185,0⟩ ⟨583,0⟩,.inv ⟨498,(wAt 457 453),[D 497 0 3,D 0 497 0,D 0 487 0,D 0 484 0,D 484 0 X7],[]⟩ ⟨8,0⟩ ⟨487,0⟩,.unroll]
theorem qYI:aX tbl [(37,[.str],.bool)] 1000 an c28 yw zAT (cj xh) 3 4 4=true:=by kernel_rfl
theorem ap28:Ap28:=fun h=>by
  refine lq bO (rfl:tbl 28=some c28) rfl rfl 3 1048576 (R:=_) (lo:=_) (.tail _ (.tail _ (.head _))) (by decide) (fun m hm=>?_) h
  by_cases h0:m=0
  · exact ⟨1000,_,zAX,0,0,by omega,by omega,aY,qYM⟩
  by_cases h1:m=1
  · exact ⟨1000,_,zAW,1,1,by omega,by omega,aY,qYL⟩
  by_cases h2:m=2
  · exact ⟨1000,_,zAV,2,2,by omega,by omega,aY,qYK⟩
  by_cases h3:m=3
  · exact ⟨1000,_,zAU,3,3,by omega,by omega,aY,qYJ⟩
  by_cases h4:m=4
  · exact ⟨1000,_,zAT,4,4,by omega,by omega,aY,qYI⟩
  exact ⟨1000,_,zAS,5,1048576,by omega,by omega,aY,qYH⟩
end Cl
