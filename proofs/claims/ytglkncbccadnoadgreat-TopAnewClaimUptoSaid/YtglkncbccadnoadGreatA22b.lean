/- A part of a proof. -/
import Derived.Test.YtglkncbccadnoadGreatA22a
import Derived.KernelRfl
set_option linter.unusedVariables false
set_option linter.unusedSimpArgs false
set_option maxRecDepth 1000000
namespace Cl
open Go Ce Ce.L Ce.S
def zB5:Hs:=[.unroll,.rng [] ⟨577,[(.agg (zs 570 4))],[D 576 0 X7,D 0 575 X8,.ty 574 .bool,D 573 179 0,D 178 573 0,D 572 141 0,D 140 572 0,D 571 103 0,D 102 571 0,D 570 65 0,D 64 570 0],([wBy,wEw,wD5,wIU,wD6,wAV]++wJr++[wG1,wAS,wAC])⟩ [((.bool true),⟨580,[],[D 578 579 0,D 579 0 X7,D 0 578 X8,.ty 577 .bool],([wBy,wEw,wD5,B 394 [(Y 577)],wD6,wAV]++wJr++[B 10 [(Z 578),(Z 579)],wAS,wAC])⟩)],.mkr [(.int .i64 ⟨0,0⟩ ⟨0,0⟩)],.inv ⟨604,(wAl 579 581 580 239),[D 585 587 0,D 585 62 1,D 585 239 0,D 0 585 0],([wDN,wBy,wAV,B 577 (zs 570 4)]++wKh)⟩ ⟨239,0⟩ ⟨587,0⟩,.inv ⟨657,(wAr 604 394 580 239),[D 0 631 0,D 629 0 X7,D 0 629 X8],([wDN,wBy,wAV]++wKh)⟩ ⟨239,0⟩ ⟨631,0⟩,.inv ⟨453,(wAi 403 399),[D 451 452 0,D 452 0 X7,D 0 451 X8,.ty 450 .bool,D 442 427 0,D 449 179 0,D 449 0 3,D 0 449 0,D 448 141 0,wII,wHW,D 447 103 0,D 447 0 3,wIJ,D 445 179 0,D 445 0 3,D 0 445 0,D 444 141 0,D 444 0 3,D 0 444 0,D 443 103 0,D 443 0 3,D 0 443 0,D 442 0 3,D 0 442 1,D 427 68 0,D 64 427 0],([wFy,wBl,B 400 (zs 442 4),B 399 (zs 446 4),wCw,wGK,wEw,wD5,B 394 [(Y 450)],wD6,wBy,wAV]++wJr++[B 10 [(Z 451),(Z 452)],wAS,wAC])⟩ ⟨68,0⟩ ⟨427,0⟩,.inv ⟨503,([wDh,(Y 454),(O 399),(Y 455),(Y 456),(Y 457),(O 401),U,(Y 458),(O 453),(Z 478)]++ys 459 8++us 13++ys 467 11++ys 479 14),[D 501 502 0,D 502 0 X7,D 0 501 X8,.ty 500 .bool,D 499 179 0,D 499 0 3,D 0 499 0,D 498 141 0,D 498 0 3,D 0 498 0,D 497 103 0,D 0 497 0,D 496 179 0,D 496 0 3,D 0 496 0,D 495 141 0,D 495 0 3,D 0 495 0,D 494 103 0,D 494 0 3,D 0 494 0,D 493 427 0,D 493 0 3,D 442 493 0,D 478 106 0,D 102 478 0],([wGL,wFy,wBl,B 400 (zs 493 4),B 399 ([(Z 427)]++zs 497 3),wCw,wGK,wEw,wD5,B 394 [(Y 500)],wD6,wBy,wAV]++wJr++[B 10 [(Z 501),(Z 502)],wAS,wAC])⟩ ⟨106,0⟩ ⟨478,0⟩,.inv ⟨552,([wEQ,(Y 504),(O 399),(Y 505),(Y 506),(Y 507),(O 401),U,(Y 508),(O 503),(Z 528)]++ys 509 8++us 13++ys 517 11++ys 529 14),[D 550 551 0,D 551 0 X7,D 0 550 X8,.ty 549 .bool,D 548 179 0,D 548 0 3,D 0 548 0,D 547 141 0,D 0 547 0,D 546 179 0,D 546 0 3,D 0 546 0,D 545 141 0,D 545 0 3,D 0 545 0,D 544 103 0,D 544 0 3,D 0 544 0,D 543 427 0,D 543 0 3,D 493 543 0,D 528 144 0,D 140 528 0],([B 503 [(Z 140),(Z 141)],wGL,wFy,wBl,B 400 (zs 543 4),B 399 [(Z 427),(Z 478),(Z 547),(Z 548)],wCw,wGK,wEw,wD5,B 394 [(Y 549)],wD6,wBy,wAV]++wJr++[B 10 [(Z 550),(Z 551)],wAS,wAC])⟩ ⟨144,0⟩ ⟨528,0⟩,.inv ⟨600,([wIn,(Y 553),(O 399),(Y 554),(Y 555),(Y 556),(O 401),U,(Y 557),(O 552),(Z 577)]++ys 558 8++us 13++ys 566 11++ys 578 14),[D 598 599 0,D 599 0 X7,D 0 598 X8,.ty 597 .bool,D 596 179 0,D 0 596 0,D 595 141 0,D 0 595 0,D 594 103 0,D 0 594 0,D 593 427 0,D 593 65 0,D 543 593 0,D 592 179 0,D 0 592 0,D 178 577 0],([B 552 [(Z 178),(Z 179)],B 503 [(Z 140),(Z 141)],wGL,wFy,wBl,B 400 (zs 593 4),B 399 [(Z 427),(Z 478),(Z 528),(Z 592)],wCw,wGK,wEw,wD5,B 394 [(Y 597)],wD6,wBy,wAV]++wJr++[B 10 [(Z 598),(Z 599)],wAS,wAC])⟩ ⟨182,0⟩ ⟨577,0⟩]
theorem qYU:aX tbl [(37,[.str],.bool)] 1000 an c22 yy zB5 (cj xk) 3 4 4=true:=by kernel_rfl
theorem ap22:Ap22:=fun h=>by
  refine lq bO (rfl:tbl 22=some c22) rfl rfl 3 1048576 (R:=_) (lo:=_) (.tail _ (.tail _ (.head _))) (by decide) (fun m hm=>?_) h
  by_cases h0:m=0
  · exact ⟨1000,_,zB9,0,0,by omega,by omega,aY,qYY⟩
  by_cases h1:m=1
  · exact ⟨1000,_,zB8,1,1,by omega,by omega,aY,qYX⟩
  by_cases h2:m=2
  · exact ⟨1000,_,zB7,2,2,by omega,by omega,aY,qYW⟩
  by_cases h3:m=3
  · exact ⟨1000,_,zB6,3,3,by omega,by omega,aY,qYV⟩
  by_cases h4:m=4
  · exact ⟨1000,_,zB5,4,4,by omega,by omega,aY,qYU⟩
  exact ⟨1000,_,zB4,5,1048576,by omega,by omega,aY,qYT⟩
end Cl
