/- A part of a proof. -/
import Derived.Test.YtglkncbccadnoadGreatA25a
import Derived.KernelRfl
set_option linter.unusedVariables false
set_option linter.unusedSimpArgs false
set_option maxRecDepth 1000000
namespace Cl
open Go Ce Ce.L Ce.S
def zAZ:Hs:=[.unroll,.inv ⟨411,(wAs 391 390),[D 410 403 0,D 410 6 0,D 0 410 0],[wCh,wD7,wBz,wAG,wEi,wBM,wCQ,wCR,wAQ,wCA,wAD]⟩ ⟨59,0⟩ ⟨403,0⟩,.rng [(.exit 1)] ⟨591,[(.agg (zs 587 4))],[D 590 176 0,D 175 590 0,D 589 138 0,D 137 589 0,D 588 100 0,D 99 588 0,D 587 62 0,D 61 587 0],(wJV++[wAD])⟩ [((.bool true),⟨591,[],[],(wJV++[wAD])⟩),((.bool false),⟨636,[],[],[wBz,wAG,.loop 413 1 413 [(.exit 1)],.blk 635 (.rows 1 [J] ⟨410,1⟩) false,wD7,wEi,wBM,wCQ,wCR,wAQ,B 8 [(.vec 1 635 ⟨410,1⟩)],wAD]⟩)],.inv ⟨467,(wAi 420 416),[D 459 444 0,D 466 176 0,D 466 0 3,D 0 466 0,D 465 138 0,D 465 0 3,D 0 465 0,D 464 100 0,D 464 0 3,D 0 464 0,D 462 176 0,D 462 0 3,D 0 462 0,D 461 138 0,D 461 0 3,D 0 461 0,D 460 100 0,D 460 0 3,D 0 460 0,D 459 0 3,D 0 459 1,D 444 65 0,D 61 444 0],([wFz,wBm,B 417 (zs 459 4),B 416 (zs 463 4)]++wJd++[wAD])⟩ ⟨65,0⟩ ⟨444,0⟩,.inv ⟨514,([wDh,(Y 468),(O 416),(Y 469),(Y 470),(Y 471),(O 418),U,(Y 472),(O 467),(Z 492)]++ys 473 8++us 13++ys 481 11++ys 493 14),[D 513 176 0,D 513 0 3,D 0 513 0,D 512 138 0,D 512 0 3,D 0 512 0,D 511 100 0,D 0 511 0,D 510 176 0,D 510 0 3,D 0 510 0,D 509 138 0,D 509 0 3,D 0 509 0,D 508 100 0,D 508 0 3,D 0 508 0,D 507 444 0,D 507 0 3,D 459 507 0,D 492 103 0,D 99 492 0],([wG2,wFz,wBm,B 417 (zs 507 4),B 416 ([(Z 444)]++zs 511 3)]++wJd++[wAD])⟩ ⟨103,0⟩ ⟨492,0⟩,.inv ⟨560,([wEQ,(Y 515),(O 416),(Y 516),(Y 517),(Y 518),(O 418),U,(Y 519),(O 514),(Z 539)]++ys 520 8++us 13++ys 528 11++ys 540 14),[D 559 176 0,D 559 0 3,D 0 559 0,D 558 138 0,D 0 558 0,D 557 176 0,D 557 0 3,D 0 557 0,D 556 138 0,D 556 0 3,D 0 556 0,D 555 100 0,D 555 0 3,D 0 555 0,D 554 444 0,D 554 62 0,D 554 6 0,D 507 554 0,D 539 141 0,D 137 539 0],([B 514 [(Z 137),(Z 138)],wG2,wFz,wBm,B 417 (zs 554 4),B 416 [(Z 444),(Z 492),(Z 558),(Z 559)]]++wJd++[wAD])⟩ ⟨141,0⟩ ⟨539,0⟩,.inv ⟨605,([wIn,(Y 561),(O 416),(Y 562),(Y 563),(Y 564),(O 418),U,(Y 565),(O 560),(Z 585)]++ys 566 8++us 13++ys 574 11++ys 586 14),[D 604 176 0,D 0 604 0,D 603 138 0,D 0 603 0,D 602 100 0,D 0 602 0,D 601 444 0,D 601 6 0,D 554 601 0,D 600 176 0,D 0 600 0,D 175 585 0],([B 560 [(Z 175),(Z 176)],B 514 [(Z 137),(Z 138)],wG2,wFz,wBm,B 417 (zs 601 4),B 416 [(Z 444),(Z 492),(Z 539),(Z 600)]]++wJd++[wAD])⟩ ⟨179,0⟩ ⟨585,0⟩]
theorem qYO:aX tbl [(37,[.str],.bool)] 1000 an c25 yx zAZ (cj xj) 3 4 4=true:=by kernel_rfl
theorem ap25:Ap25:=fun h=>by
  refine lq bO (rfl:tbl 25=some c25) rfl rfl 3 1048576 (R:=_) (lo:=_) (.tail _ (.tail _ (.head _))) (by decide) (fun m hm=>?_) h
  by_cases h0:m=0
  · exact ⟨1000,_,zB3,0,0,by omega,by omega,aY,qYS⟩
  by_cases h1:m=1
  · exact ⟨1000,_,zB2,1,1,by omega,by omega,aY,qYR⟩
  by_cases h2:m=2
  · exact ⟨1000,_,zB1,2,2,by omega,by omega,aY,qYQ⟩
  by_cases h3:m=3
  · exact ⟨1000,_,zB0,3,3,by omega,by omega,aY,qYP⟩
  by_cases h4:m=4
  · exact ⟨1000,_,zAZ,4,4,by omega,by omega,aY,qYO⟩
  exact ⟨1000,_,zAY,5,1048576,by omega,by omega,aY,qYN⟩
end Cl
