/- A part of a proof. -/
import Derived.Test.YtglkncbccadnoadGreatCA
import Derived.KernelRfl
set_option maxRecDepth 1000000
namespace Cl
open Go Ce Ce.L Ce.S
def qKD:Hint:=.fkr 12
def qKC:Hint:=.fka 16
def hc54x4:Hs:=[qKD,qKC]
def qBU:Con:=⟨false,54,1,⟨400,[(O 152),(.agg ([(Z 295)]++zs 394 3)),(Z 397)],[D 0 397 0,D 397 0 0,D 0 7 (-1),D 7 295 1,wAy,wDj,wC5,wAE,.len 3 7,wAz,D 295 66 (-1),wHS],[B 152 (ys 1 5++[(Z 398),(Y 399)])]⟩,[((Z 401),⟨402,[],[wAy,D 0 401 0,D 401 90 (-1),D 401 0 X7],[B 152 (ys 1 5++[(Z 398),(Y 399)])]⟩)],⟨0,0⟩,⟨0,0⟩,none⟩
theorem g54x4:∀v:V,v.i 0=0→GOK1 tbl v 1 qBU:=bD bO (n:=1000) (Γ:=G7) (hs:=hc54x4) (by kernel_rfl) rfl rfl rfl gg7
def qN6:List Con:=qBU::G7
theorem qL7:∀v:V,v.i 0=0→GOK tbl v 1 qN6:=bC g54x4 gg7
def qKB:Hint:=.fkr 12
def qKA:Hint:=.fka 16
def qK9:Hint:=.fka 16
def hc54x5:Hs:=[qKB,qKA,qK9]
def qBT:Con:=⟨false,54,1,⟨532,[(O 190),(.agg [(Z 378),(Z 422),(Z 527),(Z 528)]),(Z 529)],[D 0 529 0,D 529 0 1,wEo,wDZ,D 100 422 0,D 62 378 0,wAA,wAy,wD0,wDE,wDj,wC5,wD9,wAJ,wAE,wAz,D 378 66 (-1),D 422 104 (-1),wD1,wHS,D 36 90 0,wEa],[B 190 (ys 1 5++[(Z 530),(Y 531)])]⟩,[((Z 533),⟨534,[],[wAA,wAy,D 0 533 0,D 533 90 (-1),D 533 0 X7],[B 190 (ys 1 5++[(Z 530),(Y 531)])]⟩)],⟨0,0⟩,⟨0,0⟩,none⟩
theorem g54x5:∀v:V,v.i 0=0→GOK1 tbl v 1 qBT:=bD bO (n:=1000) (Γ:=qN6) (hs:=hc54x5) (by kernel_rfl) rfl rfl rfl qL7
def qN5:List Con:=qBT::qN6
theorem qL6:∀v:V,v.i 0=0→GOK tbl v 1 qN5:=bC g54x5 qL7
def qK8:Hint:=.fkr 12
def qK7:Hint:=.fka 16
def qK6:Hint:=.fka 16
def qK5:Hint:=.fka 16
def hc54x6:Hs:=[qK8,qK7,qK6,qK5]
def qBS:Con:=⟨false,54,1,⟨664,[(O 228),(.agg [(Z 464),(Z 510),(Z 555),(Z 660)]),(Z 661)],([D 0 661 0,D 661 0 2,wGs,wEo,wDZ,D 100 510 0,D 138 555 0,D 62 464 0]++wJm++[wFO,wET,wD0,wDE,wDj,wC5,wD9]++wJW++[D 464 66 (-1),D 510 104 (-1),D 555 142 (-1),wFP,wD1,wHS,D 36 90 0,wEa]),[B 228 (ys 1 5++[(Z 662),(Y 663)])]⟩,[((Z 665),⟨666,[],(wJm++[D 0 665 0,D 665 90 (-1),D 665 0 X7]),[B 228 (ys 1 5++[(Z 662),(Y 663)])]⟩)],⟨0,0⟩,⟨0,0⟩,none⟩
theorem g54x6:∀v:V,v.i 0=0→GOK1 tbl v 1 qBS:=bD bO (n:=1000) (Γ:=qN5) (hs:=hc54x6) (by kernel_rfl) rfl rfl rfl qL6
def qN4:List Con:=qBS::qN5
theorem qL5:∀v:V,v.i 0=0→GOK tbl v 1 qN4:=bC g54x6 qL6
def qK4:Hint:=.fkr 12
def qK3:Hint:=.fka 16
def qK2:Hint:=.fka 16
def qK1:Hint:=.fka 16
def qK0:Hint:=.fka 16
def hc54x7:Hs:=[qK4,qK3,qK2,qK1,qK0]
def qBR:Con:=⟨false,54,1,⟨802,[(O 266),(.agg [(Z 553),(Z 601),(Z 648),(Z 694)]),(Z 799)],([D 0 799 0,D 799 0 3]++wJ4++[D 176 694 0,D 100 601 0,D 138 648 0,D 62 553 0,wA5]++wJm++wJY++[wD0,wDE,wDj,wC5,wD9,wBT]++wJW++[D 553 66 (-1),D 601 104 (-1),D 648 142 (-1),D 694 180 (-1),D 204 36 0,wFP,wD1,wHS,D 36 90 0,wEa]),[B 266 (ys 1 5++[(Z 800),(Y 801)])]⟩,[((Z 803),⟨804,[],([wA5]++wJm++[D 0 803 0,D 803 90 (-1),D 803 0 X7]),[B 266 (ys 1 5++[(Z 800),(Y 801)])]⟩)],⟨0,0⟩,⟨0,0⟩,none⟩
theorem g54x7:∀v:V,v.i 0=0→GOK1 tbl v 1 qBR:=bD bO (n:=1000) (Γ:=qN4) (hs:=hc54x7) (by kernel_rfl) rfl rfl rfl qL5
def qN3:List Con:=qBR::qN4
theorem qL4:∀v:V,v.i 0=0→GOK tbl v 1 qN3:=bC g54x7 qL5
def qJZ:Hint:=.inv ⟨459,([(Y 99),(Z 444),U,U,(Y 446),(Y 448),(Y 447),(Z 445),(Z 449)]++ys 450 8++[U,(Y 458)]),[D 0 449 0],[]⟩ ⟨445,0⟩ ⟨449,0⟩
def hc81x8:Hs:=[qJZ]
def qBQ:Con:=⟨false,81,1,⟨445,[(Y 99),(Z 444)],[D 0 444 X8,D 444 0 X7,D 0 440 X8,D 0 109 X8,D 0 104 X8,wGS,D 440 0 X7,.ty 99 (.lst [J] ⟨0,0⟩ ⟨0,1048576⟩),D 109 0 X7],[]⟩,[((Z 449),⟨460,[],[.len 99 445,D 0 445 0,D 449 445 (-1),D 449 0 X7,D 445 0 1048576,D 0 449 X8],[]⟩)],⟨0,0⟩,⟨0,0⟩,none⟩
theorem g81x8:∀v:V,v.i 0=0→GOK1 tbl v 1 qBQ:=bD bO (n:=1000) (Γ:=qN3) (hs:=hc81x8) (by kernel_rfl) rfl rfl rfl qL4
def qN2:List Con:=qBQ::qN3
theorem qL3:∀v:V,v.i 0=0→GOK tbl v 1 qN2:=bC g81x8 qL4
def qJY:Hint:=.inv ⟨279,(wAd 152 215 212 99),[D 0 226 0],[wBb,wBc,wEb,wDk]⟩ ⟨99,0⟩ ⟨226,0⟩
def qJX:Hint:=.cut ⟨315,(wJb++ys 269 10),[],[wDk,B 282 (zs 279 3),wBb,wBc,wEb]⟩
def qJW:Hint:=.cut ⟨318,(wJb++[(O 282),(Z 279),(.iptr 214 0 1 ⟨279,0⟩),(.iptr 214 0 1 ⟨279,0⟩),(Y 315),(Z 301),(Z 303),(Y 316),(Y 317),(Y 278)]),[.ty 317 .bool],[wDk,B 282 (zs 279 3),wBb,wBc,wEb]⟩
def qJV:Hint:=.cut ⟨327,(wAe 152 215 212 99 210),[],[wBb,wBc,wEb,wDk]⟩
def hc83x9:Hs:=[qJY,qJX,qJW,qJV]
def qBP:Con:=⟨false,83,1,⟨212,[(O 152),(.agg ([(Z 186)]++zs 207 3))],([D 0 210 X8,D 210 0 X7,D 7 186 1,D 99 0 X7,D 60 7 0,D 60 0 1]++wJ2++[D 186 66 (-1),wHS]),[B 152 (ys 1 5++[(Z 210),(Y 211)])]⟩,[((.bool false),⟨318,[],[wAy,.len 61 285,D 0 285 0,D 285 66 0,D 285 0 1048576,D 66 285 0],[B 152 (ys 1 5++[(Z 210),(Y 211)])]⟩),((.bool true),⟨279,[],[.row 3 ⟨0,0⟩ ([(Y 61)]++zs 62 3)],[B 152 (ys 1 5++[(Z 210),(Y 211)])]⟩)],⟨0,0⟩,⟨0,0⟩,none⟩
theorem g83x9:∀v:V,v.i 0=0→GOK1 tbl v 1 qBP:=bD bO (n:=1000) (Γ:=qN2) (hs:=hc83x9) (by kernel_rfl) rfl rfl rfl qL3
def qN1:List Con:=qBP::qN2
theorem qL2:∀v:V,v.i 0=0→GOK tbl v 1 qN1:=bC g83x9 qL3
def qE0:Hint:=.inv ⟨357,(wAd 190 293 290 137),[D 0 304 0],[wAX,wAY,wCc,wCU]⟩ ⟨137,0⟩ ⟨304,0⟩
def qDZ:Hint:=.cut ⟨384,(wAf 190 293 290 137 288),[D 0 378 0,D 378 0 X7,D 0 367 X8,D 367 0 1048575],[wIu,wAX,wAY,wCc,wCU]⟩
def qDY:Hint:=.cut ⟨399,(wAg 190 293 290 137 288),[],[wCU,wIu,wAX,wAY,wCc]⟩
def qDX:Hint:=.cut ⟨402,(wAh 190 293 290 137 288),[.ty 401 .bool],[wCU,wIu,wAX,wAY,wCc]⟩
def qDW:Hint:=.cut ⟨405,(wAe 190 293 290 137 288),[],[wAX,wAY,wCc,wCU]⟩
def qQZ:Hs:=[qE0,qDZ,qDY,qDX,qDW]
def wd:Con:=⟨false,83,1,⟨290,[(O 190),(.agg [(Z 224),(Z 266),(Z 286),(Z 287)])],([D 0 288 X8,D 288 0 X7,wEo,wDZ,D 137 0 X7,D 100 266 0,D 60 0 2,D 62 224 0,wAA,wAy,.len 4 137]++wJf++[wCM,wFQ,wAJ,wAE,wAz,D 224 66 (-1),D 266 104 (-1),wD1,wE5,D 36 128 0,wEa]),[B 190 (ys 1 5++[(Z 288),(Y 289)])]⟩,[((.bool false),⟨402,[],[wAA,wAy],[B 190 (ys 1 5++[(Z 288),(Y 289)])]⟩),((.bool true),⟨357,[],[wAA,wAy],[B 190 (ys 1 5++[(Z 288),(Y 289)])]⟩)],⟨0,0⟩,⟨0,0⟩,none⟩
theorem g83x10:∀v:V,v.i 0=0→GOK1 tbl v 1 wd:=bD bO (n:=1000) (Γ:=qN1) (hs:=qQZ) (by kernel_rfl) rfl rfl rfl qL2
def zG:List Con:=wd::qN1
theorem qAY:∀v:V,v.i 0=0→GOK tbl v 1 zG:=bC g83x10 qL2
def qDV:Hint:=.inv ⟨436,(wAd 228 372 369 175),[D 0 383 0],[wAZ,wA0,wCd,wCV]⟩ ⟨175,0⟩ ⟨383,0⟩
def qDU:Hint:=.cut ⟨463,(wAf 228 372 369 175 367),[D 0 457 0,D 457 0 X7,D 0 446 X8,D 446 0 1048575],[wIv,wAZ,wA0,wCd,wCV]⟩
def qDT:Hint:=.cut ⟨478,(wAg 228 372 369 175 367),[],[wCV,wIv,wAZ,wA0,wCd]⟩
def qDS:Hint:=.cut ⟨481,(wAh 228 372 369 175 367),[.ty 480 .bool],[wCV,wIv,wAZ,wA0,wCd]⟩
def qDR:Hint:=.cut ⟨484,(wAe 228 372 369 175 367),[],[wAZ,wA0,wCd,wCV]⟩
def qQY:Hs:=[qDV,qDU,qDT,qDS,qDR]
def wc:Con:=⟨false,83,1,⟨369,[(O 228),(.agg [(Z 262),(Z 305),(Z 347),(Z 366)])],([D 0 367 X8,D 367 0 X7,wGs,wEo,wDZ,D 175 0 X7,D 100 305 0,D 60 0 3,D 138 347 0,D 62 262 0]++wJm++[.len 4 175,wFO,wET]++wJf++[wCN,wFR]++wJW++[D 262 66 (-1),D 305 104 (-1),D 347 142 (-1)]++wJ7),[B 228 (ys 1 5++[(Z 367),(Y 368)])]⟩,[((.bool false),⟨481,[],(wJm),[B 228 (ys 1 5++[(Z 367),(Y 368)])]⟩),((.bool true),⟨436,[],(wJm),[B 228 (ys 1 5++[(Z 367),(Y 368)])]⟩)],⟨0,0⟩,⟨0,0⟩,none⟩
theorem g83x11:∀v:V,v.i 0=0→GOK1 tbl v 1 wc:=bD bO (n:=1000) (Γ:=zG) (hs:=qQY) (by kernel_rfl) rfl rfl rfl qAY
def zF:List Con:=wc::zG
theorem qAX:∀v:V,v.i 0=0→GOK tbl v 1 zF:=bC g83x11 qAY
def qDQ:Hint:=.inv ⟨516,(wAd 266 452 449 213),[D 0 463 0],[wA1,wA2,wCe,wCW]⟩ ⟨213,0⟩ ⟨463,0⟩
def qDP:Hint:=.cut ⟨543,(wAf 266 452 449 213 447),[D 0 537 0,D 537 0 X7,D 0 526 X8,D 526 0 1048575],[wIw,wA1,wA2,wCe,wCW]⟩
def qDO:Hint:=.cut ⟨558,(wAg 266 452 449 213 447),[],[wCW,wIw,wA1,wA2,wCe]⟩
def qDN:Hint:=.cut ⟨561,(wAh 266 452 449 213 447),[.ty 560 .bool],[wCW,wIw,wA1,wA2,wCe]⟩
def qDM:Hint:=.cut ⟨564,(wAe 266 452 449 213 447),[],[wA1,wA2,wCe,wCW]⟩
def qQX:Hs:=[qDQ,qDP,qDO,qDN,qDM]
def wb:Con:=⟨false,83,1,⟨449,[(O 266),(.agg [(Z 300),(Z 344),(Z 387),(Z 429)])],([D 0 447 X8,D 447 0 X7]++wJ4++[D 213 0 X7,D 176 429 0,D 100 344 0,D 60 0 4,D 138 387 0,D 62 300 0,wA5]++wJm++[.len 4 213]++wJY++wJf++[wCO,wFS,wBT]++wJW++[D 300 66 (-1),D 344 104 (-1),D 387 142 (-1),D 429 180 (-1)]++wJJ),[B 266 (ys 1 5++[(Z 447),(Y 448)])]⟩,[((.bool false),⟨561,[],([wA5]++wJm),[B 266 (ys 1 5++[(Z 447),(Y 448)])]⟩),((.bool true),⟨516,[],([wA5]++wJm),[B 266 (ys 1 5++[(Z 447),(Y 448)])]⟩)],⟨0,0⟩,⟨0,0⟩,none⟩
theorem g83x12:∀v:V,v.i 0=0→GOK1 tbl v 1 wb:=bD bO (n:=1000) (Γ:=zF) (hs:=qQX) (by kernel_rfl) rfl rfl rfl qAX
def zE:List Con:=wb::zF
theorem qAW:∀v:V,v.i 0=0→GOK tbl v 1 zE:=bC g83x12 qAX
end Cl
