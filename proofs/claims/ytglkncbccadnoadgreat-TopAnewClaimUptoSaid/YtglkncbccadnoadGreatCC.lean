/- A part of a proof. -/
import Derived.Test.YtglkncbccadnoadGreatCB
import Derived.KernelRfl
set_option maxRecDepth 1000000
namespace Cl
open Go Ce Ce.L Ce.S
def qEE:Hint:=.rng [.ret] ⟨258,[(.agg [(Z 257),(Z 0),(Z 0),(Z 0)])],[],[wDl,wG5,wID,wHs]⟩ [((.bool true),⟨258,[],[],[wDl,wG5,wID,wHs]⟩),((.bool false),⟨258,[],[],[wDl,.loop 158 1 158 [.ret],B 156 [(.bool true)]]⟩)]
def qED:Hint:=.inv ⟨206,(wAi 165 161),[D 62 189 0],[B 164 [(Z 62),(Z 63)],.blk 163 (.cells [(.clo 84 [] [(O 157),(O 161),(O 162),(O 160),(O 159),(O 163)])]) false,B 162 [(Z 205),(Z 0),(Z 0),(Z 0)],B 161 [(Z 204),(Z 0),(Z 0),(Z 0)],.blk 160 (.cells [(.clo 83 [(O 152)] [])]) false,B 159 [(.yld 158)],wG5,wID,wHs,wDl]⟩ ⟨66,0⟩ ⟨189,0⟩
def qR3:Hs:=[qEE,qED]
def wi:Con:=⟨false,64,1,⟨156,[(O 152)],([D 0 154 X8,D 154 0 X7,wDZ,D 0 7 (-1),D 7 60 0,wIx,D 99 0 X7,D 60 0 1,wGr]++wJ2++[wHS]),[B 152 (ys 1 5++[(Z 154),(Y 155)])]⟩,[((.bool true),⟨274,[],[wAy,wAy],[B 152 (ys 1 5++[(Z 154),(Y 155)])]⟩),((.bool false),⟨206,[],[.row 3 ⟨0,0⟩ ([(Y 61)]++zs 62 3)],[B 152 (ys 1 5++[(Z 154),(Y 155)])]⟩)],⟨0,0⟩,⟨0,0⟩,none⟩
theorem g64x13:∀v:V,v.i 0=0→GOK1 tbl v 1 wi:=bD bO (n:=1000) (Γ:=zE) (hs:=qR3) (by kernel_rfl) rfl rfl rfl qAW
def zK:List Con:=wi::zE
theorem qB2:∀v:V,v.i 0=0→GOK tbl v 1 zK:=bC g64x13 qAW
def qEC:Hint:=.rng [.ret] ⟨322,[(.agg [(Z 320),(Z 321),(Z 0),(Z 0)])],[],[wCX,wFt,wHA,wFF]⟩ [((.bool true),⟨322,[],[],[wCX,wFt,wHA,wFF]⟩),((.bool false),⟨322,[],[],[wCX,.loop 196 1 196 [.ret],B 194 [(.bool true)]]⟩)]
def qEB:Hint:=.inv ⟨246,(wAi 203 199),[D 242 227 0,D 0 245 0,D 245 0 X7,D 0 243 0,D 243 0 X7,D 0 242 1,D 242 0 X7,D 62 227 0],[B 202 [(Z 62),(Z 63)],wCB,B 200 [(Z 242),(Z 243),(Z 0),(Z 0)],B 199 [(Z 244),(Z 245),(Z 0),(Z 0)],wEU,B 197 [(.yld 196)],wFt,wHA,wFF,wCX]⟩ ⟨66,0⟩ ⟨227,0⟩
def qEA:Hint:=.inv ⟨289,([wDh,(Y 247),(O 199),(Y 248),(Y 249),(Y 250),(O 201),U,(Y 251),(O 246),(Z 271)]++ys 252 8++us 13++ys 260 11++ys 272 14),[D 0 288 0,D 288 0 X7,D 287 227 0,D 242 287 0,D 287 0 X7,D 0 286 0,D 286 0 X7,D 100 271 0],[B 246 [(Z 100),(Z 101)],B 202 [(Z 62),(Z 63)],wCB,B 200 [(Z 287),(Z 288),(Z 0),(Z 0)],B 199 [(Z 227),(Z 286),(Z 0),(Z 0)],wEU,B 197 [(.yld 196)],wFt,wHA,wFF,wCX]⟩ ⟨104,0⟩ ⟨271,0⟩
def qR2:Hs:=[qEC,qEB,qEA]
def wh:Con:=⟨false,64,1,⟨194,[(O 190)],([D 0 192 X8,D 192 0 X7,wEo,wDZ,D 0 7 (-2),D 7 60 0,wIx,D 137 0 X7,wI6,wGS,D 60 0 2,wGr,wAA,wAy,.len 4 137]++wJf++[wCM,wFQ,wAJ,wAE,.len 3 7,wAz,wD1,wE5,D 36 128 0,wEa]),[B 190 (ys 1 5++[(Z 192),(Y 193)])]⟩,[((.bool true),⟨357,[],[wAA,wAy,wAA,wAy],[B 190 (ys 1 5++[(Z 192),(Y 193)])]⟩),((.bool false),⟨246,[],[wAA,wAy],[B 190 (ys 1 5++[(Z 192),(Y 193)])]⟩)],⟨0,0⟩,⟨0,0⟩,none⟩
theorem g64x14:∀v:V,v.i 0=0→GOK1 tbl v 1 wh:=bD bO (n:=1000) (Γ:=zK) (hs:=qR2) (by kernel_rfl) rfl rfl rfl qB2
def zJ:List Con:=wh::zK
theorem qB1:∀v:V,v.i 0=0→GOK tbl v 1 zJ:=bC g64x14 qB2
def qE9:Hint:=.rng [.ret] ⟨311,[(.agg (zs 308 3++[(Z 0)]))],[],[wB7,wEn,wF9,wED]⟩ [((.bool true),⟨311,[],[],[wB7,wEn,wF9,wED]⟩),((.bool false),⟨311,[],[],[wB7,.loop 234 1 234 [.ret],B 232 [(.bool true)]]⟩)]
def qE8:Hint:=.inv ⟨286,(wAi 241 237),[D 0 285 0,D 285 0 X7,D 0 284 0,D 284 0 X7,D 0 283 0,D 283 0 X7,D 0 282 0,D 282 0 X7,D 281 265 0,D 0 281 1,D 62 265 0,D 265 0 X7],[wG6,wBD,B 238 (zs 281 3++[(Z 0)]),B 237 [(Z 280),(Z 284),(Z 285),(Z 0)],wDm,wHT,wEn,wF9,wED,wB7]⟩ ⟨66,0⟩ ⟨265,0⟩
def qE7:Hint:=.inv ⟨331,([wDh,(Y 287),(O 237),(Y 288),(Y 289),(Y 290),(O 239),U,(Y 291),(O 286),(Z 311)]++ys 292 8++us 13++ys 300 11++ys 312 14),[D 0 330 0,D 330 0 X7,D 0 329 0,D 329 0 X7,D 0 328 0,D 328 0 X7,D 327 265 0,D 281 327 0,D 0 326 0,D 326 0 X7,D 100 311 0],[B 286 [(Z 100),(Z 101)],wG6,wBD,B 238 (zs 327 3++[(Z 0)]),B 237 [(Z 265),(Z 326),(Z 330),(Z 0)],wDm,wHT,wEn,wF9,wED,wB7]⟩ ⟨104,0⟩ ⟨311,0⟩
def qE6:Hint:=.inv ⟨375,([wEQ,(Y 332),(O 237),(Y 333),(Y 334),(Y 335),(O 239),U,(Y 336),(O 331),(Z 356)]++ys 337 8++us 13++ys 345 11++ys 357 14),[D 0 374 0,D 374 0 X7,D 0 373 0,D 373 0 X7,D 372 265 0,D 327 372 0,D 0 371 0,D 371 0 X7,D 138 356 0],[B 331 [(Z 138),(Z 139)],B 286 [(Z 100),(Z 101)],wG6,wBD,B 238 (zs 372 3++[(Z 0)]),B 237 [(Z 265),(Z 311),(Z 371),(Z 0)],wDm,wHT,wEn,wF9,wED,wB7]⟩ ⟨142,0⟩ ⟨356,0⟩
def qR1:Hs:=[qE9,qE8,qE7,qE6]
def wg:Con:=⟨false,64,1,⟨232,[(O 228)],([D 0 230 X8,D 230 0 X7,wGs,wEo,wDZ,wIx,D 175 0 X7,D 139 142 (-1),wI6,wGS,D 60 0 3,wGr,D 142 0 X7,D 62 66 (-1)]++wJm++[.len 4 175,wFO,wET]++wJf++[wCN,wFR]++wJW++[D 62 60 0]++wJ7),[B 228 (ys 1 5++[(Z 230),(Y 231)])]⟩,[((.bool false),⟨347,[],([wAy]++wJm++[.len 61 314,D 0 314 0,D 0 60 0,D 66 314 0,D 314 66 0]),[B 228 (ys 1 5++[(Z 230),(Y 231)])]⟩),((.bool true),⟨308,[],([wAy]++wJm++[D 0 60 0]),[B 228 (ys 1 5++[(Z 230),(Y 231)])]⟩)],⟨0,0⟩,⟨0,0⟩,none⟩
theorem g64x15:∀v:V,v.i 0=0→GOK1 tbl v 1 wg:=bD bO (n:=1000) (Γ:=zJ) (hs:=qR1) (by kernel_rfl) rfl rfl rfl qB1
def zI:List Con:=wg::zJ
theorem qB0:∀v:V,v.i 0=0→GOK tbl v 1 zI:=bC g64x15 qB1
def qE5:Hint:=.rng [.ret] ⟨375,[(.agg (zs 371 4))],[],[wBS,wDF,wE6,wDW]⟩ [((.bool true),⟨375,[],[],[wBS,wDF,wE6,wDW]⟩),((.bool false),⟨375,[],[],[wBS,.loop 272 1 272 [.ret],B 270 [(.bool true)]]⟩)]
def qE4:Hint:=.inv ⟨326,(wAi 279 275),[D 0 325 0,D 325 0 X7,D 0 324 0,D 324 0 X7,D 0 323 0,D 323 0 X7,D 0 322 0,D 322 0 X7,D 0 321 0,D 321 0 X7,D 0 320 0,D 320 0 X7,D 319 303 0,D 0 319 1,D 319 0 X7,D 62 303 0],([wFu,wBg,B 276 (zs 319 4),B 275 ([(Z 318)]++zs 323 3)]++wJO)⟩ ⟨66,0⟩ ⟨303,0⟩
def qE3:Hint:=.inv ⟨373,([wDh,(Y 327),(O 275),(Y 328),(Y 329),(Y 330),(O 277),U,(Y 331),(O 326),(Z 351)]++ys 332 8++us 13++ys 340 11++ys 352 14),[D 0 372 0,D 372 0 X7,D 0 371 0,D 371 0 X7,D 0 370 0,D 370 0 X7,D 0 369 0,D 369 0 X7,D 0 368 0,D 368 0 X7,D 367 303 0,D 319 367 0,D 367 0 X7,D 0 366 0,D 366 0 X7,D 100 351 0],([wGu,wFu,wBg,B 276 (zs 367 4),B 275 [(Z 303),(Z 366),(Z 371),(Z 372)]]++wJO)⟩ ⟨104,0⟩ ⟨351,0⟩
def qE2:Hint:=.inv ⟨419,([wEQ,(Y 374),(O 275),(Y 375),(Y 376),(Y 377),(O 277),U,(Y 378),(O 373),(Z 398)]++ys 379 8++us 13++ys 387 11++ys 399 14),[D 0 418 0,D 418 0 X7,D 0 417 0,D 417 0 X7,D 0 416 0,D 416 0 X7,D 0 415 0,D 415 0 X7,D 414 303 0,D 367 414 0,D 414 0 X7,D 0 413 0,D 413 0 X7,D 138 398 0],([B 373 [(Z 138),(Z 139)],wGu,wFu,wBg,B 276 (zs 414 4),B 275 [(Z 303),(Z 351),(Z 413),(Z 418)]]++wJO)⟩ ⟨142,0⟩ ⟨398,0⟩
def qE1:Hint:=.inv ⟨464,([wIn,(Y 420),(O 275),(Y 421),(Y 422),(Y 423),(O 277),U,(Y 424),(O 419),(Z 444)]++ys 425 8++us 13++ys 433 11++ys 445 14),[D 0 463 0,D 463 0 X7,D 0 462 0,D 462 0 X7,D 0 461 0,D 461 0 X7,D 460 303 0,D 414 460 0,D 460 0 X7,D 0 459 0,D 459 0 X7,D 176 444 0],([B 419 [(Z 176),(Z 177)],B 373 [(Z 138),(Z 139)],wGu,wFu,wBg,B 276 (zs 460 4),B 275 [(Z 303),(Z 351),(Z 398),(Z 459)]]++wJO)⟩ ⟨180,0⟩ ⟨444,0⟩
def qR0:Hs:=[qE5,qE4,qE3,qE2,qE1]
def we:Con:=⟨false,64,1,⟨270,[(O 266)],([D 0 268 X8,D 268 0 X7]++wJ4++[wIx,D 139 142 (-1),D 177 180 (-1),wI6,D 213 0 X7,wGS,D 180 0 X7,D 60 0 4,wGr,D 142 0 X7,wA5]++wJm++[.len 4 213]++wJY++wJf++[.len 1 12,wCO,wFS,wBT]++wJW++wJJ++[D 12 60 0,D 0 12 (-1)]),[B 266 (ys 1 5++[(Z 268),(Y 269)])]⟩,[((.bool true),⟨394,[],([wAy,wA5]++wJm++[D 0 60 (-1)]),[B 266 (ys 1 5++[(Z 268),(Y 269)])]⟩),((.bool false),⟨326,[],([wA5]++wJm),[B 266 (ys 1 5++[(Z 268),(Y 269)])]⟩)],⟨0,0⟩,⟨0,0⟩,none⟩
theorem g64x16:∀v:V,v.i 0=0→GOK1 tbl v 1 we:=bD bO (n:=1000) (Γ:=zI) (hs:=qR0) (by kernel_rfl) rfl rfl rfl qB0
def zH:List Con:=we::zI
theorem qAZ:∀v:V,v.i 0=0→GOK tbl v 1 zH:=bC g64x16 qB0
def qEY:Hint:=.inv ⟨481,(wAj 152 385 384 123),[D 466 0 X7,D 0 466 X8,wIE],[wHK,wC6,wA3]⟩ ⟨123,0⟩ ⟨404,0⟩
def qEX:Hint:=.inv ⟨578,(wAk 152 488 384 123),[D 0 577 0],[wC6,B 484 (zs 481 3),wHK,wA3]⟩ ⟨123,0⟩ ⟨577,0⟩
def qRB:Hs:=[qEY,qEX]
def wu:Con:=⟨false,60,1,⟨384,[(O 152),(.agg ([(Z 374)]++zs 380 3))],[D 0 64 X8,D 0 63 X8,wDZ,D 123 0 X7,D 64 0 X7,D 60 0 1,D 62 374 0,wAy,wAy,wAy,.len 5 123,wDj,wC5,wEp,wD9,.ty 5 (.lst [(.int .i64 ⟨0,0⟩ ⟨60,(-1)⟩),(.int .i64 ⟨0,0⟩ ⟨90,(-1)⟩),(.int .i64 ⟨0,0⟩ ⟨0,60⟩)] ⟨123,0⟩ ⟨123,0⟩),wAE,wBu,D 374 66 (-1),D 62 0 X7,D 63 0 X7,wE5,wEa],[wC6,wA3]⟩,[((Z 385),⟨386,[],[wAy,wAy,wAy,D 0 385 X8,D 385 0 X7],[wC6,wA3]⟩)],⟨0,0⟩,⟨0,0⟩,none⟩
theorem g60x17:∀v:V,v.i 0=0→GOK1 tbl v 1 wu:=bD bO (n:=1000) (Γ:=zH) (hs:=qRB) (by kernel_rfl) rfl rfl rfl qAZ
def zR:List Con:=wu::zH
theorem qB9:∀v:V,v.i 0=0→GOK tbl v 1 zR:=bC g60x17 qAZ
def qEW:Hint:=.inv ⟨588,(wAj 190 492 491 161),[D 573 0 X7,D 0 573 X8,D 0 511 0],[wFG,wC7,wAU]⟩ ⟨161,0⟩ ⟨511,0⟩
def qEV:Hint:=.inv ⟨685,(wAk 190 595 491 161),[D 0 684 0],[wC7,B 591 (zs 588 3),wFG,wAU]⟩ ⟨161,0⟩ ⟨684,0⟩
def qRA:Hs:=[qEW,qEV]
def wt:Con:=⟨false,60,1,⟨491,[(O 190),(.agg [(Z 482),(Z 483),(Z 488),(Z 489)])],([wEo,wDZ,D 161 0 X7,D 100 483 0,D 60 0 2,D 62 482 0,wAA,wAy,wAA,wAy,wAA,wAy,.len 5 161]++wJf++[.ty 5 (.lst [(.int .i64 ⟨0,0⟩ ⟨60,(-1)⟩),(.int .i64 ⟨0,0⟩ ⟨128,(-1)⟩),(.int .i64 ⟨0,0⟩ ⟨0,60⟩)] ⟨161,0⟩ ⟨161,0⟩),wAJ,wAE,wBu,wAz,D 482 66 (-1),D 483 104 (-1),wD1,wE5,D 36 128 0,wEa]),[wC7,wAU]⟩,[((Z 492),⟨493,[],[wAA,wAy,wAA,wAy,wAA,wAy,D 0 492 X8,D 492 0 X7],[wC7,wAU]⟩)],⟨0,0⟩,⟨0,0⟩,none⟩
theorem g60x18:∀v:V,v.i 0=0→GOK1 tbl v 1 wt:=bD bO (n:=1000) (Γ:=zR) (hs:=qRA) (by kernel_rfl) rfl rfl rfl qB9
def zQ:List Con:=wt::zR
theorem qB8:∀v:V,v.i 0=0→GOK tbl v 1 zQ:=bC g60x18 qB9
def qEU:Hint:=.inv ⟨563,(wAj 228 467 466 199),[D 548 0 X7,D 0 548 X8,D 0 486 0],[wHL,wC8,wAO]⟩ ⟨199,0⟩ ⟨486,0⟩
def qET:Hint:=.inv ⟨660,(wAk 228 570 466 199),[D 0 659 0],[wC8,B 566 (zs 563 3),wHL,wAO]⟩ ⟨199,0⟩ ⟨659,0⟩
def qR9:Hs:=[qEU,qET]
def wq:Con:=⟨false,60,1,⟨466,[(O 228),(.agg (zs 458 3++[(Z 464)]))],([wGs,wEo,wDZ,D 199 0 X7,D 100 459 0,D 60 0 3,D 138 460 0,D 62 458 0,wAy]++wJm++wJm++[.len 5 199,wFO,wET]++wJf++[.ty 5 (.lst [(.int .i64 ⟨0,0⟩ ⟨60,(-1)⟩),(.int .i64 ⟨0,0⟩ ⟨166,(-1)⟩),(.int .i64 ⟨0,0⟩ ⟨0,60⟩)] ⟨199,0⟩ ⟨199,0⟩),wAW,wAJ,wAE,wBu,wAz,D 458 66 (-1),D 459 104 (-1),D 460 142 (-1)]++wJ7),[wC8,wAO]⟩,[((Z 467),⟨468,[],([wAy]++wJm++wJm++[D 0 467 X8,D 467 0 X7]),[wC8,wAO]⟩)],⟨0,0⟩,⟨0,0⟩,none⟩
theorem g60x19:∀v:V,v.i 0=0→GOK1 tbl v 1 wq:=bD bO (n:=1000) (Γ:=zQ) (hs:=qR9) (by kernel_rfl) rfl rfl rfl qB8
def zP:List Con:=wq::zQ
theorem qB7:∀v:V,v.i 0=0→GOK tbl v 1 zP:=bC g60x19 qB8
def qES:Hint:=.inv ⟨673,(wAj 266 577 576 237),[D 658 0 X7,D 0 658 X8,D 0 596 0],[B 576 (zs 569 4),wC9,wAM]⟩ ⟨237,0⟩ ⟨596,0⟩
def qER:Hint:=.inv ⟨770,(wAk 266 680 576 237),[D 0 769 0],[wC9,B 676 (zs 673 3),B 576 (zs 569 4),wAM]⟩ ⟨237,0⟩ ⟨769,0⟩
def qR8:Hs:=[qES,qER]
def wp:Con:=⟨false,60,1,⟨576,[(O 266),(.agg (zs 569 4))],(wJ4++[D 237 0 X7,D 176 572 0,D 100 570 0,D 60 0 4,D 138 571 0,D 62 569 0,wAy,wA5]++wJm++[wA5]++wJm++[.len 5 237]++wJY++wJf++[.ty 5 (.lst [(.int .i64 ⟨0,0⟩ ⟨60,(-1)⟩),(.int .i64 ⟨0,0⟩ ⟨204,(-1)⟩),(.int .i64 ⟨0,0⟩ ⟨0,60⟩)] ⟨237,0⟩ ⟨237,0⟩),wBT,wAW,wAJ,wAE,wBu,wAz,D 569 66 (-1),D 570 104 (-1),D 571 142 (-1),D 572 180 (-1)]++wJJ),[wC9,wAM]⟩,[((Z 577),⟨578,[],([wAy,wA5]++wJm++[wA5]++wJm++[D 0 577 X8,D 577 0 X7]),[wC9,wAM]⟩)],⟨0,0⟩,⟨0,0⟩,none⟩
theorem g60x20:∀v:V,v.i 0=0→GOK1 tbl v 1 wp:=bD bO (n:=1000) (Γ:=zP) (hs:=qR8) (by kernel_rfl) rfl rfl rfl qB7
def zO:List Con:=wp::zP
theorem qB6:∀v:V,v.i 0=0→GOK tbl v 1 zO:=bC g60x20 qB7
def qEQ:Hint:=.mkr [(.int .i64 ⟨0,0⟩ ⟨0,0⟩)]
def qEP:Hint:=.inv ⟨430,(wAl 405 407 406 122),[D 411 413 0,D 413 122 0,D 0 411 0],[wDG,wCl,wAN,B 403 [(Z 399)],B 402 ([(Z 390)]++zs 396 3),B 401 [(O 151)]]⟩ ⟨122,0⟩ ⟨413,0⟩
def qEO:Hint:=.inv ⟨443,(wAm 406 122 401),[D 433 122 0,D 0 433 0],[wDG,wCl,wAN,B 403 [(Z 399)],B 401 [(O 151)]]⟩ ⟨411,0⟩ ⟨433,0⟩
def qR7:Hs:=[qEQ,qEP,qEO]
def wn:Con:=⟨false,61,1,⟨401,[(O 151),(.agg ([(Z 390)]++zs 396 3)),(Z 399)],[D 0 122 0,D 0 63 X8,D 0 62 X8,D 0 61 0,D 63 0 X7,D 59 0 1,D 61 390 0,D 122 0 5,wAx,wAx,wAx,.len 5 122,wIA,.len 60 65,.len 3 59,.len 2 35,.ty 5 (.lst [(.int .i64 ⟨0,0⟩ ⟨59,(-1)⟩),(.int .i64 ⟨0,0⟩ ⟨89,(-1)⟩),(.int .i64 ⟨0,0⟩ ⟨0,60⟩)] ⟨122,0⟩ ⟨122,0⟩),wBW,wBu,D 390 65 (-1),D 61 0 X7,D 62 0 X7,D 89 35 0,wIB],[wCl,wAN]⟩,[((.bool true),⟨447,[],[wAx,wAx,wAx,wAx,wAx,wAx],[wCl,wAN]⟩),((.bool false),⟨443,[],[wAx,wAx,wAx,wAx,wAx,wAx],[wCl,wAN]⟩)],⟨0,0⟩,⟨0,0⟩,none⟩
theorem g61x21:∀v:V,v.i 0=0→GOK1 tbl v 1 wn:=bD bO (n:=1000) (Γ:=zO) (hs:=qR7) (by kernel_rfl) rfl rfl rfl qB6
def zN:List Con:=wn::zO
theorem qB5:∀v:V,v.i 0=0→GOK tbl v 1 zN:=bC g61x21 qB6
def qEN:Hint:=.mkr [(.int .i64 ⟨0,0⟩ ⟨0,0⟩)]
def qEM:Hint:=.inv ⟨537,(wAl 512 514 513 160),[D 518 520 0,D 520 160 0,D 0 518 0],[wDH,wCm,wAK,B 510 [(Z 506)],B 509 [(Z 498),(Z 499),(Z 504),(Z 505)],B 508 [(O 189)]]⟩ ⟨160,0⟩ ⟨520,0⟩
def qEL:Hint:=.inv ⟨550,(wAm 513 160 508),[D 540 160 0,D 0 540 0],[wDH,wCm,wAK,B 510 [(Z 506)],B 508 [(O 189)]]⟩ ⟨518,0⟩ ⟨540,0⟩
def qR6:Hs:=[qEN,qEM,qEL]
def wm:Con:=⟨false,61,1,⟨508,[(O 189),(.agg [(Z 498),(Z 499),(Z 504),(Z 505)]),(Z 506)],([D 0 160 0,D 0 99 0,D 0 61 0,D 99 499 0,D 59 0 2,D 61 498 0,D 160 0 5]++wJg++[.len 5 160]++wJs++[.ty 5 (.lst [(.int .i64 ⟨0,0⟩ ⟨59,(-1)⟩),(.int .i64 ⟨0,0⟩ ⟨127,(-1)⟩),(.int .i64 ⟨0,0⟩ ⟨0,60⟩)] ⟨160,0⟩ ⟨160,0⟩),wCY,wBW,wBu,wAz,D 498 65 (-1),D 499 103 (-1),D 127 35 0,D 89 35 0,D 35 127 0,wIB]),[wCm,wAK]⟩,[((.bool true),⟨554,[],(wJg++wJg),[wCm,wAK]⟩),((.bool false),⟨550,[],(wJg++wJg),[wCm,wAK]⟩)],⟨0,0⟩,⟨0,0⟩,none⟩
theorem g61x22:∀v:V,v.i 0=0→GOK1 tbl v 1 wm:=bD bO (n:=1000) (Γ:=zN) (hs:=qR6) (by kernel_rfl) rfl rfl rfl qB5
def zM:List Con:=wm::zN
theorem qB4:∀v:V,v.i 0=0→GOK tbl v 1 zM:=bC g61x22 qB5
def qEK:Hint:=.mkr [(.int .i64 ⟨0,0⟩ ⟨0,0⟩)]
def qEJ:Hint:=.inv ⟨512,(wAl 487 489 488 198),[D 493 495 0,D 495 198 0,D 0 493 0],[wDI,wCn,wAH,B 485 [(Z 481)],B 484 (zs 474 3++[(Z 480)]),B 483 [(O 227)]]⟩ ⟨198,0⟩ ⟨495,0⟩
def qEI:Hint:=.inv ⟨525,(wAm 488 198 483),[D 515 198 0,D 0 515 0],[wDI,wCn,wAH,B 485 [(Z 481)],B 483 [(O 227)]]⟩ ⟨493,0⟩ ⟨515,0⟩
def qR5:Hs:=[qEK,qEJ,qEI]
def wl:Con:=⟨false,61,1,⟨483,[(O 227),(.agg (zs 474 3++[(Z 480)])),(Z 481)],([D 0 198 0,D 0 137 0,D 0 99 0,D 0 61 0,D 99 475 0,D 59 0 3,D 137 476 0,D 61 474 0,D 198 0 5]++wJw++[.len 5 198,.len 1 165,.len 136 141]++wJs++[.ty 5 (.lst [(.int .i64 ⟨0,0⟩ ⟨59,(-1)⟩),(.int .i64 ⟨0,0⟩ ⟨165,(-1)⟩),(.int .i64 ⟨0,0⟩ ⟨0,60⟩)] ⟨198,0⟩ ⟨198,0⟩),wDY,wCY,wBW,wBu,wAz,D 474 65 (-1),D 475 103 (-1),D 476 141 (-1),D 165 35 0,D 127 35 0,D 89 35 0,D 35 165 0,wIB]),[wCn,wAH]⟩,[((.bool true),⟨529,[],(wJw++wJw),[wCn,wAH]⟩),((.bool false),⟨525,[],(wJw++wJw),[wCn,wAH]⟩)],⟨0,0⟩,⟨0,0⟩,none⟩
theorem g61x23:∀v:V,v.i 0=0→GOK1 tbl v 1 wl:=bD bO (n:=1000) (Γ:=zM) (hs:=qR5) (by kernel_rfl) rfl rfl rfl qB4
def zL:List Con:=wl::zM
theorem qB3:∀v:V,v.i 0=0→GOK tbl v 1 zL:=bC g61x23 qB4
def qEH:Hint:=.mkr [(.int .i64 ⟨0,0⟩ ⟨0,0⟩)]
def qEG:Hint:=.inv ⟨622,(wAl 597 599 598 236),[D 603 605 0,D 605 236 0,D 0 603 0],[wDJ,wCo,wAG,B 595 [(Z 591)],B 594 (zs 585 4),B 593 [(O 265)]]⟩ ⟨236,0⟩ ⟨605,0⟩
def qEF:Hint:=.inv ⟨635,(wAm 598 236 593),[D 625 236 0,D 0 625 0],[wDJ,wCo,wAG,B 595 [(Z 591)],B 593 [(O 265)]]⟩ ⟨603,0⟩ ⟨625,0⟩
def qR4:Hs:=[qEH,qEG,qEF]
def wj:Con:=⟨false,61,1,⟨593,[(O 265),(.agg (zs 585 4)),(Z 591)],([D 0 236 0,D 0 175 0,D 0 137 0,D 0 99 0,D 0 61 0,D 175 588 0,D 99 586 0,D 59 0 4,D 137 587 0,D 61 585 0,D 236 0 5]++wJL++[.len 5 236,.len 1 203,.len 174 179,.len 1 165,.len 136 141]++wJs++[.ty 5 (.lst [(.int .i64 ⟨0,0⟩ ⟨59,(-1)⟩),(.int .i64 ⟨0,0⟩ ⟨203,(-1)⟩),(.int .i64 ⟨0,0⟩ ⟨0,60⟩)] ⟨236,0⟩ ⟨236,0⟩),.ty 174 (.lst [(.int .i64 ⟨0,0⟩ ⟨203,(-1)⟩)] ⟨0,0⟩ ⟨0,8⟩),wDY,wCY,wBW,wBu,wAz,D 585 65 (-1),D 586 103 (-1),D 587 141 (-1),D 588 179 (-1),D 203 35 0,D 165 35 0,D 127 35 0,D 89 35 0,D 35 203 0,wIB]),[wCo,wAG]⟩,[((.bool true),⟨639,[],(wJL++wJL),[wCo,wAG]⟩),((.bool false),⟨635,[],(wJL++wJL),[wCo,wAG]⟩)],⟨0,0⟩,⟨0,0⟩,none⟩
theorem g61x24:∀v:V,v.i 0=0→GOK1 tbl v 1 wj:=bD bO (n:=1000) (Γ:=zL) (hs:=qR4) (by kernel_rfl) rfl rfl rfl qB3
def an:List Con:=wj::zL
theorem aY:∀v:V,v.i 0=0→GOK tbl v 1 an:=bC g61x24 qB3
end Cl
