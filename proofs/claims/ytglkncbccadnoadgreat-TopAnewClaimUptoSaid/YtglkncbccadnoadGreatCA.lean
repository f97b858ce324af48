/- A part of a proof. -/
import Derived.Test.YtglkncbccadnoadGreatLaw
import Derived.Test.YtglkncbccadnoadGreatNm
import Derived.KernelRfl
set_option maxRecDepth 1000000
namespace Cl
open Go Ce Ce.L Ce.S
def qKW:Hint:=.spl 56 4
def qKV:Hint:=.inl
def qKU:Hint:=.unroll
def qKT:Hint:=.inv ⟨71,[.nils,(Z 0),(Z 0),(Z 70),U,U,U,U,(.bool true),(.bool true),U,U,U,U,U,U,U,U,U,U,U,U,U,U,U,U,U,U,U,U,U,U,U,U,U,U,U,U,U,U,U,U,U,U,U,U,U,U,U,U,U,U,U,U,U,U,U,U,U,U,U,U,U,U,U,U,U,U,U,U,U,U,U,U,U,U,U,U,U,U,U,U,U,U,U,U,U,U,U,U,U,U,U,U,U,U,U,U,U,U,U,U,U,U,U,U,U,U,U,U,U,U,U,U,U,U,U,U,U,U,U,U,U,U,U,U,U,U,U,U,U,U,U,U],[],[B 6 (ys 1 5)]⟩ ⟨0,1⟩ ⟨0,0⟩
def qKS:Hint:=.unroll
def qKR:Hint:=.unroll
def qKQ:Hint:=.unroll
def qKP:Hint:=.unroll
def qKO:Hint:=.unroll
def qKN:Hint:=.unroll
def qFM:Hint:=.unroll
def qFL:Hint:=.unroll
def qFK:Hint:=.unroll
def qFJ:Hint:=.unroll
def qFI:Hint:=.unroll
def qFH:Hint:=.unroll
def qFG:Hint:=.unroll
def qFF:Hint:=.unroll
def qFE:Hint:=.unroll
def qFD:Hint:=.unroll
def qFC:Hint:=.unroll
def qFB:Hint:=.unroll
def qFA:Hint:=.unroll
def qF9:Hint:=.unroll
def qF8:Hint:=.unroll
def qF7:Hint:=.unroll
def qF6:Hint:=.unroll
def qF5:Hint:=.unroll
def qF4:Hint:=.unroll
def qF3:Hint:=.unroll
def qF2:Hint:=.unroll
def qF1:Hint:=.inl
def qF0:Hint:=.inv ⟨83,([(.yld 69),(Y 70),U,U,(Y 71),(Y 56),(Z 65),(Z 72)]++ys 73 8),[D 82 72 0,D 72 82 0,D 82 65 0,D 0 82 0],[.vec 81 1 [J] ⟨82,0⟩ false,.loop 69 0 69 [],B 68 [(.vec 1 81 ⟨82,0⟩)],B 6 (ys 1 5)]⟩ ⟨65,0⟩ ⟨72,0⟩
def qEZ:Hint:=.unroll
def hc43x0:Hs:=[qKW,qKV,qKU,qKT,qKS,qKR,qKQ,qKP,qKO,qKN,qFM,qFL,qFK,qFJ,qFI,qFH,qFG,qFF,qFE,qFD,qFC,qFB,qFA,qF9,qF8,qF7,qF6,qF5,qF4,qF3,qF2,qF1,qF0,qEZ]
def qBX:Con:=⟨false,43,1,⟨65,[(Z 61),(.agg ([(Y 56)]++zs 62 3)),(O 6)],[D 0 64 X8,D 64 0 X7,D 0 63 X8,D 63 0 X7,D 0 62 X8,D 62 0 X7,D 0 61 X8,D 61 0 X7,D 0 57 X8,D 0 58 X8,D 0 59 X8,D 0 55 X8,D 0 31 X8,D 0 7 X8,D 7 0 X7,D 55 0 X7,D 59 0 X7,wIy,wIz,wBY,wD8,D 31 0 X7],[B 6 (ys 1 5)]⟩,[((Z 92),⟨93,[],[D 0 92 (-1),D 92 0 X7,wBY,.len 56 65,D 0 70 X8,D 0 73 X8,D 0 76 X8,D 0 79 X8,D 0 89 0,D 0 65 0,D 79 0 X7,D 65 0 1048576,D 73 0 X7,D 89 0 1048576,D 76 0 X7,D 70 0 X7],[B 6 (ys 1 5)]⟩),((Z 0),⟨98,[],[.ty 56 (.lst [(.int .i64 ⟨0,0⟩ ⟨89,(-1)⟩)] ⟨0,0⟩ ⟨0,8⟩),.row 56 ⟨0,0⟩ [(Z 70)],wIA,.len 56 65,D 0 64 (-1),D 0 63 0,wDZ,D 0 70 0,D 0 73 0,D 0 76 0,D 0 79 0,D 0 89 0,D 0 65 (-1),D 63 65 (-1),D 79 89 (-1),D 79 0 X7,D 65 0 4,D 73 89 (-1),D 73 0 X7,D 89 0 1048576,D 64 0 99,D 76 89 (-1),D 76 0 X7,D 70 89 (-1),D 70 0 X7,D 62 63 0,D 62 65 (-1)],[B 6 (ys 1 5)]⟩)],⟨0,0⟩,⟨0,0⟩,none⟩
theorem g43x0:∀v:V,v.i 0=0→GOK1 tbl v 1 qBX:=bD bO (n:=1000) (Γ:=[]) (hs:=hc43x0) (by kernel_rfl) rfl rfl rfl qAV
def qN8:List Con:=qBX::[]
theorem qL9:∀v:V,v.i 0=0→GOK tbl v 1 qN8:=bC g43x0 qAV
def qKM:Hint:=.inv ⟨81,(wAa 58 48 4 57),[.pre 4 ⟨69,0⟩ [(.int .i64 ⟨0,0⟩ ⟨0,3⟩),(.int .i64 ⟨0,0⟩ ⟨55,(-1)⟩),J],wFV,D 0 69 0],[B 6 (ys 1 5)]⟩ ⟨56,0⟩ ⟨69,0⟩
def qKL:Hint:=.unroll
def qKK:Hint:=.unroll
def qKJ:Hint:=.inv ⟨110,([(Y 92),(Z 83),U,U,(Y 97),(Y 99),(Y 98),(Z 96),(Z 100)]++ys 101 8++[U,(Y 109)]),[D 0 100 0],[B 85 (zs 81 3),B 6 (ys 1 5)]⟩ ⟨96,0⟩ ⟨100,0⟩
def qKI:Hint:=.unroll
def hc47x1:Hs:=[qKM,qKL,qKK,qKJ,qKI]
def qBW:Con:=⟨false,47,1,⟨57,[(Y 4),(Z 56),(.clo 48 [] [(O 6)])],[D 0 56 X8,D 56 0 X7,D 0 55 0,D 0 31 X8,D 0 7 X8,D 7 0 X7,D 55 0 X7,wHq,wHr,wGp,wAz,wFC,D 31 0 X7],[B 6 (ys 1 5)]⟩,[((.tup [(Z 0),(I 0 3)]),⟨58,[],[.len 4 57,wHM,wI3,D 56 57 (-1)],[B 6 (ys 1 5)]⟩),((.tup [(Z 69),(Z 89)]),⟨90,[],[D 0 89 (-1),D 89 0 7,.len 4 57,D 0 69 0,wHM,D 57 56 0,wI3,D 69 57 (-1),D 69 0 X7,wFV],[B 6 (ys 1 5)]⟩),((.tup [(Z 0),(Z 0)]),⟨81,[],[.len 4 57,wHM,D 57 56 0,wI3,.ty 4 (.lst [(.int .i64 ⟨0,0⟩ ⟨0,3⟩),(.int .i64 ⟨0,0⟩ ⟨55,(-1)⟩),J] ⟨57,0⟩ ⟨57,0⟩),.pimp 4 ⟨57,0⟩ 0 2 2 ⟨0,0⟩ ⟨55,(-1)⟩],[B 6 (ys 1 5)]⟩)],⟨0,0⟩,⟨0,0⟩,none⟩
theorem g47x1:∀v:V,v.i 0=0→GOK1 tbl v 1 qBW:=bD bO (n:=1000) (Γ:=qN8) (hs:=hc47x1) (by kernel_rfl) rfl rfl rfl qL9
def qN7:List Con:=qBW::qN8
theorem qL8:∀v:V,v.i 0=0→GOK tbl v 1 qN7:=bC g47x1 qL9
def qKH:Hint:=.inv ⟨105,(wAa 82 51 5 81),[.pre 5 ⟨93,0⟩ [(.int .i64 ⟨0,0⟩ ⟨55,(-1)⟩),(.int .i64 ⟨0,0⟩ ⟨7,(-1)⟩),(.int .i64 ⟨0,0⟩ ⟨0,60⟩)],D 0 93 0],[B 6 (ys 1 5)]⟩ ⟨80,0⟩ ⟨93,0⟩
def qKG:Hint:=.unroll
def qKF:Hint:=.unroll
def qKE:Hint:=.unroll
def hc50x2:Hs:=[qKH,qKG,qKF,qKE]
def qBV:Con:=⟨false,50,1,⟨81,[(Y 5),(Z 80),(.clo 51 [] [(O 6)])],[D 0 80 X8,D 80 0 X7,D 0 56 0,D 0 55 0,wIo,wHN,D 7 0 X7,D 55 0 X7,D 56 0 X7,.len 4 56,wFW,wHq,wHr,wGp,wD8,wAz,wFD,D 31 0 X7],[B 6 (ys 1 5)]⟩,[((.tup [(Z 0),(I 0 3)]),⟨82,[],[.len 5 81,D 0 81 0,wI4,D 80 81 (-1)],[B 6 (ys 1 5)]⟩),((.tup [(Z 93),(Z 113)]),⟨114,[],[D 0 113 (-4),D 113 0 X7,.len 5 81,D 0 93 0,D 0 81 0,D 81 80 0,wI4,D 93 81 (-1),D 93 0 X7],[B 6 (ys 1 5)]⟩),((.tup [(Z 0),(Z 0)]),⟨105,[],[.len 5 81,D 0 81 0,D 81 80 0,wI4,.ty 5 (.lst [(.int .i64 ⟨0,0⟩ ⟨55,(-1)⟩),(.int .i64 ⟨0,0⟩ ⟨7,(-1)⟩),(.int .i64 ⟨0,0⟩ ⟨0,60⟩)] ⟨81,0⟩ ⟨81,0⟩)],[B 6 (ys 1 5)]⟩)],⟨0,0⟩,⟨0,0⟩,none⟩
theorem g50x2:∀v:V,v.i 0=0→GOK1 tbl v 1 qBV:=bD bO (n:=1000) (Γ:=qN7) (hs:=hc50x2) (by kernel_rfl) rfl rfl rfl qL8
def qCF:List Con:=qBV::qN7
theorem yT:∀v:V,v.i 0=0→GOK tbl v 1 qCF:=bC g50x2 qL8
def hc7x0:Hint:=.inv ⟨31,(wAa 8 36 1 7),[D 19 7 0,D 0 19 0,D 19 0 X7],[B 6 (ys 1 5)]⟩ ⟨7,0⟩ ⟨19,0⟩
def hc7x1:Hint:=.inv ⟨49,(wAb ),[D 39 7 0,D 39 35 0,D 0 39 0,D 39 0 X7],[B 6 (ys 1 5)]⟩ ⟨35,0⟩ ⟨39,0⟩
def hc7x2:Hint:=.inv ⟨55,(wAc ),[wFB,D 43 7 0,D 43 31 0,D 0 43 0,D 43 0 X7],[B 6 (ys 1 5)]⟩ ⟨31,0⟩ ⟨43,0⟩
def hc7x3:Hint:=.unroll
def hc7x4:Hint:=.unroll
def hc7:Hs:=[hc7x0,hc7x1,hc7x2,hc7x3,hc7x4]
def con7:Con:=⟨false,7,1,⟨6,[(.agg (ys 1 5))],[wD8,wBu,wAz,wFC,wFD],[]⟩,[((.tup [(Z 8),(Z 0),(Z 9)]),⟨10,[],[D 0 9 (-1),D 9 0 X7,D 0 8 (-1),D 8 0 X7,wGp,wHN,D 7 0 1048576],[]⟩),((.tup [(Z 35),(Z 19),(Z 34)]),⟨36,[],[D 0 35 (-1),wIB,D 0 34 (-1),D 34 0 X7,wGp,D 0 19 0,wHN,D 7 0 4,D 19 0 X7],[]⟩),((.tup [(Z 0),(Z 0),(Z 0)]),⟨256,[],([.row 3 ⟨0,3⟩ ([(Y 170)]++zs 171 3),wGo,wEC,wDx,.row 170 ⟨0,0⟩ [(Z 180)],wIm,wGq,wE2,.len 5 232,.len 4 208,.len 1 199,.len 170 175,.len 1 161,.len 132 137]++wJu++[D 0 232 0,D 0 208 0,D 0 173 (-1),D 0 172 0,D 0 171 0,D 0 180 0,D 0 199 0,D 0 175 (-1),D 0 55 (-4)]++wJN++wJo++wJt++[wIo,wHN,D 7 199 0,D 7 161 0]++wJh++[D 175 0 4,D 135 0 99,D 199 7 0,D 199 0 1048576,D 55 0 4,D 99 0 4,D 171 172 0,D 171 175 (-1),D 171 0 X7]++wJk++[D 173 0 99]++wJZ++[D 208 0 5,wI5,wGS,D 232 0 5,D 180 199 (-1),D 180 0 X7,D 172 175 (-1),D 172 0 X7,wIq,wGr]++wJU++[.ty 5 (.lst [(.int .i64 ⟨0,0⟩ ⟨55,(-1)⟩),(.int .i64 ⟨0,0⟩ ⟨199,(-1)⟩),(.int .i64 ⟨0,0⟩ ⟨0,60⟩)] ⟨232,0⟩ ⟨232,0⟩),.ty 4 (.lst [(.int .i64 ⟨0,0⟩ ⟨0,3⟩),(.int .i64 ⟨0,0⟩ ⟨55,(-1)⟩),J] ⟨208,0⟩ ⟨208,0⟩),.pimp 4 ⟨208,0⟩ 0 2 2 ⟨0,0⟩ ⟨55,(-1)⟩,.ty 170 (.lst [(.int .i64 ⟨0,0⟩ ⟨199,(-1)⟩)] ⟨0,0⟩ ⟨0,8⟩),.ty 170 (.lst [J] ⟨0,0⟩ ⟨0,1048576⟩),wDX,wF8,wCS,wEj,wBV,wBY,wBC]),[]⟩),((.tup [(Z 0),(Z 0),(Z 0)]),⟨218,[],([wGo,wEC,wDx,wIm,wGq,wE2,.len 5 194,.len 4 170,.len 1 161,.len 132 137]++wJu++[D 0 194 0,D 0 170 0]++wJN++[D 0 55 (-3)]++wJo++wJt++[wIo,wHN,D 7 161 0]++wJh++[D 135 0 99,D 55 0 3,D 99 0 4]++wJk++wJZ++[wI5,wGS,wIq,wGr,D 194 0 5,D 170 0 5]++wJU++[.ty 5 (.lst [(.int .i64 ⟨0,0⟩ ⟨55,(-1)⟩),(.int .i64 ⟨0,0⟩ ⟨161,(-1)⟩),(.int .i64 ⟨0,0⟩ ⟨0,60⟩)] ⟨194,0⟩ ⟨194,0⟩),.ty 4 (.lst [(.int .i64 ⟨0,0⟩ ⟨0,3⟩),(.int .i64 ⟨0,0⟩ ⟨55,(-1)⟩),J] ⟨170,0⟩ ⟨170,0⟩),.pimp 4 ⟨170,0⟩ 0 2 2 ⟨0,0⟩ ⟨55,(-1)⟩,wDX,wF8,wCS,wEj,wBV,wBY,wBC]),[]⟩),((.tup [(Z 0),(Z 0),(Z 0)]),⟨180,[],([wEC,wDx,wGq,wE2,.len 5 156,.len 4 132]++wJu++[D 0 156 0,D 0 132 0]++wJo++[D 0 55 (-2)]++wJt++[wIo,wHN]++wJh++[D 55 0 2,D 99 0 4,D 59 0 99,D 123 7 0,wIC,D 97 0 99,D 57 58 0,wIp,wIy,D 85 7 0,wHO]++wJZ++[wI5,wGS,D 132 0 5,D 156 0 5,wIq,wGr,wIr,wIz,.ty 5 (.lst [(.int .i64 ⟨0,0⟩ ⟨55,(-1)⟩),(.int .i64 ⟨0,0⟩ ⟨123,(-1)⟩),(.int .i64 ⟨0,0⟩ ⟨0,60⟩)] ⟨156,0⟩ ⟨156,0⟩),.ty 4 (.lst [(.int .i64 ⟨0,0⟩ ⟨0,3⟩),(.int .i64 ⟨0,0⟩ ⟨55,(-1)⟩),J] ⟨132,0⟩ ⟨132,0⟩),.pimp 4 ⟨132,0⟩ 0 2 2 ⟨0,0⟩ ⟨55,(-1)⟩,wCS,wEj,wBV,wBY,wBC]),[]⟩),((.tup [(Z 0),(Z 0),(Z 0)]),⟨142,[],([wDx,wE2,.len 5 118,.len 4 94,.len 1 85,.len 56 61,wHq,wHr,wGp,D 0 118 0,D 0 94 0]++wJt++[D 0 55 (-1),wIo,wHN,D 7 85 0,D 7 31 0,D 7 0 4,D 31 7 0,wGR,D 55 0 1,D 59 0 99,D 57 58 0,wIp,wIy,D 85 7 0,wHO,D 61 0 4,wIq,wGr,wIr,wIz,D 118 0 5,D 94 0 5,.ty 5 (.lst [(.int .i64 ⟨0,0⟩ ⟨55,(-1)⟩),(.int .i64 ⟨0,0⟩ ⟨85,(-1)⟩),(.int .i64 ⟨0,0⟩ ⟨0,60⟩)] ⟨118,0⟩ ⟨118,0⟩),.ty 4 (.lst [(.int .i64 ⟨0,0⟩ ⟨0,3⟩),(.int .i64 ⟨0,0⟩ ⟨55,(-1)⟩),J] ⟨94,0⟩ ⟨94,0⟩),.pimp 4 ⟨94,0⟩ 0 2 2 ⟨0,0⟩ ⟨55,(-1)⟩,wBV,wBY,wBC]),[]⟩),((.tup [(Z 0),(Z 0),(Z 0)]),⟨104,[],[.len 5 80,.len 4 56,wHq,wHr,wGp,D 0 80 0,D 0 56 0,D 0 55 0,wIo,wHN,D 7 31 0,D 7 0 4,D 31 7 0,wGR,D 55 0 0,D 80 0 5,D 56 0 5,.ty 5 (.lst [(.int .i64 ⟨0,0⟩ ⟨55,(-1)⟩),(.int .i64 ⟨0,0⟩ ⟨7,(-1)⟩),(.int .i64 ⟨0,0⟩ ⟨0,60⟩)] ⟨80,0⟩ ⟨80,0⟩),.ty 4 (.lst [(.int .i64 ⟨0,0⟩ ⟨0,3⟩),(.int .i64 ⟨0,0⟩ ⟨55,(-1)⟩),J] ⟨56,0⟩ ⟨56,0⟩),wFW,wBC],[]⟩)],⟨0,0⟩,⟨0,0⟩,none⟩
theorem g7:∀v:V,v.i 0=0→GOK1 tbl v 1 con7:=bD bO (n:=1000) (Γ:=qCF) (hs:=hc7) (by kernel_rfl) rfl rfl rfl yT
def G7:List Con:=con7::qCF
theorem gg7:∀v:V,v.i 0=0→GOK tbl v 1 G7:=bC g7 yT
end Cl
