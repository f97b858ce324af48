/- A part of a proof. -/
import Derived.Test.YtglkncbccadnoadGreatLxA
import Derived.Test.YtglkncbccadnoadGreatTab
import Derived.KernelRfl
import Derived.Shelf.Sort.Plain
import Derived.Test.YtglkncbccadnoadGreatChecked
import Derived.Test.YtglkncbccadnoadGreatRows
set_option linter.unusedVariables false
set_option linter.unusedSimpArgs false
set_option maxRecDepth 1000000
namespace Ce
open Go Go.Shelf Go.Sort Go.Proofs
variable {P:Program} {ρ:Ren}
theorem qGT(Ly:Lays.n189 P ρ):oi P (ρ.f 189):=by
 intro blk off cap zs w arr e ho hsz h62 hat
 have hlt:blk < w.heap.size:=(gJ.1 ho).1;have hH:Holds (Value.int .i64) w blk off zs.toArray:=by
  intro j hj;have hj':j < zs.length:=by simpa using hj
  have h1:=hat j zs[j] (by simp [hj']);have h2:(zs.toArray)[j]! = zs[j]:=by simp [hj']
  refine ⟨?_,?_⟩
  ·rw [h2];unfold World.cell?;simp [ho,h1]
  ·unfold World.frozen?;simp [ho]
 refine (Go.Proofs.Any.slices_Sort_int Ly blk off cap zs w hH hlt h62).mono ?_;rintro r w' ⟨rfl,n,os,rfl⟩;have hms:(zs.mergeSort fun x y=>decide (x≤y)).length=zs.length:=List.length_mergeSort _;have hh:(grow (putRow (Value.int .i64) (Sort.ahead w n) blk off (zs.mergeSort fun x y=>decide (x≤y)).toArray) os).heap=w.heap.modify blk (onCells (putCells (Value.int .i64) off (zs.mergeSort fun x y=>decide (x≤y)).toArray))++os:=rfl;refine ⟨rfl,rfl,rfl,by rw [hh]; simp,fun b hb hne=>?_,putCells (Value.int .i64) off (zs.mergeSort fun x y=>decide (x≤y)).toArray arr,?_,?_,?_,?_⟩
 ·rw [hh,Array.getElem?_append_left (by simpa using hb),Array.getElem?_modify,aC (Ne.symm hne)]
 ·rw [hh,Array.getElem?_append_left (by simpa using hlt),Array.getElem?_modify,aH rfl,ho];rfl
 ·simp [putCells]
 ·intro i hi;simp only [putCells,Array.getElem?_mapIdx,List.size_toArray,hms];cases arr[i]? with
  | none=>rfl
  | some x=>simp only [dh]; rw [aC (by omega)]
 ·intro j z hj;have hjl:j < (zs.mergeSort fun x y=>decide (x≤y)).length:=(fU.1 hj).1;have hja:off+j < arr.size:=by omega
  simp only [putCells,Array.getElem?_mapIdx,List.size_toArray,hms];rw [xK hja];simp only [dh];rw [aH (by omega)];have h2:off+j - off=j:=by omega
  rw [h2];have h3:((zs.mergeSort fun x y=>decide (x≤y)).toArray)[j]! = z:=by
   rw [List.getElem!_toArray];simp [hj]
  rw [h3]
end Ce
namespace Go.Proofs.YtglkncbccadnoadGreat
open Go Ce Ce.L Go.Shelf
def aN:Ren:={ f:=fun n=>match n with | 189=>79 | 125=>100 | 257=>99 | 128=>112 | 129=>113 | 294=>103 | 295=>104 | 296=>105 | 297=>106 | 298=>107 | 299=>108 | 216=>109 | 300=>110 | 301=>111 | 328=>118 | 329=>119 | 330=>120 | 331=>121 | 332=>122 | 215=>102 | 343=>123 | _=>0,t:=fun n=>match n with | 28=>23 | 3=>3 | 46=>136 | 0=>0 | 51=>150 | 53=>152 | 4=>4 | 183=>144 | 182=>143 | 131=>122 | 5=>5 | 9=>9 | 218=>153 | 222=>121 | 228=>158 | 229=>98 | _=>0,g:=fun n=>n }
theorem qGV:Tryz.prog.follows .mixedOrders=true:=by kernel_rfl
theorem qOV:Tryz.prog.funcs[aN.f 125]?=some (Body.n125 aN):=Tryz.func100.trans (congrArg some (by kernel_rfl))
theorem qOU:Tryz.prog.funcs[aN.f 128]?=some (Body.n128 aN):=Tryz.func112.trans (congrArg some (by kernel_rfl))
theorem qOT:Tryz.prog.funcs[aN.f 129]?=some (Body.n129 aN):=Tryz.func113.trans (congrArg some (by kernel_rfl))
theorem qOS:Tryz.prog.funcs[aN.f 189]?=some (Body.n189 aN):=Tryz.func79.trans (congrArg some (by kernel_rfl))
theorem qOR:Tryz.prog.funcs[aN.f 215]?=some (Body.n215 aN):=Tryz.func102.trans (congrArg some (by kernel_rfl))
theorem qOQ:Tryz.prog.funcs[aN.f 216]?=some (Body.n216 aN):=Tryz.func109.trans (congrArg some (by kernel_rfl))
theorem qOP:Tryz.prog.funcs[aN.f 257]?=some (Body.n257 aN):=Tryz.func99.trans (congrArg some (by kernel_rfl))
theorem qOO:Tryz.prog.funcs[aN.f 294]?=some (Body.n294 aN):=Tryz.func103.trans (congrArg some (by kernel_rfl))
theorem qON:Tryz.prog.funcs[aN.f 295]?=some (Body.n295 aN):=Tryz.func104.trans (congrArg some (by kernel_rfl))
theorem qOM:Tryz.prog.funcs[aN.f 296]?=some (Body.n296 aN):=Tryz.func105.trans (congrArg some (by kernel_rfl))
theorem qOL:Tryz.prog.funcs[aN.f 297]?=some (Body.n297 aN):=Tryz.func106.trans (congrArg some (by kernel_rfl))
theorem qOK:Tryz.prog.funcs[aN.f 298]?=some (Body.n298 aN):=Tryz.func107.trans (congrArg some (by kernel_rfl))
theorem qOJ:Tryz.prog.funcs[aN.f 299]?=some (Body.n299 aN):=Tryz.func108.trans (congrArg some (by kernel_rfl))
theorem qOI:Tryz.prog.funcs[aN.f 300]?=some (Body.n300 aN):=Tryz.func110.trans (congrArg some (by kernel_rfl))
theorem qOH:Tryz.prog.funcs[aN.f 301]?=some (Body.n301 aN):=Tryz.func111.trans (congrArg some (by kernel_rfl))
theorem qOG:Tryz.prog.funcs[aN.f 328]?=some (Body.n328 aN):=Tryz.func118.trans (congrArg some (by kernel_rfl))
theorem qOF:Tryz.prog.funcs[aN.f 329]?=some (Body.n329 aN):=Tryz.func119.trans (congrArg some (by kernel_rfl))
theorem qOE:Tryz.prog.funcs[aN.f 330]?=some (Body.n330 aN):=Tryz.func120.trans (congrArg some (by kernel_rfl))
theorem qOD:Tryz.prog.funcs[aN.f 331]?=some (Body.n331 aN):=Tryz.func121.trans (congrArg some (by kernel_rfl))
theorem qOC:Tryz.prog.funcs[aN.f 332]?=some (Body.n332 aN):=Tryz.func122.trans (congrArg some (by kernel_rfl))
theorem qOB:Tryz.prog.funcs[aN.f 343]?=some (Body.n343 aN):=Tryz.func123.trans (congrArg some (by kernel_rfl))
theorem sh_t0:Tryz.prog.underlying (aN.t 0)=some (TypeDesc.tuple #[]):=Tryz.underlying0
theorem sh_a0:∀w,(isAgg (aN.t 0)).run Tryz.prog w=.ok false w:=Tryz.isAgg0
theorem sh_z0:∀w,(Go.sizeOf (aN.t 0)).run Tryz.prog w=.ok 1 w:=Tryz.sizeOf0
theorem sh_v0:∀w,(zeroValue (aN.t 0)).run Tryz.prog w=.ok (Value.tuple #[]) w:=Tryz.zeroValue0
theorem sh_t3:Tryz.prog.underlying (aN.t 3)=some (TypeDesc.int IntKind.i64):=Tryz.underlying3
theorem sh_a3:∀w,(isAgg (aN.t 3)).run Tryz.prog w=.ok false w:=Tryz.isAgg3
theorem sh_z3:∀w,(Go.sizeOf (aN.t 3)).run Tryz.prog w=.ok 1 w:=Tryz.sizeOf3
theorem sh_v3:∀w,(zeroValue (aN.t 3)).run Tryz.prog w=.ok (Value.int IntKind.i64 0) w:=Tryz.zeroValue3
theorem sh_t4:Tryz.prog.underlying (aN.t 4)=some (TypeDesc.bool):=Tryz.underlying4
theorem sh_a4:∀w,(isAgg (aN.t 4)).run Tryz.prog w=.ok false w:=Tryz.isAgg4
theorem sh_z4:∀w,(Go.sizeOf (aN.t 4)).run Tryz.prog w=.ok 1 w:=Tryz.sizeOf4
theorem sh_v4:∀w,(zeroValue (aN.t 4)).run Tryz.prog w=.ok (Value.bool false) w:=Tryz.zeroValue4
theorem sh_t5:Tryz.prog.underlying (aN.t 5)=some (TypeDesc.int IntKind.u8):=Tryz.underlying5
theorem sh_a5:∀w,(isAgg (aN.t 5)).run Tryz.prog w=.ok false w:=Tryz.isAgg5
theorem sh_z5:∀w,(Go.sizeOf (aN.t 5)).run Tryz.prog w=.ok 1 w:=Tryz.sizeOf5
theorem sh_v5:∀w,(zeroValue (aN.t 5)).run Tryz.prog w=.ok (Value.int IntKind.u8 0) w:=Tryz.zeroValue5
theorem sh_t9:Tryz.prog.underlying (aN.t 9)=some (TypeDesc.string):=Tryz.underlying9
theorem sh_a9:∀w,(isAgg (aN.t 9)).run Tryz.prog w=.ok false w:=Tryz.isAgg9
theorem sh_z9:∀w,(Go.sizeOf (aN.t 9)).run Tryz.prog w=.ok 1 w:=Tryz.sizeOf9
theorem sh_v9:∀w,(zeroValue (aN.t 9)).run Tryz.prog w=.ok (Value.string { data:=#[] }) w:=Tryz.zeroValue9
theorem sh_t28:Tryz.prog.underlying (aN.t 28)=some (TypeDesc.slice (aN.t 3)):=Tryz.underlying23
theorem sh_a28:∀w,(isAgg (aN.t 28)).run Tryz.prog w=.ok false w:=Tryz.isAgg23
theorem sh_z28:∀w,(Go.sizeOf (aN.t 28)).run Tryz.prog w=.ok 1 w:=Tryz.sizeOf23
theorem sh_v28:∀w,(zeroValue (aN.t 28)).run Tryz.prog w=.ok (Value.slice none 0 0) w:=Tryz.zeroValue23
theorem sh_t46:Tryz.prog.underlying (aN.t 46)=some (TypeDesc.int IntKind.u64):=Tryz.underlying136
theorem sh_a46:∀w,(isAgg (aN.t 46)).run Tryz.prog w=.ok false w:=Tryz.isAgg136
theorem sh_z46:∀w,(Go.sizeOf (aN.t 46)).run Tryz.prog w=.ok 1 w:=Tryz.sizeOf136
theorem sh_v46:∀w,(zeroValue (aN.t 46)).run Tryz.prog w=.ok (Value.int IntKind.u64 0) w:=Tryz.zeroValue136
theorem sh_t51:Tryz.prog.underlying (aN.t 51)=some (TypeDesc.int IntKind.u32):=Tryz.underlying150
theorem sh_a51:∀w,(isAgg (aN.t 51)).run Tryz.prog w=.ok false w:=Tryz.isAgg150
theorem sh_z51:∀w,(Go.sizeOf (aN.t 51)).run Tryz.prog w=.ok 1 w:=Tryz.sizeOf150
theorem sh_v51:∀w,(zeroValue (aN.t 51)).run Tryz.prog w=.ok (Value.int IntKind.u32 0) w:=Tryz.zeroValue150
theorem sh_t53:Tryz.prog.underlying (aN.t 53)=some (TypeDesc.int IntKind.u64):=Tryz.underlying152
theorem sh_a53:∀w,(isAgg (aN.t 53)).run Tryz.prog w=.ok false w:=Tryz.isAgg152
theorem sh_z53:∀w,(Go.sizeOf (aN.t 53)).run Tryz.prog w=.ok 1 w:=Tryz.sizeOf152
theorem sh_v53:∀w,(zeroValue (aN.t 53)).run Tryz.prog w=.ok (Value.int IntKind.u64 0) w:=Tryz.zeroValue152
theorem qOA:Tryz.prog.underlying (aN.t 131)=some (TypeDesc.tuple #[aN.t 3,aN.t 4]):=Tryz.underlying122
theorem qP2:∀w,(isAgg (aN.t 131)).run Tryz.prog w=.ok false w:=Tryz.isAgg122
theorem qNW:∀w,(Go.sizeOf (aN.t 131)).run Tryz.prog w=.ok 1 w:=Tryz.sizeOf122
theorem qO3:∀w,(zeroValue (aN.t 131)).run Tryz.prog w=.ok (Value.tuple #[Value.int IntKind.i64 0,Value.bool false]) w:=Tryz.zeroValue122
theorem qO9:Tryz.prog.underlying (aN.t 182)=some (TypeDesc.int IntKind.i64):=Tryz.underlying143
theorem qP1:∀w,(isAgg (aN.t 182)).run Tryz.prog w=.ok false w:=Tryz.isAgg143
theorem qNV:∀w,(Go.sizeOf (aN.t 182)).run Tryz.prog w=.ok 1 w:=Tryz.sizeOf143
theorem qO2:∀w,(zeroValue (aN.t 182)).run Tryz.prog w=.ok (Value.int IntKind.i64 0) w:=Tryz.zeroValue143
theorem qO8:Tryz.prog.underlying (aN.t 183)=some (TypeDesc.tuple #[aN.t 3,aN.t 182]):=Tryz.underlying144
theorem qP0:∀w,(isAgg (aN.t 183)).run Tryz.prog w=.ok false w:=Tryz.isAgg144
theorem qNU:∀w,(Go.sizeOf (aN.t 183)).run Tryz.prog w=.ok 1 w:=Tryz.sizeOf144
theorem qO1:∀w,(zeroValue (aN.t 183)).run Tryz.prog w=.ok (Value.tuple #[Value.int IntKind.i64 0,Value.int IntKind.i64 0]) w:=Tryz.zeroValue144
theorem qO7:Tryz.prog.underlying (aN.t 218)=some (TypeDesc.int IntKind.u64):=Tryz.underlying153
theorem qOZ:∀w,(isAgg (aN.t 218)).run Tryz.prog w=.ok false w:=Tryz.isAgg153
theorem qNT:∀w,(Go.sizeOf (aN.t 218)).run Tryz.prog w=.ok 1 w:=Tryz.sizeOf153
theorem qO0:∀w,(zeroValue (aN.t 218)).run Tryz.prog w=.ok (Value.int IntKind.u64 0) w:=Tryz.zeroValue153
theorem qO6:Tryz.prog.underlying (aN.t 222)=some (TypeDesc.pointer (aN.t 3)):=Tryz.underlying121
theorem qOY:∀w,(isAgg (aN.t 222)).run Tryz.prog w=.ok false w:=Tryz.isAgg121
theorem qNS:∀w,(Go.sizeOf (aN.t 222)).run Tryz.prog w=.ok 1 w:=Tryz.sizeOf121
theorem qNZ:∀w,(zeroValue (aN.t 222)).run Tryz.prog w=.ok (Value.pointer none) w:=Tryz.zeroValue121
theorem qO5:Tryz.prog.underlying (aN.t 228)=some (TypeDesc.pointer (aN.t 218)):=Tryz.underlying158
theorem qOX:∀w,(isAgg (aN.t 228)).run Tryz.prog w=.ok false w:=Tryz.isAgg158
theorem qNR:∀w,(Go.sizeOf (aN.t 228)).run Tryz.prog w=.ok 1 w:=Tryz.sizeOf158
theorem qNY:∀w,(zeroValue (aN.t 228)).run Tryz.prog w=.ok (Value.pointer none) w:=Tryz.zeroValue158
theorem qO4:Tryz.prog.underlying (aN.t 229)=some (TypeDesc.tuple #[aN.t 3,aN.t 3]):=Tryz.underlying98
theorem qOW:∀w,(isAgg (aN.t 229)).run Tryz.prog w=.ok false w:=Tryz.isAgg98
theorem qNQ:∀w,(Go.sizeOf (aN.t 229)).run Tryz.prog w=.ok 1 w:=Tryz.sizeOf98
theorem qNX:∀w,(zeroValue (aN.t 229)).run Tryz.prog w=.ok (Value.tuple #[Value.int IntKind.i64 0,Value.int IntKind.i64 0]) w:=Tryz.zeroValue98
theorem shLays:Lays.n189 Tryz.prog aN:=⟨qGV,qOV,qOU,qOT,qOS,qOR,qOQ,qOP,qOO,qON,qOM,qOL,qOK,qOJ,qOI,qOH,qOG,qOF,qOE,qOD,qOC,qOB,sh_t0,sh_a0,sh_z0,sh_v0,sh_t3,sh_a3,sh_z3,sh_v3,sh_t4,sh_a4,sh_z4,sh_v4,sh_t5,sh_a5,sh_z5,sh_v5,sh_t9,sh_a9,sh_z9,sh_v9,sh_t28,sh_a28,sh_z28,sh_v28,sh_t46,sh_a46,sh_z46,sh_v46,sh_t51,sh_a51,sh_z51,sh_v51,sh_t53,sh_a53,sh_z53,sh_v53,qOA,qP2,qNW,qO3,qO9,qP1,qNV,qO2,qO8,qP0,qNU,qO1,qO7,qOZ,qNT,qO0,qO6,qOY,qNS,qNZ,qO5,qOX,qNR,qNY,qO4,qOW,qNQ,qNX⟩
theorem sorts(f:Nat)(h:f∈m3 Cl.tab id):oi Tryz.prog f:=by
  have e:m3 Cl.tab id=[79]:=by kernel_rfl
  rw [e] at h;cases List.mem_singleton.1 h;exact qGT shLays
end Go.Proofs.YtglkncbccadnoadGreat
namespace Go.Proofs.YtglkncbccadnoadGreat.claimTab
open Go Ce Ce.L
theorem t3:TB Tryz.prog 3 Cl.c3:=aP Tryz.func3 (by kernel_rfl) (by kernel_rfl)
theorem t4:TB Tryz.prog 4 Cl.c4:=aP Tryz.func4 (by kernel_rfl) (by kernel_rfl)
theorem t5:TB Tryz.prog 5 Cl.c5:=aP Tryz.func5 (by kernel_rfl) (by kernel_rfl)
theorem t6:TB Tryz.prog 6 Cl.c6:=aP Tryz.func6 (by kernel_rfl) (by kernel_rfl)
theorem t7:TB Tryz.prog 7 Cl.c7:=aP Tryz.func7 (by kernel_rfl) (by kernel_rfl)
theorem t8:TB Tryz.prog 8 Cl.c8:=aP Tryz.func8 (by kernel_rfl) (by kernel_rfl)
theorem t9:TB Tryz.prog 9 Cl.c9:=aP Tryz.func9 (by kernel_rfl) (by kernel_rfl)
theorem t10:TB Tryz.prog 10 Cl.c10:=aP Tryz.func10 (by kernel_rfl) (by kernel_rfl)
theorem t11:TB Tryz.prog 11 Cl.c11:=aP Tryz.func11 (by kernel_rfl) (by kernel_rfl)
theorem t12:TB Tryz.prog 12 Cl.c12:=aP Tryz.func12 (by kernel_rfl) (by kernel_rfl)
theorem t13:TB Tryz.prog 13 Cl.c13:=aP Tryz.func13 (by kernel_rfl) (by kernel_rfl)
theorem t14:TB Tryz.prog 14 Cl.c14:=aP Tryz.func14 (by kernel_rfl) (by kernel_rfl)
theorem t15:TB Tryz.prog 15 Cl.c15:=aP Tryz.func15 (by kernel_rfl) (by kernel_rfl)
theorem t16:TB Tryz.prog 16 Cl.c16:=aP Tryz.func16 (by kernel_rfl) (by kernel_rfl)
theorem t17:TB Tryz.prog 17 Cl.c17:=aP Tryz.func17 (by kernel_rfl) (by kernel_rfl)
theorem t18:TB Tryz.prog 18 Cl.c18:=aP Tryz.func18 (by kernel_rfl) (by kernel_rfl)
theorem t19:TB Tryz.prog 19 Cl.c19:=aP Tryz.func19 (by kernel_rfl) (by kernel_rfl)
theorem t20:TB Tryz.prog 20 Cl.c20:=aP Tryz.func20 (by kernel_rfl) (by kernel_rfl)
theorem t21:TB Tryz.prog 21 Cl.c21:=aP Tryz.func21 (by kernel_rfl) (by kernel_rfl)
theorem t22:TB Tryz.prog 22 Cl.c22:=aP Tryz.func22 (by kernel_rfl) (by kernel_rfl)
theorem t23:TB Tryz.prog 23 Cl.c23:=aP Tryz.func23 (by kernel_rfl) (by kernel_rfl)
theorem t24:TB Tryz.prog 24 Cl.c24:=aP Tryz.func24 (by kernel_rfl) (by kernel_rfl)
theorem t25:TB Tryz.prog 25 Cl.c25:=aP Tryz.func25 (by kernel_rfl) (by kernel_rfl)
theorem t26:TB Tryz.prog 26 Cl.c26:=aP Tryz.func26 (by kernel_rfl) (by kernel_rfl)
theorem t27:TB Tryz.prog 27 Cl.c27:=aP Tryz.func27 (by kernel_rfl) (by kernel_rfl)
theorem t28:TB Tryz.prog 28 Cl.c28:=aP Tryz.func28 (by kernel_rfl) (by kernel_rfl)
theorem t29:TB Tryz.prog 29 Cl.c29:=aP Tryz.func29 (by kernel_rfl) (by kernel_rfl)
theorem t30:TB Tryz.prog 30 Cl.c30:=aP Tryz.func30 (by kernel_rfl) (by kernel_rfl)
theorem t31:TB Tryz.prog 31 Cl.c31:=aP Tryz.func31 (by kernel_rfl) (by kernel_rfl)
theorem t32:TB Tryz.prog 32 Cl.c32:=aP Tryz.func32 (by kernel_rfl) (by kernel_rfl)
theorem t33:TB Tryz.prog 33 Cl.c33:=aP Tryz.func33 (by kernel_rfl) (by kernel_rfl)
theorem t34:TB Tryz.prog 34 Cl.c34:=aP Tryz.func34 (by kernel_rfl) (by kernel_rfl)
theorem t35:TB Tryz.prog 35 Cl.c35:=aP Tryz.func35 (by kernel_rfl) (by kernel_rfl)
theorem t36:TB Tryz.prog 36 Cl.c36:=aP Tryz.func36 (by kernel_rfl) (by kernel_rfl)
theorem t37:TB Tryz.prog 37 Cl.c37:=aP Tryz.func37 (by kernel_rfl) (by kernel_rfl)
theorem t38:TB Tryz.prog 38 Cl.c38:=aP Tryz.func38 (by kernel_rfl) (by kernel_rfl)
theorem t39:TB Tryz.prog 39 Cl.c39:=aP Tryz.func39 (by kernel_rfl) (by kernel_rfl)
theorem t40:TB Tryz.prog 40 Cl.c40:=aP Tryz.func40 (by kernel_rfl) (by kernel_rfl)
theorem t41:TB Tryz.prog 41 Cl.c41:=aP Tryz.func41 (by kernel_rfl) (by kernel_rfl)
theorem t42:TB Tryz.prog 42 Cl.c42:=aP Tryz.func42 (by kernel_rfl) (by kernel_rfl)
theorem t43:TB Tryz.prog 43 Cl.c43:=aP Tryz.func43 (by kernel_rfl) (by kernel_rfl)
theorem t44:TB Tryz.prog 44 Cl.c44:=aP Tryz.func44 (by kernel_rfl) (by kernel_rfl)
theorem t45:TB Tryz.prog 45 Cl.c45:=aP Tryz.func45 (by kernel_rfl) (by kernel_rfl)
theorem t46:TB Tryz.prog 46 Cl.c46:=aP Tryz.func46 (by kernel_rfl) (by kernel_rfl)
theorem t47:TB Tryz.prog 47 Cl.c47:=aP Tryz.func47 (by kernel_rfl) (by kernel_rfl)
theorem t48:TB Tryz.prog 48 Cl.c48:=aP Tryz.func48 (by kernel_rfl) (by kernel_rfl)
theorem t49:TB Tryz.prog 49 Cl.c49:=aP Tryz.func49 (by kernel_rfl) (by kernel_rfl)
theorem t50:TB Tryz.prog 50 Cl.c50:=aP Tryz.func50 (by kernel_rfl) (by kernel_rfl)
theorem t51:TB Tryz.prog 51 Cl.c51:=aP Tryz.func51 (by kernel_rfl) (by kernel_rfl)
theorem t52:TB Tryz.prog 52 Cl.c52:=aP Tryz.func52 (by kernel_rfl) (by kernel_rfl)
theorem t53:TB Tryz.prog 53 Cl.c53:=aP Tryz.func53 (by kernel_rfl) (by kernel_rfl)
theorem t54:TB Tryz.prog 54 Cl.c54:=aP Tryz.func54 (by kernel_rfl) (by kernel_rfl)
theorem t55:TB Tryz.prog 55 Cl.c55:=aP Tryz.func55 (by kernel_rfl) (by kernel_rfl)
theorem t56:TB Tryz.prog 56 Cl.c56:=aP Tryz.func56 (by kernel_rfl) (by kernel_rfl)
theorem t57:TB Tryz.prog 57 Cl.c57:=aP Tryz.func57 (by kernel_rfl) (by kernel_rfl)
theorem t58:TB Tryz.prog 58 Cl.c58:=aP Tryz.func58 (by kernel_rfl) (by kernel_rfl)
theorem t59:TB Tryz.prog 59 Cl.c59:=aP Tryz.func59 (by kernel_rfl) (by kernel_rfl)
theorem t60:TB Tryz.prog 60 Cl.c60:=aP Tryz.func60 (by kernel_rfl) (by kernel_rfl)
theorem t61:TB Tryz.prog 61 Cl.c61:=aP Tryz.func61 (by kernel_rfl) (by kernel_rfl)
theorem t62:TB Tryz.prog 62 Cl.c62:=aP Tryz.func62 (by kernel_rfl) (by kernel_rfl)
theorem t63:TB Tryz.prog 63 Cl.c63:=aP Tryz.func63 (by kernel_rfl) (by kernel_rfl)
theorem t64:TB Tryz.prog 64 Cl.c64:=aP Tryz.func64 (by kernel_rfl) (by kernel_rfl)
theorem t65:TB Tryz.prog 65 Cl.c65:=aP Tryz.func65 (by kernel_rfl) (by kernel_rfl)
theorem t66:TB Tryz.prog 66 Cl.c66:=aP Tryz.func66 (by kernel_rfl) (by kernel_rfl)
theorem t67:TB Tryz.prog 67 Cl.c67:=aP Tryz.func67 (by kernel_rfl) (by kernel_rfl)
theorem t68:TB Tryz.prog 68 Cl.c68:=aP Tryz.func68 (by kernel_rfl) (by kernel_rfl)
theorem t69:TB Tryz.prog 69 Cl.c69:=aP Tryz.func69 (by kernel_rfl) (by kernel_rfl)
theorem t70:TB Tryz.prog 70 Cl.c70:=aP Tryz.func70 (by kernel_rfl) (by kernel_rfl)
theorem t71:TB Tryz.prog 71 Cl.c71:=aP Tryz.func71 (by kernel_rfl) (by kernel_rfl)
theorem t72:TB Tryz.prog 72 Cl.c72:=aP Tryz.func72 (by kernel_rfl) (by kernel_rfl)
theorem t73:TB Tryz.prog 73 Cl.c73:=aP Tryz.func73 (by kernel_rfl) (by kernel_rfl)
theorem t74:TB Tryz.prog 74 Cl.c74:=aP Tryz.func74 (by kernel_rfl) (by kernel_rfl)
theorem t75:TB Tryz.prog 75 Cl.c75:=aP Tryz.func75 (by kernel_rfl) (by kernel_rfl)
theorem t76:TB Tryz.prog 76 Cl.c76:=aP Tryz.func76 (by kernel_rfl) (by kernel_rfl)
theorem t77:TB Tryz.prog 77 Cl.c77:=aP Tryz.func77 (by kernel_rfl) (by kernel_rfl)
theorem t78:TB Tryz.prog 78 Cl.c78:=aP Tryz.func78 (by kernel_rfl) (by kernel_rfl)
theorem t79:TB Tryz.prog 79 Cl.c79:=aP Tryz.func79 (by kernel_rfl) (by kernel_rfl)
theorem t80:TB Tryz.prog 80 Cl.c80:=aP Tryz.func80 (by kernel_rfl) (by kernel_rfl)
theorem t81:TB Tryz.prog 81 Cl.c81:=aP Tryz.func81 (by kernel_rfl) (by kernel_rfl)
theorem t82:TB Tryz.prog 82 Cl.c82:=aP Tryz.func82 (by kernel_rfl) (by kernel_rfl)
theorem t83:TB Tryz.prog 83 Cl.c83:=aP Tryz.func83 (by kernel_rfl) (by kernel_rfl)
theorem t84:TB Tryz.prog 84 Cl.c84:=aP Tryz.func84 (by kernel_rfl) (by kernel_rfl)
theorem t85:TB Tryz.prog 85 Cl.c85:=aP Tryz.func85 (by kernel_rfl) (by kernel_rfl)
theorem t86:TB Tryz.prog 86 Cl.c86:=aP Tryz.func86 (by kernel_rfl) (by kernel_rfl)
theorem t87:TB Tryz.prog 87 Cl.c87:=aP Tryz.func87 (by kernel_rfl) (by kernel_rfl)
theorem t88:TB Tryz.prog 88 Cl.c88:=aP Tryz.func88 (by kernel_rfl) (by kernel_rfl)
theorem t89:TB Tryz.prog 89 Cl.c89:=aP Tryz.func89 (by kernel_rfl) (by kernel_rfl)
theorem t90:TB Tryz.prog 90 Cl.c90:=aP Tryz.func90 (by kernel_rfl) (by kernel_rfl)
theorem t91:TB Tryz.prog 91 Cl.c91:=aP Tryz.func91 (by kernel_rfl) (by kernel_rfl)
theorem t92:TB Tryz.prog 92 Cl.c92:=aP Tryz.func92 (by kernel_rfl) (by kernel_rfl)
theorem t93:TB Tryz.prog 93 Cl.c93:=aP Tryz.func93 (by kernel_rfl) (by kernel_rfl)
theorem t94:TB Tryz.prog 94 Cl.c94:=aP Tryz.func94 (by kernel_rfl) (by kernel_rfl)
theorem t95:TB Tryz.prog 95 Cl.c95:=aP Tryz.func95 (by kernel_rfl) (by kernel_rfl)
theorem t96:TB Tryz.prog 96 Cl.c96:=aP Tryz.func96 (by kernel_rfl) (by kernel_rfl)
theorem t97:TB Tryz.prog 97 Cl.c97:=aP Tryz.func97 (by kernel_rfl) (by kernel_rfl)
theorem t98:TB Tryz.prog 98 Cl.c98:=aP Tryz.func98 (by kernel_rfl) (by kernel_rfl)
theorem t99:TB Tryz.prog 99 Cl.c99:=aP Tryz.func99 (by kernel_rfl) (by kernel_rfl)
theorem t100:TB Tryz.prog 100 Cl.c100:=aP Tryz.func100 (by kernel_rfl) (by kernel_rfl)
theorem t101:TB Tryz.prog 101 Cl.c101:=aP Tryz.func101 (by kernel_rfl) (by kernel_rfl)
theorem t102:TB Tryz.prog 102 Cl.c102:=aP Tryz.func102 (by kernel_rfl) (by kernel_rfl)
theorem t103:TB Tryz.prog 103 Cl.c103:=aP Tryz.func103 (by kernel_rfl) (by kernel_rfl)
theorem t113:TB Tryz.prog 113 Cl.c113:=aP Tryz.func113 (by kernel_rfl) (by kernel_rfl)
theorem t114:TB Tryz.prog 114 Cl.c114:=aP Tryz.func114 (by kernel_rfl) (by kernel_rfl)
theorem t115:TB Tryz.prog 115 Cl.c115:=aP Tryz.func115 (by kernel_rfl) (by kernel_rfl)
theorem t116:TB Tryz.prog 116 Cl.c116:=aP Tryz.func116 (by kernel_rfl) (by kernel_rfl)
theorem t117:TB Tryz.prog 117 Cl.c117:=aP Tryz.func117 (by kernel_rfl) (by kernel_rfl)
theorem tbl_ok:xS Tryz.prog Cl.tbl:=qZM Cl.tab id (fun _=>rfl)
  ⟨(fun F h=>by cases h),⟨(fun F h=>by cases h),⟨(fun F h=>by cases h; exact t3),⟨(fun F h=>by cases h; exact t7),⟨(fun F h=>by cases h; exact t15),⟨(fun F h=>by cases h; exact t31),⟨(fun F h=>by cases h; exact t63),trivial,trivial⟩,⟨(fun F h=>by cases h; exact t95),trivial,trivial⟩⟩,⟨(fun F h=>by cases h; exact t47),⟨(fun F h=>by cases h; exact t79),trivial,trivial⟩,trivial⟩⟩,⟨(fun F h=>by cases h; exact t23),⟨(fun F h=>by cases h; exact t39),⟨(fun F h=>by cases h; exact t71),trivial,trivial⟩,⟨(fun F h=>by cases h; exact t103),trivial,trivial⟩⟩,⟨(fun F h=>by cases h; exact t55),⟨(fun F h=>by cases h; exact t87),trivial,trivial⟩,trivial⟩⟩⟩,⟨(fun F h=>by cases h; exact t11),⟨(fun F h=>by cases h; exact t19),⟨(fun F h=>by cases h; exact t35),⟨(fun F h=>by cases h; exact t67),trivial,trivial⟩,⟨(fun F h=>by cases h; exact t99),trivial,trivial⟩⟩,⟨(fun F h=>by cases h; exact t51),⟨(fun F h=>by cases h; exact t83),trivial,trivial⟩,⟨(fun F h=>by cases h; exact t115),trivial,trivial⟩⟩⟩,⟨(fun F h=>by cases h; exact t27),⟨(fun F h=>by cases h; exact t43),⟨(fun F h=>by cases h; exact t75),trivial,trivial⟩,trivial⟩,⟨(fun F h=>by cases h; exact t59),⟨(fun F h=>by cases h; exact t91),trivial,trivial⟩,trivial⟩⟩⟩⟩,⟨(fun F h=>by cases h; exact t5),⟨(fun F h=>by cases h; exact t9),⟨(fun F h=>by cases h; exact t17),⟨(fun F h=>by cases h; exact t33),⟨(fun F h=>by cases h; exact t65),trivial,trivial⟩,⟨(fun F h=>by cases h; exact t97),trivial,trivial⟩⟩,⟨(fun F h=>by cases h; exact t49),⟨(fun F h=>by cases h; exact t81),trivial,trivial⟩,⟨(fun F h=>by cases h; exact t113),trivial,trivial⟩⟩⟩,⟨(fun F h=>by cases h; exact t25),⟨(fun F h=>by cases h; exact t41),⟨(fun F h=>by cases h; exact t73),trivial,trivial⟩,trivial⟩,⟨(fun F h=>by cases h; exact t57),⟨(fun F h=>by cases h; exact t89),trivial,trivial⟩,trivial⟩⟩⟩,⟨(fun F h=>by cases h; exact t13),⟨(fun F h=>by cases h; exact t21),⟨(fun F h=>by cases h; exact t37),⟨(fun F h=>by cases h; exact t69),trivial,trivial⟩,⟨(fun F h=>by cases h; exact t101),trivial,trivial⟩⟩,⟨(fun F h=>by cases h; exact t53),⟨(fun F h=>by cases h; exact t85),trivial,trivial⟩,⟨(fun F h=>by cases h; exact t117),trivial,trivial⟩⟩⟩,⟨(fun F h=>by cases h; exact t29),⟨(fun F h=>by cases h; exact t45),⟨(fun F h=>by cases h; exact t77),trivial,trivial⟩,trivial⟩,⟨(fun F h=>by cases h; exact t61),⟨(fun F h=>by cases h; exact t93),trivial,trivial⟩,trivial⟩⟩⟩⟩⟩,⟨(fun F h=>by cases h),⟨(fun F h=>by cases h; exact t4),⟨(fun F h=>by cases h; exact t8),⟨(fun F h=>by cases h; exact t16),⟨(fun F h=>by cases h; exact t32),⟨(fun F h=>by cases h; exact t64),trivial,trivial⟩,⟨(fun F h=>by cases h; exact t96),trivial,trivial⟩⟩,⟨(fun F h=>by cases h; exact t48),⟨(fun F h=>by cases h; exact t80),trivial,trivial⟩,trivial⟩⟩,⟨(fun F h=>by cases h; exact t24),⟨(fun F h=>by cases h; exact t40),⟨(fun F h=>by cases h; exact t72),trivial,trivial⟩,trivial⟩,⟨(fun F h=>by cases h; exact t56),⟨(fun F h=>by cases h; exact t88),trivial,trivial⟩,trivial⟩⟩⟩,⟨(fun F h=>by cases h; exact t12),⟨(fun F h=>by cases h; exact t20),⟨(fun F h=>by cases h; exact t36),⟨(fun F h=>by cases h; exact t68),trivial,trivial⟩,⟨(fun F h=>by cases h; exact t100),trivial,trivial⟩⟩,⟨(fun F h=>by cases h; exact t52),⟨(fun F h=>by cases h; exact t84),trivial,trivial⟩,⟨(fun F h=>by cases h; exact t116),trivial,trivial⟩⟩⟩,⟨(fun F h=>by cases h; exact t28),⟨(fun F h=>by cases h; exact t44),⟨(fun F h=>by cases h; exact t76),trivial,trivial⟩,trivial⟩,⟨(fun F h=>by cases h; exact t60),⟨(fun F h=>by cases h; exact t92),trivial,trivial⟩,trivial⟩⟩⟩⟩,⟨(fun F h=>by cases h; exact t6),⟨(fun F h=>by cases h; exact t10),⟨(fun F h=>by cases h; exact t18),⟨(fun F h=>by cases h; exact t34),⟨(fun F h=>by cases h; exact t66),trivial,trivial⟩,⟨(fun F h=>by cases h; exact t98),trivial,trivial⟩⟩,⟨(fun F h=>by cases h; exact t50),⟨(fun F h=>by cases h; exact t82),trivial,trivial⟩,⟨(fun F h=>by cases h; exact t114),trivial,trivial⟩⟩⟩,⟨(fun F h=>by cases h; exact t26),⟨(fun F h=>by cases h; exact t42),⟨(fun F h=>by cases h; exact t74),trivial,trivial⟩,trivial⟩,⟨(fun F h=>by cases h; exact t58),⟨(fun F h=>by cases h; exact t90),trivial,trivial⟩,trivial⟩⟩⟩,⟨(fun F h=>by cases h; exact t14),⟨(fun F h=>by cases h; exact t22),⟨(fun F h=>by cases h; exact t38),⟨(fun F h=>by cases h; exact t70),trivial,trivial⟩,⟨(fun F h=>by cases h; exact t102),trivial,trivial⟩⟩,⟨(fun F h=>by cases h; exact t54),⟨(fun F h=>by cases h; exact t86),trivial,trivial⟩,trivial⟩⟩,⟨(fun F h=>by cases h; exact t30),⟨(fun F h=>by cases h; exact t46),⟨(fun F h=>by cases h; exact t78),trivial,trivial⟩,trivial⟩,⟨(fun F h=>by cases h; exact t62),⟨(fun F h=>by cases h; exact t94),trivial,trivial⟩,trivial⟩⟩⟩⟩⟩⟩ (m3ok _ _ sorts)
end Go.Proofs.YtglkncbccadnoadGreat.claimTab
