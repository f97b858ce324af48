/- A part of a proof. -/
import Derived.Laws.Append
import Derived.Laws.AppendOwn
import Derived.Laws.Cells
import Derived.Laws.CopyRow
import Derived.Laws.Entries
import Derived.Laws.Rows
import Derived.Laws.Sem
import Derived.Laws.Slices
import Derived.Laws.Small
import Derived.Laws.Strings
import Derived.Laws.StructEq
import Derived.Laws.Tables
import Derived.Laws.World
import Derived.MapKept
import Derived.OrdersIn
import Derived.RangeFuncIn
import Derived.RangeFuncLeaves
import GoSem.Dispatch
import GoSem.Step
set_option linter.unusedVariables false
set_option linter.unusedSimpArgs false
set_option linter.defProp false
set_option maxRecDepth 1000000
namespace Ce
def aS:=@List.mem_cons
def aC:=@if_neg
def aH:=@if_pos
def aV:=@Nat.le_refl
def bP:=@List.mem_append
def cM:=@List.mem_singleton
def bU:=@Bool.or_eq_true
def fU:=@List.getElem?_eq_some_iff
def ez:=@Option.map_eq_some_iff
def gJ:=@Array.getElem?_eq_some_iff
def bj:=@Bool.false_eq_true
def aZ:=@beq_iff_eq
def dA:=@Nat.mul_le_mul_right
def bz:=@List.not_mem_nil
def dD:=@Nat.lt_of_lt_of_le
def ed:=@List.getElem?_eq_getElem
def dP:=@List.getElem?_drop
def fY:=@List.getElem?_append_left
def el:=@Nat.le_of_ble_eq_true
def fF:=@List.mem_append_right
def eB:=@Option.some.injEq
def iM:=@List.getElem?_append_right
def ac:=@if_true
def dh:=@Option.map_some
def cI:=@List.mem_map
def eI:=@List.cons_append
def cz:=@Nat.le_trans
def jQ:=@List.eq_nil_of_length_eq_zero
def eZ:=@List.length_cons
def ij:=@List.getElem?_take_of_lt
def dL:=@Nat.succ_mul
def eh:=@List.length_take
def jn:=@Array.getD_eq_getD_getElem?
def eY:=@decide_eq_false
def eX:=@List.nil_append
def fS:=@Int.toNat_natCast
def eA:=@Bool.and_self
def eg:=@List.mem_flatMap
def d9:=@Nat.zero_mul
def dg:=@Nat.zero_add
def d8:=@Nat.add_zero
def bX:=@if_false
def fR:=@List.append_nil
def ig:=@List.mem_append_left
def fX:=@List.length_drop
def iK:=@List.getElem?_take
def jm:=@Array.getElem?_eq_none
def kZ:=@Option.isSome_iff_exists
def dZ:=@Nat.le_succ
def fQ:=@decide_eq_true
def eV:=@Int.add_zero
def nJ:=@Array.getElem?_setIfInBounds
def br:=@or_false
def gO:=@Nat.lt_succ_self
def cQ:=@true_and
def jP:=@List.length_append
def cZ:=@and_true
def i9:=@List.flatMap_cons
def jl:=@List.pairwise_cons
def eH:=@Nat.add_mul
def iJ:=@List.cons.injEq
def gN:=@Int.toNat_zero
def gM:=@List.map_cons
def jk:=@not_true_eq_false
def lN:=@List.flatMap_append
def fV:=@Nat.zero_le
def iI:=@List.map_nil
def jO:=@List.all_eq_true
def oh:=@Array.getElem?_toList
def i7:=@Nat.lt_or_ge
def kY:=@Option.map_none
def nI:=@Bool.true_eq_false
def lM:=@beq_self_eq_true
def rV:=@List.getElem?_cons_zero
def nH:=@List.append_assoc
def lL:=@List.length_nil
def nG:=@Bool.and_eq_true
def kX:=@List.drop_zero
def rU:=@List.mem_of_getElem?
def nF:=@List.nodup_cons
def lK:=@List.length_map
def nE:=@List.foldl_cons
def rS:=@Array.getElem?_push
def tU:=@List.drop_of_length_le
def lJ:=@Bool.true_and
def og:=@List.flatMap_nil
def kW:=@List.drop_drop
def tT:=@Nat.ble_eq_true_of_le
def xK:=@Array.getElem?_eq_getElem
def nD:=@List.mem_filter
def tS:=@List.pairwise_append
def tR:=@Array.toArray_toList
def jj:=@bne_iff_ne
def nC:=@Nat.add_assoc
def rR:=@Option.getD_some
def rQ:=@Nat.le_add_right
def xJ:=@List.getElem?_cons_succ
def lI:=@decide_true
def xI:=@List.take_of_length_le
def dY:=@ne_eq
def lu:=@Option.some.inj
def ke:=@Prod.mk.injEq
theorem sI{α:Type _}(a b:α):(some a=some b)=(a=b):=eB a b
theorem pI{α:Type _}{β:Type _}(a:α)(b:β)(c:α)(d:β):((a,b)=(c,d))=(a=c∧b=d):=ke a b c d
theorem aT(a b:Bool):((a&&b)=true)=(a=true∧b=true):=nG a b
theorem dT{p:Prop}[Decidable p]:(decide p=true)=p:=decide_eq_true_eq
theorem mS{α:Type _}{a:α}{l:List α}:a∈a::l:=List.mem_cons_self
theorem mC{α:Type _}{a:α}(b:α){l:List α}(h:a∈l):a∈b::l:=List.mem_cons_of_mem b h
theorem nQ{n m:Nat}(h:Nat.beq n m=true):n=m:=Nat.eq_of_beq_eq_true h
open Go
inductive Tr (α:Type) where
 | nil
 | node (l:Tr α) (v:Option α) (r:Tr α)
 deriving Inhabited
def Tr.get{α:Type}:Tr α→Nat→Option α
 | nil,_=>none
 | node l v r,i=>if i=0 then v else if i % 2=1 then l.get (i / 2) else r.get (i / 2 - 1)
inductive CV where
 | bool (b:Bool)
 | int (k:IntKind) (n:Int)
 | str (s:ByteArray)
 | nilp
 | ptr (r off:Nat)
 | rptr (cells:List CV)
 | nils
 | slc (k r off len:Nat) (cap:Option Nat)
 | lst (rows:List (List CV)) (exact:Bool)
 | nilm
 | map (r:Nat)
 | nilf
 | clo (f:Nat) (first caps:List CV)
 | yld (r:Nat)
 | nili
 | ifc (t:Nat) (v:CV)
 | agg (cs:List CV)
 | tup (vs:List CV)
 deriving Inhabited
inductive Opd where
 | t (i:Nat)
 | c (v:CV)
 deriving Inhabited
inductive Lf where
 | b | i | s
 deriving Inhabited,DecidableEq
inductive EqK where
 | leaf (ag:Bool) (ls:List Lf)
 | ptr | slc | fn | map
 deriving Inhabited
inductive Ins where
 | mov (x:Opd)
 | pick (c a b:Opd)
 | alloc (zero:List CV)
 | box (x:Opd)
 | build (zero:List CV) (parts:List (Nat × Nat × Opd))
 | bsl (k:Nat) (zero:List CV) (len:Nat) (parts:List (Nat × Opd))
 | ld (ag:Option Nat) (a:Opd)
 | st (n:Nat) (a x:Opd)
 | nilck (x:Opd)
 | bin (op:BinOp) (x y:Opd)
 | eqo (neg:Bool) (e:EqK) (x y:Opd)
 | un (op:UnOp) (x:Opd)
 | cvi (k:IntKind) (x:Opd)
 | cvid (x:Opd)
 | mkf (f:Nat) (first caps:List Opd)
 | mkmap
 | mksl (k bytes:Nat) (zero:List CV) (l c:Opd)
 | slA (n k:Nat) (x:Opd) (lo hi mx:Option Opd)
 | slS (k:Nat) (x:Opd) (lo hi mx:Option Opd)
 | slT (x:Opd) (lo hi:Option Opd)
 | fad (off:Nat) (x:Opd)
 | fld (off:Nat) (ag:Option Nat) (x:Opd)
 | iaS (k:Nat) (x i:Opd)
 | iaA (n k:Nat) (x i:Opd)
 | ixA (n k:Nat) (ag:Option Nat) (x i:Opd)
 | ixT (x i:Opd)
 | lku (ag:Bool) (ls:List Lf) (zero:CV) (x i:Opd) (ok:Bool)
 | mset (ag:Bool) (ls:List Lf) (m k v:Opd)
 | ment (ag:Bool) (ls:List Lf) (zero:CV) (m k:Opd)
 | msto (m s v:Opd)
 | rngT (x:Opd)
 | nxtT (it:Opd)
 | ext (t:Opd) (i:Nat)
 | app (k bytes:Nat) (s x:Opd)
 | lenS (x:Opd)
 | lenT (x:Opd)
 | lenA (n:Nat)
 | lenM (x:Opd)
 | cpy (k:Nat) (d s:Opd)
 | mn (xs:List Opd)
 | mx (xs:List Opd)
 | clr (k:Nat) (zero:List CV) (x:Opd)
 | ckl (ag:Option Nat) (a x:Opd)
 | cku (ag:Bool) (ls:List Lf) (zero:CV) (x i:Opd) (ok:Bool) (d:Opd)
 | bad
 | callF (f:Nat) (args:List Opd)
 | callV (f:Opd) (args:List Opd)
 deriving Inhabited
structure IOp where
 dst:Option Nat
 op:Ins
 guard:Option (Nat × Bool)
 deriving Inhabited
inductive IC where
 | skip
 | ops (l:List IOp)
 | seq (a b:IC)
 | cond (x:Opd) (a b:IC)
 | block (id:Nat) (c:IC)
 | loop (c:IC)
 | rangeF (f:Opd) (params:List Nat) (assign body:IC)
 | exit (id:Nat)
 | ret
 deriving Inhabited
inductive IRes where
 | tmp (t:Nat)
 | cell (t:Nat) (ag:Option Nat)
 deriving Inhabited
structure IF where
 ntmps:Nat
 res:List IRes
 body:IC
 mode:Nat
 deriving Inhabited
inductive Jump where
 | ret
 | exit (id:Nat)
 deriving Inhabited,DecidableEq
inductive Ex where
 | nor
 | jmp (j:Jump)
 deriving Inhabited,DecidableEq
inductive LSt where
 | ready | busy | done | exhausted
 deriving Inhabited,DecidableEq
inductive Blk where
 | cells (c:List CV) (ro:Bool)
 | map (es:List (CV × CV × Nat)) (clock:Nat)
 | loop (st:LSt) (pend:Option Jump) (env:List CV) (params:List Nat) (assign body:IC)
 | sit (s:ByteArray) (pos:Nat)
 | dead
 deriving Inhabited
structure H where
 n:Nat
 f:Nat→Option Blk
def H.get(h:H)(i:Nat):Option Blk:=h.f i
def H.put(h:H)(i:Nat)(b:Blk):H:=⟨h.n,fun j=>if j=i then some b else h.f j⟩
def H.push(h:H)(b:Blk):H:=⟨h.n+1,fun j=>if j=h.n then some b else h.f j⟩
def H.empty:H:=⟨0,fun _=>none⟩
def undef:CV:=.tup []
def CV.cells:CV→List CV
 | .agg cs=>cs
 | v=>[v]
def CV.one:CV→Bool
 | .agg _ | .tup _=>false
 | _=>true
def aM:List CV→Bool
 | []=>true
 | c::cs=>c.one&&aM cs
def splice:List CV→Nat→List CV→List CV
 | c,0,[]=>c
 | _::c,0,x::xs=>x::splice c 0 xs
 | a::c,n+1,xs=>a::splice c n xs
 | [],_,_=>[]
noncomputable def aL(l:List CV)(n:Nat)(v:CV):List CV:=List.rec (motive:=fun _=>Nat→List CV) (fun _=>[]) (fun a l ih n=>Nat.rec (motive:=fun _=>List CV) (v::l) (fun m _=>a::ih m) n) l n
noncomputable def aR(l:List CV)(n:Nat):CV:=List.rec (motive:=fun _=>Nat→CV) (fun _=>undef) (fun a _ ih n=>Nat.rec (motive:=fun _=>CV) a (fun m _=>ih m) n) l n
theorem qGW(n:Nat)(v:CV):aL [] n v=[]:=rfl
theorem jA(a:CV)(l:List CV)(v:CV):aL (a::l) 0 v=v::l:=rfl
theorem dG(a:CV)(l:List CV)(n:Nat)(v:CV):aL (a::l) (n+1) v=a::aL l n v:=rfl
theorem qLA(n:Nat):aR [] n=undef:=rfl
theorem fC(a:CV)(l:List CV):aR (a::l) 0=a:=rfl
theorem bL(a:CV)(l:List CV)(n:Nat):aR (a::l) (n+1)=aR l n:=rfl
def nth?{α:Type}:List α→Nat→Option α
 | [],_=>none
 | a::_,0=>some a
 | _::l,n+1=>nth? l n
def cut?(c:List CV)(off n:Nat):Option (List CV):=if off+n≤c.length then some ((c.drop off).take n) else none
def cP(k:Nat):Nat→List CV→List (List CV)
 | 0,_=>[]
 | n+1,c=>c.take k::cP k n (c.drop k)
def cO(ag:Option Nat)(c:List CV)(off:Nat):Option CV :=
 match ag with
 | none=>match nth? c off with
  | some v=>if v.one then some v else none
  | none=>none
 | some n=>(cut? c off n).map .agg
noncomputable section
def Opd.ev(env:List CV):Opd→CV
 | .t i=>aR env i
 | .c v=>v
def evs(env:List CV):List Opd→List CV
 | []=>[]
 | o::os=>o.ev env::evs env os
def Opd.evo(env:List CV):Option Opd→Option CV
 | none=>none
 | some o=>some (o.ev env)
def eqv:CV→CV→Option Bool
 | .int k a,.int k' b=>if k=k' then some (a==b) else none
 | .bool a,.bool b=>some (a==b)
 | .str a,.str b=>some (a.toList==b.toList)
 | _,_=>none
def cr:List CV→List CV→Option Bool
 | [],[]=>some true
 | a::as,b::bs=>match eqv a b with
  | some true=>cr as bs
  | some false=>some false
  | none=>none
 | _,_=>none
def eS:List Lf→List CV→Bool
 | [],[]=>true
 | .b::ls,.bool _::cs=>eS ls cs
 | .i::ls,.int _ _::cs=>eS ls cs
 | .s::ls,.str _::cs=>eS ls cs
 | _,_=>false
def cK:CV→Bool
 | .agg _=>true
 | _=>false
def kOk(ag:Bool)(ls:List Lf)(x:CV):Bool:=cK x==ag&&eS ls x.cells
def eqF(x y:CV):Option Bool:=if cK x==cK y&&x.cells.length==y.cells.length then cr x.cells y.cells else none
def eqK(e:EqK)(x y:CV):Option Bool :=
 match e with
 | .leaf ag ls=>if kOk ag ls x then eqF x y else none
 | .ptr=>match x,y with
  | .nilp,.nilp=>some true
  | .nilp,.ptr _ _ | .ptr _ _,.nilp | .nilp,.rptr _ | .rptr _,.nilp=>some false
  | _,_=>none
 | .slc=>match x,y with
  | .nils,.nils=>some true
  | .nils,.slc .. | .slc ..,.nils | .nils,.lst .. | .lst ..,.nils=>some false
  | _,_=>none
 | .fn=>match x,y with
  | .nilf,.nilf=>some true
  | .nilf,.clo .. | .clo ..,.nilf=>some false
  | _,_=>none
 | .map=>match x,y with
  | .nilm,.nilm=>some true
  | .nilm,.map _ | .map _,.nilm=>some false
  | _,_=>none
def iS(op:BinOp)(k:IntKind)(a b:Int):Option CV :=
 match op with
 | .add=>some (.int k (k.wrap (a+b)))
 | .sub=>some (.int k (k.wrap (a - b)))
 | .mul=>some (.int k (k.wrap (a*b)))
 | .quo=>if b=0 then none else some (.int k (k.wrap (a.tdiv b)))
 | .rem=>if b=0 then none else some (.int k (a.tmod b))
 | .and=>some (.int k (k.wrap (BitVec.ofInt k.bits a&&& BitVec.ofInt k.bits b).toNat))
 | .or=>some (.int k (k.wrap (BitVec.ofInt k.bits a ||| BitVec.ofInt k.bits b).toNat))
 | .xor=>some (.int k (k.wrap (BitVec.ofInt k.bits a ^^^ BitVec.ofInt k.bits b).toNat))
 | .andNot=>some (.int k (k.wrap (BitVec.ofInt k.bits a&&& ~~~ BitVec.ofInt k.bits b).toNat))
 | .lss=>some (.bool (decide (a < b)))
 | .leq=>some (.bool (decide (a≤b)))
 | .gtr=>some (.bool (decide (a>b)))
 | .geq=>some (.bool (decide (a≥b)))
 | _=>none
def nU(op:BinOp)(k:IntKind)(a b:Int):Option CV :=
 if b < 0 then none else
 match op with
 | .shl=>some (.int k (k.wrap (a*2 ^ (min b.toNat k.bits))))
 | .shr=>some (.int k (a.fdiv (2 ^ (min b.toNat k.bits))))
 | _=>none
def binT(op:BinOp)(a b:ByteArray):Option CV :=
 match op with
 | .add=>if a.size+b.size≤2 ^ 40 then some (.str (a++b)) else none
 | .lss=>some (.bool (Op.bytesLess a.toList b.toList))
 | .leq=>some (.bool (Op.bytesLess a.toList b.toList || a.toList==b.toList))
 | .gtr=>some (.bool !(Op.bytesLess a.toList b.toList || a.toList==b.toList))
 | .geq=>some (.bool !(Op.bytesLess a.toList b.toList))
 | _=>none
def bin(op:BinOp)(x y:CV):Option CV :=
 match x,y with
 | .int k a,.int k' b =>
  match op with
  | .shl | .shr=>nU op k a b
  | _=>if k=k' then iS op k a b else none
 | .str a,.str b=>binT op a b
 | _,_=>none
def un(op:UnOp)(x:CV):Option CV :=
 match op,x with
 | .neg,.int k n=>some (.int k (k.wrap (0 - n)))
 | .xor,.int k n=>some (.int k (k.wrap (BitVec.ofInt k.bits (if k.signed then -1 else k.max) ^^^ BitVec.ofInt k.bits n).toNat))
 | .not,.bool b=>some (.bool !b)
 | _,_=>none
def bo:List (List CV)→List CV
 | []=>[]
 | r::rs=>r++bo rs
def eO(k:Nat):List (List CV)→Bool
 | []=>true
 | r::rs=>r.length==k&&eO k rs
def lenOf:CV→Option Nat
 | .nils=>some 0
 | .slc _ _ _ len _=>some len
 | .lst rows _=>some rows.length
 | _=>none
def cellsOf(k n:Nat)(h:H):CV→Option (List CV)
 | .nils=>if n=0 then some [] else none
 | .slc _ r off len _=>if n≤len then (match h.get r with
  | some (.cells c _)=>cut? c off (n*k)
  | _=>none) else none
 | .lst rows _=>if n≤rows.length&&eO k (rows.take n) then some (bo (rows.take n)) else none
 | _=>none
def bf?:CV→Option Nat
 | .int _ n=>if 0≤n then some n.toNat else none
 | _=>none
def bnd(x:Option CV)(els y:Nat):Option Nat :=
 match x with
 | none=>some els
 | some v=>match bf? v with
  | some n=>if n≤y then some n else none
  | none=>none
def slS(x:CV)(k:Nat)(lo hi mx:Option CV):Option CV :=
 match x with
 | .nils=>match bnd mx 0 0,bnd hi 0 0,bnd lo 0 0 with
  | some _,some _,some _=>some .nils
  | _,_,_=>none
 | .slc k' r off len cap =>
  if k'≠k then none else
  match cap,mx with
  | some c,_ =>
   match bnd mx c c with
   | none=>none
   | some m=>match bnd hi len m with
    | none=>none
    | some h=>match bnd lo 0 h with
     | none=>none
     | some l=>if h≤m then some (.slc k' r (if m=l then off else off+l*k) (h - l) (some (m - l))) else none
  | none,none =>
   match bnd hi len len with
   | none=>none
   | some h=>match bnd lo 0 h with
    | none=>none
    | some l=>if l=0 || l < len then some (.slc k' r (off+l*k) (h - l) none) else none
  | none,some m=>match bnd (some m) 0 len with
   | none=>none
   | some m=>match bnd hi len m with
    | none=>none
    | some h=>match bnd lo 0 h with
     | none=>none
     | some l=>if h≤m then some (.slc k' r (if m=l then off else off+l*k) (h - l) (some (m - l))) else none
 | .lst rows ex =>
  if !(eO k rows) then none else
  match mx with
  | none=>match bnd hi rows.length rows.length with
   | none=>none
   | some h=>match bnd lo 0 h with
    | none=>none
    | some l=>some (.lst ((rows.drop l).take (h - l)) (ex&&h==rows.length))
  | some m=>match bnd (some m) 0 rows.length with
   | none=>none
   | some m=>match bnd hi rows.length m with
    | none=>none
    | some h=>match bnd lo 0 h with
     | none=>none
     | some l=>if h≤m then some (.lst ((rows.drop l).take (h - l)) (h==m)) else none
 | _=>none
def slA(hp:H)(x:CV)(n k:Nat)(lo hi mx:Option CV):Option CV :=
 match x with
 | .ptr r off =>
  match hp.get r with
  | some (.cells c _) =>
   if off+n*k≤c.length then
    match bnd mx n n with
    | none=>none
    | some m=>match bnd hi n m with
     | none=>none
     | some h=>match bnd lo 0 h with
      | none=>none
      | some l=>if h≤m then some (.slc k r (if m=l then off else off+l*k) (h - l) (some (m - l))) else none
   else none
  | _=>none
 | _=>none
def cG(cs:List CV)(env:List CV):List (Nat × Nat × Opd)→Option (List CV)
 | []=>some cs
 | (off,n,o)::ps =>
  let v:=(o.ev env).cells
  if v.length=n&&off+n≤cs.length&&aM v then cG (splice cs off v) env ps else none
def dQ(zero:List CV):Nat→List CV
 | 0=>[]
 | n+1=>zero++dQ zero n
def bp(es:List (CV × CV × Nat))(k:CV):Option (Option (CV × Nat)) :=
 match es with
 | []=>some none
 | (k',v,b)::es=>match eqF k k' with
  | some true=>some (some (v,b))
  | some false=>bp es k
  | none=>none
def ra(es:List (CV × CV × Nat))(k v:CV):List (CV × CV × Nat) :=
 match es with
 | []=>[]
 | (k',v',b)::es=>match eqF k k' with
  | some true=>(k',v,b)::es
  | _=>(k',v',b)::ra es k v
def qCO(es:List (CV × CV × Nat))(b:Int)(v:CV):Option (List (CV × CV × Nat)) :=
 match es with
 | []=>none
 | (k',v',b')::es=>if (b':Int)=b then some ((k',v,b')::es) else match qCO es b v with
  | some r=>some ((k',v',b')::r)
  | none=>none
def frzL(f:CV→H→Option (CV × H)):List CV→H→Option (List CV × H)
 | [],h=>some ([],h)
 | v::vs,h=>match f v h with
  | some (v,h)=>match frzL f vs h with
   | some (vs,h)=>some (v::vs,h)
   | none=>none
  | none=>none
def frz:Nat→CV→H→Option (CV × H)
 | 0,_,_=>none
 | n+1,v,h =>
  match v with
  | .slc k r off len _=>match h.get r with
   | some (.cells c _)=>match cut? c off (len*k) with
    | some cs=>match frzL (frz n) cs (h.put r (.cells c true)) with
     | some (cs,h)=>some (.lst (cP k len cs) false,h)
     | none=>none
    | none=>none
   | _=>none
  | .agg cs=>match frzL (frz n) cs h with
   | some (cs,h)=>some (.agg cs,h)
   | none=>none
  | .tup cs=>match frzL (frz n) cs h with
   | some (cs,h)=>some (.tup cs,h)
   | none=>none
  | v=>some (v,h)
mutual
def bA:CV→CV→Bool
 | .bool a,.bool b=>a==b
 | .int k a,.int k' b=>decide (k=k')&&a==b
 | .str a,.str b=>a.toList==b.toList
 | .nilp,.nilp | .nils,.nils | .nilm,.nilm | .nilf,.nilf | .nili,.nili=>true
 | .ptr r o,.ptr r' o'=>r==r'&&o==o'
 | .slc k r o l c,.slc k' r' o' l' c'=>k==k'&&r==r'&&o==o'&&l==l'&&c==c'
 | .lst xs e,.lst ys e'=>gV xs ys&&e==e'
 | .map r,.map r'=>r==r'
 | .clo f a b,.clo f' a' b'=>f==f'&&ew a a'&&ew b b'
 | .agg xs,.agg ys=>ew xs ys
 | .tup xs,.tup ys=>ew xs ys
 | _,_=>false
def ew:List CV→List CV→Bool
 | [],[]=>true
 | x::xs,y::ys=>bA x y&&ew xs ys
 | _,_=>false
def gV:List (List CV)→List (List CV)→Bool
 | [],[]=>true
 | x::xs,y::ys=>ew x y&&gV xs ys
 | _,_=>false
end
mutual
def cln:CV→Bool
 | .bool _ | .int _ _ | .str _ | .nilp | .nils | .nilm | .nilf | .nili=>true
 | .lst rows _=>qFY rows
 | .agg xs=>iD xs
 | _=>false
def iD:List CV→Bool
 | []=>true
 | x::xs=>cln x&&iD xs
def qFY:List (List CV)→Bool
 | []=>true
 | x::xs=>iD x&&qFY xs
end
def xpL(f:CV→H × H→Option (CV × H × H)):List CV→H × H→Option (List CV × H × H)
 | [],h=>some ([],h)
 | v::vs,h=>match f v h with
  | some (v,h)=>match xpL f vs h with
   | some (vs,h)=>some (v::vs,h)
   | none=>none
  | none=>none
def xp:Nat→CV→H × H→Option (CV × H × H)
 | 0,_,_=>none
 | n+1,v,h =>
  match v with
  | .slc k r off len cap=>match h.1.get r with
   | some (.cells c false)=>match xpL (xp n) c (h.1.put r .dead,h.2) with
    | some (c,hs,hc)=>some (.slc k hc.n off len cap,hs,hc.push (.cells c false))
    | none=>none
   | _=>none
  | .agg cs=>match xpL (xp n) cs h with
   | some (cs,h)=>some (.agg cs,h)
   | none=>none
  | .tup cs=>match xpL (xp n) cs h with
   | some (cs,h)=>some (.tup cs,h)
   | none=>none
  | .bool b=>some (.bool b,h)
  | .int k m=>some (.int k m,h)
  | .str s=>some (.str s,h)
  | .nilp=>some (.nilp,h)
  | .nils=>some (.nils,h)
  | .nilm=>some (.nilm,h)
  | .nilf=>some (.nilf,h)
  | .nili=>some (.nili,h)
  | _=>none
def Ins.kind:Ins→Nat
 | .mov .. | .pick .. | .build .. | .nilck .. | .bin .. | .eqo .. | .un .. | .cvi .. | .cvid .. | .mkf .. | .slS .. | .slT .. | .fad .. | .fld .. | .iaS .. | .iaA .. | .ixA .. | .ixT .. | .ext .. | .lenS .. | .lenT .. | .lenA .. | .mn .. | .mx ..=>0
 | .ld .. | .slA .. | .lku .. | .lenM .. | .ckl .. | .cku ..=>1
 | _=>2
def Opd.free(d:Nat):Opd→Bool
 | .t i=>i != d
 | .c _=>true
def m8(d:Nat):List Opd→Bool
 | []=>true
 | x::xs=>x.free d&&m8 d xs
def m7(d:Nat):Option Opd→Bool
 | some x=>x.free d
 | none=>true
def qBD(d:Nat):List (Nat × Nat × Opd)→Bool
 | []=>true
 | (_,_,x)::xs=>x.free d&&qBD d xs
def qBC(d:Nat):List (Nat × Opd)→Bool
 | []=>true
 | (_,x)::xs=>x.free d&&qBC d xs
def Ins.free(d:Nat):Ins→Bool
 | .mov x=>x.free d
 | .pick c a b=>c.free d&&a.free d&&b.free d
 | .alloc _=>true
 | .box x=>x.free d
 | .build _ parts=>qBD d parts
 | .bsl _ _ _ parts=>qBC d parts
 | .ld _ a=>a.free d
 | .st _ a x=>a.free d&&x.free d
 | .nilck x=>x.free d
 | .bin _ x y=>x.free d&&y.free d
 | .eqo _ _ x y=>x.free d&&y.free d
 | .un _ x=>x.free d
 | .cvi _ x=>x.free d
 | .cvid x=>x.free d
 | .mkf _ first caps=>m8 d first&&m8 d caps
 | .mkmap=>true
 | .mksl _ _ _ l c=>l.free d&&c.free d
 | .slA _ _ x lo hi m1=>x.free d&&m7 d lo&&m7 d hi&&m7 d m1
 | .slS _ x lo hi m1=>x.free d&&m7 d lo&&m7 d hi&&m7 d m1
 | .slT x lo hi=>x.free d&&m7 d lo&&m7 d hi
 | .fad _ x=>x.free d
 | .fld _ _ x=>x.free d
 | .iaS _ x i=>x.free d&&i.free d
 | .iaA _ _ x i=>x.free d&&i.free d
 | .ixA _ _ _ x i=>x.free d&&i.free d
 | .ixT x i=>x.free d&&i.free d
 | .lku _ _ _ x i _=>x.free d&&i.free d
 | .mset _ _ m k v=>m.free d&&k.free d&&v.free d
 | .ment _ _ _ m k=>m.free d&&k.free d
 | .msto m s v=>m.free d&&s.free d&&v.free d
 | .rngT x=>x.free d
 | .nxtT it=>it.free d
 | .ext t _=>t.free d
 | .app _ _ s x=>s.free d&&x.free d
 | .lenS x=>x.free d
 | .lenT x=>x.free d
 | .lenA _=>true
 | .lenM x=>x.free d
 | .cpy _ y s=>y.free d&&s.free d
 | .mn xs=>m8 d xs
 | .mx xs=>m8 d xs
 | .clr _ _ x=>x.free d
 | .ckl _ a x=>a.free d&&x.free d
 | .cku _ _ _ x i _ y=>x.free d&&i.free d&&y.free d
 | .bad=>true
 | .callF _ args=>m8 d args
 | .callV f args=>f.free d&&m8 d args
def IOp.free(d:Nat)(q:IOp):Bool:=q.op.free d&&(match q.guard with
 | none=>true
 | some (s,_)=>s != d)
def cW(a x:IOp):Bool:=match a.dst with
 | none=>true
 | some d=>x.free d
def apart(a x:IOp):Bool:=cW a x&&cW x a&&(match a.dst,x.dst with
 | some d,some e=>d != e
 | _,_=>true)
def IOp.isLd(q:IOp):Bool:=match q.dst,q.op with
 | some _,.ld _ _=>true
 | some _,.lku ..=>true
 | _,_=>false
def cH(q:IOp):IOp:=match q.dst,q.op with
 | some d,.ld g a=>⟨none,.ckl g a (.t d),q.guard⟩
 | some d,.lku ag ls z x i ok=>⟨none,.cku ag ls z x i ok (.t d),q.guard⟩
 | _,_=>⟨none,.bad,none⟩
end
end Ce
namespace Ce
open Go
mutual
def iR:Value→Option CV
 | .bool b=>some (.bool b)
 | .int k n=>some (.int k n)
 | .string s=>some (.str s)
 | .pointer none=>some .nilp
 | .slice none 0 0=>some .nils
 | .map none=>some .nilm
 | .nilFunc=>some .nilf
 | .nilIface=>some .nili
 | .agg ⟨cs⟩=>match w8 cs with
  | some l=>some (.agg l)
  | none=>none
 | _=>none
def w8:List Value→Option (List CV)
 | []=>some []
 | v::vs=>match iR v with
  | some c=>match w8 vs with
   | some cs=>some (c::cs)
   | none=>none
  | none=>none
end
def lZ(p:Program)(rec:TypeId→Option (List Lf)):List Field→Nat→Option (List Lf)
 | [],_=>some []
 | f::fs,n =>
  if f.name = "_" then none else
  if f.offset=n then match rec f.type with
   | some k=>if p.cellsOf f.type=k.length then (match lZ p rec fs (n+k.length) with
    | some ks=>some (k++ks)
    | none=>none) else none
   | none=>none
  else none
def jD(k:List Lf):Nat→List Lf
 | 0=>[]
 | n+1=>k++jD k n
def qU(p:Program):Nat→TypeId→Option (List Lf)
 | 0,_=>none
 | d+1,t=>if (p.info? t).isNone then none else match p.underlying t with
  | some .bool=>some [.b]
  | some (.int _)=>some [.i]
  | some .string=>some [.s]
  | some (.array n e)=>match qU p d e with
   | some k=>if p.cellsOf e=k.length then some (jD k n) else none
   | none=>none
  | some (.struct fs)=>if p.stoodInHeld t then none else lZ p (qU p d) fs.toList 0
  | _=>none
def jo:TypeDesc→Bool
 | .struct _ | .array _ _=>true
 | _=>false
def flatT(p:Program)(t:TypeId):Option (Bool × List Lf) :=
 match qU p 40 t,p.underlying t with
 | some ls,some d=>if p.eqGuardType p.depth t then none else some (jo d,ls)
 | _,_=>none
section
variable (p:Program)
def cT(t:TypeId):Option Bool:=match p.underlying t with
 | some (.struct _) | some (.array _ _)=>some true
 | some _=>some false
 | none=>none
def agT(t:TypeId):Option (Option Nat):=match cT p t,p.info? t with
 | some true,some i=>some (some i.size)
 | some false,some _=>some none
 | _,_=>none
def mA(t:TypeId):Option CV:=match p.info? t with
 | some i=>match i.zero with
  | some v=>iR v
  | none=>none
 | none=>none
def ee(t:TypeId):Option Nat:=match p.info? t with
 | some i=>some i.size
 | none=>none
def cC:Operand→Option Opd
 | .tmp t=>some (.t t)
 | .const v=>(iR v).map .c
 | .func f=>some (.c (.clo f [] []))
 | .global _=>none
def lG:List Operand→Option (List Opd)
 | []=>some []
 | o::os=>match cC o,lG os with
  | some o,some os=>some (o::os)
  | _,_=>none
def rB:Option Operand→Option (Option Opd)
 | none=>some none
 | some o=>(cC o).map some
def l9(fs:Nat→Option (Nat × Nat)):List (Nat × Operand)→Option (List (Nat × Nat × Opd))
 | []=>some []
 | (i,o)::ps=>match fs i,cC o,l9 fs ps with
  | some (a,n),some o,some ps=>some ((a,n,o)::ps)
  | _,_,_=>none
def mq:List (Nat × Operand)→Option (List (Nat × Opd))
 | []=>some []
 | (i,o)::ps=>match cC o,mq ps with
  | some o,some ps=>some ((i,o)::ps)
  | _,_=>none
def jL(b:Builtin)(args:List Operand)(ts:List TypeId):Option Ins :=
 match b,args,ts with
 | .len,[x],[t]=>do
  let x ←cC x
  match p.underlying t with
  | some (.slice _)=>some (.lenS x)
  | some .string=>some (.lenT x)
  | some (.array n _)=>some (.lenA n)
  | some (.map _ _)=>some (.lenM x)
  | _=>none
 | .append,[s,x],[st,xt]=>do
  let s ←cC s
  let x ←cC x
  match p.underlying st,p.underlying xt with
  | some (.slice e),some (.slice _) =>
   match p.info? e with
   | some i=>if i.size=0 || i.bytes>2 ^ 20 || (match i.zero with | some z=>z.cells.size != i.size | none=>true) then none else some (.app i.size i.bytes s x)
   | none=>none
  | _,_=>none
 | .copy,[d,s],[dt,st]=>do
  let d ←cC d
  let s ←cC s
  match p.underlying dt,p.underlying st with
  | some (.slice e),some (.slice _)=>do
   let k ←ee p e
   if k=0 then none else some (.cpy k d s)
  | _,_=>none
 | .clear,[x],[t]=>do
  let x ←cC x
  match p.underlying t with
  | some (.map _ _)=>some (.clr 0 [] x)
  | some (.slice e)=>do
   let k ←ee p e
   let z ←mA p e
   if z.cells.length≠k || k=0 then none else some (.clr k z.cells x)
  | _=>none
 | .min,xs,_=>do let xs ←lG xs; some (.mn xs)
 | .max,xs,_=>do let xs ←lG xs; some (.mx xs)
 | _,_,_=>none
def cOp(o:Op):Option Ins :=
 match o with
 | .move x | .assign x=>do let x ←cC x; some (.mov x)
 | .pick c a b=>do let c ←cC c; let a ←cC a; let b ←cC b; some (.pick c a b)
 | .alloc t=>do let z ←mA p t; some (.alloc z.cells)
 | .box _ x=>do let x ←cC x; some (.box x)
 | .build t ps=>do
  let z ←mA p t
  match p.underlying t with
  | some (.struct fs)=>match fs.toList.mapM (fun f=>(p.info? f.type).map fun i=>(f.offset,i.size)) with
   | some pl=>do
    let ps ←l9 (fun i=>pl.toArray[i]?) ps.toList
    some (.build z.cells ps)
   | none=>none
  | some (.array _ e)=>do
   let k ←ee p e
   let ps ←l9 (fun i=>some (i*k,k)) ps.toList
   some (.build z.cells ps)
  | _=>none
 | .buildSlice t len ps=>do
  match p.underlying t with
  | some (.slice e)=>do
   let k ←ee p e
   let z ←mA p e
   let ps ←mq ps.toList
   if k=0 || z.cells.length≠k || len*k>2 ^ 20 then none else some (.bsl k z.cells len ps)
  | _=>none
 | .load t a=>do let g ←agT p t; let a ←cC a; some (.ld g a)
 | .store t a x=>do let n ←ee p t; let a ←cC a; let x ←cC x; some (.st n a x)
 | .nilCheck x=>do let x ←cC x; some (.nilck x)
 | .binOp op t x y _=>do
  let x ←cC x
  let y ←cC y
  match op with
  | .eql | .neq =>
   match p.underlying t with
   | some (.pointer _)=>some (.eqo (op==.neq) .ptr x y)
   | some (.slice _)=>some (.eqo (op==.neq) .slc x y)
   | some (.func _ _ _)=>some (.eqo (op==.neq) .fn x y)
   | some (.map _ _)=>some (.eqo (op==.neq) .map x y)
   | _=>match flatT p t with
    | some (ag,ls)=>some (.eqo (op==.neq) (.leaf ag ls) x y)
    | none=>none
  | _=>some (.bin op x y)
 | .unOp op _ x=>do let x ←cC x; some (.un op x)
 | .convert s d x=>do
  let x ←cC x
  match p.underlying s,p.underlying d with
  | some (.int _),some (.int k)=>some (.cvi k x)
  | some .string,some .string=>some (.cvid x)
  | _,_=>none
 | .makeFunc (.func f) a b=>do let a ←lG a.toList; let b ←lG b.toList; some (.mkf f a b)
 | .makeMap _ none=>some .mkmap
 | .makeSlice t l c=>do
  let l ←cC l
  let c ←cC c
  match p.underlying t with
  | some (.slice e)=>match p.info? e with
   | some i=>do
    let z ←mA p e
    if i.size=0 || i.bytes>2 ^ 20 || z.cells.length≠i.size then none else some (.mksl i.size i.bytes z.cells l c)
   | none=>none
  | _=>none
 | .slice t x lo hi mx=>do
  let x ←cC x
  let lo ←rB lo
  let hi ←rB hi
  let mx ←rB mx
  if mx.isSome&&hi.isNone then none else
  match p.underlying t with
  | some (.array n e)=>do let k ←ee p e; some (.slA n k x lo hi mx)
  | some (.slice e)=>do let k ←ee p e; if k=0 then none else some (.slS k x lo hi mx)
  | some .string=>match mx with
   | none=>some (.slT x lo hi)
   | some _=>none
  | _=>none
 | .fieldAddr s x f=>do
  let x ←cC x
  match p.underlying s with
  | some (.struct fs)=>match fs[f]? with
   | some f=>do let k ←ee p f.type; if k=0 then none else some (.fad f.offset x)
   | none=>none
  | _=>none
 | .field t x f=>do
  let x ←cC x
  match p.underlying t with
  | some (.struct fs)=>match fs[f]? with
   | some f=>do let g ←agT p f.type; some (.fld f.offset g x)
   | none=>none
  | _=>none
 | .indexAddr t x i=>do
  let x ←cC x
  let i ←cC i
  match p.underlying t with
  | some (.array n e)=>do let k ←ee p e; some (.iaA n k x i)
  | some (.slice e)=>do let k ←ee p e; if k=0 then none else some (.iaS k x i)
  | _=>none
 | .index t x i=>do
  let x ←cC x
  let i ←cC i
  match p.underlying t with
  | some (.array n e)=>do let k ←ee p e; let g ←agT p e; some (.ixA n k g x i)
  | some .string=>some (.ixT x i)
  | _=>none
 | .lookup t x i ok=>do
  let x ←cC x
  let i ←cC i
  match p.underlying t with
  | some (.map k e)=>match flatT p k,mA p e with
   | some (ag,ls),some z=>some (.lku ag ls z x i ok)
   | _,_=>none
  | _=>none
 | .mapUpdate t m k v | .insert t m k v=>do
  let m ←cC m
  let k' ←cC k
  let v ←cC v
  match p.underlying t with
  | some (.map k _)=>match flatT p k with
   | some (ag,ls)=>some (.mset ag ls m k' v)
   | none=>none
  | _=>none
 | .mapEntry t m k=>do
  let m ←cC m
  let k' ←cC k
  match p.underlying t with
  | some (.map k e)=>match flatT p k,mA p e with
   | some (ag,ls),some z=>some (.ment ag ls z m k')
   | _,_=>none
  | _=>none
 | .entryStore _ m s v=>do
  let m ←cC m
  let s ←cC s
  let v ←cC v
  some (.msto m s v)
 | .range t x=>do
  let x ←cC x
  match p.underlying t with
  | some .string=>some (.rngT x)
  | _=>none
 | .next it true=>do let it ←cC it; some (.nxtT it)
 | .extract t i=>do let t ←cC t; some (.ext t i)
 | .call c =>
  match c.callee with
  | .value (.func f)=>do
   let as ←lG c.args.toList
   match p.funcs[f]? with
   | some fn=>if fn.body.isSome&&fn.name != "runtime.NumGoroutine" then some (.callF f as) else none
   | none=>none
  | .value x=>do let x ←cC x; let as ←lG c.args.toList; some (.callV x as)
  | .builtin b=>jL p b c.args.toList c.argTypes.toList
  | _=>none
 | _=>none
def oc(ops:Array Oper)(o:Oper):Option IOp :=
 let i:=(cOp p o.op).getD .bad
 match o.guard with
 | none=>some ⟨o.dst,i,none⟩
 | some (j,want)=>match ops[j]? with
  | some q=>match q.dst with
   | some d=>some ⟨o.dst,i,some (d,want)⟩
   | none=>none
  | none=>none
def fi(ops:Array Oper):List Oper→Option (List IOp)
 | []=>some []
 | o::os=>match oc p ops o,fi ops os with
  | some i,some is=>some (i::is)
  | _,_=>none
def oq(o:Oper):List Nat:=(o.after.toList.filter (Region.binds .any)).map (·.on)
def jd(b:List Nat)(ds:List Nat):Nat :=
 match ds with
 | []=>0
 | j::ds=>(2 ^ j ||| b.getD j 0) ||| jd b ds
def qMN(os:List Oper)(b:List Nat):List Nat :=
 match os with
 | []=>b
 | o::os=>qMN os (b++[jd b (oq o)])
def rM(b:List Nat)(i:Nat)(os:List Oper):Bool :=
 match os with
 | []=>true
 | o::os=>(oq o).all (fun j=>decide (j < i))&&b.getD i 0==jd b (oq o)&&rM b (i+1) os
def qAt(l:List IOp)(i:Nat):IOp:=match l[i]? with
 | some q=>q
 | none=>⟨none,.bad,none⟩
def qID(l:List IOp)(b:List Nat):Nat→List Nat→Nat→List Nat
 | 0,_,_=>[]
 | fuel+1,left,done =>
  let ready:=left.filter fun i=>(b.getD i 0)&&& done==(b.getD i 0)
  let pick:=match ready.find? (fun i=>decide ((qAt l i).op.kind≤1)) with
   | some i=>some i
   | none=>ready.head?
  match pick with
  | some i=>i::qID l b fuel (left.filter (· != i)) (done ||| 2 ^ i)
  | none=>[]
structure It where
 i:Nat
 ks:List Nat
 deriving Inhabited
def qAP(l:List IOp)(b:List Nat)(before:List Nat):List Nat→List It
 | []=>[]
 | i::is =>
  let ks:=if (qAt l i).op.kind=2 then before.filter fun j=>(qAt l j).isLd&&!(b.getD i 0).testBit j else []
  ⟨i,ks⟩::qAP l b (before++[i]) is
def rm(ka kx:Nat):Bool:=ka==0 || kx==0 || (decide (ka≤1)&&decide (kx≤1))
def jr(l:List IOp)(a x:It):Bool :=
 apart (qAt l a.i) (qAt l x.i)&&(rm (qAt l a.i).op.kind (qAt l x.i).op.kind || ((qAt l a.i).isLd&&x.ks.contains a.i))
def jN{α:Type}(r:α→α→Bool):List α→Bool
 | []=>true
 | a::l=>l.all (r a)&&jN r l
def fK(b:List Nat)(l:List IOp)(its:List It)(a x:It):Bool :=
 ((b.getD x.i 0).testBit a.i || jr l a x)&&a.i != x.i &&
 (!(its.any fun y=>y.ks.contains a.i) || cW (qAt l x.i) (cH (qAt l a.i)))&&a.ks.all (fun j=>cW (qAt l x.i) (cH (qAt l j)))
def uN(b:List Nat)(l:List IOp)(its:List It):Bool :=
 jN (fK b l its) its &&
 its.all (fun x=>(decide ((qAt l x.i).op.kind=2) || x.ks.isEmpty)&&x.ks.all (fun k=>(qAt l k).isLd&&cW (qAt l k) (qAt l k)))
def pC(n:Nat)(its:List It):Bool :=
 decide (its.length=n)&&(List.range n).all (fun i=>its.any fun x=>x.i==i)
def az(l:List IOp):List It→List IOp
 | []=>[]
 | x::xs=>qAt l x.i::(x.ks.map fun k=>cH (qAt l k))++az l xs
def oU:Ins→Bool
 | .alloc _ | .bsl ..=>true
 | _=>false
def IOp.lzy(q:IOp):Bool:=q.dst.isSome&&oU q.op
def zA9(l:List IOp)(b:List Nat):Nat→List Nat→Nat→List Nat
 | 0,_,_=>[]
 | fuel+1,left,done =>
  let ready:=left.filter fun i=>(b.getD i 0)&&& done==(b.getD i 0)
  let pick:=match ready.find? (fun i=>decide ((qAt l i).op.kind≤1)) with
   | some i=>some i
   | none=>match ready.find? (fun i=>!(qAt l i).lzy) with
    | some i=>some i
    | none=>ready.head?
  match pick with
  | some i=>i::zA9 l b fuel (left.filter (· != i)) (done ||| 2 ^ i)
  | none=>[]
def qJS(l:List IOp)(b:List Nat)(before:List Nat):List Nat→List It
 | []=>[]
 | i::is =>
  let ks:=if (qAt l i).op.kind=2&&!(qAt l i).lzy then before.filter fun j=>(qAt l j).isLd&&!(b.getD i 0).testBit j else []
  ⟨i,ks⟩::qJS l b (before++[i]) is
def qE(l:List IOp)(its:List It)(a x:It):Bool :=
 a.i != x.i&&(!(its.any fun y=>y.ks.contains a.i) || cW (qAt l x.i) (cH (qAt l a.i)))&&a.ks.all (fun j=>cW (qAt l x.i) (cH (qAt l j)))
def mR(b:List Nat)(l:List IOp)(its:List It)(a x:It):Bool :=
 ((b.getD x.i 0).testBit a.i || (if (qAt l x.i).lzy then
  apart (qAt l a.i) (qAt l x.i)&&(decide ((qAt l a.i).op.kind≤1) || its.all fun y=>!(b.getD y.i 0).testBit x.i || (b.getD y.i 0).testBit a.i)
  else jr l a x))&&qE l its a x
def qY(b:List Nat)(l:List IOp)(its:List It):Bool :=
 jN (mR b l its) its &&
 its.all (fun x=>((decide ((qAt l x.i).op.kind=2)&&!(qAt l x.i).lzy) || x.ks.isEmpty)&&x.ks.all (fun k=>(qAt l k).isLd&&cW (qAt l k) (qAt l k))&&(!(qAt l x.i).lzy || cW (qAt l x.i) (qAt l x.i)))
def zBY(ops:Array Oper):Option (List IOp) :=
 match fi p ops ops.toList with
 | some l =>
  let b:=qMN ops.toList []
  let its:=qAP l b [] (qID l b ops.size (List.range ops.size) 0)
  if p.follows .mixedOrders&&rM b 0 ops.toList then
   if uN b l its&&pC ops.size its then some (az l its) else
   let its:=qJS l b [] (zA9 l b ops.size (List.range ops.size) 0)
   if qY b l its&&pC ops.size its&&its.all (fun x=>decide (x.i < ops.size)) then some (az l its) else none
  else none
 | none=>none
def cY:Code→Option IC
 | .skip | .label _=>some .skip
 | .region _ ops draw=>(if draw then zBY p ops else fi p ops ops.toList).map .ops
 | .seq a b=>match cY a,cY b with
  | some a,some b=>some (.seq a b)
  | _,_=>none
 | .cond x a b=>match cC x,cY a,cY b with
  | some x,some a,some b=>some (.cond x a b)
  | _,_,_=>none
 | .block id c=>(cY c).map (.block id)
 | .loop c=>(cY c).map .loop
 | .rangeFunc f ps a b=>match cC f,cY a,cY b with
  | some f,some a,some b=>some (.rangeF f ps.toList a b)
  | _,_,_=>none
 | .exit id=>some (.exit id)
 | .scope c=>cY c
 | .ret=>some .ret
 | .goto _ | .refuse _=>none
def ot:List ResultVar→Option (List IRes)
 | []=>some []
 | .tmp t::rs=>match ot rs with
  | some rs=>some (.tmp t::rs)
  | none=>none
 | .cell a t::rs=>match agT p t,ot rs with
  | some g,some rs=>some (.cell a g::rs)
  | _,_=>none
def qM9(f:Nat):Option IF :=
 match p.funcs[f]? with
 | some fn=>match fn.body with
  | some c=>match cY p c,ot p fn.results.toList with
   | some b,some r=>some ⟨fn.ntmps,r,b,0⟩
   | _,_=>none
  | none=>none
 | none=>none
end
end Ce
namespace Ce
noncomputable section
open Go
inductive Tgt where
 | fn (f:Nat)
 | yl (r:Nat)
def ldV(ag:Option Nat)(a:CV)(h:H):Option CV :=
 match a with
 | .ptr r off=>match h.get r with
  | some (.cells c _)=>cO ag c off
  | _=>none
 | .rptr c=>cO ag c 0
 | _=>none
def stV(n:Nat)(a x:CV)(h:H):Option H :=
 match a with
 | .ptr r off=>match h.get r with
  | some (.cells c false)=>if x.cells.length=n&&off+n≤c.length&&aM x.cells then some (h.put r (.cells (splice c off x.cells) false)) else none
  | _=>none
 | _=>none
def newC(c:List CV)(h:H):CV × H:=(.ptr h.n 0,h.push (.cells c false))
def appV(k bytes:Nat)(s x:CV)(h:H):Option (CV × H) :=
 match lenOf s,lenOf x with
 | some sl,some n =>
  if n=0 then some (s,h) else
  if (sl+n)*(bytes+1)>2 ^ 46 then none else
  match cellsOf k n h x with
  | none=>none
  | some new =>
   if aM new=false then none else
   match s with
   | .nils=>some (.slc k h.n 0 n none,h.push (.cells new false))
   | .lst rows true=>if eO k rows then some (.slc k h.n 0 (sl+n) none,h.push (.cells (bo rows++new) false)) else none
   | .slc k' r off len (some c) =>
    if k'≠k then none else
    match h.get r with
    | some (.cells cs ro) =>
     if len+n≤c then
      if ro then none else
      if off+(len+n)*k≤cs.length then some (.slc k r off (len+n) (some c),h.put r (.cells (splice cs (off+len*k) new) false)) else none
     else match cut? cs off (len*k) with
      | some old=>some (.slc k h.n 0 (len+n) none,h.push (.cells (old++new) false))
      | none=>none
    | _=>none
   | .slc k' r off len none =>
    if k'≠k then none else
    match h.get r with
    | some (.cells cs false)=>if off=0&&len*k=cs.length then some (.slc k h.n 0 (len+n) none,(h.put r .dead).push (.cells (cs++new) false)) else none
    | _=>none
   | _=>none
 | _,_=>none
def fzX(x:CV)(h:H):Option H :=
 match x with
 | .slc _ r _ _ _=>match h.get r with
  | some (.cells [.slc a b c d e] false)=>match frz 20 (.slc a b c d e) h with
   | some (v,h1)=>match h1.get r with
    | some (.cells [_] false)=>some (h1.put r (.cells [v] false))
    | _=>none
   | none=>none
  | some _=>some h
  | none=>none
 | _=>some h
def appW(k bytes:Nat)(s x:CV)(h:H):Option (CV × H) :=
 match Nat.beq bytes 24&&Nat.beq k 1 with
 | true=>match fzX x h with
  | some h=>appV k bytes s x h
  | none=>none
 | false=>appV k bytes s x h
def cpyV(k:Nat)(d s:CV)(h:H):Option (CV × H) :=
 match lenOf d,lenOf s with
 | some dl,some sl =>
  let n:=min sl dl
  if n=0 then some (.int .i64 0,h) else
  match cellsOf k n h s,d with
  | some new,.slc _ r off _ _=>match h.get r with
   | some (.cells cs false)=>if off+n*k≤cs.length&&aM new then some (.int .i64 n,h.put r (.cells (splice cs off new) false)) else none
   | _=>none
  | _,_=>none
 | _,_=>none
def mkslV(k bytes:Nat)(zero:List CV)(l c:CV)(h:H):Option (CV × H) :=
 match l,c with
 | .int _ l,.int _ c=>if 0≤l∧l≤c∧c*(bytes+1)≤2 ^ 40 then some (.slc k h.n 0 l.toNat (some c.toNat),h.push (.cells (dQ zero c.toNat) false)) else none
 | _,_=>none
def mnS:Option CV→CV→Option CV
 | some (.int k a),.int _ b=>some (.int k (if b < a then b else a))
 | _,_=>none
def mxS:Option CV→CV→Option CV
 | some (.int k a),.int _ b=>some (.int k (if b>a then b else a))
 | _,_=>none
def mnL(xs:List CV):Option CV :=
 match xs with
 | .int k a::xs=>xs.foldl mnS (some (.int k a))
 | _=>none
def mxL(xs:List CV):Option CV :=
 match xs with
 | .int k a::xs=>xs.foldl mxS (some (.int k a))
 | _=>none
def lkuV(ag:Bool)(ls:List Lf)(z x i:CV)(ok:Bool)(h:H):Option CV :=
 if kOk ag ls i then (match x with
  | .nilm=>some (if ok then .tup [z,.bool false] else z)
  | .map r=>match h.get r with
   | some (.map es _)=>match bp es i with
    | some (some (v,_))=>some (if ok then .tup [v,.bool true] else v)
    | some none=>some (if ok then .tup [z,.bool false] else z)
    | none=>none
   | _=>none
  | _=>none) else none
def gU(k:Nat)(cs:List CV)(env:List CV):List (Nat × Opd)→Option (List CV)
 | []=>some cs
 | (i,o)::ps =>
  let v:=(o.ev env).cells
  if v.length=k&&i*k+k≤cs.length&&aM v then gU k (splice cs (i*k) v) env ps else none
def stepO(call:Tgt→List CV→H→Option (CV × H))(o:Ins)(env:List CV)(h:H):Option (CV × H) :=
 match o with
 | .mov x=>some (x.ev env,h)
 | .pick c a b=>match c.ev env with
  | .bool true=>some (a.ev env,h)
  | .bool false=>some (b.ev env,h)
  | _=>none
 | .alloc z=>some (newC z h)
 | .box x=>let v:=x.ev env
  if aM v.cells then some (newC v.cells h) else none
 | .build z ps=>match cG z env ps with
  | some c=>some (.agg c,h)
  | none=>none
 | .bsl k z len ps=>match gU k (dQ z len) env ps with
  | some c=>some (.slc k h.n 0 len (some len),h.push (.cells c false))
  | none=>none
 | .ld g a=>match ldV g (a.ev env) h with
  | some v=>some (v,h)
  | none=>none
 | .st n a x=>match stV n (a.ev env) (x.ev env) h with
  | some h=>some (undef,h)
  | none=>none
 | .nilck x=>match x.ev env with
  | .nilp | .nili | .nilf=>none
  | v=>some (v,h)
 | .bin op x y=>match bin op (x.ev env) (y.ev env) with
  | some v=>some (v,h)
  | none=>none
 | .eqo neg e x y=>match eqK e (x.ev env) (y.ev env) with
  | some b=>some (.bool (if neg then !b else b),h)
  | none=>none
 | .un op x=>match un op (x.ev env) with
  | some v=>some (v,h)
  | none=>none
 | .cvi k x=>match x.ev env with
  | .int _ n=>some (.int k (k.wrap n),h)
  | _=>none
 | .cvid x=>match x.ev env with
  | .str s=>some (.str s,h)
  | _=>none
 | .mkf f a b=>some (.clo f (evs env a) (evs env b),h)
 | .mkmap=>some (.map h.n,h.push (.map [] 0))
 | .mksl k bytes z l c=>mkslV k bytes z (l.ev env) (c.ev env) h
 | .slA n k x lo hi mx=>match slA h (x.ev env) n k (Opd.evo env lo) (Opd.evo env hi) (Opd.evo env mx) with
  | some v=>some (v,h)
  | none=>none
 | .slS k x lo hi mx=>match slS (x.ev env) k (Opd.evo env lo) (Opd.evo env hi) (Opd.evo env mx) with
  | some v=>some (v,h)
  | none=>none
 | .slT x lo hi=>match x.ev env with
  | .str s=>match bnd (Opd.evo env hi) s.size s.size with
   | some b=>match bnd (Opd.evo env lo) 0 b with
    | some a=>some (.str (s.extract a b),h)
    | none=>none
   | none=>none
  | _=>none
 | .fad off x=>match x.ev env with
  | .ptr r o=>some (.ptr r (o+off),h)
  | .rptr c=>some (.rptr (c.drop off),h)
  | _=>none
 | .fld off g x=>match x.ev env with
  | .agg c=>match cO g c off with
   | some v=>some (v,h)
   | none=>none
  | _=>none
 | .iaS k x i=>match x.ev env,bf? (i.ev env) with
  | .slc _ r off len _,some i=>if i < len then some (.ptr r (off+i*k),h) else none
  | .lst rows _,some i=>match nth? rows i with
   | some row=>if row.length=k then some (.rptr row,h) else none
   | none=>none
  | _,_=>none
 | .iaA n k x i=>match x.ev env,bf? (i.ev env) with
  | .ptr r off,some i=>if i < n then some (.ptr r (off+i*k),h) else none
  | .rptr c,some i=>if i < n then some (.rptr (c.drop (i*k)),h) else none
  | _,_=>none
 | .ixA n k g x i=>match x.ev env,bf? (i.ev env) with
  | .agg c,some i=>if i < n then (match cO g c (i*k) with
   | some v=>some (v,h)
   | none=>none) else none
  | _,_=>none
 | .ixT x i=>match x.ev env,bf? (i.ev env) with
  | .str s,some i=>match s.data.toList[i]? with
   | some b=>some (.int .u8 b.toNat,h)
   | none=>none
  | _,_=>none
 | .lku ag ls z x i ok=>match lkuV ag ls z (x.ev env) (i.ev env) ok h with
  | some v=>some (v,h)
  | none=>none
 | .mset ag ls m k v=>if kOk ag ls (k.ev env) then (match m.ev env with
  | .map r=>match frz 20 (v.ev env) h with
   | some (v,h)=>match h.get r with
    | some (.map es cl)=>match bp es (k.ev env) with
     | some (some _)=>some (undef,h.put r (.map (ra es (k.ev env) v) cl))
     | some none=>some (undef,h.put r (.map (es++[(k.ev env,v,cl)]) (cl+1)))
     | none=>none
    | _=>none
   | none=>none
  | _=>none) else none
 | .ment ag ls z m k=>if kOk ag ls (k.ev env) then (match m.ev env with
  | .map r=>match h.get r with
   | some (.map es cl)=>match bp es (k.ev env) with
    | some (some (v,b))=>some (.tup [v,.int .i64 b],h)
    | some none=>some (.tup [z,.int .i64 cl],h.put r (.map (es++[(k.ev env,z,cl)]) (cl+1)))
    | none=>none
   | _=>none
  | _=>none) else none
 | .msto m s v=>match m.ev env,s.ev env with
  | .map r,.int _ b=>match h.get r with
   | some (.map es cl)=>match qCO es b (v.ev env) with
    | some es=>some (undef,h.put r (.map es cl))
    | none=>none
   | _=>none
  | _,_=>none
 | .rngT x=>match x.ev env with
  | .str s=>some (.ptr h.n 0,h.push (.sit s 0))
  | _=>none
 | .nxtT it=>match it.ev env with
  | .ptr r 0=>match h.get r with
   | some (.sit s pos)=>if pos < s.size then
     let d:=Utf8.decode s pos
     some (.tup [.bool true,.int .i64 pos,.int .i32 d.1],h.put r (.sit s (pos+d.2)))
    else some (.tup [.bool false],h)
   | _=>none
  | _=>none
 | .ext t i=>match t.ev env with
  | .tup vs=>match nth? vs i with
   | some v=>some (v,h)
   | none=>none
  | _=>none
 | .app k bytes s x=>appW k bytes (s.ev env) (x.ev env) h
 | .lenS x=>match lenOf (x.ev env) with
  | some n=>some (.int .i64 n,h)
  | none=>none
 | .lenT x=>match x.ev env with
  | .str s=>some (.int .i64 s.size,h)
  | _=>none
 | .lenA n=>some (.int .i64 n,h)
 | .lenM x=>match x.ev env with
  | .nilm=>some (.int .i64 0,h)
  | .map r=>match h.get r with
   | some (.map es _)=>some (.int .i64 es.length,h)
   | _=>none
  | _=>none
 | .cpy k d s=>cpyV k (d.ev env) (s.ev env) h
 | .mn xs=>match mnL (evs env xs) with
  | some v=>some (v,h)
  | none=>none
 | .mx xs=>match mxL (evs env xs) with
  | some v=>some (v,h)
  | none=>none
 | .clr k z x=>match x.ev env with
  | .nilm | .nils=>some (.tup [],h)
  | .map r=>match h.get r with
   | some (.map _ cl)=>some (.tup [],h.put r (.map [] cl))
   | _=>none
  | .slc _ r off len _=>if len=0 then some (.tup [],h) else if k=0 then none else (match h.get r with
   | some (.cells cs false)=>if off+len*k≤cs.length&&aM z then some (.tup [],h.put r (.cells (splice cs off (dQ z len)) false)) else none
   | _=>none)
  | .lst [] _=>some (.tup [],h)
  | _=>none
 | .ckl g a x=>match ldV g (a.ev env) h with
  | some v=>if bA v (x.ev env) then some (undef,h) else none
  | none=>none
 | .cku ag ls z x i ok d=>match lkuV ag ls z (x.ev env) (i.ev env) ok h with
  | some v=>if bA v (d.ev env) then some (undef,h) else none
  | none=>none
 | .bad=>none
 | .callF f as=>call (.fn f) (evs env as) h
 | .callV f as=>match f.ev env with
  | .clo f a b=>call (.fn f) (a++evs env as++b) h
  | .yld r=>call (.yl r) (evs env as) h
  | _=>none
def isCall:Ins→Bool
 | .callF .. | .callV ..=>true
 | _=>false
def noC:Tgt→List CV→H→Option (CV × H):=fun _ _ _=>none
def eL(b:Bool):CV→Bool
 | .bool c=>b==c
 | _=>false
def put?(env:List CV)(d:Option Nat)(v:CV):List CV :=
 match d with
 | none=>env
 | some d=>aL env d v
def grd(g:Option (Nat × Bool))(env:List CV):Bool:=match g with
 | none=>true
 | some (s,b)=>eL b (aR env s)
def opsR(call:Tgt→List CV→H→Option (CV × H)):List IOp→List CV→H→Option (List CV × H)
 | [],env,h=>some (env,h)
 | o::os,env,h =>
  match grd o.guard env with
  | true=>match stepO call o.op env h with
   | some (v,h)=>opsR call os (put? env o.dst v) h
   | none=>none
  | false=>opsR call os (put? env o.dst undef) h
def loopR(body:List CV→H→Option (Ex × List CV × H)):Nat→List CV→H→Option (Ex × List CV × H)
 | 0,_,_=>none
 | n+1,env,h=>match body env h with
  | some (.nor,env,h)=>loopR body n env h
  | r=>r
def exec(call:Tgt→List CV→H→Option (CV × H))(n:Nat):IC→List CV→H→Option (Ex × List CV × H)
 | .skip,env,h=>some (.nor,env,h)
 | .ops l,env,h=>match opsR call l env h with
  | some (env,h)=>some (.nor,env,h)
  | none=>none
 | .seq a b,env,h=>match exec call n a env h with
  | some (.nor,env,h)=>exec call n b env h
  | r=>r
 | .cond x a b,env,h=>match x.ev env with
  | .bool true=>exec call n a env h
  | .bool false=>exec call n b env h
  | _=>none
 | .block id c,env,h=>match exec call n c env h with
  | some (.jmp (.exit i),env,h)=>if i=id then some (.nor,env,h) else some (.jmp (.exit i),env,h)
  | r=>r
 | .loop c,env,h=>loopR (exec call n c) n env h
 | .rangeF f ps a b,env,h =>
  let l:=h.n
  let h:=h.push (.loop .ready none env ps a b)
  let r:=match f.ev env with
   | .clo f x y=>call (.fn f) (x++[CV.yld l]++y) h
   | _=>none
  match r with
  | some (_,h)=>match h.get l with
   | some (.loop st pend env' ps' a' b') =>
    if st=LSt.busy then none else
    let h:=h.put l (.loop .exhausted pend env' ps' a' b')
    match pend with
    | none=>some (.nor,env,h)
    | some j=>some (.jmp j,env,h)
   | _=>none
  | none=>none
 | .exit id,env,h=>some (.jmp (.exit id),env,h)
 | .ret,env,h=>some (.jmp .ret,env,h)
def resV(rs:List IRes)(env:List CV)(h:H):Option (List CV) :=
 match rs with
 | []=>some []
 | .tmp t::rs=>match resV rs env h with
  | some vs=>some (aR env t::vs)
  | none=>none
 | .cell t g::rs=>match ldV g (aR env t) h,resV rs env h with
  | some v,some vs=>some (v::vs)
  | _,_=>none
def one?:List CV→CV
 | [v]=>v
 | vs=>.tup vs
def cB:Nat→List CV
 | 0=>[]
 | n+1=>undef::cB n
def gv:List CV→List Nat→List CV→Option (List CV)
 | env,[],[]=>some env
 | env,p::ps,v::vs=>gv (aL env p v) ps vs
 | _,_,_=>none
def bodyR(ex:List CV→H→Option (Ex × List CV × H))(F:IF)(args:List CV)(h:H):Option (CV × H) :=
 match ex (args++cB (F.ntmps - args.length)) h with
 | some (.nor,env,h) | some (.jmp .ret,env,h)=>match resV F.res env h with
  | some vs=>some (one? vs,h)
  | none=>none
 | _=>none
def big:List CV→Bool
 | [.slc k _ _ len _]=>Nat.beq k 1&&Nat.blt 0 len
 | _=>false
def hZ:List CV→Option (List Int)
 | []=>some []
 | .int .i64 z::l=>match hZ l with
  | some zs=>some (z::zs)
  | none=>none
 | _=>none
def ax:List Int→List CV
 | []=>[]
 | z::l=>.int .i64 z::ax l
def yR(x:Int):List Int→List Int
 | []=>[x]
 | y::l=>if x≤y then x::y::l else y::yR x l
def dO:List Int→List Int
 | []=>[]
 | x::l=>yR x (dO l)
def srtV(args:List CV)(h:H):Option H:=match args with
 | [.slc _ r off len _]=>match h.get r with
  | some (.cells cs false)=>match cut? cs off len with
   | some xs=>match hZ xs with
    | some zs=>match Nat.ble zs.length 1099511627776 with
     | true=>some (h.put r (.cells (splice cs off (ax (dO zs))) false))
     | false=>none
    | none=>none
   | none=>none
  | _=>none
 | _=>none
def run(tbl:Nat→Option IF):Nat→Tgt→List CV→H→Option (CV × H)
 | 0,_,_,_=>none
 | n+1,.fn f,args,h=>match tbl f with
  | some F =>
   if F.mode=2 then
    match frzL (frz 20) args h with
    | some (args,h)=>if iD args=false then none else
     match bodyR (exec (run tbl n) n F.body) F args H.empty with
     | some (v,hs)=>match xp 20 v (hs,h) with
      | some (v,_,h)=>some (v,h)
      | none=>none
     | none=>none
    | none=>none
   else match Nat.beq F.mode 3&&big args with
    | true=>match srtV args h with
     | some h=>some (.tup [],h)
     | none=>none
    | false=>match bodyR (exec (run tbl n) n F.body) F args h with
     | some (v,h)=>if F.mode=1 then frz 20 v h else some (v,h)
     | none=>none
  | none=>none
 | n+1,.yl l,args,h=>match h.get l with
  | some (.loop .ready _ env ps a b)=>match gv env ps args with
   | some env'=>match exec (run tbl n) n a env' h with
    | some (.nor,env',h)=>match h.get l with
     | some (.loop .ready pend' env0 ps' a' b') =>
      match exec (run tbl n) n b env' (h.put l (.loop .busy pend' env0 ps' a' b')) with
      | some (e,_,h)=>match h.get l with
       | some (.loop _ _ env0 ps' a' b')=>match e with
        | .nor=>some (.bool true,h.put l (.loop .ready none env0 ps' a' b'))
        | .jmp j=>some (.bool false,h.put l (.loop .done (some j) env0 ps' a' b'))
       | _=>none
      | none=>none
     | _=>none
    | _=>none
   | none=>none
  | _=>none
end
end Ce
namespace Ce
open Go
structure Cx where
 β:Nat→Nat
 Im:Nat→Prop
inductive VR (c:Cx) (n:Nat) (w:World):CV→Value→Prop where
 | bool (b:Bool):VR c n w (.bool b) (.bool b)
 | int (k:IntKind) (m:Int):VR c n w (.int k m) (.int k m)
 | str (s:ByteArray):VR c n w (.str s) (.string s)
 | nilp:VR c n w .nilp (.pointer none)
 | ptr (r off:Nat) (hr:r < n):VR c n w (.ptr r off) (.pointer (some ⟨c.β r,off,none⟩))
 | rptr (cells:List CV) (b off:Nat) (vs:Nat→Value) (him:c.Im b)
   (hc:∀(i:Nat) (x:CV),cells[i]?=some x→w.cell? ⟨b,off+i,none⟩=some (vs i))
   (hv:∀(i:Nat) (x:CV),cells[i]?=some x→VR c n w x (vs i)):VR c n w (.rptr cells) (.pointer (some ⟨b,off,none⟩))
 | nils:VR c n w .nils (.slice none 0 0)
 | slc (k r off len:Nat) (cap:Option Nat) (cap':Nat) (hr:r < n) (hcap:∀m,cap=some m→cap'=m) (hle:len≤cap')
   (hsz:∃e s,w.shape? (c.β r)=some (e,s)∧off+cap'*k≤s):VR c n w (.slc k r off len cap) (.slice (some ⟨c.β r,off,none⟩) len cap')
 | lst (rows:List (List CV)) (ex:Bool) (k b off:Nat) (sp:Option Nat) (cap':Nat) (vs:Nat→Nat→Value) (hle:rows.length≤cap') (hsp:rows≠[]→sp=none) (hex:ex=true→cap'=rows.length)
   (him:rows≠[]→c.Im b) (hk:∀(i:Nat) (row:List CV),rows[i]?=some row→row.length=k)
   (hc:∀(i:Nat) (row:List CV) (j:Nat) (x:CV),rows[i]?=some row→row[j]?=some x→w.cell? ⟨b,off+i*k+j,none⟩=some (vs i j))
   (hv:∀(i:Nat) (row:List CV) (j:Nat) (x:CV),rows[i]?=some row→row[j]?=some x→VR c n w x (vs i j)) :
   VR c n w (.lst rows ex) (.slice (some ⟨b,off,sp⟩) rows.length cap')
 | nilm:VR c n w .nilm (.map none)
 | map (r:Nat) (hr:r < n):VR c n w (.map r) (.map (some (c.β r)))
 | nilf:VR c n w .nilf .nilFunc
 | clo (f:Nat) (xs ys:List CV) (vs us:Array Value) (hx:xs.length=vs.size) (hy:ys.length=us.size)
   (hvx:∀(i:Nat) (x:CV) (v:Value),xs[i]?=some x→vs[i]?=some v→VR c n w x v)
   (hvy:∀(i:Nat) (x:CV) (v:Value),ys[i]?=some x→us[i]?=some v→VR c n w x v):VR c n w (.clo f xs ys) (.func (.func f) vs us)
 | yld (r:Nat) (hr:r < n):VR c n w (.yld r) (.func (.yield (c.β r)) #[] #[])
 | nili:VR c n w .nili .nilIface
 | ifc (t:Nat) (x:CV) (v:Value) (h:VR c n w x v):VR c n w (.ifc t x) (.iface t v)
 | agg (xs:List CV) (vs:Array Value) (hx:xs.length=vs.size) (hv:∀(i:Nat) (x:CV) (v:Value),xs[i]?=some x→vs[i]?=some v→VR c n w x v):VR c n w (.agg xs) (.agg vs)
 | tup (xs:List CV) (vs:Array Value) (hx:xs.length=vs.size) (hv:∀(i:Nat) (x:CV) (v:Value),xs[i]?=some x→vs[i]?=some v→VR c n w x v):VR c n w (.tup xs) (.tuple vs)
 | undp (a:Addr):VR c n w (.tup []) (.pointer (some a))
 | unds (a:Addr) (len cap:Nat):VR c n w (.tup []) (.slice (some a) len cap)
def VRs(c:Cx)(n:Nat)(w:World)(xs:List CV)(vs:List Value):Prop :=
 xs.length=vs.length∧∀(i:Nat) (x:CV) (v:Value),xs[i]?=some x→vs[i]?=some v→VR c n w x v
def na:Obj→Bool
 | .loop _=>true
 | _=>false
structure Evo (c:Cx) (n:Nat) (w:World) (c':Cx) (n':Nat) (w':World):Prop where
 le:n≤n'
 beta:∀i,i < n→c'.β i=c.β i
 im:∀b,c.Im b→c'.Im b
 imh:∀b,c.Im b→w'.heap[b]?=w.heap[b]?
 shape:∀b e s,w.shape? b=some (e,s)→w'.shape? b=some (e,s)
 lp:∀b:Nat,(w.heap[b]?).map na=some true→(w'.heap[b]?).map na=some true
theorem Evo.refl(c:Cx)(n:Nat)(w:World):Evo c n w c n w:=⟨aV _,fun _ _=>rfl,fun _ h=>h,fun _ _=>rfl,fun _ _ _ h=>h,fun _ h=>h⟩
theorem Evo.trans{c c' c'':Cx}{n n' n'':Nat}{w w' w'':World}(h:Evo c n w c' n' w')(k:Evo c' n' w' c'' n'' w''):Evo c n w c'' n'' w'' :=
 ⟨cz h.le k.le,fun i hi=>(k.beta i (dD hi h.le)).trans (h.beta i hi),fun b hb=>k.im b (h.im b hb),
  fun b hb=>(k.imh b (h.im b hb)).trans (h.imh b hb),fun b e s hs=>k.shape b e s (h.shape b e s hs),fun b hb=>k.lp b (h.lp b hb)⟩
theorem Evo.cell{c c':Cx}{n n':Nat}{w w':World}(h:Evo c n w c' n' w'){a:Addr}(hi:c.Im a.block):w'.cell? a=w.cell? a:=by
 unfold World.cell?; rw [h.imh _ hi]
theorem VR.evo{c c':Cx}{n n':Nat}{w w':World}(h:Evo c n w c' n' w'){x:CV}{v:Value}(hv:VR c n w x v):VR c' n' w' x v:=by
 induction hv with
 | bool b=>exact .bool b
 | int k m=>exact .int k m
 | str s=>exact .str s
 | nilp=>exact .nilp
 | ptr r off hr=>rw [←h.beta r hr]; exact .ptr r off (dD hr h.le)
 | rptr cells b off vs him hc hv ih=>exact .rptr cells b off vs (h.im _ him) (fun i x hx=>by rw [h.cell (a:=⟨b,off+i,none⟩) him]; exact hc i x hx) ih
 | nils=>exact .nils
 | slc k r off len cap cap' hr hcap hle hsz =>
  obtain ⟨e,s,hs,hb⟩:=hsz;have:=VR.slc (c:=c') (w:=w') k r off len cap cap' (dD hr h.le) hcap hle ⟨e,s,by rw [h.beta r hr]; exact h.shape _ _ _ hs,hb⟩;rw [h.beta r hr] at this; exact this
 | lst rows ex k b off sp cap' vs hle hsp hex him hk hc hv ih =>
  refine .lst rows ex k b off sp cap' vs hle hsp hex (fun hne=>h.im _ (him hne)) hk (fun i row j x hr hx=>?_) ih;have hne:rows≠[]:=by rintro rfl; simp at hr
  rw [h.cell (a:=⟨b,off+i*k+j,none⟩) (him hne)]; exact hc i row j x hr hx
 | nilm=>exact .nilm
 | map r hr=>rw [←h.beta r hr]; exact .map r (dD hr h.le)
 | nilf=>exact .nilf
 | clo f xs ys vs us hx hy _ _ ih1 ih2=>exact .clo f xs ys vs us hx hy ih1 ih2
 | yld r hr=>rw [←h.beta r hr]; exact .yld r (dD hr h.le)
 | nili=>exact .nili
 | ifc t x v _ ih=>exact .ifc t x v ih
 | agg xs vs hx _ ih=>exact .agg xs vs hx ih
 | tup xs vs hx _ ih=>exact .tup xs vs hx ih
 | undp a=>exact .undp a
 | unds a len cap=>exact .unds a len cap
theorem VRs.evo{c c':Cx}{n n':Nat}{w w':World}(h:Evo c n w c' n' w'){xs:List CV}{vs:List Value}(hv:VRs c n w xs vs):VRs c' n' w' xs vs :=
 ⟨hv.1,fun i x v hx hu=>(hv.2 i x v hx hu).evo h⟩
def Blk.live:Blk→Bool
 | .cells _ ro=>!ro
 | .map _ _ | .loop .. | .sit ..=>true
 | .dead=>false
def bR(h:H)(i:Nat):Prop:=∃b,h.f i=some b∧b.live=true
def stR:LSt→LoopState→Prop
 | .ready,.ready | .busy,.busy | .done,.done | .exhausted,.exhausted=>True
 | _,_=>False
def wE:Jump→Code
 | .ret=>.ret
 | .exit i=>.exit i
inductive BR (P:Program) (c:Cx) (n:Nat) (w:World):Blk→Obj→Prop where
 | cells (cs:List CV) (ro:Bool) (arr:Array Value) (e:TypeId) (hsz:cs.length≤arr.size)
   (hv:∀(j:Nat) (x:CV) (v:Value),cs[j]?=some x→arr[j]?=some v→VR c n w x v):BR P c n w (.cells cs ro) (.cells arr e (0,0))
 | map (es:List (CV × CV × Nat)) (es':Array MapEntry) (cl:Nat) (hsz:es.length=es'.size)
   (hv:∀(j:Nat) (k v:CV) (b:Nat) (m:MapEntry),es[j]?=some (k,v,b)→es'[j]?=some m→VR c n w k m.key∧VR c n w v m.val∧m.born=b):BR P c n w (.map es cl) (.map es' cl)
 | loop (st:LSt) (pend:Option Jump) (env:List CV) (ps:List Nat) (a b:IC) (l:Loop) (hst:stR st l.state) (hp:l.pending=pend.map wE) (he:VRs c n w env l.tmps.toList)
   (hps:l.params.toList=ps) (ha:cY P l.assign=some a) (hb:cY P l.body=some b):BR P c n w (.loop st pend env ps a b) (.loop l)
 | sit (s:ByteArray) (pos:Nat):BR P c n w (.sit s pos) (.stringIter s pos)
theorem BR.evo{P:Program}{c c':Cx}{n n':Nat}{w w':World}(h:Evo c n w c' n' w'){b:Blk}{o:Obj}(hb:BR P c n w b o):BR P c' n' w' b o:=by
 cases hb with
 | cells cs ro arr e hsz hv=>exact .cells cs ro arr e hsz fun j x v hx hu=>(hv j x v hx hu).evo h
 | map es es' cl hsz hv=>exact .map es es' cl hsz fun j k v b m hk hm=>let ⟨h1,h2,h3⟩:=hv j k v b m hk hm; ⟨h1.evo h,h2.evo h,h3⟩
 | loop st pend env ps a b l hst hp he hps ha hb=>exact .loop st pend env ps a b l hst hp (he.evo h) hps ha hb
 | sit s pos=>exact .sit s pos
structure Rel (P:Program) (c:Cx) (h:H) (w:World):Prop where
 bound:∀i b,h.f i=some b→i < h.n
 blk:∀i b,h.f i=some b→b=.dead∨∃o,w.heap[c.β i]?=some o∧BR P c h.n w b o
 inj:∀i j,bR h i→bR h j→c.β i=c.β j→i=j
 notIm:∀i,bR h i→¬c.Im (c.β i)
 ro:∀i cs,h.f i=some (.cells cs true)→c.Im (c.β i)
 imlt:∀b,c.Im b→b < w.heap.size
def qDF:Obj→Nat × Nat
 | .cells _ _ fr=>fr
 | _=>(0,0)
def oB(w:World)(b:Nat):Nat × Nat:=((w.heap[b]?).map qDF).getD (0,0)
theorem sg(w:World)(a:Addr):w.frozen? a=(decide ((oB w a.block).1≤a.off)&&decide (a.off < (oB w a.block).2)):=by
 unfold World.frozen? oB;cases w.heap[a.block]? with
 | none=>simp
 | some o =>
  cases o with
  | cells cs e fr=>obtain ⟨lo,hi⟩:=fr; rfl
  | _=>simp [qDF]
theorem BR.fz{P:Program}{c:Cx}{n:Nat}{w:World}{b:Blk}{o:Obj}(h:BR P c n w b o):qDF o=(0,0):=by cases h<;>rfl
theorem fM{w:World}{b:Nat}{o:Obj}(h:w.heap[b]?=some o):oB w b=qDF o:=by unfold oB; rw [h]; rfl
theorem dW{w w':World}{b:Nat}(h:w'.heap[b]?=w.heap[b]?):oB w' b=oB w b:=by unfold oB; rw [h]
structure Fr (c:Cx) (h:H) (w:World) (c':Cx) (h':H) (w':World):Prop where
 size:w.heap.size≤w'.heap.size
 old:∀b,b < w.heap.size→(∀i,bR h i→c.β i≠b)→w'.heap[b]?=w.heap[b]?
 live:∀i,bR h' i→(∃j,bR h j∧c.β j=c'.β i)∨w.heap.size≤c'.β i
 im:∀b,c'.Im b→c.Im b∨w.heap.size≤b∨∃j,bR h j∧c.β j=b
 fz:∀b,b < w.heap.size→oB w' b=oB w b
 outs:w'.os=w.os∧w'.output=w.output
theorem Fr.refl(c:Cx)(h:H)(w:World):Fr c h w c h w:=⟨aV _,fun _ _ _=>rfl,fun i hi=>.inl ⟨i,hi,rfl⟩,fun _ hb=>.inl hb,fun _ _=>rfl,rfl,rfl⟩
theorem Fr.trans{c c' c'':Cx}{h h' h'':H}{w w' w'':World}(f:Fr c h w c' h' w')(g:Fr c' h' w' c'' h'' w''):Fr c h w c'' h'' w'':=by
 refine ⟨cz f.size g.size,fun b hb hn=>?_,fun i hi=>?_,fun b hb=>?_,fun b hb=>(g.fz b (dD hb f.size)).trans (f.fz b hb),g.outs.1.trans f.outs.1,g.outs.2.trans f.outs.2⟩
 ·rw [g.old b (dD hb f.size) ?_]
  ·exact f.old b hb hn
  ·intro i hi e;rcases f.live i hi with ⟨j,hj,ej⟩ | hge
   ·exact hn j hj (ej.trans e)
   ·omega
 ·rcases g.live i hi with ⟨j,hj,ej⟩ | hge
  ·rcases f.live j hj with ⟨k,hk,ek⟩ | hge
   ·exact .inl ⟨k,hk,ek.trans ej⟩
   ·exact .inr (ej ▸ hge)
  ·exact .inr (cz f.size hge)
 ·rcases g.im b hb with hb | hb | ⟨j,hj,ej⟩
  ·exact f.im b hb
  ·exact .inr (.inl (cz f.size hb))
  ·rcases f.live j hj with ⟨k,hk,ek⟩ | hge
   ·exact .inr (.inr ⟨k,hk,ek.trans ej⟩)
   ·exact .inr (.inl (ej ▸ hge))
structure Stp (P:Program) (c:Cx) (h:H) (w:World) (c':Cx) (h':H) (w':World):Prop where
 rel:Rel P c' h' w'
 evo:Evo c h.n w c' h'.n w'
 fr:Fr c h w c' h' w'
theorem Stp.refl{P:Program}{c:Cx}{h:H}{w:World}(r:Rel P c h w):Stp P c h w c h w:=⟨r,.refl _ _ _,.refl _ _ _⟩
theorem Stp.trans{P:Program}{c c' c'':Cx}{h h' h'':H}{w w' w'':World}(f:Stp P c h w c' h' w')(g:Stp P c' h' w' c'' h'' w''):Stp P c h w c'' h'' w'' :=
 ⟨g.rel,f.evo.trans g.evo,f.fr.trans g.fr⟩
end Ce
namespace Ce
open Go
variable {P:Program} {c:Cx} {h:H} {w:World}
theorem H.f_put(h:H)(i j:Nat)(b:Blk):(h.put i b).f j=if j=i then some b else h.f j:=rfl
theorem H.f_push(h:H)(j:Nat)(b:Blk):(h.push b).f j=if j=h.n then some b else h.f j:=rfl
theorem H.n_put(h:H)(i:Nat)(b:Blk):(h.put i b).n=h.n:=rfl
theorem bR.put{i j:Nat}{b:Blk}(_:b.live=true)(hi:bR h i)(hj:bR (h.put i b) j):bR h j:=by
 by_cases e:j=i
 ·exact e ▸ hi
 ·obtain ⟨x,hx,hl⟩:=hj; rw [H.f_put,aC e] at hx; exact ⟨x,hx,hl⟩
theorem bm{w w':World}{b:Nat}(h:w'.heap[b]?=w.heap[b]?):w'.shape? b=w.shape? b:=by unfold World.shape?; rw [h]
theorem mo{w w':World}{a:Addr}(h:w'.heap[a.block]?=w.heap[a.block]?):w'.cell? a=w.cell? a:=by unfold World.cell?; rw [h]
theorem Stp.same{w':World}(r:Rel P c h w)(e:w'.heap=w.heap)(ho:w'.os=w.os∧w'.output=w.output:=by exact ⟨rfl,rfl⟩):Stp P c h w c h w':=by
 have hE:Evo c h.n w c h.n w':=⟨aV _,fun _ _=>rfl,fun _ hb=>hb,fun _ _=>by rw [e],fun b x s hs=>by rw [bm (w:=w) (by rw [e])]; exact hs,fun b hb=>by rw [e]; exact hb⟩;refine ⟨⟨r.bound,fun i b hb=>?_,r.inj,r.notIm,r.ro,fun b hb=>by rw [e]; exact r.imlt b hb⟩,hE,⟨by rw [e]; exact aV _,fun _ _ _=>by rw [e],fun i hi=>.inl ⟨i,hi,rfl⟩,fun _ hb=>.inl hb,fun b _=>dW (by rw [e]),ho⟩⟩;rcases r.blk i b hb with hd | ⟨o,ho,hr⟩
 ·exact .inl hd
 ·exact .inr ⟨o,by rw [e]; exact ho,hr.evo hE⟩
theorem Rel.obj(r:Rel P c h w){i:Nat}{b:Blk}(hb:h.f i=some b)(hd:b≠.dead):∃o,w.heap[c.β i]?=some o∧BR P c h.n w b o:=(r.blk i b hb).resolve_left hd
theorem Rel.lt(r:Rel P c h w){i:Nat}{b:Blk}(hb:h.f i=some b)(hd:b≠.dead):c.β i < w.heap.size:=by
 obtain ⟨o,ho,_⟩:=r.obj hb hd;exact (gJ.1 ho).1
def dJ:Obj→Option (TypeId × Nat)
 | .cells cs e _=>some (e,cs.size)
 | _=>none
theorem shape?_eq(w:World)(b:Nat):w.shape? b=(w.heap[b]?).bind dJ:=by
 unfold World.shape?;cases w.heap[b]? with
 | none=>rfl
 | some o=>cases o<;>rfl
def Cx.set(c:Cx)(i b:Nat):Cx:={ c with β:=fun j=>if j=i then b else c.β j }
theorem Cx.set_same(c:Cx)(i b:Nat):(c.set i b).β i=b:=by simp [Cx.set]
theorem Cx.set_lt(c:Cx){i b j:Nat}(h:j < i):(c.set i b).β j=c.β j:=by simp [Cx.set]; omega
theorem Stp.push(r:Rel P c h w){b:Blk}{o:Obj}(hb:BR P c h.n w b o)(hnro:∀cs,b≠.cells cs true):Stp P c h w (c.set h.n w.heap.size) (h.push b) (w.alloc o):=by
 have hold:∀k,k < w.heap.size→(w.alloc o).heap[k]?=w.heap[k]?:=fun k hk=>by
  simp only [World.alloc,rS]; rw [aC (by omega)]
 have hE:Evo c h.n w (c.set h.n w.heap.size) (h.n+1) (w.alloc o):=by
  refine ⟨by omega,fun i hi=>Cx.set_lt c hi,fun _ hb=>hb,fun k hk=>hold k (r.imlt k hk),fun k e s hs=>?_,fun k hk=>by
   have hk2:k < w.heap.size:=by
    rcases i7 k w.heap.size with h | h
    ·exact h
    ·rw [jm h] at hk; cases hk
   rw [hold k hk2]; exact hk⟩
  have hk:k < w.heap.size:=by
   rw [shape?_eq] at hs;rcases i7 k w.heap.size with hk | hk
   ·exact hk
   ·rw [jm hk] at hs; cases hs
  rw [bm (hold k hk)]; exact hs
 have hlive:∀i,bR (h.push b) i→i=h.n∨(i < h.n∧bR h i):=by
  rintro i ⟨x,hx,hl⟩;rw [H.f_push] at hx;by_cases e:i=h.n
  ·exact .inl e
  ·rw [aC e] at hx; exact .inr ⟨r.bound i x hx,x,hx,hl⟩
 have hltL:∀i,bR h i→c.β i < w.heap.size:=by
  rintro i ⟨x,hx,hl⟩; exact r.lt hx (by rintro rfl; cases hl)
 refine ⟨⟨?_,?_,?_,?_,?_,?_⟩,hE,⟨by simp,fun k hk _=>hold k hk,?_,fun _ hb=>.inl hb,fun k _=>by
  rcases Nat.lt_trichotomy k w.heap.size with hk | hk | hk
  ·exact dW (hold k hk)
  ·subst hk;have e1:(w.alloc o).heap[w.heap.size]?=some o:=by show (w.heap.push o)[w.heap.size]?=some o; simp
   rw [fM e1,hb.fz]; unfold oB; rw [jm (aV _)]; rfl
  ·apply dW
   show (w.heap.push o)[k]?=w.heap[k]?
   rw [rS,aC (by omega)],rfl,rfl⟩⟩
 ·intro i x hx;rw [H.f_push] at hx
  show i < h.n+1
  by_cases e:i=h.n
  ·omega
  ·rw [aC e] at hx; have:=r.bound i x hx; omega
 ·intro i x hx;rw [H.f_push] at hx;by_cases e:i=h.n
  ·rw [aH e] at hx;injection hx with hx
   subst hx
   right
   refine ⟨o,?_,hb.evo hE⟩;rw [e,Cx.set_same]
   show (w.heap.push o)[w.heap.size]?=some o
   simp
  ·rw [aC e] at hx;have hi:=r.bound i x hx;rcases r.blk i x hx with hd | ⟨o',ho,hr⟩
   ·exact .inl hd
   ·right
    refine ⟨o',?_,hr.evo hE⟩;rw [Cx.set_lt c hi,hold _ (gJ.1 ho).1];exact ho
 ·intro i j hi hj e;rcases hlive i hi with rfl | ⟨hi,li⟩<;>rcases hlive j hj with rfl | ⟨hj,lj⟩
  ·rfl
  ·rw [Cx.set_same,Cx.set_lt c hj] at e; have:=hltL j lj; omega
  ·rw [Cx.set_same,Cx.set_lt c hi] at e; have:=hltL i li; omega
  ·rw [Cx.set_lt c hi,Cx.set_lt c hj] at e; exact r.inj i j li lj e
 ·intro i hi him;rcases hlive i hi with rfl | ⟨hi,li⟩
  ·rw [Cx.set_same] at him; have:=r.imlt _ him; omega
  ·rw [Cx.set_lt c hi] at him; exact r.notIm i li him
 ·intro i cs hx;rw [H.f_push] at hx;by_cases e:i=h.n
  ·rw [aH e] at hx; injection hx with hx; exact absurd hx (hnro cs)
  ·rw [aC e] at hx; rw [Cx.set_lt c (r.bound i _ hx)]; exact r.ro i cs hx
 ·intro k hk; have:=r.imlt k hk; simp; omega
 ·intro i hi;rcases hlive i hi with rfl | ⟨hi,li⟩
  ·right; rw [Cx.set_same]; exact aV _
  ·left; exact ⟨i,li,by rw [Cx.set_lt c hi]⟩
theorem Stp.put(r:Rel P c h w){i:Nat}{b₀ b:Blk}{o₀ o:Obj}{w':World}(hb₀:h.f i=some b₀)(hl₀:b₀.live=true)(ho₀:w.heap[c.β i]?=some o₀)
  (hsz:w'.heap.size=w.heap.size) (hat:w'.heap[c.β i]?=some o) (hoff:∀k,k≠c.β i→w'.heap[k]?=w.heap[k]?) (hsh:dJ o=dJ o₀)
  (hl:b.live=true) (hb:BR P c h.n w b o) (hlp:na o₀=true→na o=true:=by intro h; first | exact h | (simp [na] at h)) (hos:w'.os=w.os∧w'.output=w.output:=by exact ⟨rfl,rfl⟩):Stp P c h w c (h.put i b) w':=by
 have li:bR h i:=⟨b₀,hb₀,hl₀⟩;have hE:Evo c h.n w c h.n w':=by
  refine ⟨aV _,fun _ _=>rfl,fun _ hb=>hb,fun k hk=>hoff k ?_,fun k e s hs=>?_,fun k hk=>?_⟩
  ·rintro rfl; exact r.notIm i li hk
  ·by_cases e':k=c.β i
   ·subst e'; rw [shape?_eq] at hs ⊢; rw [hat]; rw [ho₀] at hs; show dJ o=_; rw [hsh]; exact hs
   ·rw [bm (hoff k e')]; exact hs
  ·by_cases e':k=c.β i
   ·subst e'; rw [hat]; rw [ho₀] at hk; simp at hk ⊢; exact hlp hk
   ·rw [hoff k e']; exact hk
 refine ⟨⟨?_,?_,?_,?_,?_,?_⟩,hE,⟨by omega,fun k _ hn=>hoff k fun e=>hn i li e.symm,?_,fun _ hb=>.inl hb,fun k _=>by
  by_cases e':k=c.β i
  ·obtain ⟨o',ho',hbr'⟩:=r.obj hb₀ (by rintro rfl; cases hl₀);rw [ho₀] at ho'; injection ho' with ho'; subst ho'; subst e'
   rw [fM hat,fM ho₀,hb.fz,hbr'.fz]
  ·exact dW (hoff k e'),hos⟩⟩
 ·intro j x hx;rw [H.f_put] at hx
  show j < h.n
  by_cases e:j=i
  ·exact e ▸ r.bound i b₀ hb₀
  ·rw [aC e] at hx; exact r.bound j x hx
 ·intro j x hx;rw [H.f_put] at hx;by_cases e:j=i
  ·rw [aH e] at hx; injection hx with hx; subst hx; subst e
   exact .inr ⟨o,hat,hb.evo hE⟩
  ·rw [aC e] at hx;rcases r.blk j x hx with hd | ⟨o',ho,hr⟩
   ·exact .inl hd
   ·right
    refine ⟨o',?_,hr.evo hE⟩;rw [hoff]
    ·exact ho
    ·intro e2;cases hlx:x.live with
     | true=>exact e (r.inj j i ⟨x,hx,hlx⟩ li e2)
     | false =>
      cases x with
      | cells cs ro =>
       cases ro with
       | true=>exact r.notIm i li (e2 ▸ r.ro j cs hx)
       | false=>cases hlx
      | dead=>cases hr
      | _=>cases hlx
 ·intro a b' ha hb' e; exact r.inj a b' (bR.put hl li ha) (bR.put hl li hb') e
 ·intro a ha; exact r.notIm a (bR.put hl li ha)
 ·intro j cs hx;rw [H.f_put] at hx;by_cases e:j=i
  ·rw [aH e] at hx; injection hx with hx; subst hx; cases hl
  ·rw [aC e] at hx; exact r.ro j cs hx
 ·intro k hk; rw [hsz]; exact r.imlt k hk
 ·intro j hj; exact .inl ⟨j,bR.put hl li hj,rfl⟩
theorem Stp.freeze(r:Rel P c h w){i:Nat}{cs:List CV}{ro:Bool}(hb:h.f i=some (.cells cs ro)) :
  Stp P c h w { c with Im:=fun b=>c.Im b∨b=c.β i } (h.put i (.cells cs true)) w:=by
 have hlt:=r.lt hb (by simp);have hE:Evo c h.n w { c with Im:=fun b=>c.Im b∨b=c.β i } h.n w:=⟨aV _,fun _ _=>rfl,fun _ hb=>.inl hb,fun _ _=>rfl,fun _ _ _ hs=>hs,fun _ hb=>hb⟩;have hlive:∀j,bR (h.put i (.cells cs true)) j→bR h j∧j≠i:=by
  rintro j ⟨x,hx,hl⟩;rw [H.f_put] at hx;by_cases e:j=i
  ·rw [aH e] at hx; injection hx with hx; subst hx; cases hl
  ·rw [aC e] at hx; exact ⟨⟨x,hx,hl⟩,e⟩
 refine ⟨⟨?_,?_,fun a b ha hb e=>r.inj a b (hlive a ha).1 (hlive b hb).1 e,?_,?_,?_⟩,hE,⟨aV _,fun _ _ _=>rfl,fun j hj=>.inl ⟨j,(hlive j hj).1,rfl⟩,?_,fun _ _=>rfl,rfl,rfl⟩⟩
 ·intro j x hx;rw [H.f_put] at hx
  show j < h.n
  by_cases e:j=i
  ·exact e ▸ r.bound i _ hb
  ·rw [aC e] at hx; exact r.bound j x hx
 ·intro j x hx;rw [H.f_put] at hx;by_cases e:j=i
  ·rw [aH e] at hx; injection hx with hx; subst hx; subst e
   obtain ⟨o,ho,hr⟩:=r.obj hb (by simp);refine .inr ⟨o,ho,?_⟩;cases hr with
   | cells _ _ arr e hsz hv=>exact BR.evo hE (.cells cs true arr e hsz hv)
  ·rw [aC e] at hx;rcases r.blk j x hx with hd | ⟨o',ho,hr⟩
   ·exact .inl hd
   ·exact .inr ⟨o',ho,hr.evo hE⟩
 ·intro j hj him;obtain ⟨lj,hne⟩:=hlive j hj;rcases him with him | e
  ·exact r.notIm j lj him
  ·cases ro with
   | true=>exact r.notIm j lj (e ▸ r.ro i cs hb)
   | false=>exact hne (r.inj j i lj ⟨_,hb,rfl⟩ e)
 ·intro j cs' hx;rw [H.f_put] at hx;by_cases e:j=i
  ·exact .inr (by rw [e])
  ·rw [aC e] at hx; exact .inl (r.ro j cs' hx)
 ·rintro b (hb | rfl)
  ·exact r.imlt b hb
  ·exact hlt
 ·rintro b (hb' | rfl)
  ·exact .inl hb'
  ·cases ro with
   | true=>exact .inl (r.ro i cs hb)
   | false=>exact .inr (.inr ⟨i,⟨_,hb,rfl⟩,rfl⟩)
theorem Stp.grow(r:Rel P c h w){i:Nat}{cs cs':List CV}{arr arr':Array Value}{e:TypeId}{w':World}(hb₀:h.f i=some (.cells cs false))(ho₀:w.heap[c.β i]?=some (.cells arr e (0,0)))
  (hsz:w'.heap.size=w.heap.size) (hat:w'.heap[c.β i]?=some (.cells arr' e (0,0))) (hoff:∀k,k≠c.β i→w'.heap[k]?=w.heap[k]?) (hlen:arr'.size=arr.size)
  (hb:BR P c h.n w (.cells cs' false) (.cells arr' e (0,0))) (hos:w'.os=w.os∧w'.output=w.output:=by exact ⟨rfl,rfl⟩):Stp P c h w (c.set h.n (c.β i)) ((h.put i .dead).push (.cells cs' false)) w':=by
 have li:bR h i:=⟨_,hb₀,rfl⟩;have hin:i < h.n:=r.bound i _ hb₀;have hE:Evo c h.n w (c.set h.n (c.β i)) (h.n+1) w':=by
  refine ⟨by omega,fun j hj=>Cx.set_lt c hj,fun _ hb=>hb,fun k hk=>hoff k ?_,fun k e' s hs=>?_,fun k hk=>?_⟩
  ·rintro rfl; exact r.notIm i li hk
  ·by_cases e'':k=c.β i
   ·subst e''; rw [shape?_eq] at hs ⊢; rw [hat]; rw [ho₀] at hs; simpa [dJ,hlen] using hs
   ·rw [bm (hoff k e'')]; exact hs
  ·by_cases e'':k=c.β i
   ·subst e''; rw [ho₀] at hk; simp [na] at hk
   ·rw [hoff k e'']; exact hk
 have hf:∀j x,((h.put i .dead).push (.cells cs' false)).f j=some x→(j=h.n∧x=.cells cs' false)∨(j=i∧x=.dead)∨(j≠i∧j < h.n∧h.f j=some x):=by
  intro j x hx;rw [H.f_push,H.n_put,H.f_put] at hx;by_cases e1:j=h.n
  ·rw [aH e1] at hx; injection hx with hx; exact .inl ⟨e1,hx.symm⟩
  ·rw [aC e1] at hx;by_cases e2:j=i
   ·rw [aH e2] at hx; injection hx with hx; exact .inr (.inl ⟨e2,hx.symm⟩)
   ·rw [aC e2] at hx; exact .inr (.inr ⟨e2,r.bound j x hx,hx⟩)
 have hlive:∀j,bR ((h.put i .dead).push (.cells cs' false)) j→j=h.n∨(j≠i∧j < h.n∧bR h j):=by
  rintro j ⟨x,hx,hl⟩;rcases hf j x hx with ⟨e1,_⟩ | ⟨_,rfl⟩ | ⟨h1,h2,h3⟩
  ·exact .inl e1
  ·cases hl
  ·exact .inr ⟨h1,h2,x,h3,hl⟩
 refine ⟨⟨?_,?_,?_,?_,?_,?_⟩,hE,⟨by omega,fun k _ hn=>hoff k fun e=>hn i li e.symm,?_,fun _ hb=>.inl hb,fun k _=>by
  by_cases e':k=c.β i
  ·subst e'; rw [fM hat,fM ho₀]; rfl
  ·exact dW (hoff k e'),hos⟩⟩
 ·intro j x hx
  show j < h.n+1
  rcases hf j x hx with ⟨e1,_⟩ | ⟨e1,_⟩ | ⟨_,h2,_⟩<;>omega
 ·intro j x hx;rcases hf j x hx with ⟨rfl,rfl⟩ | ⟨_,rfl⟩ | ⟨h1,h2,h3⟩
  ·right; exact ⟨_,by rw [Cx.set_same]; exact hat,hb.evo hE⟩
  ·exact .inl rfl
  ·rcases r.blk j x h3 with hd | ⟨o',ho,hr⟩
   ·exact .inl hd
   ·right
    refine ⟨o',?_,hr.evo hE⟩;rw [Cx.set_lt c h2,hoff]
    ·exact ho
    ·intro e2;cases hlx:x.live with
     | true=>exact h1 (r.inj j i ⟨x,h3,hlx⟩ li e2)
     | false =>
      cases x with
      | cells cs ro =>
       cases ro with
       | true=>exact r.notIm i li (e2 ▸ r.ro j cs h3)
       | false=>cases hlx
      | dead=>cases hr
      | _=>cases hlx
 ·intro a b ha hb' e;rcases hlive a ha with rfl | ⟨a1,a2,a3⟩<;>rcases hlive b hb' with rfl | ⟨b1,b2,b3⟩
  ·rfl
  ·rw [Cx.set_same,Cx.set_lt c b2] at e; exact absurd (r.inj b i b3 li e.symm) b1
  ·rw [Cx.set_same,Cx.set_lt c a2] at e; exact absurd (r.inj a i a3 li e) a1
  ·rw [Cx.set_lt c a2,Cx.set_lt c b2] at e; exact r.inj a b a3 b3 e
 ·intro a ha him;rcases hlive a ha with rfl | ⟨a1,a2,a3⟩
  ·rw [Cx.set_same] at him; exact r.notIm i li him
  ·rw [Cx.set_lt c a2] at him; exact r.notIm a a3 him
 ·intro j cs'' hx;rcases hf j _ hx with ⟨_,e⟩ | ⟨_,e⟩ | ⟨h1,h2,h3⟩
  ·cases e
  ·cases e
  ·rw [Cx.set_lt c h2]; exact r.ro j cs'' h3
 ·intro k hk; rw [hsz]; exact r.imlt k hk
 ·intro j hj
  left
  rcases hlive j hj with rfl | ⟨a1,a2,a3⟩
  ·exact ⟨i,li,by rw [Cx.set_same]⟩
  ·exact ⟨j,a3,by rw [Cx.set_lt c a2]⟩
theorem Stp.reword(r:Rel P c h w){i:Nat}{cs cs':List CV}(hb:h.f i=some (.cells cs false))
  (hv:∀arr e,w.heap[c.β i]?=some (.cells arr e (0,0))→cs'.length≤arr.size∧∀(j:Nat) (x:CV) (v:Value),cs'[j]?=some x→arr[j]?=some v→VR c h.n w x v) :
  Stp P c h w c (h.put i (.cells cs' false)) w:=by
 have hE:Evo c h.n w c h.n w:=.refl _ _ _;have hlive:∀j,bR (h.put i (.cells cs' false)) j→bR h j:=by
  rintro j ⟨x,hx,hl⟩;rw [H.f_put] at hx;by_cases e:j=i
  ·subst e; exact ⟨_,hb,by trivial⟩
  ·rw [aC e] at hx; exact ⟨x,hx,hl⟩
 refine ⟨⟨?_,?_,fun a b ha hb e=>r.inj a b (hlive a ha) (hlive b hb) e,fun j hj=>r.notIm j (hlive j hj),?_,r.imlt⟩,hE,⟨aV _,fun _ _ _=>rfl,fun j hj=>.inl ⟨j,hlive j hj,rfl⟩,fun b hb=>.inl hb,fun _ _=>rfl,rfl,rfl⟩⟩
 ·intro j x hx;rw [H.f_put] at hx
  show j < h.n
  by_cases e:j=i
  ·exact e ▸ r.bound i _ hb
  ·rw [aC e] at hx; exact r.bound j x hx
 ·intro j x hx;rw [H.f_put] at hx;by_cases e:j=i
  ·rw [aH e] at hx; injection hx with hx; subst hx; subst e
   obtain ⟨o,ho,hr⟩:=r.obj hb (by simp);refine .inr ⟨o,ho,?_⟩;cases hr with
   | cells _ _ arr e hsz hv0 =>
    obtain ⟨h1,h2⟩:=hv arr e ho;exact .cells cs' false arr e h1 h2
  ·rw [aC e] at hx;exact r.blk j x hx
 ·intro j cs2 hx;rw [H.f_put] at hx;by_cases e:j=i
  ·rw [aH e] at hx; injection hx with hx; cases hx
  ·rw [aC e] at hx; exact r.ro j cs2 hx
end Ce
namespace Ce
open Go
variable {P:Program} {c:Cx} {h:H} {w:World} {n:Nat}
theorem VRs.nil:VRs c n w [] []:=⟨rfl,fun i x v hx=>by simp at hx⟩
theorem VRs.cons{x:CV}{v:Value}{xs:List CV}{vs:List Value}(h1:VR c n w x v)(h2:VRs c n w xs vs):VRs c n w (x::xs) (v::vs):=by
 refine ⟨by simp [h2.1],fun i y u hy hu=>?_⟩;cases i with
 | zero=>simp at hy hu; subst hy; subst hu; exact h1
 | succ i=>simp at hy hu; exact h2.2 i y u hy hu
theorem VRs.append{xs ys:List CV}{vs us:List Value}(h1:VRs c n w xs vs)(h2:VRs c n w ys us):VRs c n w (xs++ys) (vs++us):=by
 refine ⟨by simp [h1.1,h2.1],fun i y u hy hu=>?_⟩;rcases i7 i xs.length with hi | hi
 ·rw [fY hi] at hy;rw [fY (by rw [←h1.1]; exact hi)] at hu;exact h1.2 i y u hy hu
 ·rw [iM hi] at hy;rw [iM (by rw [←h1.1]; exact hi),←h1.1] at hu;exact h2.2 _ y u hy hu
theorem VRs.take{xs:List CV}{vs:List Value}(h1:VRs c n w xs vs)(k:Nat):VRs c n w (xs.take k) (vs.take k):=by
 refine ⟨by simp [h1.1],fun i y u hy hu=>?_⟩;rw [iK] at hy hu;split at hy
 ·rename_i hi; rw [aH hi] at hu; exact h1.2 i y u hy hu
 ·cases hy
theorem VRs.drop{xs:List CV}{vs:List Value}(h1:VRs c n w xs vs)(k:Nat):VRs c n w (xs.drop k) (vs.drop k):=by
 refine ⟨by simp [h1.1],fun i y u hy hu=>?_⟩;rw [dP] at hy hu;exact h1.2 _ y u hy hu
theorem VRs.at{xs:List CV}{vs:List Value}(h1:VRs c n w xs vs){i:Nat}{x:CV}(hx:xs[i]?=some x):∃v,vs[i]?=some v∧VR c n w x v:=by
 have hi:i < vs.length:=by rw [←h1.1]; exact (fU.1 hx).1
 exact ⟨vs[i],by simp [hi],h1.2 i x _ hx (by simp [hi])⟩
theorem VRs.agg{xs:List CV}{vs:List Value}(h1:VRs c n w xs vs):VR c n w (.agg xs) (.agg vs.toArray) :=
 .agg xs vs.toArray (by simp [h1.1]) fun i x v hx hv=>h1.2 i x v hx (by simpa using hv)
theorem VRs.tup{xs:List CV}{vs:List Value}(h1:VRs c n w xs vs):VR c n w (.tup xs) (.tuple vs.toArray) :=
 .tup xs vs.toArray (by simp [h1.1]) fun i x v hx hv=>h1.2 i x v hx (by simpa using hv)
theorem VR.agg_inv{xs:List CV}{v:Value}(hv:VR c n w (.agg xs) v):∃vs:List Value,v=.agg vs.toArray∧VRs c n w xs vs:=by
 cases hv with
 | agg _ vs hx hv=>exact ⟨vs.toList,by simp,by simp [hx],fun i x v h1 h2=>hv i x v h1 (by simpa using h2)⟩
theorem VR.tup_inv{xs:List CV}{v:Value}(hv:VR c n w (.tup xs) v)(hne:xs≠[]):∃vs:List Value,v=.tuple vs.toArray∧VRs c n w xs vs:=by
 cases hv with
 | tup _ vs hx hv=>exact ⟨vs.toList,by simp,by simp [hx],fun i x v h1 h2=>hv i x v h1 (by simpa using h2)⟩
 | undp a=>exact absurd rfl hne
 | unds a len cap=>exact absurd rfl hne
theorem VR.undef:VR c n w Ce.undef Go.undef:=.tup [] #[] rfl fun i x v hx=>by simp at hx
theorem VR.cells{x:CV}{v:Value}(hv:VR c n w x v):VRs c n w x.cells v.cells.toList:=by
 have hs:∀{x:CV} {v:Value},VR c n w x v→VRs c n w [x] [v]:=fun h=>.cons h .nil
 cases hv with
 | agg xs vs hx hv=>exact ⟨by simpa [CV.cells,Value.cells] using hx,fun i x v h1 h2=>hv i x v h1 (by simpa [Value.cells] using h2)⟩
 | ptr r off hr=>exact hs (.ptr r off hr)
 | rptr cells b off vs him hc hv=>exact hs (.rptr cells b off vs him hc hv)
 | slc k r off len cap cap' hr hcap hle hsz=>exact hs (.slc k r off len cap cap' hr hcap hle hsz)
 | lst rows ex k b off sp cap' vs hle hsp hex him hk hc hv=>exact hs (.lst rows ex k b off sp cap' vs hle hsp hex him hk hc hv)
 | map r hr=>exact hs (.map r hr)
 | clo f xs ys vs us hx hy h1 h2=>exact hs (.clo f xs ys vs us hx hy h1 h2)
 | yld r hr=>exact hs (.yld r hr)
 | ifc t x v h=>exact hs (.ifc t x v h)
 | tup xs vs hx hv=>exact hs (.tup xs vs hx hv)
 | bool b=>exact hs (.bool b)
 | int k m=>exact hs (.int k m)
 | str s=>exact hs (.str s)
 | nilp=>exact hs .nilp
 | nils=>exact hs .nils
 | nilm=>exact hs .nilm
 | nilf=>exact hs .nilf
 | nili=>exact hs .nili
 | undp a=>exact hs (.undp a)
 | unds a len cap=>exact hs (.unds a len cap)
theorem VR.one{x:CV}{v:Value}(hv:VR c n w x v)(h1:x.one=true):v.oneCell'=true:=by
 cases hv<;>first | rfl | cases h1
theorem rO{xs:List CV}:aM xs=true↔∀x∈xs,x.one=true:=by
 induction xs with
 | nil=>simp [aM]
 | cons x xs ih=>simp [aM,ih]
theorem VRs.one{xs:List CV}{vs:List Value}(h1:VRs c n w xs vs)(ha:aM xs=true):∀v∈vs,v.oneCell'=true:=by
 intro v hv;obtain ⟨i,hi,rfl⟩:=List.mem_iff_getElem.1 hv;have hx:xs[i]?=some (xs[i]'(by rw [h1.1]; exact hi)):=by simp [h1.1,hi]
 exact (h1.2 i _ _ hx (by simp [hi])).one (rO.1 ha _ (by simp))
theorem nth?_eq{α:Type}(l:List α)(i:Nat):nth? l i=l[i]?:=by
 induction l generalizing i with
 | nil=>cases i<;>rfl
 | cons a l ih=>cases i with
  | zero=>rfl
  | succ i=>simpa [nth?] using ih i
theorem qXP(l:List CV)(i:Nat):aR l i=l.getD i undef:=by
 induction l generalizing i with
 | nil=>cases i<;>rfl
 | cons a l ih=>cases i with
  | zero=>rfl
  | succ i=>simpa [bL] using ih i
theorem qP3(l:List CV)(i:Nat)(v:CV):aL l i v=l.set i v:=by
 induction l generalizing i with
 | nil=>cases i<;>rfl
 | cons a l ih=>cases i with
  | zero=>rfl
  | succ i=>simpa [dG] using ih i
theorem eC:∀(l:List CV) (i:Nat) (vs:List CV),i+vs.length≤l.length→splice l i vs=l.take i++vs++l.drop (i+vs.length)
 | l,0,[],_=>by cases l<;>simp [splice]
 | [],0,_::_,h=>by simp at h
 | a::l,0,x::xs,h=>by
  have:=eC l 0 xs (by simp at h ⊢; omega);simp only [splice,this]; simp
 | [],i+1,vs,h=>by simp at h
 | a::l,i+1,vs,h=>by
  have:=eC l i vs (by simp at h; omega);simp only [splice,this];simp [show i+1+vs.length=(i+vs.length)+1 from by omega]
theorem VRs.set{xs:List CV}{vs:List Value}(h1:VRs c n w xs vs){x:CV}{v:Value}(hv:VR c n w x v)(i:Nat):VRs c n w (xs.set i x) (vs.set i v):=by
 refine ⟨by simp [h1.1],fun j y u hy hu=>?_⟩;rw [List.getElem?_set] at hy hu;by_cases e:i=j
 ·subst e;simp only [ac] at hy hu;split at hy
  ·rw [aH (by rw [←h1.1]; assumption)] at hu;injection hy with hy; injection hu with hu
   subst hy; subst hu; exact hv
  ·cases hy
 ·rw [aC e] at hy hu; exact h1.2 j y u hy hu
theorem VRs.splice{xs ys:List CV}{vs us:List Value}(h1:VRs c n w xs vs)(h2:VRs c n w ys us){i:Nat}(hi:i+ys.length≤xs.length):VRs c n w (splice xs i ys) (vs.take i++us++vs.drop (i+us.length)):=by
 rw [eC xs i ys hi,←h2.1];exact ((h1.take i).append h2).append (h1.drop _)
mutual
theorem fO (c:Cx) (n:Nat) (w:World):∀(v:Value) (x:CV),iR v=some x→VR c n w x v
 | .bool b,x,h=>by simp only [iR,sI] at h; subst h; exact .bool b
 | .int k m,x,h=>by simp only [iR,sI] at h; subst h; exact .int k m
 | .string s,x,h=>by simp only [iR,sI] at h; subst h; exact .str s
 | .pointer none,x,h=>by simp only [iR,sI] at h; subst h; exact .nilp
 | .pointer (some a),x,h=>by simp [iR] at h
 | .slice a l cp,x,h=>by
  unfold iR at h;split at h<;>simp_all;subst h; exact .nils
 | .map none,x,h=>by simp only [iR,sI] at h; subst h; exact .nilm
 | .map (some a),x,h=>by simp [iR] at h
 | .nilFunc,x,h=>by simp only [iR,sI] at h; subst h; exact .nilf
 | .nilIface,x,h=>by simp only [iR,sI] at h; subst h; exact .nili
 | .agg ⟨cs⟩,x,h=>by
  simp only [iR] at h;split at h
  ·rename_i l hl;simp only [sI] at h; subst h;exact (w6 c n w cs l hl).agg
  ·cases h
 | .float _ _,x,h=>by simp [iR] at h
 | .complex _ _ _,x,h=>by simp [iR] at h
 | .chan _,x,h=>by simp [iR] at h
 | .func _ _ _,x,h=>by simp [iR] at h
 | .iface _ _,x,h=>by simp [iR] at h
 | .tuple _,x,h=>by simp [iR] at h
theorem w6 (c:Cx) (n:Nat) (w:World):∀(vs:List Value) (xs:List CV),w8 vs=some xs→VRs c n w xs vs
 | [],xs,h=>by simp only [w8,sI] at h; subst h; exact .nil
 | v::vs,xs,h=>by
  simp only [w8] at h;split at h
  ·rename_i x hx;split at h
   ·rename_i ys hy;simp only [sI] at h; subst h;exact .cons (fO c n w v x hx) (w6 c n w vs ys hy)
   ·cases h
  ·cases h
end
abbrev dC(c:Cx)(n:Nat)(w:World)(env:List CV)(tmps:Array Value):Prop:=VRs c n w env tmps.toList
theorem dC.get{env:List CV}{tmps:Array Value}(he:dC c n w env tmps)(i:Nat):VR c n w (aR env i) (tmps.getD i Go.undef):=by
 rw [qXP];rcases i7 i tmps.size with hi | hi
 ·have hl:i < env.length:=by rw [he.1]; simpa using hi
  have h1:env[i]?=some env[i]:=by simp [hl]
  have h2:tmps.toList[i]?=some tmps[i]:=by simp [hi]
  have:=he.2 i _ _ h1 h2
  simpa [List.getD,Array.getD,h1,hi] using this
 ·have hl:env.length≤i:=by rw [he.1]; simpa using hi
  rw [List.getD,List.getElem?_eq_none hl];have:tmps.getD i Go.undef=Go.undef:=by simp [Array.getD,Nat.not_lt.2 hi]
  rw [this]; exact VR.undef
theorem dC.put{env:List CV}{tmps:Array Value}(he:dC c n w env tmps){x:CV}{v:Value}(hv:VR c n w x v)(i:Nat):dC c n w (aL env i x) (tmps.setIfInBounds i v):=by
 rw [qP3];have:=VRs.set he hv i
 simpa [dC] using this
theorem af{env:List CV}{a:Act}(he:dC c n w env a.tmps){o:Operand}{x:Opd}(hx:cC o=some x):VR c n w (x.ev env) (a.eval o):=by
 cases o with
 | tmp t=>simp only [cC,sI] at hx; subst hx; exact he.get t
 | const v =>
  simp only [cC,ez] at hx;obtain ⟨y,hy,rfl⟩:=hx;exact fO c n w v y hy
 | global g=>cases hx
 | func f=>simp only [cC,sI] at hx; subst hx; exact .clo f [] [] #[] #[] rfl rfl (fun i x v h=>by simp at h) (fun i x v h=>by simp at h)
theorem jY{env:List CV}{a:Act}(he:dC c n w env a.tmps):∀{os:List Operand} {xs:List Opd},lG os=some xs→VRs c n w (evs env xs) (os.map a.eval)
 | [],xs,h=>by simp only [lG,sI] at h; subst h; exact .nil
 | o::os,xs,h=>by
  simp only [lG] at h;split at h
  ·rename_i y ys hy hys;simp only [sI] at h; subst h;exact .cons (af he hy) (jY he hys)
  ·cases h
theorem aO{t:TypeId}{d:TypeDesc}(h:P.underlying t=some d):(underlying t).run P w=.ok d w:=by
 simp [underlying,h]
theorem cN{t:TypeId}{k:Nat}(h:ee P t=some k):(Go.sizeOf t).run P w=.ok k w:=by
 unfold ee at h;split at h
 ·rename_i i hi; simp only [sI] at h; subst h; simp [Go.sizeOf,typeInfo,hi]
 ·cases h
theorem gZ{t:TypeId}{b:Bool}(h:cT P t=some b):(isAgg t).run P w=.ok b w:=by
 unfold cT at h;split at h<;>first | (rename_i e; simp only [sI] at h; subst h; simp [isAgg,aO e]) | cases h | skip
 all_goals (rename_i d hd e; simp only [sI] at h; subst h; simp only [isAgg,Sem.run_bind,aO e,Result.andThen_ok])
 all_goals (cases d<;>first | rfl | simp_all)
theorem xL{t:TypeId}{k:Nat}(h:agT P t=some (some k)):cT P t=some true∧ee P t=some k:=by
 unfold agT at h;split at h
 ·rename_i e1 e2; simp only [sI] at h; exact ⟨e1,by unfold ee; rw [e2]; simp [h]⟩
 ·simp at h
 ·cases h
theorem xM{t:TypeId}(h:agT P t=some none):cT P t=some false:=by
 unfold agT at h;split at h
 ·simp at h
 ·assumption
 ·cases h
theorem fJ{t:TypeId}{x:CV}(h:mA P t=some x):∃i v,P.info? t=some i∧i.zero=some v∧iR v=some x∧∀w,(zeroValue t).run P w=.ok v w:=by
 unfold mA at h;split at h
 ·rename_i i hi;split at h
  ·rename_i v hv; exact ⟨i,v,hi,hv,h,fun w=>by simp [zeroValue,typeInfo,hi,hv]⟩
  ·cases h
 ·cases h
end Ce
namespace Ce
open Go
variable {P:Program} {c:Cx} {h:H} {w:World} {n:Nat}
theorem ml(r:Rel P c h w){i off:Nat}{cs:List CV}{ro:Bool}(hb:h.f i=some (.cells cs ro)){j:Nat}{x:CV}(hx:cs[off+j]?=some x) :
  ∃v,w.cell? ⟨c.β i,off+j,none⟩=some v∧VR c h.n w x v:=by
 obtain ⟨o,ho,hr⟩:=r.obj hb (by simp);cases hr with
 | cells _ _ arr e hsz hv =>
  have hj:off+j < arr.size:=dD (fU.1 hx).1 hsz;have ha:arr[off+j]?=some arr[off+j]:=by simp [hj]
  exact ⟨arr[off+j],by simp [World.cell?,ho,hj],hv _ _ _ hx ha⟩
theorem jb{a:Addr}{xs:List CV}(hc:∀(j:Nat) (x:CV),xs[j]?=some x→∃v,w.cell? (a.add j)=some v∧VR c n w x v) :
  ∃vs,VRs c n w xs vs∧∀j v,vs[j]?=some v→w.cell? (a.add j)=some v:=by
 refine ⟨xs.mapIdx fun j _=>(w.cell? (a.add j)).getD Go.undef,⟨by simp,fun i x v hx hv=>?_⟩,fun j v hv=>?_⟩
 ·simp only [List.getElem?_mapIdx,hx,dh,sI] at hv;obtain ⟨v',h1,h2⟩:=hc i x hx;rw [h1] at hv; simp at hv; subst hv; exact h2
 ·simp only [List.getElem?_mapIdx,ez] at hv;obtain ⟨x,hx,rfl⟩:=hv;obtain ⟨v',h1,h2⟩:=hc j x hx;rw [h1]; simp
theorem bY(b off j:Nat):(⟨b,off,none⟩:Addr).add j=⟨b,off+j,none⟩:=by
 unfold Addr.add; split
 ·rename_i e; simp [e]
 ·rfl
theorem qA3{ag:Option Nat}{cs:List CV}{off:Nat}{x:CV}(hx:cO ag cs off=some x) :
  (ag=none∧cs[off]?=some x∧x.one=true)∨∃k,ag=some k∧off+k≤cs.length∧x=.agg ((cs.drop off).take k):=by
 unfold cO at hx;split at hx
 ·rw [nth?_eq] at hx;split at hx
  ·rename_i v hv;split at hx
   ·rename_i h1; simp only [sI] at hx; subst hx; exact .inl ⟨rfl,hv,h1⟩
   ·cases hx
  ·cases hx
 ·rename_i k;unfold cut? at hx;split at hx
  ·rename_i hk; simp only [dh,sI] at hx; exact .inr ⟨k,rfl,hk,hx.symm⟩
  ·cases hx
theorem jZ{t:TypeId}{g:Option Nat}(hg:agT P t=some g){a:Addr}{cs:List CV}{off:Nat}{x:CV}(hx:cO g cs off=some x)
  (hc:∀(j:Nat) (y:CV),cs[off+j]?=some y→∃v,w.cell? (a.add j)=some v∧VR c n w y v):∃v,(loadVar t a).run P w=.ok v w∧VR c n w x v:=by
 rcases qA3 hx with ⟨rfl,h1,h2⟩ | ⟨k,rfl,hk,rfl⟩
 ·obtain ⟨v,hv,hr⟩:=hc 0 x h1;have ha:a.add 0=a:=by simp [Addr.add]
  rw [ha] at hv;refine ⟨v,?_,hr⟩;simp [loadVar,gZ (xM hg),hv]
 ·obtain ⟨h1,h2⟩:=xL hg;obtain ⟨vs,hvs,hl⟩:=jb (a:=a) (xs:=(cs.drop off).take k) (c:=c) (n:=n) (w:=w) (by
   intro j y hy;rw [iK] at hy;split at hy
   ·rw [dP] at hy; exact hc j y hy
   ·cases hy)
  have hlen:vs.length=k:=by rw [←hvs.1]; simp; omega
  refine ⟨.agg vs.toArray,?_,hvs.agg⟩;have:=run_loadCells_list (P:=P) w a vs hl;rw [hlen] at this;simp [loadVar,gZ h1,cN h2,this]
theorem ldV_ok(r:Rel P c h w){t:TypeId}{g:Option Nat}(hg:agT P t=some g){a:CV}{a':Value}(ha:VR c h.n w a a'){x:CV}(hx:ldV g a h=some x) :
  ∃v,(Instr.loadAt t a').run P w=.ok v w∧VR c h.n w x v:=by
 unfold ldV at hx;split at hx
 ·rename_i i off;split at hx
  ·rename_i cs ro hb;cases ha with
   | ptr _ _ hr =>
    obtain ⟨v,h1,h2⟩:=jZ (P:=P) (w:=w) (c:=c) (n:=h.n) hg (a:=⟨c.β i,off,none⟩) hx (fun j y hy=>by rw [bY]; exact ml r hb hy);exact ⟨v,by simp [Instr.loadAt,Instr.sureAddr,h1],h2⟩
  ·cases hx
 ·rename_i cs;cases ha with
  | rptr _ b off vs him hc hv =>
   obtain ⟨v,h1,h2⟩:=jZ (P:=P) (w:=w) (c:=c) (n:=h.n) hg (a:=⟨b,off,none⟩) hx (fun j y hy=>by
    rw [dg] at hy;rw [bY];exact ⟨vs j,hc j y hy,hv j y hy⟩)
   exact ⟨v,by simp [Instr.loadAt,Instr.sureAddr,h1],h2⟩
 ·cases hx
theorem Stp.splice(r:Rel P c h w){i off:Nat}{cs ys:List CV}(hb:h.f i=some (.cells cs false)){us:List Value}(hy:VRs c h.n w ys us)(hl:off+ys.length≤cs.length)(h1:∀v∈us,v.oneCell'=true) :
  ∃w',(storeCells ⟨c.β i,off,none⟩ us).run P w=.ok () w'∧Stp P c h w c (h.put i (.cells (splice cs off ys) false)) w':=by
 obtain ⟨o,ho,hr⟩:=r.obj hb (by simp);cases hr with
 | cells _ _ arr e hsz hv =>
  have hfit:off+0+us.length≤arr.size:=by rw [←hy.1]; omega
  refine ⟨_,run_storeCells_at P (c.β i) off e us 0 arr w ho hfit h1,?_⟩;refine Stp.put (o:=.cells (arr.toList.take (off+0)++us++arr.toList.drop (off+0+us.length)).toArray e (0,0)) r hb rfl ho (by simp) (setRow_heap w _ _ _ _ _ ho) (fun k hk=>setRow_other w _ k _ hk) ?_ rfl ?_
  ·simp [dJ]; omega
  ·have hA:VRs c h.n w cs (arr.toList.take cs.length):=by
    refine ⟨by simp; omega,fun j x v hx hv'=>?_⟩;rw [iK] at hv';split at hv'
    ·exact hv j x v hx (by simpa using hv')
    ·cases hv'
   have hS:=hA.splice hy hl;refine .cells _ false _ e ?_ fun j x v hx hv'=>?_
   ·rw [hS.1]; simp; omega
   ·refine hS.2 j x v hx ?_;have hjl:j < cs.length:=by
     have hlen:(Ce.splice cs off ys).length=cs.length:=by rw [eC _ _ _ hl]; simp; omega
     rw [←hlen]; exact (fU.1 hx).1
    rw [List.getElem?_toArray,d8] at hv';have htake:(arr.toList.take cs.length).take off=arr.toList.take off:=by rw [List.take_take,Nat.min_eq_left (by omega)]
    rw [htake];by_cases hj:j < off+us.length
    ·rw [fY (by simp; omega)] at hv' ⊢; exact hv'
    ·rw [iM (by simp; omega)] at hv' ⊢;rw [dP] at hv' ⊢;rw [iK,aH]
     ·exact hv'
     ·simp; omega
theorem stV_ok(r:Rel P c h w){t:TypeId}{k:Nat}(hk:ee P t=some k){a x:CV}{a' x':Value}(ha:VR c h.n w a a')(hx:VR c h.n w x x'){h':H}(hs:stV k a x h=some h') :
  ∃w',(Instr.storeAt t a' x').run P w=.ok () w'∧Stp P c h w c h' w':=by
 unfold stV at hs;split at hs
 ·rename_i i off;split at hs
  ·rename_i cs hb;split at hs
   ·rename_i hcond;simp only [sI] at hs; subst hs;simp only [aT,dT] at hcond;obtain ⟨⟨h1,h2⟩,h3⟩:=hcond;cases ha with
    | ptr _ _ hr =>
     have hc:=hx.cells;obtain ⟨w',hw,hst⟩:=Stp.splice r hb hc (off:=off) (by omega) (hc.one h3);refine ⟨w',?_,hst⟩;have hsz:x'.cells.size=k:=by have:=hc.1; simp at this; omega
     simp [Instr.storeAt,Instr.sureAddr,storeVar,cN hk,hsz,hw]
   ·cases hs
  ·cases hs
 ·cases hs
theorem Stp.newRow(r:Rel P c h w){xs:List CV}{vs:List Value}(hv:VRs c h.n w xs vs)(e:TypeId)(extra:List Value:=[]) :
  Stp P c h w (c.set h.n w.heap.size) (h.push (.cells xs false)) (w.alloc (.cells (vs++extra).toArray e)):=by
 refine Stp.push r (.cells xs false _ e ?_ fun j x v hx hu=>?_) (by simp)
 ·simp; have:=hv.1; omega
 ·refine hv.2 j x v hx ?_;have hj:j < vs.length:=by rw [←hv.1]; exact (fU.1 hx).1
  rw [List.getElem?_toArray,fY hj] at hu; exact hu
theorem VR.new(c:Cx)(m:Nat)(w w':World):VR (c.set m w.heap.size) (m+1) w' (.ptr m 0) (.pointer (some ⟨w.heap.size,0,none⟩)):=by
 have:=VR.ptr (c:=c.set m w.heap.size) (w:=w') m 0 (gO m);rw [Cx.set_same] at this; exact this
end Ce
namespace Ce
open Go
variable {P:Program} {c:Cx} {h:H} {w:World} {env:List CV} {a:Act}
def OpRes(r:Result Next)(v:Value)(w':World):Prop:=r=.ok (.value v) w'∨(r=.ok .skip w'∧v=Go.undef)
def OpOK(P:Program)(c:Cx)(h:H)(w:World)(r:Result Next)(x:CV)(h':H):Prop :=
 ∃c' w' v,OpRes r v w'∧Stp P c h w c' h' w'∧VR c' h'.n w' x v
theorem OpOK.pure(r:Rel P c h w){x:CV}{v:Value}{res:Result Next}(hr:res=.ok (.value v) w)(hv:VR c h.n w x v):OpOK P c h w res x h :=
 ⟨c,w,v,.inl hr,.refl r,hv⟩
def OpS(P:Program)(op:Op):Prop :=
 ∀(io:Ins),cOp P op=some io→isCall io=false→∀(c:Cx) (h:H) (w:World) (env:List CV) (a:Act) (o:Oper) (x:CV) (h':H),o.op=op→Rel P c h w→dC c h.n w env a.tmps →
  stepO noC io env h=some (x,h')→OpOK P c h w ((execOp a.eval o).run P w) x h'
theorem aU{α β:Type}{x:Option α}{f:α→Option β}{b:β}(h:(x >>= f)=some b):∃a,x=some a∧f a=some b:=by
 cases x with
 | none=>cases h
 | some a=>exact ⟨a,rfl,h⟩
theorem qIL(x:Operand):OpS P (.move x):=by
 intro io hc _ c h w env a o y h' ho r he hs;obtain ⟨x',hx,hc⟩:=aU hc;injection hc with hc; subst hc
 simp only [stepO,sI,pI] at hs;obtain ⟨rfl,rfl⟩:=hs;exact .pure r (by simp [execOp,ho]) (af he hx)
theorem yH(x:Operand):OpS P (.assign x):=by
 intro io hc _ c h w env a o y h' ho r he hs;obtain ⟨x',hx,hc⟩:=aU hc;injection hc with hc; subst hc
 simp only [stepO,sI,pI] at hs;obtain ⟨rfl,rfl⟩:=hs;exact .pure r (by simp [execOp,ho]) (af he hx)
theorem qIJ(p q s:Operand):OpS P (.pick p q s):=by
 intro io hc _ c h w env a o y h' ho r he hs;obtain ⟨p',hp,hc⟩:=aU hc;obtain ⟨q',hq,hc⟩:=aU hc;obtain ⟨s',hs',hc⟩:=aU hc;injection hc with hc; subst hc
 have h1:=af he hp;have h2:=af he hq;have h3:=af he hs';simp only [stepO] at hs;generalize p'.ev env=pv at hs h1;split at hs
 ·simp only [sI,pI] at hs;obtain ⟨rfl,rfl⟩:=hs;generalize hpe:a.eval p=pe at h1;cases h1;exact .pure r (by simp [execOp,ho,hpe,asBool]) h2
 ·simp only [sI,pI] at hs;obtain ⟨rfl,rfl⟩:=hs;generalize hpe:a.eval p=pe at h1;cases h1;exact .pure r (by simp [execOp,ho,hpe,asBool]) h3
 ·cases hs
theorem qDD(t:TypeId):OpS P (.alloc t):=by
 intro io hc _ c h w env a o y h' ho r he hs;obtain ⟨z,hz,hc⟩:=aU hc;injection hc with hc; subst hc
 simp only [stepO,newC,sI,pI] at hs;obtain ⟨rfl,rfl⟩:=hs;obtain ⟨i,v,_,_,hcv,hrun⟩:=fJ hz;have hv:=(fO c h.n w v z hcv).cells;refine ⟨_,_,_,.inl ?_,by have:=Stp.newRow r hv t; rw [fR] at this; exact this,VR.new c h.n w _⟩;simp only [execOp,ho,Instr.alloc,Sem.run_bind,hrun,Result.andThen_ok,newVar,newRow,run_newObj,Sem.run_pure];rfl
theorem qQ7(t:TypeId)(x:Operand):OpS P (.box t x):=by
 intro io hc _ c h w env a o y h' ho r he hs;obtain ⟨x',hx,hc⟩:=aU hc;injection hc with hc; subst hc
 simp only [stepO,newC] at hs;split at hs
 ·simp only [sI,pI] at hs;obtain ⟨rfl,rfl⟩:=hs;have hv:=(af he hx).cells;refine ⟨_,_,_,.inl ?_,by have:=Stp.newRow r hv t; rw [fR] at this; exact this,VR.new c h.n w _⟩;simp only [execOp,ho,Instr.box,Sem.run_bind,Result.andThen_ok,newVar,newRow,run_newObj,Sem.run_pure];rfl
 ·cases hs
theorem qIM(t:TypeId)(x:Operand):OpS P (.load t x):=by
 intro io hc _ c h w env a o y h' ho r he hs;obtain ⟨g,hg,hc⟩:=aU hc;obtain ⟨x',hx,hc⟩:=aU hc;injection hc with hc; subst hc
 simp only [stepO] at hs;split at hs
 ·rename_i v hv;simp only [sI,pI] at hs;obtain ⟨rfl,rfl⟩:=hs;obtain ⟨v',h1,h2⟩:=ldV_ok r hg (af he hx) hv;exact .pure r (by simp only [execOp,ho,Sem.run_bind,h1,Result.andThen_ok,Sem.run_pure]) h2
 ·cases hs
theorem qD6(t:TypeId)(x y:Operand):OpS P (.store t x y):=by
 intro io hc _ c h w env a o v h' ho r he hs;obtain ⟨k,hk,hc⟩:=aU hc;obtain ⟨x',hx,hc⟩:=aU hc;obtain ⟨y',hy,hc⟩:=aU hc;injection hc with hc; subst hc
 simp only [stepO] at hs;split at hs
 ·rename_i h2 hv;simp only [sI,pI] at hs;obtain ⟨rfl,rfl⟩:=hs;obtain ⟨w',h1,hst⟩:=stV_ok r hk (af he hx) (af he hy) hv;exact ⟨c,w',Go.undef,.inr ⟨by simp only [execOp,ho,Sem.run_bind,h1,Result.andThen_ok,Sem.run_pure],rfl⟩,hst,VR.undef⟩
 ·cases hs
theorem uA(x:Operand):OpS P (.nilCheck x):=by
 intro io hc _ c h w env a o y h' ho r he hs;obtain ⟨x',hx,hc⟩:=aU hc;injection hc with hc; subst hc
 have h1:=af he hx;simp only [stepO] at hs;generalize x'.ev env=xv at hs h1;generalize hpe:a.eval x=pe at h1;split at hs
 ·cases hs
 ·cases hs
 ·cases hs
 ·rename_i n1 n2 n3;simp only [sI,pI] at hs;obtain ⟨rfl,rfl⟩:=hs;refine .pure r (v:=pe) ?_ h1;cases h1<;>first | exact absurd rfl n1 | exact absurd rfl n2 | exact absurd rfl n3 | (simp only [execOp,ho,hpe]; rfl)
theorem vZ(x:Operand)(i:Nat):OpS P (.extract x i):=by
 intro io hc _ c h w env a o y h' ho r he hs;obtain ⟨x',hx,hc⟩:=aU hc;injection hc with hc; subst hc
 have h1:=af he hx;simp only [stepO] at hs;generalize x'.ev env=xv at hs h1;generalize hpe:a.eval x=pe at h1;split at hs
 ·rename_i vs;split at hs
  ·rename_i v hv;simp only [sI,pI] at hs;obtain ⟨rfl,rfl⟩:=hs;obtain ⟨us,rfl,hu⟩:=h1.tup_inv (by rintro rfl; cases hv);rw [nth?_eq] at hv;obtain ⟨u,hu1,hu2⟩:=hu.at hv;exact .pure r (by simp [execOp,ho,hpe,Instr.extract,hu1]) hu2
  ·cases hs
 ·cases hs
theorem uC(f:Fn)(xs ys:Array Operand):OpS P (.makeFunc f xs ys):=by
 intro io hc _ c h w env a o y h' ho r he hs;cases f with
 | func f' =>
  obtain ⟨xs',hx,hc⟩:=aU hc;obtain ⟨ys',hy,hc⟩:=aU hc;injection hc with hc; subst hc
  simp only [stepO,sI,pI] at hs;obtain ⟨rfl,rfl⟩:=hs;have h1:=jY he hx;have h2:=jY he hy;refine .pure r (v:=.func (.func f') (xs.map a.eval) (ys.map a.eval)) (by simp [execOp,ho,Instr.makeFunc]) ?_;refine .clo f' _ _ _ _ (by simpa using h1.1) (by simpa using h2.1) (fun i x v hx hv=>h1.2 i x v hx ?_) (fun i x v hx hv=>h2.2 i x v hx ?_)
  ·rw [←Array.toList_map,oh]; exact hv
  ·rw [←Array.toList_map,oh]; exact hv
 | _=>cases hc
theorem qZJ{op:BinOp}{k:IntKind}{m n:Int}{x:CV}(hb:iS op k m n=some x)(hne:op≠.shl)(hne':op≠.shr)(t:TypeId):∃v,(binOp op t (.int k m) (.int k n)).run P w=.ok v w∧VR c h.n w x v:=by
  cases op<;>simp only [iS,sI] at hb
  all_goals first
    | (subst hb; exact ⟨_,by simp [binOp,Op.intArith,Op.intBits,Op.intCmp],.int _ _⟩)
    | (subst hb; exact ⟨_,by simp [binOp,Op.intArith,Op.intBits,Op.intCmp],.bool _⟩)
    | (split at hb
       · cases hb
       · rename_i hz;simp only [sI] at hb;subst hb;exact ⟨_,by simp [binOp,Op.intDiv,hz],.int _ _⟩)
    | exact absurd rfl hne
    | exact absurd rfl hne'
    | cases hb
theorem ry{op:BinOp}{k k':IntKind}{m n:Int}{x:CV}(hb:nU op k m n=some x)(t:TypeId):∃v,(binOp op t (.int k m) (.int k' n)).run P w=.ok v w∧VR c h.n w x v:=by
 unfold nU at hb;split at hb
 ·cases hb
 ·rename_i hn;cases op<;>simp only [sI] at hb<;>first | (subst hb; exact ⟨_,by simp [binOp,Op.shift,hn],.int _ _⟩) | cases hb
theorem qZH{op:BinOp}{s u:ByteArray}{x:CV}(hb:binT op s u=some x)(t:TypeId):∃v,(binOp op t (.string s) (.string u)).run P w=.ok v w∧VR c h.n w x v:=by
  cases op<;>simp only [binT,sI] at hb
  all_goals first
    | (subst hb; exact ⟨_,by simp [binOp,Op.stringOp],.bool _⟩)
    | (split at hb
       · rename_i hz;simp only [sI] at hb;subst hb;refine ⟨_,?_,.str _⟩;have:¬(9223372036854775807 < (s.size:Int)+(u.size:Int)):=by omega
         simp [binOp,Op.stringOp,this,IntKind.max,IntKind.signed,IntKind.bits]
       · cases hb)
    | cases hb
theorem rp{op:BinOp}(h1:op≠.eql)(h2:op≠.neq)(t:TypeId)(x y:Operand)(u v:Value):eqGuard op t x y u v=Pure.pure ():=by
 cases op<;>first | rfl | exact absurd rfl h1 | exact absurd rfl h2
theorem bin_ok{op:BinOp}{x y z:CV}{u v:Value}(hx:VR c h.n w x u)(hy:VR c h.n w y v)(hb:bin op x y=some z)(t:TypeId):∃v',(binOp op t u v).run P w=.ok v' w∧VR c h.n w z v':=by
 unfold bin at hb;split at hb
 ·cases hx; cases hy;split at hb
  ·exact ry hb t
  ·exact ry hb t
  ·rename_i h1 h2;split at hb
   ·rename_i hk; subst hk;exact qZJ hb h1 h2 t
   ·cases hb
 ·cases hx; cases hy;exact qZH hb t
 ·cases hb
theorem yE{t:TypeId}{b:Bool}(h1:cT P t=some b)(cs:Array Value)(off:Nat){k:Nat}(hk:P.cellsOf t=k)(hi:(P.info? t).isSome)(hfit:off+k≤cs.size)(h0:b=false→k=1) :
  (part t cs off).run P w=.ok (if b then .agg (cs.extract off (off+k)) else cs.getD off Go.undef) w:=by
 have hsz:(Go.sizeOf t).run P w=.ok k w:=by
  obtain ⟨i,hi⟩:=kZ.1 hi;simp only [Program.cellsOf,hi,dh,rR] at hk;simp [Go.sizeOf,typeInfo,hi,hk]
 cases b with
 | true=>simp [part,gZ h1,hsz]
 | false =>
  have:=h0 rfl;have hlt:off < cs.size:=by omega
  simp [part,gZ h1,hlt,Array.getD]
end Ce
namespace Ce
open Go
variable {P:Program} {c:Cx} {h:H} {w:World} {env:List CV} {a:Act} {n:Nat}
theorem oY:∀(a c b d:List CV),a.length=c.length→cr (a++b) (c++d)=match cr a c with
  | some true=>cr b d
  | r=>r
 | [],[],b,d,_=>by simp [cr]
 | x::a,y::c,b,d,h=>by
  have ih:=oY a c b d (by simpa using h);simp only [eI,cr];cases eqv x y with
  | none=>rfl
  | some r=>cases r with
   | true=>exact ih
   | false=>rfl
 | [],y::c,b,d,h=>by simp at h
 | x::a,[],b,d,h=>by simp at h
theorem qi{xs ys:List CV}{k:Nat}(hl:xs.length=ys.length):cr xs ys=match cr (xs.take k) (ys.take k) with
  | some true=>cr (xs.drop k) (ys.drop k)
  | r=>r:=by
 have:=oY (xs.take k) (ys.take k) (xs.drop k) (ys.drop k) (by simp [hl])
 rwa [List.take_append_drop,List.take_append_drop] at this
theorem bq:∀{ls:List Lf} {xs:List CV},eS ls xs=true→xs.length=ls.length
 | [],[],_=>rfl
 | .b::ls,.bool _::xs,h=>by simp [bq (ls:=ls) (xs:=xs) h]
 | .i::ls,.int _ _::xs,h=>by simp [bq (ls:=ls) (xs:=xs) h]
 | .s::ls,.str _::xs,h=>by simp [bq (ls:=ls) (xs:=xs) h]
theorem eK:∀{l1 l2:List Lf} {xs:List CV},eS (l1++l2) xs=true→eS l1 (xs.take l1.length)=true∧eS l2 (xs.drop l1.length)=true
 | [],l2,xs,h=>by simpa [eS] using h
 | .b::l1,l2,.bool _::xs,h=>by simpa [eS] using eK (l1:=l1) (l2:=l2) (xs:=xs) h
 | .i::l1,l2,.int _ _::xs,h=>by simpa [eS] using eK (l1:=l1) (l2:=l2) (xs:=xs) h
 | .s::l1,l2,.str _::xs,h=>by simpa [eS] using eK (l1:=l1) (l2:=l2) (xs:=xs) h
def mkV(P:Program)(t:TypeId)(vs:List Value):Value:=if cT P t=some true then .agg vs.toArray else vs.headD Go.undef
theorem cE{t:TypeId}{d:TypeDesc}(h:P.underlying t=some d):cT P t=some (jo d):=by
 unfold cT; rw [h]; cases d<;>rfl
theorem kr{t:TypeId}(hi:(P.info? t).isSome)(hu:(P.underlying t).isSome){vs:Array Value}{off:Nat}(hfit:off+P.cellsOf t≤vs.size)(h1:cT P t=some false→P.cellsOf t=1) :
  (part t vs off).run P w=.ok (mkV P t ((vs.toList.drop off).take (P.cellsOf t))) w:=by
 obtain ⟨d,hd⟩:=kZ.1 hu;have ha:=cE hd;rw [yE ha vs off rfl hi hfit (fun e=>h1 (by rw [ha,e]))];unfold mkV;rw [ha];cases hb:jo d with
 | true =>
  simp only [ac]
  congr 2
  apply Array.ext';simp [List.extract_eq_take_drop]
 | false =>
  have hk:=h1 (by rw [ha,hb]);rw [hk] at hfit ⊢;have hlt:off < vs.size:=by omega
  have:vs.toList.drop off=vs.toList[off]::vs.toList.drop (off+1):=by rw [List.drop_eq_getElem_cons (by simpa using hlt)]
  rw [this];simp [Array.getD,hlt]
def EqC(P:Program)(d:Nat)(t:TypeId)(ls:List Lf):Prop :=
 ∀(c:Cx) (n:Nat) (w:World) (xs ys:List CV) (vs us:List Value) (b:Bool),eS ls xs=true→VRs c n w xs vs→VRs c n w ys us→ys.length=ls.length→cr xs ys=some b →
  ∀D,(Op.equalIn (D+d) t (mkV P t vs) (mkV P t us)).run P w=.ok b w
theorem qV{xs ys:List CV}{vs us:List Value}(hx:xs.length=1)(hv:VRs c n w xs vs)(hu:VRs c n w ys us)(hy:ys.length=1){b:Bool}(he:cr xs ys=some b) :
  ∃x y v u,xs=[x]∧ys=[y]∧vs=[v]∧us=[u]∧VR c n w x v∧VR c n w y u∧eqv x y=some b:=by
 match xs,ys,vs,us,hx,hy,hv,hu with
 | [x],[y],[v],[u],_,_,hv,hu =>
  refine ⟨x,y,v,u,rfl,rfl,rfl,rfl,hv.2 0 x v rfl rfl,hu.2 0 y u rfl rfl,?_⟩;simp only [cr] at he;cases hxy:eqv x y with
  | none=>rw [hxy] at he; cases he
  | some r=>rw [hxy] at he; cases r<;>simpa using he
 | [x],[y],[],_,_,_,hv,_=>have:=hv.1; simp at this
 | [x],[y],_::_::_,_,_,_,hv,_=>have:=hv.1; simp at this
 | [x],[y],_,[],_,_,_,hu=>have:=hu.1; simp at this
 | [x],[y],_,_::_::_,_,_,_,hu=>have:=hu.1; simp at this
theorem oZ{d:Nat}{rec:TypeId→Option (List Lf)}(hrec:∀t k,rec t=some k→(P.info? t).isSome∧(P.underlying t).isSome∧(cT P t=some false→k.length=1)∧EqC P d t k) :
  ∀(fs:List Field) (off:Nat) (ls:List Lf),lZ P rec fs off=some ls→∀(c:Cx) (n:Nat) (w:World) (xs ys:List CV) (vs us:List Value) (b:Bool),eS ls (xs.drop off)=true→off≤xs.length→VRs c n w xs vs→VRs c n w ys us→ys.length=xs.length →
   cr (xs.drop off) (ys.drop off)=some b→∀D,(Op.eqFields (D+d) vs.toArray us.toArray fs).run P w=.ok b w
 | [],off,ls,hl,c,n,w,xs,ys,vs,us,b,hx,ho,hv,hu,hy,he,D=>by
  simp only [lZ,sI] at hl;subst hl;have hlen:=bq hx;simp at hlen;rw [tU (by omega),tU (by omega)] at he;simp only [cr,sI] at he;subst he;simp [Op.eqFields]
 | f::fs,off,ls,hl,c,n,w,xs,ys,vs,us,b,hx,ho,hv,hu,hy,he,D=>by
  simp only [lZ] at hl;split at hl
  ·cases hl
  ·rename_i hname;split at hl
   ·rename_i hoff;split at hl
    ·rename_i k hk;split at hl
     ·rename_i hcells;split at hl
      ·rename_i ks hks;simp only [sI] at hl;subst hl;obtain ⟨h1,h2,h3,h4⟩:=hrec _ _ hk;have hlen:=bq hx;simp at hlen;obtain ⟨hx1,hx2⟩:=eK hx;rw [kW] at hx2;have hp1:=kr (P:=P) (w:=w) h1 h2 (vs:=vs.toArray) (off:=f.offset) (by rw [hcells]; simp; have:=hv.1; omega) (fun e=>by rw [hcells]; exact h3 e);have hp2:=kr (P:=P) (w:=w) h1 h2 (vs:=us.toArray) (off:=f.offset) (by rw [hcells]; simp; have:=hu.1; omega) (fun e=>by rw [hcells]; exact h3 e);rw [qi (k:=k.length) (by simp; omega)] at he;simp only [Op.eqFields,aH (show f.name ≠ "_" from hname),Sem.run_bind,hp1,hp2,Result.andThen_ok];rw [hcells,hoff];have hx':=(hv.drop off).take k.length;have hy':=(hu.drop off).take k.length;cases hq:cr ((xs.drop off).take k.length) ((ys.drop off).take k.length) with
       | none=>rw [hq] at he; cases he
       | some q =>
        have hr:=h4 c n w _ _ _ _ q hx1 hx' hy' (by simp; omega) hq D;simp only [hr,Result.andThen_ok,Sem.run_ite,Sem.run_pure];cases q with
        | false=>rw [hq] at he; simp only [sI] at he; subst he; simp
        | true =>
         rw [hq] at he;simp only [kW] at he;simp only [Bool.not_true,bj,bX];exact oZ hrec fs (off+k.length) ks hks c n w xs ys vs us b hx2 (by omega) hv hu hy he D
      ·cases hl
     ·cases hl
    ·cases hl
   ·cases hl
theorem qj{d:Nat}{e:TypeId}{k:List Lf}(h1:(P.info? e).isSome)(h2:(P.underlying e).isSome)(h3:cT P e=some false→k.length=1)(h4:EqC P d e k)(hcells:P.cellsOf e=k.length){vs us:List Value}{xs ys:List CV}
  (hv:VRs c n w xs vs) (hu:VRs c n w ys us) (hy:ys.length=xs.length) (D:Nat) (kk:Bool→Sem Bool):∀(m i:Nat),eS (jD k m) (xs.drop (i*k.length))=true→i*k.length≤xs.length→∀b,cr (xs.drop (i*k.length)) (ys.drop (i*k.length))=some b →
   (forIn (m:=Sem) (List.range' i m 1) (none,PUnit.unit) (fun i (_:Option Bool × PUnit)=>do
    let r ←Op.equalIn (D+d) e (←part e vs.toArray (i*k.length)) (←part e us.toArray (i*k.length))
    if (!r)=true then Pure.pure (ForInStep.done (some false,PUnit.unit)) else Pure.pure (ForInStep.yield (none,PUnit.unit)))).run P w=.ok ((if b then none else some false),PUnit.unit) w
 | 0,i,hx,ho,b,he=>by
  have hlen:=bq hx;simp [jD] at hlen;rw [tU (by omega),tU (by omega)] at he;simp only [cr,sI] at he;subst he;simp
 | m+1,i,hx,ho,b,he=>by
  have hlen:=bq hx;simp only [jD] at hx;obtain ⟨hx1,hx2⟩:=eK hx;have hl:∀m,(jD k m).length=m*k.length:=by
   intro m; induction m with
   | zero=>simp [jD]
   | succ m ih=>simp [jD,ih,dL]; omega
  have hlen2:=bq hx1;rw [hl] at hlen;simp at hlen hlen2;have hmul:(m+1)*k.length=m*k.length+k.length:=dL _ _;rw [kW] at hx2;have hp1:=kr (P:=P) (w:=w) h1 h2 (vs:=vs.toArray) (off:=i*k.length) (by rw [hcells]; simp; have:=hv.1; omega) (fun e=>by rw [hcells]; exact h3 e);have hp2:=kr (P:=P) (w:=w) h1 h2 (vs:=us.toArray) (off:=i*k.length) (by rw [hcells]; simp; have:=hu.1; omega) (fun e=>by rw [hcells]; exact h3 e);rw [qi (k:=k.length) (by simp; omega)] at he;have hx':=(hv.drop (i*k.length)).take k.length;have hy':=(hu.drop (i*k.length)).take k.length;simp only [List.range'_succ,List.forIn_cons,Sem.run_bind,hp1,hp2,Result.andThen_ok,hcells];cases hq:cr ((xs.drop (i*k.length)).take k.length) ((ys.drop (i*k.length)).take k.length) with
  | none=>rw [hq] at he; cases he
  | some q =>
   have hr:=h4 c n w _ _ _ _ q hx1 hx' hy' (by simp; omega) hq D;simp only [hr,Result.andThen_ok,Sem.run_ite,Sem.run_pure];cases q with
   | false=>rw [hq] at he; simp only [sI] at he; subst he; simp
   | true =>
    rw [hq] at he;simp only [kW] at he;simp only [Bool.not_true,bj,bX,Sem.run_pure,Result.andThen_ok];have:=qj h1 h2 h3 h4 hcells hv hu hy D kk m (i+1) (by rw [dL]; exact hx2) (by rw [dL]; omega) b (by rw [dL]; exact he);exact this
end Ce
namespace Ce
open Go
variable {P:Program} {c:Cx} {h:H} {w:World} {env:List CV} {a:Act} {n:Nat}
theorem qT:∀(d:Nat) (t:TypeId) (ls:List Lf),qU P d t=some ls→(P.info? t).isSome∧(P.underlying t).isSome∧(cT P t=some false→ls.length=1)∧EqC P d t ls
 | 0,t,k,h=>by cases h
 | d+1,t,k,h=>by
  have IH:=fun t k=>qT d t k
  simp only [qU] at h;split at h
  ·cases h
  ·rename_i hinfo;have hi:(P.info? t).isSome:=by cases hh:P.info? t with
    | none=>rw [hh] at hinfo; simp at hinfo
    | some _=>rfl
   refine ⟨hi,?_⟩;split at h
   ·rename_i hu;simp only [sI] at h; subst h;refine ⟨by rw [hu]; rfl,fun _=>rfl,?_⟩;intro c n w xs ys vs us b hx hv hw hy he D;obtain ⟨x,y,v,u,rfl,rfl,rfl,rfl,h1,h2,h3⟩:=qV (bq hx) hv hw hy he;have hm:cT P t≠some true:=by rw [cE hu]; simp [jo]
    simp only [mkV,aC hm,List.headD];cases x<;>simp only [eS,bj] at hx;cases y<;>simp only [eqv,sI,reduceCtorEq] at h3;cases h1; cases h2; subst h3;exact run_equalIn_bool' w _ t _ _ hu
   ·rename_i hu;simp only [sI] at h; subst h;refine ⟨by rw [hu]; rfl,fun _=>rfl,?_⟩;intro c n w xs ys vs us b hx hv hw hy he D;obtain ⟨x,y,v,u,rfl,rfl,rfl,rfl,h1,h2,h3⟩:=qV (bq hx) hv hw hy he;have hm:cT P t≠some true:=by rw [cE hu]; simp [jo]
    simp only [mkV,aC hm,List.headD];cases x<;>simp only [eS,bj] at hx;cases y<;>simp only [eqv,sI,reduceCtorEq] at h3;split at h3
    ·rename_i hk;subst hk;cases h1; cases h2; simp only [sI] at h3; subst h3;exact run_equalIn_int w _ t _ _ _ _ hu
    ·cases h3
   ·rename_i hu;simp only [sI] at h; subst h;refine ⟨by rw [hu]; rfl,fun _=>rfl,?_⟩;intro c n w xs ys vs us b hx hv hw hy he D;obtain ⟨x,y,v,u,rfl,rfl,rfl,rfl,h1,h2,h3⟩:=qV (bq hx) hv hw hy he;have hm:cT P t≠some true:=by rw [cE hu]; simp [jo]
    simp only [mkV,aC hm,List.headD];cases x<;>simp only [eS,bj] at hx;cases y<;>simp only [eqv,sI,reduceCtorEq] at h3;cases h1; cases h2; subst h3;exact run_equalIn_string w _ t _ _ hu
   ·rename_i m e hu;refine ⟨by rw [hu]; rfl,fun hf=>by rw [cE hu] at hf; simp [jo] at hf,?_⟩;split at h
    ·rename_i k' hk';split at h
     ·rename_i hcells;simp only [sI] at h; subst h;obtain ⟨h1,h2,h3,h4⟩:=IH _ _ hk';intro c n w xs ys vs us b hx hv hw hy he D;have hm:cT P t=some true:=by rw [cE hu]; simp [jo]
      simp only [mkV,aH hm];have hlen:=bq hx;have hE:=qj h1 h2 h3 h4 hcells hv hw (by rw [hy,hlen]) D (fun b=>Pure.pure b) m 0 (by simpa using hx) (by simp) b (by simpa using he);have hsz:(Go.sizeOf e).run P w=.ok k'.length w:=by
       obtain ⟨i,hi⟩:=kZ.1 h1;simp only [Program.cellsOf,hi,dh,rR] at hcells;simp [Go.sizeOf,typeInfo,hi,hcells]
      rw [show D+(d+1)=(D+d)+1 from by omega];simp only [Op.equalIn,Sem.run_bind,aO hu,Result.andThen_ok,hsz,Std.Legacy.Range.forIn_eq_forIn_range',Std.Legacy.Range.size];simp only [Nat.sub_zero,Nat.add_sub_cancel,Nat.div_one];refine (congrArg (fun r=>Result.andThen r _) hE).trans ?_;cases b<;>rfl
     ·cases h
    ·cases h
   ·rename_i fs hu;refine ⟨by rw [hu]; rfl,fun hf=>by rw [cE hu] at hf; simp [jo] at hf,?_⟩;split at h
    ·cases h
    ·rename_i hst;intro c n w xs ys vs us b hx hv hw hy he D;have hm:cT P t=some true:=by rw [cE hu]; simp [jo]
     simp only [mkV,aH hm];have hfo:P.fieldsOf t=fs:=by unfold Program.fieldsOf; rw [hu]
     rw [show D+(d+1)=(D+d)+1 from by omega,run_equalIn_struct w (D+d) t _ _ (by rw [hfo]; exact hu) (by simpa using hst),hfo];exact oZ IH fs.toList 0 k h c n w xs ys vs us b (by simpa using hx) (by omega) hv hw (by rw [hy,bq hx]) (by simpa using he) D
   ·cases h
theorem pQ{t:TypeId}{ag:Bool}{ls:List Lf}(hf:flatT P t=some (ag,ls)){x y:CV}{u v:Value}(hx:VR c n w x u)(hy:VR c n w y v)(hk:kOk ag ls x=true){b:Bool}(he:eqF x y=some b) :
  (Op.equal t u v).run P w=.ok b w:=by
 unfold flatT at hf;split at hf
 ·rename_i l d hl hd;split at hf
  ·cases hf
  ·simp only [sI,pI] at hf;obtain ⟨rfl,rfl⟩:=hf;obtain ⟨_,_,_,h4⟩:=qT _ _ _ hl;simp only [kOk,aT,aZ] at hk;have hcx:=hx.cells;have hcy:=hy.cells;unfold eqF at he;split at he
   case isFalse=>cases he
   rename_i hsh;simp only [aT,aZ] at hsh;have hya:cK y=jo d:=by rw [←hsh.1]; exact hk.1
   have hlen:y.cells.length=l.length:=by rw [←hsh.2]; exact bq hk.2
   have h5:=h4 c n w _ _ _ _ b hk.2 hcx hcy hlen he (10000 - 40);have hmx:mkV P t u.cells.toList=u:=by
    unfold mkV;rw [cE hd];cases hag:jo d with
    | true =>
     rw [hag] at hk;cases x<;>simp [cK] at hk;cases hx; simp [Value.cells]
    | false =>
     rw [hag] at hk;cases hx<;>simp [cK] at hk<;>simp [Value.cells]
   have hmy:mkV P t v.cells.toList=v:=by
    unfold mkV;rw [cE hd];cases hag:jo d with
    | true =>
     rw [hag] at hya;cases y<;>simp [cK] at hya;cases hy; simp [Value.cells]
    | false =>
     rw [hag] at hya;cases hy<;>simp [cK] at hya<;>simp [Value.cells]
   rw [hmx,hmy] at h5;exact h5
 ·cases hf
end Ce
namespace Ce
open Go
variable {P:Program} {c:Cx} {h:H} {w:World} {env:List CV} {a:Act} {n:Nat}
theorem qLK{op:BinOp}(hop:op=.eql∨op=.neq){t:TypeId}{u v:Value}{b:Bool}(hns:∀s s',u=.string s→v≠.string s')(hni:∀k m k' m',u=.int k m→v≠.int k' m')(hnf:∀k m k' m',u=.float k m→v≠.float k' m')(hnc:∀k m l k' m' l',u=.complex k m l→v≠.complex k' m' l')
  (he:(Op.equal t u v).run P w=.ok b w):(binOp op t u v).run P w=.ok (.bool (if op=.neq then !b else b)) w:=by
 rcases hop with rfl | rfl
 ·cases u<;>cases v<;>first
   | (simp [binOp,he]; done)
   | exact absurd rfl (hns _ _ rfl)
   | exact absurd rfl (hni _ _ _ _ rfl)
   | exact absurd rfl (hnf _ _ _ _ rfl)
   | exact absurd rfl (hnc _ _ _ _ _ _ rfl)
 ·cases u<;>cases v<;>first
   | (simp [binOp,he]; done)
   | exact absurd rfl (hns _ _ rfl)
   | exact absurd rfl (hni _ _ _ _ rfl)
   | exact absurd rfl (hnf _ _ _ _ rfl)
   | exact absurd rfl (hnc _ _ _ _ _ _ rfl)
theorem kK{op:BinOp}{t:TypeId}{x y:Operand}{u v:Value}(h1:u≠.nilIface)(h2:∀as bs,u=.agg as→v=.agg bs→P.eqGuardType P.depth t=false):(eqGuard op t x y u v).run P w=.ok () w:=by
 cases u with
 | agg as =>
  cases v with
  | agg bs=>exact run_eqGuard_agg w op t x y as bs (h2 as bs rfl rfl)
  | _=>cases op<;>rfl
 | nilIface=>exact absurd rfl h1
 | _=>cases op<;>cases v<;>rfl
theorem qD1{t e:TypeId}(hu:P.underlying t=some (.pointer e)){x y:CV}{u v:Value}(hx:VR c n w x u)(hy:VR c n w y v){b:Bool}(he:eqK .ptr x y=some b)(d:Nat):(Op.equalIn (d+1) t u v).run P w=.ok b w:=by
 simp only [eqK] at he;split at he<;>first | (cases he; done) | skip
 all_goals (simp only [sI] at he; subst he; cases hx; cases hy; simp [Op.equalIn,aO hu])
theorem qCN{t e:TypeId}(hu:P.underlying t=some (.slice e)){x y:CV}{u v:Value}(hx:VR c n w x u)(hy:VR c n w y v){b:Bool}(he:eqK .slc x y=some b)(d:Nat):(Op.equalIn (d+1) t u v).run P w=.ok b w:=by
 simp only [eqK] at he;split at he<;>first | (cases he; done) | skip
 all_goals (simp only [sI] at he; subst he; cases hx; cases hy; simp [Op.equalIn,aO hu])
theorem qLE{t:TypeId}{ps rs:Array TypeId}{vr:Bool}(hu:P.underlying t=some (.func ps rs vr)){x y:CV}{u v:Value}(hx:VR c n w x u)(hy:VR c n w y v){b:Bool}(he:eqK .fn x y=some b)(d:Nat):(Op.equalIn (d+1) t u v).run P w=.ok b w:=by
 simp only [eqK] at he;split at he<;>first | (cases he; done) | skip
 all_goals (simp only [sI] at he; subst he; cases hx; cases hy; simp [Op.equalIn,aO hu])
theorem qDI{t k e:TypeId}(hu:P.underlying t=some (.map k e)){x y:CV}{u v:Value}(hx:VR c n w x u)(hy:VR c n w y v){b:Bool}(he:eqK .map x y=some b)(d:Nat):(Op.equalIn (d+1) t u v).run P w=.ok b w:=by
 simp only [eqK] at he;split at he<;>first | (cases he; done) | skip
 all_goals (simp only [sI] at he; subst he; cases hx; cases hy; simp [Op.equalIn,aO hu])
theorem gh{op:BinOp}(hop:op=.eql∨op=.neq){t:TypeId}{x y:Operand}{u v:Value}{b:Bool}(h1:u≠.nilIface)(h2:∀as bs,u=.agg as→v=.agg bs→P.eqGuardType P.depth t=false)
  (hns:∀s s',u=.string s→v≠.string s') (hni:∀k m k' m',u=.int k m→v≠.int k' m') (hnf:∀k m k' m',u=.float k m→v≠.float k' m') (hnc:∀k m l k' m' l',u=.complex k m l→v≠.complex k' m' l')
  (he:(Op.equal t u v).run P w=.ok b w):(do eqGuard op t x y u v; binOp op t u v:Sem Value).run P w=.ok (.bool (if (op==.neq) then !b else b)) w:=by
 rw [Sem.run_bind,kK h1 h2,Result.andThen_ok,qLK hop hns hni hnf hnc he];rcases hop with rfl | rfl<;>rfl
theorem yW{t:TypeId}{ag:Bool}{ls:List Lf}(hf:flatT P t=some (ag,ls)):P.eqGuardType P.depth t=false:=by
 unfold flatT at hf;split at hf
 ·split at hf
  ·cases hf
  ·rename_i hg; simpa using hg
 ·cases hf
theorem eqo_ok{op:BinOp}(hop:op=.eql∨op=.neq){t:TypeId}{x y:Operand}{u v:Value}{xv yv:CV}(hx:VR c n w xv u)(hy:VR c n w yv v){io:Ins}{x' y':Opd}
  (hc:(match P.underlying t with
   | some (.pointer _)=>some (Ins.eqo (op==.neq) .ptr x' y')
   | some (.slice _)=>some (Ins.eqo (op==.neq) .slc x' y')
   | some (.func _ _ _)=>some (Ins.eqo (op==.neq) .fn x' y')
   | some (.map _ _)=>some (Ins.eqo (op==.neq) .map x' y')
   | _=>match flatT P t with
    | some (ag,ls)=>some (Ins.eqo (op==.neq) (.leaf ag ls) x' y')
    | none=>none)=some io) :
  ∃k,io=.eqo (op==.neq) k x' y'∧∀b,eqK k xv yv=some b→(do eqGuard op t x y u v; binOp op t u v:Sem Value).run P w=.ok (.bool (if (op==.neq) then !b else b)) w:=by
 split at hc
 ·rename_i e hu;simp only [sI] at hc; subst hc;refine ⟨.ptr,rfl,fun b he=>?_⟩;have hr:(Op.equal t u v).run P w=.ok b w:=qD1 hu hx hy he 9999;simp only [eqK] at he;split at he<;>first | (cases he; done) | skip
  all_goals
   cases hx; cases hy;exact gh hop (by simp) (by simp) (by simp) (by simp) (by simp) (by simp) hr
 ·rename_i e hu;simp only [sI] at hc; subst hc;refine ⟨.slc,rfl,fun b he=>?_⟩;have hr:(Op.equal t u v).run P w=.ok b w:=qCN hu hx hy he 9999;simp only [eqK] at he;split at he<;>first | (cases he; done) | skip
  all_goals
   cases hx; cases hy;exact gh hop (by simp) (by simp) (by simp) (by simp) (by simp) (by simp) hr
 ·rename_i e hu;simp only [sI] at hc; subst hc;refine ⟨.fn,rfl,fun b he=>?_⟩;have hr:(Op.equal t u v).run P w=.ok b w:=qLE hu hx hy he 9999;simp only [eqK] at he;split at he<;>first | (cases he; done) | skip
  all_goals
   cases hx; cases hy;exact gh hop (by simp) (by simp) (by simp) (by simp) (by simp) (by simp) hr
 ·rename_i e hu;simp only [sI] at hc; subst hc;refine ⟨.map,rfl,fun b he=>?_⟩;have hr:(Op.equal t u v).run P w=.ok b w:=qDI hu hx hy he 9999;simp only [eqK] at he;split at he<;>first | (cases he; done) | skip
  all_goals
   cases hx; cases hy;exact gh hop (by simp) (by simp) (by simp) (by simp) (by simp) (by simp) hr
 ·split at hc
  ·rename_i ag ls hf;simp only [sI] at hc; subst hc;refine ⟨.leaf ag ls,rfl,fun b he=>?_⟩;simp only [eqK] at he;split at he
   ·rename_i hk;have hr:=pQ hf hx hy hk he;have hg:=yW hf;simp only [kOk,aT,aZ] at hk;unfold eqF at he;split at he
    case isFalse=>cases he
    rename_i hsh;simp only [aT,aZ] at hsh;cases hx with
    | agg xs vs hxl hxv=>exact gh hop (by simp) (fun _ _ _ _=>hg) (by simp) (by simp) (by simp) (by simp) hr
    | int k m =>
     have hgr:(eqGuard op t x y (.int k m) v).run P w=.ok () w:=kK (by simp) (by simp);rw [Sem.run_bind,hgr,Result.andThen_ok];cases hy<;>simp only [CV.cells,cr,eqv] at he
     all_goals try (cases he; done)
     ·split at he
      ·rename_i hb;split at hb
       ·rename_i hk2;subst hk2;simp only [sI,aZ] at hb he;subst he;rcases hop with rfl | rfl<;>simp [binOp,Op.intCmp,hb]
       ·cases hb
      ·rename_i hb;split at hb
       ·rename_i hk2;subst hk2;simp only [sI] at hb he;subst he;rcases hop with rfl | rfl<;>simp_all [binOp,Op.intCmp]
       ·cases hb
      ·cases he
     all_goals (simp [cK] at hsh)
    | str s =>
     have hgr:(eqGuard op t x y (.string s) v).run P w=.ok () w:=kK (by simp) (by simp);rw [Sem.run_bind,hgr,Result.andThen_ok];cases hy<;>simp only [CV.cells,cr,eqv] at he
     all_goals try (cases he; done)
     ·split at he
      ·rename_i hb;simp only [sI] at hb he;subst he;rcases hop with rfl | rfl<;>simp [binOp,Op.stringOp,hb]
      ·rename_i hb;simp only [sI] at hb he;subst he;rcases hop with rfl | rfl<;>simp [binOp,Op.stringOp,hb]
      ·cases he
     all_goals (simp [cK] at hsh)
    | bool q=>exact gh hop (by simp) (by simp) (by simp) (by simp) (by simp) (by simp) hr
    | _=>simp [CV.cells,eS] at hk
   ·cases he
  ·cases hc
theorem qDC(op:BinOp)(t:TypeId)(x y:Operand)(yt:TypeId):OpS P (.binOp op t x y yt):=by
 intro io hc _ c h w env a o z h' ho r he hs;obtain ⟨x',hx,hc⟩:=aU hc;obtain ⟨y',hy,hc⟩:=aU hc;have h1:=af he hx;have h2:=af he hy;by_cases hop:op=.eql∨op=.neq
 ·have hc':(match P.underlying t with
   | some (.pointer _)=>some (Ins.eqo (op==.neq) .ptr x' y')
   | some (.slice _)=>some (Ins.eqo (op==.neq) .slc x' y')
   | some (.func _ _ _)=>some (Ins.eqo (op==.neq) .fn x' y')
   | some (.map _ _)=>some (Ins.eqo (op==.neq) .map x' y')
   | _=>match flatT P t with
    | some (ag,ls)=>some (Ins.eqo (op==.neq) (.leaf ag ls) x' y')
    | none=>none)=some io:=by
   rcases hop with rfl | rfl<;>exact hc
  obtain ⟨k,rfl,hk⟩:=eqo_ok (x:=x) (y:=y) hop h1 h2 hc';simp only [stepO] at hs;split at hs
  ·rename_i b hb;simp only [sI,pI] at hs;obtain ⟨rfl,rfl⟩:=hs;refine .pure r ?_ (.bool _);simp only [execOp,ho];rw [Sem.run_bind,hk b hb];rfl
  ·cases hs
 ·have hc':io=.bin op x' y':=by
   cases op<;>simp at hop<;>(injection hc with hc; exact hc.symm)
  subst hc';simp only [stepO] at hs;split at hs
  ·rename_i v hv;simp only [sI,pI] at hs;obtain ⟨rfl,rfl⟩:=hs;obtain ⟨v',hr,hvr⟩:=bin_ok h1 h2 hv t (P:=P);refine .pure r ?_ hvr;simp only [execOp,ho,rp (fun e=>hop (.inl e)) (fun e=>hop (.inr e)),Sem.run_bind,Sem.run_pure,Result.andThen_ok,hr]
  ·cases hs
theorem qII(op:UnOp)(t:TypeId)(x:Operand):OpS P (.unOp op t x):=by
 intro io hc _ c h w env a o z h' ho r he hs;obtain ⟨x',hx,hc⟩:=aU hc;injection hc with hc; subst hc
 have h1:=af he hx;simp only [stepO] at hs;generalize x'.ev env=xv at hs h1;generalize hpe:a.eval x=pe at h1;split at hs
 ·rename_i v hv;simp only [sI,pI] at hs;obtain ⟨rfl,rfl⟩:=hs;unfold un at hv;split at hv
  ·cases h1; simp only [sI] at hv; subst hv;exact .pure r (by simp [execOp,ho,hpe,Op.unary,Op.intArith]) (.int _ _)
  ·cases h1; simp only [sI] at hv; subst hv;exact .pure r (by simp [execOp,ho,hpe,Op.unary,Op.intBits]) (.int _ _)
  ·cases h1; simp only [sI] at hv; subst hv;exact .pure r (by simp [execOp,ho,hpe,Op.unary]) (.bool _)
  ·cases hv
 ·cases hs
theorem v9(s d:TypeId)(x:Operand):OpS P (.convert s d x):=by
 intro io hc _ c h w env a o z h' ho r he hs;obtain ⟨x',hx,hc⟩:=aU hc;have h1:=af he hx;split at hc
 ·rename_i k1 k2 hu1 hu2;injection hc with hc; subst hc
  simp only [stepO] at hs;generalize x'.ev env=xv at hs h1;generalize hpe:a.eval x=pe at h1;split at hs
  ·cases h1;simp only [sI,pI] at hs;obtain ⟨rfl,rfl⟩:=hs;exact .pure r (by simp [execOp,ho,hpe,convert,aO hu1,aO hu2,Conv.intToInt]) (.int _ _)
  ·cases hs
 ·rename_i hu1 hu2;injection hc with hc; subst hc
  simp only [stepO] at hs;generalize x'.ev env=xv at hs h1;generalize hpe:a.eval x=pe at h1;split at hs
  ·cases h1;simp only [sI,pI] at hs;obtain ⟨rfl,rfl⟩:=hs;exact .pure r (by simp [execOp,ho,hpe,convert,aO hu1,aO hu2]) (.str _)
  ·cases hs
 ·cases hc
end Ce
namespace Ce
open Go
variable {P:Program} {c:Cx} {h:H} {w:World} {env:List CV} {a:Act} {n:Nat}
theorem qFQ(xs:List Value):∀(off:Nat) (i:Nat) (cs:Array Value),((xs.zipIdx i).foldl (fun (cs:Array Value) (p:Value × Nat)=>cs.setIfInBounds (off+p.2) p.1) cs).toList=cs.toList.mapIdx fun j v=>if off+i≤j∧j < off+i+xs.length then xs.getD (j - (off+i)) v else v:=by
 induction xs with
 | nil =>
  intro off i cs;apply List.ext_getElem?;intro j;simp only [List.zipIdx_nil,List.foldl_nil,List.getElem?_mapIdx,lL];cases cs.toList[j]? with
  | none=>rfl
  | some v=>simp only [dh,sI]; rw [aC (by omega)]
 | cons x xs ih =>
  intro off i cs;rw [List.zipIdx_cons,nE,ih off (i+1)];apply List.ext_getElem?;intro j;simp only [List.getElem?_mapIdx,Array.toList_setIfInBounds,List.getElem?_set];by_cases hj:off+i=j
  ·subst hj;simp only [ac];by_cases hl:off+i < cs.toList.length
   ·rw [aH hl,ed hl];simp only [dh,sI,eZ];rw [aC (by omega),aH (by omega),Nat.sub_self];rfl
   ·rw [aC hl,List.getElem?_eq_none (Nat.not_lt.1 hl)];rfl
  ·rw [aC hj];cases cs.toList[j]? with
   | none=>rfl
   | some v =>
    simp only [dh,sI,eZ];by_cases h1:off+i≤j∧j < off+i+(xs.length+1)
    ·rw [aH h1];have:j - (off+i)=(j - (off+(i+1)))+1:=by omega
     rw [aH (by omega),this];simp
    ·rw [aC h1,aC (by omega)]
theorem wQ(cells:Array Value)(off:Nat)(xs:List Value)(hfit:off+xs.length≤cells.size) :
  (xs.toArray.zipIdx.foldl (fun (cs:Array Value) (p:Value × Nat)=>cs.setIfInBounds (off+p.2) p.1) cells)=(cells.toList.take off++xs++cells.toList.drop (off+xs.length)).toArray:=by
 apply Array.ext';rw [←Array.foldl_toList,Array.toList_zipIdx,qFQ xs off 0 cells];apply List.ext_getElem?;intro j;simp only [List.getElem?_mapIdx,d8];by_cases h1:j < off
 ·rw [nH,fY (by simp; omega),iK,aH h1];cases cells.toList[j]? with
  | none=>rfl
  | some v=>simp; intro h2; omega
 ·by_cases h2:j < off+xs.length
  ·rw [fY (by simp; omega),iM (by simp; omega)];have hj:j < cells.toList.length:=by simp; omega
   rw [ed hj];simp only [dh,eh,Array.length_toList];rw [aH (by omega),Nat.min_eq_left (by omega)];rw [ed (show j - off < xs.length from by omega)];simp [List.getD,ed (show j - off < xs.length from by omega)]
  ·rw [iM (by simp; omega),dP];simp only [jP,eh,Array.length_toList];rw [Nat.min_eq_left (by omega),show off+xs.length+(j - (off+xs.length))=j from by omega];cases cells.toList[j]? with
   | none=>rfl
   | some v=>simp; intro h3 h4; omega
theorem qBH(place:Nat→Option (Nat × Nat)){env:List CV}{a:Act}(he:dC c n w env a.tmps):∀(ps:List (Nat × Operand)) (qs:List (Nat × Nat × Opd)) (zs:List CV) (vs:List Value) (cs:List CV),
  l9 place ps=some qs→VRs c n w zs vs→cG zs env qs=some cs→∃us:List Value,Instr.fill place vs.toArray (ps.map fun p=>(p.1,a.eval p.2))=some us.toArray∧VRs c n w cs us
 | [],qs,zs,vs,cs,hp,hz,hf=>by
  simp only [l9,sI] at hp; subst hp;simp only [cG,sI] at hf; subst hf;exact ⟨vs,rfl,hz⟩
 | (i,o)::ps,qs,zs,vs,cs,hp,hz,hf=>by
  simp only [l9] at hp;split at hp
  ·rename_i off k o' qs' e1 e2 e3;simp only [sI] at hp; subst hp;simp only [cG] at hf;split at hf
   ·rename_i hcond;simp only [aT,dT] at hcond;obtain ⟨⟨h1,h2⟩,h3⟩:=hcond;have hv:=(af he e2).cells;have hs:=hz.splice hv (i:=off) (by omega);have hsz:(a.eval o).cells.size=k:=by have:=hv.1; simp at this; omega
    have hvl:vs.length=zs.length:=hz.1.symm;obtain ⟨us,hu1,hu2⟩:=qBH place he ps qs' _ _ cs e3 hs hf;refine ⟨us,?_,hu2⟩;simp only [gM,Instr.fill,e1];have hc:¬((a.eval o).cells.size≠k || off+(a.eval o).cells.size>vs.toArray.size)=true:=by
     simp [hsz]; omega
    rw [aC hc];have hfo:=wQ vs.toArray off (a.eval o).cells.toList (by simp; omega);simp only [tR] at hfo;rw [hfo]
    simpa [hsz] using hu1
   ·cases hf
  ·cases hp
theorem qDB(t:TypeId)(ps:Array (Nat × Operand)):OpS P (.build t ps):=by
 intro io hc _ c h w env a o z h' ho r he hs;obtain ⟨zv,hz,hc⟩:=aU hc;obtain ⟨it,v0,hi,hiz,hcv,hrun⟩:=fJ hz;have hzr:=(fO c h.n w v0 zv hcv).cells;have key:∀(place:Nat→Option (Nat × Nat)) (qs:List (Nat × Nat × Opd)),l9 place ps.toList=some qs→(∀cells,Instr.fill place v0.cells (ps.toList.map fun p=>(p.1,a.eval p.2))=some cells→P.built t (ps.map fun (i,x)=>(i,a.eval x)).toList=some cells) →
   stepO noC (.build zv.cells qs) env h=some (z,h')→OpOK P c h w ((execOp a.eval o).run P w) z h':=by
  intro place qs hq hb hs;simp only [stepO] at hs;split at hs
  ·rename_i cs hcs;simp only [sI,pI] at hs;obtain ⟨rfl,rfl⟩:=hs;obtain ⟨us,h1,h2⟩:=qBH place he ps.toList qs _ _ cs hq hzr hcs;rw [tR] at h1;refine .pure r ?_ h2.agg;simp only [execOp,ho,Sem.run_bind];rw [run_build w t _ _ (hb _ h1)];rfl
  ·cases hs
 have hlist:(ps.map fun (x:Nat × Operand)=>(x.1,a.eval x.2)).toList=ps.toList.map fun p=>(p.1,a.eval p.2):=by simp
 split at hc
 ·rename_i fs hu;split at hc
  ·rename_i pl hpl;obtain ⟨qs,hq,hc⟩:=aU hc;injection hc with hc; subst hc
   refine key _ qs hq (fun cells hf=>?_) hs;unfold Program.built;rw [hi,hu];simp only [hiz,hpl];rw [hlist]; exact hf
  ·cases hc
 ·rename_i m e hu;obtain ⟨k,hk,hc⟩:=aU hc;obtain ⟨qs,hq,hc⟩:=aU hc;injection hc with hc; subst hc
  refine key _ qs hq (fun cells hf=>?_) hs;unfold ee at hk;split at hk
  ·rename_i ie hie;simp only [sI] at hk;unfold Program.built;rw [hi,hu];simp only [hiz,hie];rw [hlist]; subst hk; exact hf
  ·cases hk
 ·cases hc
end Ce
namespace Ce
open Go
variable {P:Program} {c:Cx} {h:H} {w:World} {env:List CV} {a:Act} {n:Nat}
theorem px(zs:List CV):∀(m i:Nat),i < m*zs.length→(dQ zs m)[i]?=zs[i % zs.length]?
 | 0,i,h=>by omega
 | m+1,i,h=>by
  simp only [dQ];by_cases hi:i < zs.length
  ·rw [fY hi,Nat.mod_eq_of_lt hi]
  ·have e:(m+1)*zs.length=m*zs.length+zs.length:=dL _ _;rw [iM (by omega),px zs m (i - zs.length) (by omega)]
   congr 1
   exact (Nat.mod_eq_sub_mod (by omega)).symm
theorem repl_len(zs:List CV):∀m,(dQ zs m).length=m*zs.length
 | 0=>by simp [dQ]
 | m+1=>by simp [dQ,repl_len zs m,dL]; omega
theorem ly{zs:List CV}{z:Array Value}(hz:VRs c n w zs z.toList)(hp:0 < zs.length)(m:Nat):VRs c n w (dQ zs m) ((Array.range (m*z.size)).map (z[· % z.size]!)).toList:=by
 have hl:z.size=zs.length:=by have:=hz.1; simpa using this.symm
 refine ⟨by simp [repl_len,hl],fun i x v hx hv=>?_⟩;have hi:i < m*zs.length:=by rw [←repl_len]; exact (fU.1 hx).1
 rw [px zs m i hi] at hx;have hm:i % zs.length < zs.length:=Nat.mod_lt _ hp;simp only [oh,Array.getElem?_map,ez] at hv;obtain ⟨j,hj,rfl⟩:=hv;have hj':j=i:=by
  rw [gJ] at hj;obtain ⟨h1,h2⟩:=hj
  simpa using h2.symm
 subst hj';refine hz.2 _ x _ hx ?_;rw [hl];simp [hl,hm]
theorem ue(k:Nat){env:List CV}{a:Act}(he:dC c n w env a.tmps):∀(ps:List (Nat × Operand)) (qs:List (Nat × Opd)) (zs:List CV) (vs:List Value) (cs:List CV),
  mq ps=some qs→VRs c n w zs vs→gU k zs env qs=some cs→∃us:List Value,Instr.fill (fun i=>some (i*k,k)) vs.toArray (ps.map fun p=>(p.1,a.eval p.2))=some us.toArray∧VRs c n w cs us
 | [],qs,zs,vs,cs,hp,hz,hf=>by
  simp only [mq,sI] at hp; subst hp;simp only [gU,sI] at hf; subst hf;exact ⟨vs,rfl,hz⟩
 | (i,o)::ps,qs,zs,vs,cs,hp,hz,hf=>by
  simp only [mq] at hp;split at hp
  ·rename_i o' qs' e2 e3;simp only [sI] at hp; subst hp;simp only [gU] at hf;split at hf
   ·rename_i hcond;simp only [aT,dT] at hcond;obtain ⟨⟨h1,h2⟩,h3⟩:=hcond;have hv:=(af he e2).cells;have hs:=hz.splice hv (i:=i*k) (by omega);have hsz:(a.eval o).cells.size=k:=by have:=hv.1; simp at this; omega
    have hvl:vs.length=zs.length:=hz.1.symm;obtain ⟨us,hu1,hu2⟩:=ue k he ps qs' _ _ cs e3 hs hf;refine ⟨us,?_,hu2⟩;simp only [gM,Instr.fill];have hc:¬((a.eval o).cells.size≠k || i*k+(a.eval o).cells.size>vs.toArray.size)=true:=by
     simp [hsz]; omega
    rw [aC hc];have hfo:=wQ vs.toArray (i*k) (a.eval o).cells.toList (by simp; omega);simp only [tR] at hfo;rw [hfo]
    simpa [hsz] using hu1
   ·cases hf
  ·cases hp
theorem qJ(t:TypeId)(len:Nat)(ps:Array (Nat × Operand)):OpS P (.buildSlice t len ps):=by
 intro io hc _ c h w env a o x h' ho r he hs;unfold cOp at hc;simp only at hc;split at hc
 ·rename_i e hu;obtain ⟨k,hk,hc⟩:=aU hc;obtain ⟨z,hz,hc⟩:=aU hc;obtain ⟨qs,hq,hc⟩:=aU hc;split at hc
  ·cases hc
  ·rename_i hcond;injection hc with hc; subst hc
   simp only [bU,dT,not_or,Bool.not_eq_true,decide_eq_false_iff_not,dY,Decidable.not_not] at hcond;obtain ⟨⟨h1,h2⟩,h3⟩:=hcond;obtain ⟨it,v0,hi,hiz,hcv,hrun⟩:=fJ hz;have hzr:=(fO c h.n w v0 z hcv).cells;have hzl:v0.cells.size=k:=by have:=hzr.1; simp at this; omega
   simp only [stepO] at hs;split at hs
   ·rename_i cs hcs;simp only [sI,pI] at hs;obtain ⟨rfl,rfl⟩:=hs;have hr0:=ly hzr (by omega) len;obtain ⟨us,hu1,hu2⟩:=ue k he ps.toList qs _ _ cs hq hr0 hcs;rw [tR] at hu1;have hlist:(ps.map fun (x:Nat × Operand)=>(x.1,a.eval x.2)).toList=ps.toList.map fun p=>(p.1,a.eval p.2):=by simp
    have hst:=Stp.newRow r hu2 e;rw [fR] at hst;refine ⟨_,_,.slice (some ⟨w.heap.size,0,none⟩) len len,.inl ?_,hst,?_⟩
    ·have h24:¬(len*k>2 ^ 24):=by omega
     have hzero:(if len*k=0 then (Pure.pure #[]:Sem (Array Value)) else do Pure.pure (←zeroValue e).cells).run P w=.ok (if len*k=0 then #[] else v0.cells) w:=by
      split
      ·rfl
      ·simp [hrun]
     simp only [execOp,ho,Instr.buildSlice,Sem.run_bind,aO hu,Result.andThen_ok,cN hk,Sem.run_ite,aC h24,Sem.run_pure];by_cases hz0:len*k=0
     ·have hl0:len=0:=by rcases Nat.mul_eq_zero.1 hz0 with h | h<;>omega
      subst hl0;simp only [d9,ac,Result.andThen_ok];simp only [d9] at hu1;rw [hlist];have:(Array.map (fun (x:Nat)=>(#[]:Array Value)[x % (#[]:Array Value).size]!) (Array.range 0))=(Array.map (fun x=>v0.cells[x % v0.cells.size]!) (Array.range 0)):=by simp
      rw [this,hu1];simp [newRow]
     ·simp only [aC hz0,hrun,Result.andThen_ok,hlist];rw [hzl] at hu1;simp only [hzl];rw [hu1];simp [newRow]
    ·have hlen:us.length=len*k:=by
      rw [←hu2.1];have:∀(qs:List (Nat × Opd)) (zs cs:List CV),gU k zs env qs=some cs→cs.length=zs.length:=by
       intro qs
       induction qs with
       | nil=>intro zs cs h; simp only [gU,sI] at h; rw [h]
       | cons q qs ih =>
        intro zs cs h;obtain ⟨i,o⟩:=q;simp only [gU] at h;split at h
        ·rename_i hcond;simp only [aT,dT] at hcond;rw [ih _ _ h,eC _ _ _ (by omega)];simp; omega
        ·cases h
      rw [this _ _ _ hcs,repl_len,h2]
     have:=VR.slc (c:=c.set h.n w.heap.size) (n:=h.n+1) (w:=w.alloc (.cells us.toArray e)) k h.n 0 len (some len) len (gO _) (fun m hm=>by injection hm) (aV _) ⟨e,us.length,by
      rw [Cx.set_same,shape?_eq]
      show ((w.heap.push _)[w.heap.size]?).bind dJ=_
      simp [dJ],by omega⟩
     rw [Cx.set_same] at this;exact this
   ·cases hs
 ·cases hc
theorem vY(t:TypeId)(r:Option Operand):OpS P (.makeMap t r):=by
 intro io hc _ c h w env a o x h' ho rl he hs;cases r with
 | some q=>cases hc
 | none =>
  injection hc with hc; subst hc
  simp only [stepO,sI,pI] at hs;obtain ⟨rfl,rfl⟩:=hs;refine ⟨_,_,.map (some w.heap.size),.inl ?_,Stp.push rl (.map [] #[] 0 rfl fun j k v b m hk=>by simp at hk) (by simp),?_⟩
  ·simp only [execOp,ho,kY,Instr.makeMap,Sem.run_bind,Sem.run_pure,Result.andThen_ok,run_newObj];rfl
  ·have:=VR.map (c:=c.set h.n w.heap.size) (n:=h.n+1) (w:=w.alloc (.map #[] 0)) h.n (gO _);rw [Cx.set_same] at this; exact this
end Ce
namespace Ce
open Go
variable {P:Program} {c:Cx} {h:H} {w:World} {env:List CV} {a:Act} {n:Nat}
theorem gm(m:Int)(h0 : -9223372036854775808≤m)(h1:m≤9223372036854775807):IntKind.i64.wrap m=m:=by
 show (if (true&&decide (m % (2 ^ 64:Int)≥(2 ^ (64 - 1):Int)))=true then m % (2 ^ 64:Int) - 2 ^ 64 else m % (2 ^ 64:Int))=m
 simp only [lJ,dT];split<;>omega
theorem rh(t:TypeId)(l cp:Operand):OpS P (.makeSlice t l cp):=by
 intro io hc _ c h w env a o x h' ho r he hs;obtain ⟨l',hl,hc⟩:=aU hc;obtain ⟨c',hcp,hc⟩:=aU hc;have h1:=af he hl;have h2:=af he hcp;split at hc
 ·rename_i e hu;split at hc
  ·rename_i it hi;obtain ⟨z,hz,hc⟩:=aU hc;split at hc
   ·cases hc
   ·rename_i hcond;injection hc with hc; subst hc
    simp only [bU,dT,not_or,Bool.not_eq_true,decide_eq_false_iff_not,dY,Decidable.not_not] at hcond;obtain ⟨⟨hk,hby⟩,hzl⟩:=hcond;obtain ⟨it',v0,hi',hiz,hcv,hrun⟩:=fJ hz;have hzr:=(fO c h.n w v0 z hcv).cells;have hzl':v0.cells.size=it.size:=by have:=hzr.1; simp at this; omega
    simp only [stepO,mkslV] at hs;generalize l'.ev env=lv at hs h1;generalize c'.ev env=cv at hs h2;generalize hle:a.eval l=le at h1;generalize hce:a.eval cp=ce at h2;split at hs
    ·rename_i kl lv' kc cv';cases h1; cases h2;split at hs
     ·rename_i hb;obtain ⟨b1,b2,b3⟩:=hb;simp only [sI,pI] at hs;obtain ⟨rfl,rfl⟩:=hs;obtain ⟨cn,rfl⟩:=Int.eq_ofNat_of_zero_le (Int.le_trans b1 b2);obtain ⟨ln,rfl⟩:=Int.eq_ofNat_of_zero_le b1;have hb3:(it.bytes:Int)*cn≤1099511627776:=by
       have:(cn:Int)*((it.bytes:Int)+1)=it.bytes*cn+cn:=by rw [Int.mul_add,Int.mul_comm]; omega
       omega
      have hcn:(cn:Int)≤1099511627776:=by
       have h0:(0:Int)≤(it.bytes:Int)*cn:=Int.mul_nonneg (by omega) (by omega);have:(cn:Int)*((it.bytes:Int)+1)=it.bytes*cn+cn:=by rw [Int.mul_add,Int.mul_comm]; omega
       omega
      have hw:∀m:Nat,(m:Int)≤1099511627776→IntKind.i64.wrap (m:Int)=m:=fun m hm=>gm m (by omega) (by omega)
      have hr0:=ly hzr (by omega) cn;have hst:=Stp.newRow r hr0 e;rw [fR,tR] at hst;refine ⟨c.set h.n w.heap.size,w.alloc (.cells ((Array.range (cn*v0.cells.size)).map (v0.cells[· % v0.cells.size]!)) e),.slice (some ⟨w.heap.size,0,none⟩) ln cn,.inl ?_,?_,?_⟩
      ·have hsz:(Go.sizeOf e).run P w=.ok it.size w:=by simp [Go.sizeOf,typeInfo,hi]
       have ht:(typeInfo e).run P w=.ok it w:=by simp [typeInfo,hi]
       have hlarge:∀m:Nat,(m:Int)≤cn→((decide ((m:Int) < 0) || decide ((it.bytes:Int)*m>2 ^ 48))=false):=by
        intro m hm;have:(it.bytes:Int)*m≤it.bytes*cn:=Int.mul_le_mul_of_nonneg_left hm (by omega);simp; omega
       have hl2:(ln:Int)≤cn:=b2;simp only [execOp,ho,hle,hce,Instr.makeSlice,Sem.run_bind,aO hu,Result.andThen_ok,asInt,asIntOf,Sem.run_pure,ht,hw cn hcn,hw ln (by omega)];have c1:(decide ((cn:Int) < 0) || decide ((it.bytes:Int)*cn>2 ^ 48))=false:=hlarge cn (Int.le_refl _);have hln:¬((ln:Int) < 0):=by omega
       have hlc:¬((ln:Int)>cn):=by omega
       simp only [Sem.run_ite,c1,hln,hlc,decide_false,Bool.or_false,bj,bX,fS,run_askRoom,Result.andThen_ok,hsz,Sem.run_bind];by_cases hz0:cn*it.size=0
       ·have hc0:cn=0:=by rcases Nat.mul_eq_zero.1 hz0 with h | h<;>omega
        subst hc0;have e0:(Array.map (fun (x:Nat)=>v0.cells[x % v0.cells.size]!) (Array.range (0*v0.cells.size)))=#[]:=by simp
        rw [e0];simp [newRow];rw [show Array.range 0=#[] from rfl];simp
       ·rw [←hzl'] at hz0 ⊢;simp only [aC hz0,Sem.run_bind,hrun,Result.andThen_ok,Sem.run_pure,newRow,run_newObj];rfl
      ·exact hst
      ·have:=VR.slc (c:=c.set h.n w.heap.size) (n:=h.n+1) (w:=w.alloc (.cells ((Array.range (cn*v0.cells.size)).map (v0.cells[· % v0.cells.size]!)) e)) it.size h.n 0 ln (some cn) cn (gO _) (fun m hm=>by injection hm) (by omega) ⟨e,cn*v0.cells.size,by
        rw [Cx.set_same,shape?_eq]
        show ((w.heap.push _)[w.heap.size]?).bind dJ=_
        simp [dJ],by rw [hzl']; omega⟩
       rw [Cx.set_same] at this;simp only [fS];exact this
     ·cases hs
    ·cases hs
  ·cases hc
 ·cases hc
theorem kJ{b off:Nat}{f:Field}{k:Nat}(hk:ee P f.type=some k)(h0:k≠0):(fieldPlace ⟨b,off,none⟩ f).run P w=.ok ⟨b,off+f.offset,none⟩ w:=by
 simp [fieldPlace,cN hk,h0,bY]
theorem rj(s:TypeId)(x:Operand)(f:Nat):OpS P (.fieldAddr s x f):=by
 intro io hc _ c h w env a o y h' ho r he hs;obtain ⟨x',hx,hc⟩:=aU hc;have h1:=af he hx;split at hc
 ·rename_i fs hu;split at hc
  ·rename_i fd hfd;obtain ⟨k,hk,hc⟩:=aU hc;split at hc
   ·cases hc
   ·rename_i h0;injection hc with hc; subst hc
    simp only [stepO] at hs;generalize x'.ev env=xv at hs h1;generalize hpe:a.eval x=pe at h1;split at hs
    ·rename_i i off;simp only [sI,pI] at hs;obtain ⟨rfl,rfl⟩:=hs;cases h1 with
     | ptr _ _ hr =>
      refine .pure r ?_ (.ptr i (off+fd.offset) hr);simp only [execOp,ho,hpe,Instr.fieldAt,Sem.run_bind,aO hu,Result.andThen_ok,hfd,Instr.sureAddr,Sem.run_pure,kJ hk h0]
    ·rename_i cs;simp only [sI,pI] at hs;obtain ⟨rfl,rfl⟩:=hs;cases h1 with
     | rptr _ b off vs him hcl hv =>
      refine .pure r (v:=.pointer (some ⟨b,off+fd.offset,none⟩)) ?_ (.rptr _ b (off+fd.offset) (fun i=>vs (fd.offset+i)) him (fun i z hz=>?_) (fun i z hz=>?_))
      ·simp only [execOp,ho,hpe,Instr.fieldAt,Sem.run_bind,aO hu,Result.andThen_ok,hfd,Instr.sureAddr,Sem.run_pure,kJ hk h0]
      ·rw [dP] at hz;rw [nC]; exact hcl _ z hz
      ·rw [dP] at hz;exact hv _ z hz
    ·cases hs
  ·cases hc
 ·cases hc
theorem sL{t:TypeId}{g:Option Nat}(hg:agT P t=some g){xs:List CV}{vs:List Value}(hv:VRs c n w xs vs){off:Nat}{x:CV}(hx:cO g xs off=some x):∃v,(part t vs.toArray off).run P w=.ok v w∧VR c n w x v:=by
 rcases qA3 hx with ⟨rfl,h1,h2⟩ | ⟨k,rfl,hk,rfl⟩
 ·obtain ⟨v,hv1,hv2⟩:=hv.at h1;refine ⟨v,?_,hv2⟩;simp [part,gZ (xM hg),hv1]
 ·obtain ⟨h1,h2⟩:=xL hg;refine ⟨.agg ((vs.drop off).take k).toArray,?_,((hv.drop off).take k).agg⟩;simp [part,gZ h1,cN h2,List.extract_eq_take_drop]
theorem qDA(t:TypeId)(x:Operand)(f:Nat):OpS P (.field t x f):=by
 intro io hc _ c h w env a o y h' ho r he hs;obtain ⟨x',hx,hc⟩:=aU hc;have h1:=af he hx;split at hc
 ·rename_i fs hu;split at hc
  ·rename_i fd hfd;obtain ⟨g,hg,hc⟩:=aU hc;injection hc with hc; subst hc
   simp only [stepO] at hs;generalize x'.ev env=xv at hs h1;generalize hpe:a.eval x=pe at h1;split at hs
   ·split at hs
    ·rename_i v hv;simp only [sI,pI] at hs;obtain ⟨rfl,rfl⟩:=hs;obtain ⟨vs,rfl,hvs⟩:=h1.agg_inv;obtain ⟨v',hp,hvr⟩:=sL hg hvs hv;refine .pure r ?_ hvr;simp only [execOp,ho,hpe,Instr.field,Sem.run_bind,aO hu,Result.andThen_ok,hfd,asAgg,Sem.run_pure,hp]
    ·cases hs
   ·cases hs
  ·cases hc
 ·cases hc
theorem iG{x:CV}{i:Nat}(h:bf? x=some i):∃k,x=.int k i:=by
 unfold bf? at h;split at h
 ·rename_i k m;split at h
  ·rename_i h0;simp only [sI] at h;exact ⟨k,by rw [←h,Int.toNat_of_nonneg h0]⟩
  ·cases h
 ·cases h
theorem ri(t:TypeId)(x i:Operand):OpS P (.indexAddr t x i):=by
 intro io hc _ c h w env a o y h' ho r he hs;obtain ⟨x',hx,hc⟩:=aU hc;obtain ⟨i',hi,hc⟩:=aU hc;have h1:=af he hx;have h2:=af he hi;split at hc
 ·rename_i m e hu;obtain ⟨k,hk,hc⟩:=aU hc;injection hc with hc; subst hc
  simp only [stepO] at hs;generalize x'.ev env=xv at hs h1;generalize i'.ev env=iv at hs h2;generalize hpe:a.eval x=pe at h1;generalize hie:a.eval i=ie at h2;split at hs
  ·rename_i b off j hj;obtain ⟨kk,rfl⟩:=iG hj;cases h2;split at hs
   ·rename_i hlt;simp only [sI,pI] at hs;obtain ⟨rfl,rfl⟩:=hs;cases h1 with
    | ptr _ _ hr =>
     refine .pure r ?_ (.ptr b (off+j*k) hr);have:(0:Int)≤(j:Int)∧(j:Int) < (m:Int):=by omega
     simp [execOp,ho,hpe,hie,Instr.indexAt,aO hu,asIntOf,Instr.sureAddr,cN hk,hlt,bY]
   ·cases hs
  ·rename_i cs j hj;obtain ⟨kk,rfl⟩:=iG hj;cases h2;split at hs
   ·rename_i hlt;simp only [sI,pI] at hs;obtain ⟨rfl,rfl⟩:=hs;cases h1 with
    | rptr _ b off vs him hcl hv =>
     refine .pure r (v:=.pointer (some ⟨b,off+j*k,none⟩)) ?_ (.rptr _ b (off+j*k) (fun i=>vs (j*k+i)) him (fun i z hz=>?_) (fun i z hz=>?_))
     ·simp [execOp,ho,hpe,hie,Instr.indexAt,aO hu,asIntOf,Instr.sureAddr,cN hk,hlt,bY]
     ·rw [dP] at hz;rw [nC]; exact hcl _ z hz
     ·rw [dP] at hz;exact hv _ z hz
   ·cases hs
  ·cases hs
 ·rename_i e hu;obtain ⟨k,hk,hc⟩:=aU hc;split at hc
  ·cases hc
  ·injection hc with hc; subst hc
   simp only [stepO] at hs;generalize x'.ev env=xv at hs h1;generalize i'.ev env=iv at hs h2;generalize hpe:a.eval x=pe at h1;generalize hie:a.eval i=ie at h2;split at hs
   ·rename_i k' b off len cap j hj;obtain ⟨kk,rfl⟩:=iG hj;cases h2;split at hs
    ·rename_i hlt;simp only [sI,pI] at hs;obtain ⟨rfl,rfl⟩:=hs;cases h1 with
     | slc _ _ _ _ _ cap' hr hcap hle hsz =>
      refine .pure r ?_ (.ptr b (off+j*k) hr);simp [execOp,ho,hpe,hie,Instr.indexAt,aO hu,asIntOf,cN hk,hlt,bY]
    ·cases hs
   ·rename_i rows ex j hj;obtain ⟨kk,rfl⟩:=iG hj;cases h2;split at hs
    ·rename_i row hrow;rw [nth?_eq] at hrow;split at hs
     ·rename_i hrl;simp only [sI,pI] at hs;obtain ⟨rfl,rfl⟩:=hs;cases h1 with
      | lst _ _ k2 b off sp cap' vs hle hsp hex him hkk hcl hv =>
       obtain rfl:=hsp (by rintro rfl; simp at hrow);have hk2:k2=k:=by rw [←hkk j row hrow,hrl]
       subst hk2;have hlt:j < rows.length:=(fU.1 hrow).1;refine .pure r (v:=.pointer (some ⟨b,off+j*k2,none⟩)) ?_ (.rptr row b (off+j*k2) (vs j) (him (by rintro rfl; simp at hrow)) (fun i z hz=>hcl j row i z hrow hz) (fun i z hz=>hv j row i z hrow hz));simp [execOp,ho,hpe,hie,Instr.indexAt,aO hu,asIntOf,cN hk,hlt,bY]
     ·cases hs
    ·cases hs
   ·cases hs
 ·cases hc
theorem qD9(t:TypeId)(x i:Operand):OpS P (.index t x i):=by
 intro io hc _ c h w env a o y h' ho r he hs;obtain ⟨x',hx,hc⟩:=aU hc;obtain ⟨i',hi,hc⟩:=aU hc;have h1:=af he hx;have h2:=af he hi;split at hc
 ·rename_i m e hu;obtain ⟨k,hk,hc⟩:=aU hc;obtain ⟨g,hg,hc⟩:=aU hc;injection hc with hc; subst hc
  simp only [stepO] at hs;generalize x'.ev env=xv at hs h1;generalize i'.ev env=iv at hs h2;generalize hpe:a.eval x=pe at h1;generalize hie:a.eval i=ie at h2;split at hs
  ·rename_i cs j hj;obtain ⟨kk,rfl⟩:=iG hj;cases h2;split at hs
   ·rename_i hlt;split at hs
    ·rename_i v hv;simp only [sI,pI] at hs;obtain ⟨rfl,rfl⟩:=hs;obtain ⟨vs,rfl,hvs⟩:=h1.agg_inv;obtain ⟨v',hp,hvr⟩:=sL hg hvs hv;refine .pure r ?_ hvr;simp [execOp,ho,hpe,hie,Instr.index,aO hu,asIntOf,cN hk,hlt,hp]
    ·cases hs
   ·cases hs
  ·cases hs
 ·rename_i hu;injection hc with hc; subst hc
  simp only [stepO] at hs;generalize x'.ev env=xv at hs h1;generalize i'.ev env=iv at hs h2;generalize hpe:a.eval x=pe at h1;generalize hie:a.eval i=ie at h2;split at hs
  ·rename_i s j hj;obtain ⟨kk,rfl⟩:=iG hj;cases h2;cases h1;split at hs
   ·rename_i b hb;simp only [sI,pI] at hs;obtain ⟨rfl,rfl⟩:=hs;have hlt:j < s.size:=by
     have:=(fU.1 hb).1
     simpa using this
    have hb':s[j]?=some b:=by
     rw [getElem?_pos s j hlt];rw [fU] at hb;obtain ⟨_,hb⟩:=hb;rw [←hb]; rfl
    refine .pure r ?_ (.int _ _);simp [execOp,ho,hpe,hie,Instr.index,aO hu,asIntOf,hb']
   ·cases hs
  ·cases hs
 ·cases hc
end Ce
namespace Ce
open Go
variable {P:Program} {c:Cx} {h:H} {w:World} {env:List CV} {a:Act} {n:Nat}
def OR(c:Cx)(n:Nat)(w:World):Option CV→Option Value→Prop
 | none,none=>True
 | some x,some v=>VR c n w x v
 | _,_=>False
theorem tz(he:dC c n w env a.tmps){o:Option Operand}{x:Option Opd}(hx:rB o=some x):OR c n w (Opd.evo env x) (o.map a.eval):=by
 cases o with
 | none=>simp only [rB,sI] at hx; subst hx; trivial
 | some o =>
  simp only [rB,ez] at hx;obtain ⟨y,hy,rfl⟩:=hx;exact af he hy
theorem iF{x:CV}{els y m:Nat}(h:bnd (some x) els y=some m):bf? x=some m∧m≤y:=by
 simp only [bnd] at h;split at h
 ·rename_i k hk;split at h
  ·simp only [sI] at h; subst h; exact ⟨hk,by assumption⟩
  ·cases h
 ·cases h
theorem gi{x:CV}{v:Value}(hv:VR c n w x v){m y:Nat}(hx:bf? x=some m)(hy:m≤y)(code:BoundsCode):(Instr.sliceBound v y code).run P w=.ok m w:=by
 obtain ⟨k,rfl⟩:=iG hx;cases hv;have:=run_sliceBound (P:=P) (w:=w) k (m:Int) y code (by omega) (by omega)
 simpa using this
def IsB(o:Option CV)(els m y:Nat):Prop:=match o with
 | none=>m=els
 | some x=>bf? x=some m∧m≤y
theorem eN{isSlice:Bool}{len C M hh l:Nat}{lo hi mx:Option CV}{lo' hi' mx':Option Value}(h1:OR c n w lo lo')(h2:OR c n w hi hi')(h3:OR c n w mx mx')(hmh:mx.isSome=true→hi.isSome=true)
  (hM:IsB mx C M C) (hH:IsB hi len hh M) (hL:IsB lo 0 l hh):(Instr.sliceBounds isSlice len C lo' hi' mx').run P w=.ok (l,hh,M) w:=by
 unfold Instr.sliceBounds;unfold IsB at hM hH hL;cases mx with
 | none =>
  cases mx' with
  | some _=>exact h3.elim
  | none =>
   subst hM;cases hi with
   | none =>
    cases hi' with
    | some _=>exact h2.elim
    | none =>
     subst hH;cases lo with
     | none =>
      cases lo' with
      | some _=>exact h1.elim
      | none=>subst hL; simp
     | some x =>
      cases lo' with
      | none=>exact h1.elim
      | some v=>simp [gi h1 hL.1 hL.2]
   | some y =>
    cases hi' with
    | none=>exact h2.elim
    | some v2 =>
     have hb2:=fun code=>gi (P:=P) h2 hH.1 hH.2 code
     cases lo with
     | none =>
      cases lo' with
      | some _=>exact h1.elim
      | none=>subst hL; cases isSlice<;>simp [hb2]
     | some x =>
      cases lo' with
      | none=>exact h1.elim
      | some v=>cases isSlice<;>simp [hb2,gi h1 hL.1 hL.2]
 | some z =>
  cases mx' with
  | none=>exact h3.elim
  | some v3 =>
   have hb3:=fun code=>gi (P:=P) h3 hM.1 hM.2 code
   cases hi with
   | none=>cases hmh rfl
   | some y =>
    cases hi' with
    | none=>exact h2.elim
    | some v2 =>
     have hb2:=fun code=>gi (P:=P) h2 hH.1 hH.2 code
     cases lo with
     | none =>
      cases lo' with
      | some _=>exact h1.elim
      | none=>subst hL; cases isSlice<;>simp [hb2,hb3]
     | some x =>
      cases lo' with
      | none=>exact h1.elim
      | some v=>cases isSlice<;>simp [hb2,hb3,gi h1 hL.1 hL.2]
theorem qME{mx:Option CV}{cp m:Nat}(h:bnd mx cp cp=some m):IsB mx cp m cp:=by
 cases mx with
 | none=>simp only [bnd,sI] at h; exact h.symm
 | some x=>exact iF h
theorem gL{hi:Option CV}{len M hh:Nat}(h:bnd hi len M=some hh):IsB hi len hh M:=by
 cases hi with
 | none=>simp only [bnd,sI] at h; exact h.symm
 | some x=>exact iF h
theorem IsB.mono{o:Option CV}{els m y y':Nat}(h:IsB o els m y)(hy:y≤y'):IsB o els m y':=by
 cases o with
 | none=>exact h
 | some x=>exact ⟨h.1,cz h.2 hy⟩
theorem fj{lo:Option CV}{els y l:Nat}(h:bnd lo els y=some l)(he:els≤y):l≤y:=by
 cases lo with
 | none=>simp only [bnd,sI] at h; omega
 | some x=>exact (iF h).2
theorem gY{t e:TypeId}(hu:P.underlying t=some (.slice e)){k:Nat}(hk:ee P e=some k){b:Option Addr}{len cap:Nat}{lo hi mx:Option Value}{l hh m:Nat}(hb:(Instr.sliceBounds true len cap lo hi mx).run P w=.ok (l,hh,m) w) :
  (Instr.sliceAt t (.slice b len cap) lo hi mx).run P w=.ok (.slice (if m=l then b else b.map (·.add (l*k))) (hh - l) (m - l)) w:=by
 simp [Instr.sliceAt,Instr.slice,aO hu,hb,cN hk]
theorem lA{k:Nat}:∀{rows:List (List CV)},eO k rows=true→∀(i:Nat) (row:List CV),rows[i]?=some row→row.length=k
 | [],_,i,row,h=>by simp at h
 | r::rs,h,i,row,hr=>by
  simp only [eO,aT,aZ] at h;cases i with
  | zero=>simp at hr; subst hr; exact h.1
  | succ i=>simp at hr; exact lA h.2 i row hr
theorem qAE{rows:List (List CV)}{ex:Bool}{v:Value}(hv:VR c n w (.lst rows ex) v){k:Nat}(hal:eO k rows=true){l hh M:Nat}{ex':Bool}(hl:l≤hh)(hhl:hh≤rows.length)(hM:hh≤M)
  (hex:∀b cap',v=.slice b rows.length cap'→ex'=true→M - l=hh - l):∀b cap',v=.slice b rows.length cap'→VR c n w (.lst ((rows.drop l).take (hh - l)) ex') (.slice (if M=l then b else b.map (·.add (l*k))) (hh - l) (M - l)):=by
 intro b cap' hveq;have hxx:=hex b cap' hveq;cases hv with
 | lst _ _ k2 bb off sp cap2 vs hle hsp hex2 him hkk hcl hvv =>
  injection hveq with e1 e2 e3
  subst e1;have hlen:((rows.drop l).take (hh - l)).length=hh - l:=by simp; omega
  by_cases hml:M=l
  ·have hz:hh - l=0:=by omega
   have:=VR.lst (c:=c) (n:=n) (w:=w) ((rows.drop l).take (hh - l)) ex' k bb off sp (M - l) (fun _ _=>Go.undef) (by rw [hlen]; omega) (fun hne=>by rw [hz] at hne; simp at hne) (fun hx=>by rw [hlen]; exact hxx hx) (fun hne=>by rw [hz] at hne; simp at hne)
    (fun i row h=>by rw [hz] at h; simp at h) (fun i row j x h=>by rw [hz] at h; simp at h) (fun i row j x h=>by rw [hz] at h; simp at h)
   rw [hlen] at this;rw [aH hml]; exact this
  ·have hget:∀(i:Nat) (row:List CV),((rows.drop l).take (hh - l))[i]?=some row→rows[l+i]?=some row:=by
    intro i row h;rw [iK] at h;split at h
    ·rw [dP] at h; exact h
    ·cases h
   have hadd:Addr.add ⟨bb,off,sp⟩ (l*k)=⟨bb,off+l*k,sp⟩:=by
    by_cases hr:rows=[]
    ·subst hr;have hl0:l=0:=by simp at hhl; omega
     subst hl0;simp [Addr.add]
    ·rw [hsp hr,bY]
   have hk2:∀(i:Nat) (row:List CV),rows[i]?=some row→k2=k:=fun i row h=>by rw [←hkk i row h,lA hal i row h]
   have:=VR.lst (c:=c) (n:=n) (w:=w) ((rows.drop l).take (hh - l)) ex' k bb (off+l*k) sp (M - l) (fun i j=>vs (l+i) j) (by rw [hlen]; omega) (fun hne=>hsp (by rintro rfl; simp at hne)) (fun hx=>by rw [hlen]; exact hxx hx)
    (fun hne=>him (by rintro rfl; simp at hne))
    (fun i row h=>lA hal _ row (hget i row h))
    (fun i row j x h hx=>by
     have hr:=hget i row h;have:=hcl (l+i) row j x hr hx;rw [hk2 _ _ hr] at this;rw [show off+l*k+i*k+j=off+(l+i)*k+j from by rw [eH]; omega];exact this)
    (fun i row j x h hx=>hvv (l+i) row j x (hget i row h) hx)
   rw [hlen] at this;rw [aC hml];simp only [dh,hadd];exact this
end Ce
namespace Ce
open Go
variable {P:Program} {c:Cx} {h:H} {w:World} {env:List CV} {a:Act} {n:Nat}
theorem qg{env:List CV}{o:Option Opd}:(Opd.evo env o).isSome=o.isSome:=by cases o<;>rfl
theorem slS_ok(r:Rel P c h w){t e:TypeId}(hu:P.underlying t=some (.slice e)){k:Nat}(hk:ee P e=some k)(hk0:k≠0){x:CV}{v:Value}(hx:VR c h.n w x v){lo hi mx:Option CV}{lo' hi' mx':Option Value}
  (h1:OR c h.n w lo lo') (h2:OR c h.n w hi hi') (h3:OR c h.n w mx mx') (hmh:mx.isSome=true→hi.isSome=true) {z:CV} (hs:slS x k lo hi mx=some z) :
  ∃v',(Instr.sliceAt t v lo' hi' mx').run P w=.ok v' w∧VR c h.n w z v':=by
 unfold slS at hs;split at hs
 ·
  split at hs
  ·rename_i m hh l e1 e2 e3;simp only [sI] at hs; subst hs;cases hx;have hm:m=0:=by have:=fj e1 (aV _); omega
   have hh0:hh=0:=by have:=fj e2 (aV _); omega
   have hl:l=0:=by have:=fj e3 (aV _); omega
   subst hm; subst hh0; subst hl;have hb:=eN (P:=P) (isSlice:=true) (len:=0) (C:=0) h1 h2 h3 hmh (qME e1) (gL e2) (gL e3);exact ⟨_,gY hu hk hb,by simpa using VR.nils⟩
  ·cases hs
 ·rename_i k' i off len cap;split at hs
  ·cases hs
  ·rename_i hkk;have hkk:k'=k:=Classical.byContradiction hkk;subst hkk;cases hx with
   | slc _ _ _ _ _ cap' hr hcap hle hsz =>
    obtain ⟨et,s,hsh,hbd⟩:=hsz;split at hs
    ·rename_i cc;have hcc:=hcap cc rfl;subst hcc;split at hs
     ·cases hs
     ·rename_i m e1;split at hs
      ·cases hs
      ·rename_i hh e2;split at hs
       ·cases hs
       ·rename_i l e3;split at hs
        ·rename_i hhm;simp only [sI] at hs; subst hs;have hmc:=fj e1 (aV _);have hlh:=fj e3 (fV _);have hb:=eN (P:=P) (isSlice:=true) (len:=len) (C:=cap') h1 h2 h3 hmh (qME e1) (gL e2) (gL e3);refine ⟨_,gY hu hk hb,?_⟩;have:=VR.slc (c:=c) (n:=h.n) (w:=w) k' i (if m=l then off else off+l*k') (hh - l) (some (m - l)) (m - l) hr (fun q hq=>by injection hq) (by omega) ⟨et,s,hsh,by
          split
          ·rename_i hml; rw [hml,Nat.sub_self]; omega
          ·have:l*k'+(m - l)*k'=m*k':=by rw [←eH]; congr 1; omega
           have:m*k'≤cap'*k':=dA _ hmc;omega⟩
         split
         ·rename_i hml; rw [aH hml] at this; exact this
         ·rename_i hml; rw [aC hml] at this; simpa [bY] using this
        ·cases hs
    ·split at hs
     ·cases hs
     ·rename_i hh e2;split at hs
      ·cases hs
      ·rename_i l e3;split at hs
       ·rename_i hcond;simp only [sI] at hs; subst hs;simp only [bU,dT] at hcond;have hhl:=fj e2 (aV _);have hlh:=fj e3 (fV _);have hH:IsB hi len hh cap':=(gL e2).mono (by omega);have hb:=eN (P:=P) (isSlice:=true) (len:=len) (C:=cap') (M:=cap') h1 h2 h3 hmh rfl hH (gL e3);refine ⟨_,gY hu hk hb,?_⟩;have:=VR.slc (c:=c) (n:=h.n) (w:=w) k' i (off+l*k') (hh - l) none (cap' - l) hr (fun q hq=>by cases hq) (by omega) ⟨et,s,hsh,by
         have:l*k'+(cap' - l)*k'=cap'*k':=by rw [←eH]; congr 1; omega
         omega⟩
        split
        ·rename_i hml;have hl0:l=0:=by omega
         subst hl0
         simpa using this
        ·simpa [bY] using this
       ·cases hs
    ·rename_i mm;split at hs
     ·cases hs
     ·rename_i m e1;split at hs
      ·cases hs
      ·rename_i hh e2;split at hs
       ·cases hs
       ·rename_i l e3;split at hs
        ·rename_i hhm;simp only [sI] at hs; subst hs;have hmc:=(iF e1).2;have hlh:=fj e3 (fV _);have hb:=eN (P:=P) (isSlice:=true) (len:=len) (C:=cap') (M:=m) h1 h2 h3 hmh ⟨(iF e1).1,by omega⟩ (gL e2) (gL e3);refine ⟨_,gY hu hk hb,?_⟩;have:=VR.slc (c:=c) (n:=h.n) (w:=w) k' i (if m=l then off else off+l*k') (hh - l) (some (m - l)) (m - l) hr (fun q hq=>by injection hq) (by omega) ⟨et,s,hsh,by
          split
          ·rename_i hml; rw [hml,Nat.sub_self]; omega
          ·have:l*k'+(m - l)*k'=m*k':=by rw [←eH]; congr 1; omega
           have:m*k'≤cap'*k':=dA _ (by omega);omega⟩
         split
         ·rename_i hml; rw [aH hml] at this; exact this
         ·rename_i hml; rw [aC hml] at this; simpa [bY] using this
        ·cases hs
 ·rename_i rows ex;split at hs
  ·cases hs
  ·rename_i hal;simp only [Bool.not_eq_true,Bool.not_eq_false] at hal;have hal:eO k rows=true:=by simpa using hal
   have hx0:=hx;cases hx with
   | lst _ _ k2 bb off sp cap' vs hle hsp hex him hkk hcl hvv =>
    split at hs
    ·split at hs
     ·cases hs
     ·rename_i hh e2;split at hs
      ·cases hs
      ·rename_i l e3;simp only [sI] at hs; subst hs;have hhl:=fj e2 (aV _);have hlh:=fj e3 (fV _);have hH:IsB hi rows.length hh cap':=(gL e2).mono (by omega);have hb:=eN (P:=P) (isSlice:=true) (len:=rows.length) (C:=cap') (M:=cap') h1 h2 h3 hmh rfl hH (gL e3);refine ⟨_,gY hu hk hb,?_⟩;refine qAE hx0 hal (M:=cap') hlh hhl (by omega) (fun b cap2 he hx=>?_) _ cap' rfl;simp only [aT,aZ] at hx;rw [hex hx.1,hx.2]
    ·rename_i mm;split at hs
     ·cases hs
     ·rename_i m e1;split at hs
      ·cases hs
      ·rename_i hh e2;split at hs
       ·cases hs
       ·rename_i l e3;split at hs
        ·rename_i hhm;simp only [sI] at hs; subst hs;have hmc:=(iF e1).2;have hlh:=fj e3 (fV _);have hb:=eN (P:=P) (isSlice:=true) (len:=rows.length) (C:=cap') (M:=m) h1 h2 h3 hmh ⟨(iF e1).1,by omega⟩ (gL e2) (gL e3);refine ⟨_,gY hu hk hb,?_⟩;refine qAE hx0 hal (M:=m) hlh (by omega) hhm (fun b cap2 he hx=>?_) _ cap' rfl;simp only [aZ] at hx;rw [hx]
        ·cases hs
 ·cases hs
theorem qD7(t:TypeId)(x:Operand)(lo hi mx:Option Operand):OpS P (.slice t x lo hi mx):=by
 intro io hc _ c h w env a o z h' ho r he hs;obtain ⟨x',hx,hc⟩:=aU hc;obtain ⟨lo',hlo,hc⟩:=aU hc;obtain ⟨hi',hhi,hc⟩:=aU hc;obtain ⟨mx',hmx,hc⟩:=aU hc;have hX:=af he hx;have hL:=tz he hlo;have hH:=tz he hhi;have hM:=tz he hmx;split at hc
 ·cases hc
 ·rename_i hmh0;have hmh:(Opd.evo env mx').isSome=true→(Opd.evo env hi').isSome=true:=by
   rw [qg,qg];intro e;cases hh:hi'.isSome with
   | true=>rfl
   | false=>simp [e,Option.isNone_iff_eq_none,hh] at hmh0; cases hi' <;> simp_all
  split at hc
  ·rename_i m e hu;obtain ⟨k,hk,hc⟩:=aU hc;injection hc with hc; subst hc
   simp only [stepO] at hs;split at hs
   ·rename_i v hv;simp only [sI,pI] at hs;obtain ⟨rfl,rfl⟩:=hs;unfold slA at hv;split at hv
    ·rename_i i off hxe;rw [hxe] at hX;split at hv
     ·rename_i cs ro hb;split at hv
      ·rename_i hfit;split at hv
       ·cases hv
       ·rename_i mm e1;split at hv
        ·cases hv
        ·rename_i hh e2;split at hv
         ·cases hv
         ·rename_i l e3;split at hv
          ·rename_i hhm;simp only [sI] at hv; subst hv;have hmc:=fj e1 (aV _);have hlh:=fj e3 (fV _);have hb2:=eN (P:=P) (isSlice:=false) (len:=m) (C:=m) hL hH hM hmh (qME e1) (gL e2) (gL e3);generalize hpe:a.eval x=pe at hX;cases hX with
           | ptr _ _ hr =>
            obtain ⟨ob,hob,hbr⟩:=r.obj hb (by simp);cases hbr with
            | cells _ _ arr et hsz hvv =>
             have hsh:w.shape? (c.β i)=some (et,arr.size):=by rw [shape?_eq,hob]; rfl
             refine .pure r (v:=.slice (some (if mm=l then ⟨c.β i,off,none⟩ else ⟨c.β i,off+l*k,none⟩)) (hh - l) (mm - l)) ?_ ?_
             ·simp only [execOp,ho,hpe,Instr.sliceAt,Sem.run_bind,aO hu,Result.andThen_ok,Instr.sureAddr,Sem.run_pure,hb2,cN hk,bY]
             ·have:=VR.slc (c:=c) (n:=h.n) (w:=w) k i (if mm=l then off else off+l*k) (hh - l) (some (mm - l)) (mm - l) hr (fun q hq=>by injection hq) (by omega) ⟨et,_,hsh,by
               split
               ·rename_i hml; rw [hml,Nat.sub_self]; have:m*k≥0:=fV _; omega
               ·have h1:l*k+(mm - l)*k=mm*k:=by rw [←eH]; congr 1; omega
                have h2:mm*k≤m*k:=dA _ hmc;omega⟩
              split
              ·rename_i hml; rw [aH hml] at this; exact this
              ·rename_i hml; rw [aC hml] at this; exact this
          ·cases hv
      ·cases hv
     ·cases hv
    ·cases hv
   ·cases hs
  ·rename_i e hu;obtain ⟨k,hk,hc⟩:=aU hc;split at hc
   ·cases hc
   ·rename_i hk0;injection hc with hc; subst hc
    simp only [stepO] at hs;split at hs
    ·rename_i v hv;simp only [sI,pI] at hs;obtain ⟨rfl,rfl⟩:=hs;obtain ⟨v',h1,h2⟩:=slS_ok r hu hk hk0 hX hL hH hM hmh hv;exact .pure r (by simp only [execOp,ho,Sem.run_bind,h1,Result.andThen_ok,Sem.run_pure]) h2
    ·cases hs
  ·rename_i hu;split at hc
   ·injection hc with hc; subst hc
    simp only [stepO] at hs;have hmn:mx=none:=by cases mx with
     | none=>rfl
     | some q=>simp only [rB,ez] at hmx; obtain ⟨y,_,hy⟩:=hmx; cases hy
    subst hmn;generalize hpe:a.eval x=pe at hX;split at hs
    ·rename_i s hxe;rw [hxe] at hX;cases hX;split at hs
     ·rename_i hh e2;split at hs
      ·rename_i l e3;simp only [sI,pI] at hs;obtain ⟨rfl,rfl⟩:=hs;have hb2:=eN (P:=P) (isSlice:=false) (len:=s.size) (C:=s.size) (M:=s.size) hL hH (mx:=none) (mx':=none) trivial (fun h=>by cases h) rfl (gL e2) (gL e3);refine .pure r ?_ (.str _);simp only [execOp,ho,hpe,Instr.sliceAt,Instr.slice,Sem.run_bind,aO hu,Result.andThen_ok,kY,Option.isSome_none,bj,bX,hb2,Sem.run_pure]
      ·cases hs
     ·cases hs
    ·cases hs
   ·cases hc
  ·cases hc
end Ce
namespace Ce
open Go
variable {P:Program} {c:Cx} {h:H} {w:World} {env:List CV} {a:Act} {n:Nat}
theorem tD(k:Nat):∀(m:Nat) (cs:List CV) (i:Nat) (row:List CV),(cP k m cs)[i]?=some row→i < m∧row=(cs.drop (i*k)).take k
 | 0,cs,i,row,h=>by simp [cP] at h
 | m+1,cs,0,row,h=>by simp [cP] at h; exact ⟨by omega,by simpa using h.symm⟩
 | m+1,cs,i+1,row,h=>by
  simp only [cP,xJ] at h;obtain ⟨h1,h2⟩:=tD k m (cs.drop k) i row h;refine ⟨by omega,?_⟩;rw [h2,kW,dL,Nat.add_comm k]
theorem oG(k:Nat):∀(m:Nat) (cs:List CV),(cP k m cs).length=m
 | 0,_=>rfl
 | m+1,cs=>by simp [cP,oG k m]
theorem uT:∀(fuel:Nat),(∀(v v':CV) (h h':H) (c:Cx) (u:Value),frz fuel v h=some (v',h')→Rel P c h w→VR c h.n w v u→∃c',Stp P c h w c' h' w∧VR c' h'.n w v' u) ∧
  (∀(vs vs':List CV) (h h':H) (c:Cx) (us:List Value),frzL (frz fuel) vs h=some (vs',h')→Rel P c h w→VRs c h.n w vs us→∃c',Stp P c h w c' h' w∧VRs c' h'.n w vs' us):=by
 have listOf:∀fuel,(∀(v v':CV) (h h':H) (c:Cx) (u:Value),frz fuel v h=some (v',h')→Rel P c h w→VR c h.n w v u→∃c',Stp P c h w c' h' w∧VR c' h'.n w v' u) →
   (∀(vs vs':List CV) (h h':H) (c:Cx) (us:List Value),frzL (frz fuel) vs h=some (vs',h')→Rel P c h w→VRs c h.n w vs us→∃c',Stp P c h w c' h' w∧VRs c' h'.n w vs' us):=by
  intro fuel hf vs
  induction vs with
  | nil =>
   intro vs' h h' c us hs r hv;simp only [frzL,sI,pI] at hs;obtain ⟨rfl,rfl⟩:=hs;exact ⟨c,.refl r,hv⟩
  | cons v vs ih =>
   intro vs' h h' c us hs r hv;cases us with
   | nil=>have:=hv.1; simp at this
   | cons u us =>
    have hv1:VR c h.n w v u:=hv.2 0 v u rfl rfl;have hv2:VRs c h.n w vs us:=⟨by simpa using hv.1,fun i x y hx hy=>hv.2 (i+1) x y (by simpa using hx) (by simpa using hy)⟩;simp only [frzL] at hs;split at hs
    ·rename_i v1 h1 e1;split at hs
     ·rename_i vs2 h2 e2;simp only [sI,pI] at hs;obtain ⟨rfl,rfl⟩:=hs;obtain ⟨c1,s1,r1⟩:=hf v v1 h h1 c u e1 r hv1;obtain ⟨c2,s2,r2⟩:=ih vs2 h1 h2 c1 us e2 s1.rel (hv2.evo s1.evo);exact ⟨c2,s1.trans s2,.cons (r1.evo s2.evo) r2⟩
     ·cases hs
    ·cases hs
 intro fuel
 induction fuel with
 | zero=>exact ⟨fun v v' h h' c u hs=>by simp [frz] at hs,listOf 0 fun v v' h h' c u hs=>by simp [frz] at hs⟩
 | succ fuel ih =>
  have hone:∀(v v':CV) (h h':H) (c:Cx) (u:Value),frz (fuel+1) v h=some (v',h')→Rel P c h w→VR c h.n w v u→∃c',Stp P c h w c' h' w∧VR c' h'.n w v' u:=by
   intro v v' h h' c u hs r hv;simp only [frz] at hs;split at hs
   ·rename_i k i off len cap;split at hs
    ·rename_i cs0 ro hb;split at hs
     ·rename_i cs hcut;split at hs
      ·rename_i cs' h1 e1;simp only [sI,pI] at hs;obtain ⟨rfl,rfl⟩:=hs;have hf:=Stp.freeze r hb;unfold cut? at hcut;split at hcut
       ·rename_i hfit;simp only [sI] at hcut;subst hcut;cases hv with
        | slc _ _ _ _ _ cap' hr hcap hle hsz =>
         obtain ⟨us,hus,hcell⟩:=jb (a:=⟨c.β i,off,none⟩) (xs:=(cs0.drop off).take (len*k)) (c:=c) (n:=h.n) (w:=w) (by
          intro j y hy;rw [iK] at hy;split at hy
          ·rw [dP] at hy;rw [bY];exact ml r hb hy
          ·cases hy)
         obtain ⟨c2,s2,r2⟩:=ih.2 _ _ _ _ _ us e1 hf.rel (hus.evo hf.evo);refine ⟨c2,hf.trans s2,?_⟩;have hlen:cs'.length=len*k:=by rw [r2.1,←hus.1]; simp; omega
         have him:c2.Im (c2.β i):=by
          have h0:i < h.n:=hr;rw [(hf.trans s2).evo.beta i h0];exact s2.evo.im _ (.inr rfl)
         have hbeta:c2.β i=c.β i:=(hf.trans s2).evo.beta i hr;have key:∀(q:Nat) (row:List CV),(cP k len cs')[q]?=some row→q < len∧row=(cs'.drop (q*k)).take k:=fun q row hq=>tD k len cs' q row hq
         have hin:∀(q:Nat) (row:List CV) (j:Nat) (x:CV),(cP k len cs')[q]?=some row→row[j]?=some x→∃v,us[q*k+j]?=some v∧cs'[q*k+j]?=some x:=by
          intro q row j x hq hx;obtain ⟨h1,rfl⟩:=key q row hq;rw [iK] at hx;split at hx
          ·rw [dP] at hx;obtain ⟨v,hv,_⟩:=r2.at hx;exact ⟨v,hv,hx⟩
          ·cases hx
         have:=VR.lst (c:=c2) (n:=h1.n) (w:=w) (cP k len cs') false k (c.β i) off none cap' (fun q j=>(us[q*k+j]?).getD Go.undef) (by rw [oG]; exact hle) (fun _=>rfl) (by simp)
          (fun _=>by rw [←hbeta]; exact him)
          (fun q row hq=>by
           obtain ⟨hq1,rfl⟩:=key q row hq;have:(q+1)*k≤len*k:=dA _ (by omega);rw [dL] at this;simp; omega)
          (fun q row j x hq hx=>by
           obtain ⟨v,hv1,hv2⟩:=hin q row j x hq hx;have:=hcell _ _ hv1;rw [bY] at this;rw [hv1,nC]; exact this)
          (fun q row j x hq hx=>by
           obtain ⟨v,hv1,hv2⟩:=hin q row j x hq hx;rw [hv1];exact r2.2 _ x v hv2 hv1)
         rw [oG] at this;exact this
       ·cases hcut
      ·cases hs
     ·cases hs
    ·cases hs
   ·rename_i cs;split at hs
    ·rename_i cs' h1 e1;simp only [sI,pI] at hs;obtain ⟨rfl,rfl⟩:=hs;obtain ⟨us,rfl,hus⟩:=hv.agg_inv;obtain ⟨c2,s2,r2⟩:=ih.2 _ _ _ _ _ us e1 r hus;exact ⟨c2,s2,r2.agg⟩
    ·cases hs
   ·rename_i cs;split at hs
    ·rename_i cs' h1 e1;simp only [sI,pI] at hs;obtain ⟨rfl,rfl⟩:=hs;by_cases hne:cs=[]
     ·subst hne;simp only [frzL,sI,pI] at e1;obtain ⟨rfl,rfl⟩:=e1;exact ⟨c,.refl r,hv⟩
     obtain ⟨us,rfl,hus⟩:=hv.tup_inv hne;obtain ⟨c2,s2,r2⟩:=ih.2 _ _ _ _ _ us e1 r hus;exact ⟨c2,s2,r2.tup⟩
    ·cases hs
   ·simp only [sI,pI] at hs;obtain ⟨rfl,rfl⟩:=hs;exact ⟨c,.refl r,hv⟩
  exact ⟨hone,listOf (fuel+1) hone⟩
theorem qMI{s t:ByteArray}(h:(s.toList==t.toList)=true):s=t:=by
 rw [aZ] at h;rw [ByteArray.toList_eq,ByteArray.toList_eq] at h;cases s; cases t; simp at h; rw [h]
theorem qLI{x y:CV}(h:eqv x y=some true):x=y:=by
 unfold eqv at h;split at h
 ·split at h
  ·rename_i hk; simp only [sI,aZ] at h; rw [hk,h]
  ·cases h
 ·simp only [sI,aZ] at h; rw [h]
 ·simp only [sI] at h; rw [qMI h]
 ·cases h
theorem sy:∀{xs ys:List CV},cr xs ys=some true→xs=ys
 | [],[],_=>rfl
 | x::xs,y::ys,h=>by
  simp only [cr] at h;split at h
  ·rename_i e; rw [qLI e,sy h]
  ·cases h
  ·cases h
 | [],_::_,h=>by simp [cr] at h
 | _::_,[],h=>by simp [cr] at h
theorem wX{x y:CV}(h:eqF x y=some true):x=y:=by
 unfold eqF at h;split at h
 ·rename_i hc;simp only [aT,aZ] at hc;have:=sy h;cases x<;>cases y<;>simp_all [CV.cells,cK]
 ·cases h
end Ce
namespace Ce
open Go
variable {P:Program} {c:Cx} {h:H} {w:World} {env:List CV} {a:Act} {n:Nat}
def CkC(P:Program)(d:Nat)(t:TypeId)(ls:List Lf):Prop :=
 ∀(c:Cx) (n:Nat) (w:World) (xs:List CV) (vs:List Value) (em:Bool),eS ls xs=true→VRs c n w xs vs→∀D,(Instr.checkKey em (D+d) t (mkV P t vs)).run P w=.ok () w
theorem oa{d:Nat}{rec:TypeId→Option (List Lf)}(hrec:∀t k,rec t=some k→(P.info? t).isSome∧(P.underlying t).isSome∧(cT P t=some false→k.length=1)∧CkC P d t k) :
  ∀(fs:List Field) (off:Nat) (ls:List Lf),lZ P rec fs off=some ls→∀(c:Cx) (n:Nat) (w:World) (xs:List CV) (vs:List Value) (em:Bool),eS ls (xs.drop off)=true→off≤xs.length→VRs c n w xs vs→∀D,
   (forIn (m:=Sem) fs PUnit.unit (fun f (_:PUnit)=>do
    if f.name ≠ "_" then do
     Instr.checkKey em (D+d) f.type (←part f.type vs.toArray f.offset)
     Pure.pure (ForInStep.yield PUnit.unit)
    else Pure.pure (ForInStep.yield PUnit.unit))).run P w=.ok PUnit.unit w
 | [],off,ls,hl,c,n,w,xs,vs,em,hx,ho,hv,D=>by simp
 | f::fs,off,ls,hl,c,n,w,xs,vs,em,hx,ho,hv,D=>by
  simp only [lZ] at hl;split at hl
  ·cases hl
  ·rename_i hname;split at hl
   ·rename_i hoff;split at hl
    ·rename_i k hk;split at hl
     ·rename_i hcells;split at hl
      ·rename_i ks hks;simp only [sI] at hl;subst hl;obtain ⟨h1,h2,h3,h4⟩:=hrec _ _ hk;have hlen:=bq hx;simp at hlen;obtain ⟨hx1,hx2⟩:=eK hx;rw [kW] at hx2;have hp1:=kr (P:=P) (w:=w) h1 h2 (vs:=vs.toArray) (off:=f.offset) (by rw [hcells]; simp; have:=hv.1; omega) (fun e=>by rw [hcells]; exact h3 e);have hr:=h4 c n w _ _ em hx1 ((hv.drop off).take k.length) D;rw [hcells,hoff] at hp1;simp only [List.forIn_cons,Sem.run_bind,Sem.run_ite,aH (show f.name ≠ "_" from hname),hoff,hp1,Result.andThen_ok,hr,Sem.run_pure];exact oa hrec fs (off+k.length) ks hks c n w xs vs em hx2 (by omega) hv D
      ·cases hl
     ·cases hl
    ·cases hl
   ·cases hl
theorem qy{d:Nat}{e:TypeId}{k:List Lf}(h1:(P.info? e).isSome)(h2:(P.underlying e).isSome)(h3:cT P e=some false→k.length=1)(h4:CkC P d e k)(hcells:P.cellsOf e=k.length){vs:List Value}{xs:List CV}
  (hv:VRs c n w xs vs) (D:Nat) (em:Bool):∀(m i:Nat),eS (jD k m) (xs.drop (i*k.length))=true→i*k.length≤xs.length →
   (forIn (m:=Sem) (List.range' i m 1) PUnit.unit (fun i (_:PUnit)=>do
    let s ←Go.sizeOf e
    Instr.checkKey em (D+d) e (←part e vs.toArray (i*s))
    Pure.pure (ForInStep.yield PUnit.unit))).run P w=.ok PUnit.unit w
 | 0,i,hx,ho=>by simp
 | m+1,i,hx,ho=>by
  have hlen:=bq hx;simp only [jD] at hx;obtain ⟨hx1,hx2⟩:=eK hx;have hl:∀m,(jD k m).length=m*k.length:=by
   intro m; induction m with
   | zero=>simp [jD]
   | succ m ih=>simp [jD,ih,dL]; omega
  have hlen2:=bq hx1;rw [hl] at hlen;simp at hlen hlen2;have hmul:(m+1)*k.length=m*k.length+k.length:=dL _ _;rw [kW] at hx2;have hp1:=kr (P:=P) (w:=w) h1 h2 (vs:=vs.toArray) (off:=i*k.length) (by rw [hcells]; simp; have:=hv.1; omega) (fun e=>by rw [hcells]; exact h3 e);rw [hcells] at hp1;have hsz:(Go.sizeOf e).run P w=.ok k.length w:=by
   obtain ⟨i,hi⟩:=kZ.1 h1;simp only [Program.cellsOf,hi,dh,rR] at hcells;simp [Go.sizeOf,typeInfo,hi,hcells]
  have hr:=h4 c n w _ _ em hx1 ((hv.drop (i*k.length)).take k.length) D;simp only [List.range'_succ,List.forIn_cons,Sem.run_bind,hsz,hp1,Result.andThen_ok,hr,Sem.run_pure];have:=qy h1 h2 h3 h4 hcells hv D em m (i+1) (by rw [dL]; exact hx2) (by rw [dL]; omega)
  simpa only [Sem.run_bind] using this
theorem wC:∀(d:Nat) (t:TypeId) (ls:List Lf),qU P d t=some ls→(P.info? t).isSome∧(P.underlying t).isSome∧(cT P t=some false→ls.length=1)∧CkC P d t ls
 | 0,t,k,h=>by cases h
 | d+1,t,k,h=>by
  have IH:=fun t k=>wC d t k
  obtain ⟨q1,q2,q3,_⟩:=qT _ _ _ h;refine ⟨q1,q2,q3,?_⟩;simp only [qU] at h;split at h
  ·cases h
  ·split at h
   ·rename_i hu;simp only [sI] at h; subst h;intro c n w xs vs em hx hv D;have hm:cT P t≠some true:=by rw [cE hu]; simp [jo]
    rw [show D+(d+1)=(D+d)+1 from by omega];simp [Instr.checkKey,aO hu]
   ·rename_i hu;simp only [sI] at h; subst h;intro c n w xs vs em hx hv D;rw [show D+(d+1)=(D+d)+1 from by omega];simp [Instr.checkKey,aO hu]
   ·rename_i hu;simp only [sI] at h; subst h;intro c n w xs vs em hx hv D;rw [show D+(d+1)=(D+d)+1 from by omega];simp [Instr.checkKey,aO hu]
   ·rename_i m e hu;split at h
    ·rename_i k' hk';split at h
     ·rename_i hcells;simp only [sI] at h; subst h;obtain ⟨h1,h2,h3,h4⟩:=IH _ _ hk';intro c n w xs vs em hx hv D;have hm:cT P t=some true:=by rw [cE hu]; simp [jo]
      simp only [mkV,aH hm];have hE:=qy h1 h2 h3 h4 hcells hv D em m 0 (by simpa using hx) (by simp);rw [show D+(d+1)=(D+d)+1 from by omega];simp only [Instr.checkKey,Sem.run_bind,aO hu,Result.andThen_ok,Std.Legacy.Range.forIn_eq_forIn_range',Std.Legacy.Range.size];simp only [Nat.sub_zero,Nat.add_sub_cancel,Nat.div_one];refine (congrArg (fun r=>Result.andThen r _) hE).trans ?_;rfl
     ·cases h
    ·cases h
   ·rename_i fs hu;split at h
    ·cases h
    ·intro c n w xs vs em hx hv D;have hm:cT P t=some true:=by rw [cE hu]; simp [jo]
     simp only [mkV,aH hm];have hE:=oa IH fs.toList 0 k h c n w xs vs em (by simpa using hx) (by omega) hv D;rw [show D+(d+1)=(D+d)+1 from by omega];simp only [Instr.checkKey,Sem.run_bind,aO hu,Result.andThen_ok];rw [←Array.forIn_toList];refine (congrArg (fun r=>Result.andThen r _) hE).trans ?_;rfl
   ·cases h
theorem qDG{t:TypeId}{d:TypeDesc}(hd:P.underlying t=some d){x:CV}{u:Value}(hx:VR c n w x u)(hk:cK x=jo d):mkV P t u.cells.toList=u:=by
 unfold mkV;rw [cE hd];cases hag:jo d with
 | true =>
  rw [hag] at hk;cases x<;>simp [cK] at hk;cases hx; simp [Value.cells]
 | false =>
  rw [hag] at hk;cases hx<;>simp [cK] at hk<;>simp [Value.cells]
theorem kR{t:TypeId}{ag:Bool}{ls:List Lf}(hf:flatT P t=some (ag,ls)){x:CV}{u:Value}(hx:VR c n w x u)(hk:kOk ag ls x=true)(em:Bool):(Instr.checkKey em 10000 t u).run P w=.ok () w:=by
 unfold flatT at hf;split at hf
 ·rename_i l d hl hd;split at hf
  ·cases hf
  ·simp only [sI,pI] at hf;obtain ⟨rfl,rfl⟩:=hf;obtain ⟨_,_,_,h4⟩:=wC _ _ _ hl;simp only [kOk,aT,aZ] at hk;have:=h4 c n w _ _ em hk.2 hx.cells (10000 - 40);rw [qDG hd hx hk.1] at this;exact this
 ·cases hf
end Ce
namespace Ce
open Go
variable {P:Program} {c:Cx} {h:H} {w:World} {env:List CV} {a:Act} {n:Nat}
def EsR(c:Cx)(n:Nat)(w:World)(es:List (CV × CV × Nat))(ms:List MapEntry):Prop :=
 es.length=ms.length∧∀(j:Nat) (k v:CV) (b:Nat) (m:MapEntry),es[j]?=some (k,v,b)→ms[j]?=some m→VR c n w k m.key∧VR c n w v m.val∧m.born=b
theorem EsR.tail{e:CV × CV × Nat}{es:List (CV × CV × Nat)}{m:MapEntry}{ms:List MapEntry}(h:EsR c n w (e::es) (m::ms)):EsR c n w es ms :=
 ⟨by simpa using h.1,fun j k v b m' h1 h2=>h.2 (j+1) k v b m' (by simpa using h1) (by simpa using h2)⟩
def ta(es:List (CV × CV × Nat))(k:CV)(i:Nat)(v:CV)(b:Nat):Prop :=
 es[i]?=some (k,v,b)∧∀(j:Nat) (e:CV × CV × Nat),j < i→es[j]?=some e→eqF k e.1=some false
theorem qP:∀{es:List (CV × CV × Nat)} {k v:CV} {b:Nat},bp es k=some (some (v,b))→∃i,ta es k i v b
 | (k',v',b')::es,k,v,b,h=>by
  simp only [bp] at h;split at h
  ·rename_i e;simp only [sI,pI] at h;obtain ⟨rfl,rfl⟩:=h;refine ⟨0,?_,fun j e hj=>by omega⟩;rw [wX e]; rfl
  ·rename_i e;obtain ⟨i,h1,h2⟩:=qP h;refine ⟨i+1,by simpa using h1,fun j e' hj he=>?_⟩;cases j with
   | zero=>simp at he; subst he; exact e
   | succ j=>exact h2 j e' (by omega) (by simpa using he)
  ·cases h
 | [],k,v,b,h=>by simp [bp] at h
theorem kL{es:List (CV × CV × Nat)}{k v:CV}{b:Nat}(h:bp es k=some (some (v,b))):eqF k k=some true:=by
 induction es with
 | nil=>simp [bp] at h
 | cons e es ih =>
  obtain ⟨k',v',b'⟩:=e;simp only [bp] at h;split at h
  ·rename_i e; have:=wX e; subst this; exact e
  ·exact ih h
  ·cases h
theorem tK{t:TypeId}{ag:Bool}{ls:List Lf}(hf:flatT P t=some (ag,ls)){k:CV}{u:Value}(hk:VR c n w k u)(hkk:kOk ag ls k=true):∀(es:List (CV × CV × Nat)) (ms:List MapEntry) (i0:Nat),EsR c n w es ms →
  (bp es k=some none→(Instr.findAsking t u ms i0).run P w=.ok none w) ∧
  (∀v b i,bp es k=some (some (v,b))→ta es k i v b→∃m,ms[i]?=some m∧(Instr.findAsking t u ms i0).run P w=.ok (some (i0+i,m.val)) w)
 | [],[],i0,_=>⟨fun _=>by simp [Instr.findAsking],fun v b i hl=>by simp [bp] at hl⟩
 | [],_::_,_,h=>by have:=h.1; simp at this
 | _::_,[],_,h=>by have:=h.1; simp at this
 | (k',v',b')::es,m::ms,i0,h=>by
  obtain ⟨h1,h2,h3⟩:=h.2 0 k' v' b' m rfl rfl;obtain ⟨ih1,ih2⟩:=tK hf hk hkk es ms (i0+1) h.tail;constructor
  ·intro hl;simp only [bp] at hl;split at hl
   ·cases hl
   ·rename_i e;have:=pQ hf hk h1 hkk e;simp [Instr.findAsking,this,ih1 hl]
   ·cases hl
  ·intro v b i hl hfd;simp only [bp] at hl;split at hl
   ·rename_i e;have hi:i=0:=by
     cases i with
     | zero=>rfl
     | succ i=>have:=hfd.2 0 (k',v',b') (by omega) rfl; rw [e] at this; cases this
    subst hi;have:=pQ hf hk h1 hkk e;exact ⟨m,rfl,by simp [Instr.findAsking,this]⟩
   ·rename_i e;cases i with
    | zero =>
     have h0:=hfd.1;simp at h0;obtain ⟨rfl,_,_⟩:=h0;have:=kL hl;rw [this] at e; cases e
    | succ i =>
     obtain ⟨m',hm,hr⟩:=ih2 v b i hl ⟨by simpa using hfd.1,fun j e' hj he=>hfd.2 (j+1) e' (by omega) (by simpa using he)⟩;have:=pQ hf hk h1 hkk e;refine ⟨m',by simpa using hm,?_⟩;simp [Instr.findAsking,this,hr]; omega
   ·cases hl
theorem rb{d:TypeDesc}{k k':CV}{u m:Value}(hk:VR c n w k u)(h1:VR c n w k' m){b q:Bool}(hb:Instr.sameNow d u m=some b)(hq:eqF k k'=some q):b=q:=by
 unfold eqF at hq;split at hq
 ·unfold Instr.sameNow at hb;cases hk<;>cases h1<;>(try simp_all [CV.cells,cr,eqv,beq_toListBytes]; done)
  ·rename_i b1 b2 _;cases d<;>simp [CV.cells,cr,eqv] at hb hq;cases hbb:(b1==b2:Bool)<;>(simp only [hbb] at hq hb; simp at hq; rw [←hb,←hq])
  ·rename_i k2 m2 k1 m1 _;by_cases hkk:k2=k1
   ·subst hkk;cases d<;>simp [CV.cells,cr,eqv] at hb hq;cases hbb:(m2==m1:Bool)<;>(simp only [hbb] at hq hb; simp at hq; rw [←hb,←hq])
   ·cases d<;>simp [CV.cells,cr,eqv,hkk] at hb hq
  ·rename_i b1 b2 _;cases d<;>simp [CV.cells,cr,eqv] at hb hq;rw [beq_toListBytes] at hb; cases hbb:(b1.toList==b2.toList:Bool)<;>(simp only [hbb] at hq hb; simp at hq; rw [←hb,←hq])
 ·cases hq
theorem yJ{d:TypeDesc}{k:CV}{u:Value}(hk:VR c n w k u):∀(es:List (CV × CV × Nat)) (ms:List MapEntry) (i0:Nat) (r:Option (Nat × Value)),EsR c n w es ms→Instr.findNow d u ms i0=some r →
  (bp es k=some none→r=none)∧(∀v b i,bp es k=some (some (v,b))→ta es k i v b→∃m,ms[i]?=some m∧r=some (i0+i,m.val))
 | [],[],i0,r,_,hr=>by simp only [Instr.findNow,sI] at hr; exact ⟨fun _=>hr.symm,fun v b i hl=>by simp [bp] at hl⟩
 | [],_::_,_,_,h,_=>by have:=h.1; simp at this
 | _::_,[],_,_,h,_=>by have:=h.1; simp at this
 | (k',v',b')::es,m::ms,i0,r,h,hr=>by
  obtain ⟨h1,h2,h3⟩:=h.2 0 k' v' b' m rfl rfl;have agree:∀b q,Instr.sameNow d u m.key=some b→eqF k k'=some q→b=q:=fun b q hb hq=>rb hk h1 hb hq
  simp only [Instr.findNow] at hr;constructor
  ·intro hl;simp only [bp] at hl;split at hl
   ·cases hl
   ·rename_i e;split at hr
    ·rename_i hs; have:=agree _ _ hs e; cases this
    ·exact (yJ hk es ms (i0+1) r h.tail hr).1 hl
    ·cases hr
   ·cases hl
  ·intro v b i hl hfd;simp only [bp] at hl;split at hl
   ·rename_i e;have hi:i=0:=by
     cases i with
     | zero=>rfl
     | succ i=>have:=hfd.2 0 (k',v',b') (by omega) rfl; rw [e] at this; cases this
    subst hi;split at hr
    ·simp only [sI] at hr; exact ⟨m,rfl,hr.symm⟩
    ·rename_i hs; have:=agree _ _ hs e; cases this
    ·cases hr
   ·rename_i e;split at hr
    ·rename_i hs; have:=agree _ _ hs e; cases this
    ·cases i with
     | zero =>
      have h0:=hfd.1;simp at h0;obtain ⟨rfl,_,_⟩:=h0;have:=kL hl;rw [this] at e; cases e
     | succ i =>
      obtain ⟨m',hm,hr'⟩:=(yJ hk es ms (i0+1) r h.tail hr).2 v b i hl ⟨by simpa using hfd.1,fun j e' hj he=>hfd.2 (j+1) e' (by omega) (by simpa using he)⟩;exact ⟨m',by simpa using hm,by rw [hr',nC,Nat.add_comm 1]⟩
    ·cases hr
   ·cases hl
theorem yX{t:TypeId}{ag:Bool}{ls:List Lf}(hf:flatT P t=some (ag,ls)){k:CV}{u:Value}(hk:VR c n w k u)(hkk:kOk ag ls k=true){es:List (CV × CV × Nat)}{ms:List MapEntry}(he:EsR c n w es ms) :
  (bp es k=some none→(Instr.findKey t u ms).run P w=.ok none w) ∧
  (∀v b i,bp es k=some (some (v,b))→ta es k i v b→∃m,ms[i]?=some m∧(Instr.findKey t u ms).run P w=.ok (some (i,m.val)) w):=by
 have hd:∃d,P.underlying t=some d:=by
  unfold flatT at hf;split at hf
  ·rename_i l d hl hd; exact ⟨d,hd⟩
  ·cases hf
 obtain ⟨d,hd⟩:=hd;obtain ⟨a1,a2⟩:=tK (P:=P) hf hk hkk es ms 0 he;cases hr:Instr.findNow d u ms 0 with
 | none =>
  refine ⟨fun hl=>by simp [Instr.findKey,aO hd,hr,a1 hl],fun v b i hl hfd=>?_⟩;obtain ⟨m,h1,h2⟩:=a2 v b i hl hfd;exact ⟨m,h1,by simp [Instr.findKey,aO hd,hr,h2]⟩
 | some r =>
  obtain ⟨b1,b2⟩:=yJ hk es ms 0 r he hr;refine ⟨fun hl=>by simp [Instr.findKey,aO hd,hr,b1 hl],fun v b i hl hfd=>?_⟩;obtain ⟨m,h1,h2⟩:=b2 v b i hl hfd;exact ⟨m,h1,by simp [Instr.findKey,aO hd,hr,h2]⟩
end Ce
namespace Ce
open Go
variable {P:Program} {c:Cx} {h:H} {w:World} {env:List CV} {a:Act} {n:Nat}
theorem qJE:∀{ls:List Lf} {xs:List CV} {us vs:List Value},eS ls xs=true→VRs c n w xs us→VRs c n w xs vs→us=vs∧∀u∈us,∀d,Instr.sameBits d u u=true
 | [],[],us,vs,_,h1,h2=>by
  have e1:=h1.1; have e2:=h2.1;simp at e1 e2;have:us=[]:=jQ e1.symm;have:vs=[]:=jQ e2.symm;subst us; subst vs; exact ⟨rfl,by simp⟩
 | l::ls,x::xs,us,vs,hl,h1,h2=>by
  cases us with
  | nil=>have:=h1.1; simp at this
  | cons u us =>
   cases vs with
   | nil=>have:=h2.1; simp at this
   | cons v vs =>
    have a1:=h1.2 0 x u rfl rfl;have a2:=h2.2 0 x v rfl rfl;have t1:VRs c n w xs us:=⟨by simpa using h1.1,fun i x y hx hy=>h1.2 (i+1) x y (by simpa using hx) (by simpa using hy)⟩;have t2:VRs c n w xs vs:=⟨by simpa using h2.1,fun i x y hx hy=>h2.2 (i+1) x y (by simpa using hx) (by simpa using hy)⟩;have hd:eS ls xs=true∧u=v∧∀d,Instr.sameBits d u u=true:=by
     cases l<;>cases x<;>simp [eS] at hl<;>cases a1<;>cases a2<;>exact ⟨hl,rfl,fun d=>by cases d<;>simp [Instr.sameBits,beq_toListBytes]⟩
    obtain ⟨i1,i2⟩:=qJE hd.1 t1 t2;refine ⟨by rw [hd.2.1,i1],fun z hz=>?_⟩;rcases aS.1 hz with rfl | hz
    ·exact hd.2.2
    ·exact i2 z hz
 | [],_::_,_,_,hl,_,_=>by simp [eS] at hl
 | l::_,[],_,_,hl,_,_=>by cases l<;>simp [eS] at hl
theorem qAO{ag:Bool}{ls:List Lf}{x:CV}(hk:kOk ag ls x=true){u v:Value}(hu:VR c n w x u)(hv:VR c n w x v):u=v∧∀d,Instr.sameBits (d+1) u u=true:=by
 simp only [kOk,aT,aZ] at hk;obtain ⟨e,hs⟩:=qJE hk.2 hu.cells hv.cells;by_cases hx:cK x=true
 ·cases x<;>simp [cK] at hx;cases hu with
  | agg xs vs hx1 hv1=>cases hv with
   | agg _ us hx2 hv2 =>
    simp only [Value.cells] at e hs;have:vs=us:=by cases vs; cases us; simp at e; rw [e]
    subst this;refine ⟨rfl,fun d=>?_⟩;simp only [Instr.sameBits,lM,lJ,jO];intro p hp;have:p.1=p.2∧p.1∈vs.toList:=by
     rw [List.zip_eq_zipWith] at hp;obtain ⟨i,hi,he⟩:=List.mem_iff_getElem.1 hp;simp at he;subst he; simp at hi; simp
    rw [←this.1];exact hs _ this.2 d
 ·have hc:∀(y:Value),VR c n w x y→y.cells.toList=[y]:=by
   intro y hy;cases hy<;>simp [Value.cells]<;>simp [cK] at hx
  rw [hc u hu,hc v hv] at e;injection e with e _
  exact ⟨e,fun d=>hs u (by rw [hc u hu]; simp) _⟩
theorem ng(r:Rel P c h w){i:Nat}{es:List (CV × CV × Nat)}{cl:Nat}(hb:h.f i=some (.map es cl)) :
  ∃es':Array MapEntry,w.heap[c.β i]?=some (.map es' cl)∧EsR c h.n w es es'.toList:=by
 obtain ⟨o,ho,hr⟩:=r.obj hb (by simp);cases hr with
 | map _ es' _ hsz hv=>exact ⟨es',ho,by simpa using hsz,fun j k v b m h1 h2=>hv j k v b m h1 (by simpa using h2)⟩
theorem pK{t:TypeId}{ag:Bool}{ls:List Lf}(hf:flatT P t=some (ag,ls)){k:CV}{u:Value}(hk:VR c n w k u)(hkk:kOk ag ls k=true){es:List (CV × CV × Nat)}{ms:List MapEntry}(he:EsR c n w es ms) :
  (bp es k=some none→(Instr.findKey t u ms).run P w=.ok none w) ∧
  (∀v b,bp es k=some (some (v,b))→∃i m,ta es k i v b∧ms[i]?=some m∧m.key=u∧m.born=b∧VR c n w v m.val∧(Instr.findKey t u ms).run P w=.ok (some (i,m.val)) w):=by
 obtain ⟨h1,h2⟩:=yX (P:=P) hf hk hkk he;refine ⟨h1,fun v b hl=>?_⟩;obtain ⟨i,hi⟩:=qP hl;obtain ⟨m,hm,hr⟩:=h2 v b i hl hi;obtain ⟨q1,q2,q3⟩:=he.2 i k v b m hi.1 hm;exact ⟨i,m,hi,hm,(qAO hkk q1 hk).1,q3,q2,hr⟩
theorem yF(t:TypeId)(x i:Operand)(ok:Bool):OpS P (.lookup t x i ok):=by
 intro io hc _ c h w env a o y h' ho r he hs;obtain ⟨x',hx,hc⟩:=aU hc;obtain ⟨i',hi,hc⟩:=aU hc;split at hc
 ·rename_i k e hu;split at hc
  ·rename_i ag ls z hfl hz;injection hc with hc; subst hc
   have h1:=af he hx;have h2:=af he hi;obtain ⟨zi,zv,_,_,hcv,hrun⟩:=fJ hz;have hzv:=fO c h.n w _ _ hcv;simp only [stepO] at hs;have hs2:h=h'∧lkuV ag ls z (x'.ev env) (i'.ev env) ok h=some y:=by
    split at hs
    ·rename_i v hv;simp only [sI,pI] at hs;exact ⟨hs.2,by rw [hv,hs.1]⟩
    ·cases hs
   clear hs;obtain ⟨rfl,hs⟩:=hs2;simp only [lkuV] at hs;split at hs
   ·rename_i hkk;have hck:∀em,(Instr.checkKey em 10000 k (a.eval i)).run P w=.ok () w:=kR hfl h2 hkk;generalize x'.ev env=xv at hs h1;generalize hxe:a.eval x=xe at h1;split at hs
    ·simp only [sI] at hs;subst hs;cases h1;have hfk:(Instr.findKey k (a.eval i) []).run P w=.ok none w:=by
      obtain ⟨q,_⟩:=pK (P:=P) hfl h2 hkk (es:=[]) (ms:=[]) ⟨rfl,by simp⟩;exact q rfl
     cases ok
     ·refine .pure r (v:=zv) ?_ hzv;simp [execOp,ho,Instr.lookup,aO hu,hxe,hck,hfk,hrun]
     ·refine .pure r (v:=.tuple #[zv,.bool false]) ?_ ?_
      ·simp [execOp,ho,Instr.lookup,aO hu,hxe,hck,hfk,hrun]
      ·exact (VRs.cons hzv (VRs.cons (.bool _) .nil)).tup
    ·rename_i rr;split at hs
     ·rename_i es cl hb;obtain ⟨es',hob,hes⟩:=ng r hb;have hgo:=MapKept.run_getObj_map (P:=P) hob;obtain ⟨q1,q2⟩:=pK (P:=P) hfl h2 hkk hes;cases h1;split at hs
      ·rename_i v b hl;simp only [sI] at hs;subst hs;obtain ⟨j,m,_,_,_,_,hv,hfk⟩:=q2 v b hl;cases ok
       ·refine .pure r (v:=m.val) ?_ hv;simp [execOp,ho,Instr.lookup,aO hu,hxe,hck,hfk,hrun,hgo]
       ·refine .pure r (v:=.tuple #[m.val,.bool true]) ?_ ?_
        ·simp [execOp,ho,Instr.lookup,aO hu,hxe,hck,hfk,hrun,hgo]
        ·exact (VRs.cons hv (VRs.cons (.bool _) .nil)).tup
      ·rename_i hl;simp only [sI] at hs;subst hs;have hfk:=q1 hl;cases ok
       ·refine .pure r (v:=zv) ?_ hzv;simp [execOp,ho,Instr.lookup,aO hu,hxe,hck,hfk,hrun,hgo]
       ·refine .pure r (v:=.tuple #[zv,.bool false]) ?_ ?_
        ·simp [execOp,ho,Instr.lookup,aO hu,hxe,hck,hfk,hrun,hgo]
        ·exact (VRs.cons hzv (VRs.cons (.bool _) .nil)).tup
      ·cases hs
     ·cases hs
    ·cases hs
   ·cases hs
  ·cases hc
 ·cases hc
theorem pk:∀{es:List (CV × CV × Nat)} {k v:CV} {b i:Nat} (v':CV),ta es k i v b→eqF k k=some true→ra es k v'=es.set i (k,v',b)
 | [],k,v,b,i,v',hf,_=>by have:=hf.1; simp at this
 | (k',v0,b0)::es,k,v,b,0,v',hf,hr=>by
  have:=hf.1;simp at this;obtain ⟨rfl,rfl,rfl⟩:=this;simp [ra,hr]
 | (k',v0,b0)::es,k,v,b,i+1,v',hf,hr=>by
  have h0:=hf.2 0 _ (by omega) rfl;simp only [ra,h0,List.set_cons_succ];rw [pk v' ⟨by simpa using hf.1,fun j e hj he=>hf.2 (j+1) e (by omega) (by simpa using he)⟩ hr]
theorem Stp.putMap(r:Rel P c h w){i:Nat}{es es1:List (CV × CV × Nat)}{cl cl1:Nat}(hb:h.f i=some (.map es cl)){ms ms1:Array MapEntry}(hob:w.heap[c.β i]?=some (.map ms cl))(hes:EsR c h.n w es1 ms1.toList) :
  (setObj (c.β i) (.map ms1 cl1)).run P w=.ok () { w with heap:=w.heap.setIfInBounds (c.β i) (.map ms1 cl1) } ∧
  Stp P c h w c (h.put i (.map es1 cl1)) { w with heap:=w.heap.setIfInBounds (c.β i) (.map ms1 cl1) }:=by
 have hlt:=(gJ.1 hob).1;refine ⟨MapKept.run_setObj_map _ hob,Stp.put (o:=.map ms1 cl1) r hb rfl hob (by simp) (by simp [hlt]) (fun k hk=>?_) rfl rfl (.map es1 ms1 cl1 ?_ fun j k v b m h1 h2=>?_)⟩
 ·simp [nJ,Ne.symm hk]
 ·simpa using hes.1
 ·exact hes.2 j k v b m h1 (by simpa using h2)
theorem EsR.evo{c':Cx}{n':Nat}{w':World}(e:Evo c n w c' n' w'){es:List (CV × CV × Nat)}{ms:List MapEntry}(h:EsR c n w es ms):EsR c' n' w' es ms :=
 ⟨h.1,fun j k v b m h1 h2=>let ⟨a1,a2,a3⟩:=h.2 j k v b m h1 h2; ⟨a1.evo e,a2.evo e,a3⟩⟩
theorem EsR.push{es:List (CV × CV × Nat)}{ms:Array MapEntry}(h:EsR c n w es ms.toList){k v:CV}{u x:Value}(hk:VR c n w k u)(hv:VR c n w v x)(b:Nat) :
  EsR c n w (es++[(k,v,b)]) (ms.push ⟨u,x,b⟩).toList:=by
 have hl:=h.1;refine ⟨by simp at hl ⊢; omega,fun j k' v' b' m h1 h2=>?_⟩;rw [Array.toList_push] at h2;by_cases hj:j < es.length
 ·rw [fY hj] at h1;rw [fY (by omega)] at h2;exact h.2 j k' v' b' m h1 h2
 ·rw [iM (by omega)] at h1 h2;rw [←hl] at h2;have:j - es.length=0:=by
   rcases Nat.eq_zero_or_pos (j - es.length) with e | e
   ·exact e
   ·rw [List.getElem?_eq_none (by simp; omega)] at h1; cases h1
  rw [this] at h1 h2;simp at h1 h2;obtain ⟨rfl,rfl,rfl⟩:=h1;subst h2;exact ⟨hk,hv,rfl⟩
theorem EsR.set{es:List (CV × CV × Nat)}{ms:Array MapEntry}(h:EsR c n w es ms.toList){i:Nat}{k v:CV}{b:Nat}(f:MapEntry→MapEntry)(hf:∀m,ms[i]?=some m→VR c n w k (f m).key∧VR c n w v (f m).val∧(f m).born=b) :
  EsR c n w (es.set i (k,v,b)) (ms.modify i f).toList:=by
 refine ⟨by simpa using h.1,fun j k' v' b' m h1 h2=>?_⟩;rw [oh,Array.getElem?_modify] at h2;rw [List.getElem?_set] at h1;by_cases hij:i=j
 ·subst hij;rw [aH rfl] at h1 h2;split at h1
  ·simp only [sI,pI] at h1;obtain ⟨rfl,rfl,rfl⟩:=h1;cases hm:ms[i]? with
   | none=>rw [hm] at h2; cases h2
   | some m0 =>
    rw [hm] at h2;simp only [dh,sI] at h2;subst h2;exact hf m0 hm
  ·cases h1
 ·rw [aC hij] at h1 h2;exact h.2 j k' v' b' m h1 (by simpa using h2)
theorem vI{ag:Bool}{ls:List Lf}{x:CV}(hk:kOk ag ls x=true){u:Value}(hu:VR c n w x u):(Instr.keyThatStays u u).run P w=.ok u w:=by
 simp [Instr.keyThatStays,(qAO hk hu hu).2 9999]
theorem mY{t:TypeId}{m k v:Operand}{io:Ins}(hc:cOp P (.mapUpdate t m k v)=some io)(r:Rel P c h w)(he:dC c h.n w env a.tmps){y:CV}{h':H}
  (hs:stepO noC io env h=some (y,h')):∃c' w',(Instr.mapUpdate t (a.eval m) (a.eval k) (a.eval v)).run P w=.ok () w'∧Stp P c h w c' h' w'∧y=undef:=by
 obtain ⟨m',hm,hc⟩:=aU hc;obtain ⟨k',hk,hc⟩:=aU hc;obtain ⟨v',hv,hc⟩:=aU hc;split at hc
 ·rename_i kt _ hu;split at hc
  ·rename_i ag ls hfl;injection hc with hc; subst hc
   have h1:=af he hm;have h2:=af he hk;have h3:=af he hv;simp only [stepO] at hs;split at hs
   ·rename_i hkk;have hck:∀em,(Instr.checkKey em 10000 kt (a.eval k)).run P w=.ok () w:=kR hfl h2 hkk;generalize m'.ev env=mv at hs h1;generalize hme:a.eval m=me at h1;split at hs
    ·rename_i rr;split at hs
     ·rename_i v1 h1' hfr;cases h1;obtain ⟨c1,s1,hv1⟩:=(uT (P:=P) (w:=w) 20).1 _ _ _ _ _ _ hfr r h3;have h2':=h2.evo s1.evo;rename_i hrn;split at hs
      ·rename_i es cl hb;have hbeta:=s1.evo.beta rr hrn;obtain ⟨es',hob,hes⟩:=ng s1.rel hb;have hgo:=MapKept.run_getObj_map (P:=P) hob;obtain ⟨q1,q2⟩:=pK (P:=P) hfl h2' hkk hes;rw [hbeta] at hgo;split at hs
       ·rename_i x hl;simp only [sI,pI] at hs;obtain ⟨rfl,rfl⟩:=hs;obtain ⟨vx,bx⟩:=x;obtain ⟨i,mm,hfd,hmm,hkey,hborn,_,hfk⟩:=q2 vx bx hl;rw [pk _ hfd (kL hl)];have hE:=hes.set (i:=i) (k:=k'.ev env) (v:=v1) (b:=bx) (fun e=>{ e with key:=a.eval k,val:=a.eval v }) (fun m0 hm0=>⟨h2',hv1,by
         have:m0=mm:=by rw [←oh,hmm] at hm0; exact (lu hm0).symm
         rw [this]; exact hborn⟩)
        obtain ⟨w1,w2⟩:=Stp.putMap (cl1:=cl) s1.rel hb hob hE;rw [hbeta] at w1 w2;refine ⟨c1,_,?_,s1.trans w2,rfl⟩;rw [oh] at hmm;simp [Instr.mapUpdate,aO hu,hck,hgo,hfk,hmm,hkey,vI hkk h2',w1]
       ·rename_i hl;simp only [sI,pI] at hs;obtain ⟨rfl,rfl⟩:=hs;have hfk:=q1 hl;obtain ⟨w1,w2⟩:=Stp.putMap (cl1:=cl+1) s1.rel hb hob (hes.push h2' hv1 cl);rw [hbeta] at w1 w2;refine ⟨c1,_,?_,s1.trans w2,rfl⟩;simp [Instr.mapUpdate,aO hu,hck,hgo,hfk,w1]
       ·cases hs
      ·cases hs
     ·cases hs
    ·cases hs
   ·cases hs
  ·cases hc
 ·cases hc
theorem rf(t:TypeId)(m k v:Operand):OpS P (.mapUpdate t m k v):=by
 intro io hc _ c h w env a o y h' ho r he hs;obtain ⟨c',w',h1,h2,rfl⟩:=mY hc r he hs;exact ⟨c',w',Go.undef,.inr ⟨by simp only [execOp,ho,Sem.run_bind,h1,Result.andThen_ok,Sem.run_pure],rfl⟩,h2,VR.undef⟩
theorem yG(t:TypeId)(m k v:Operand):OpS P (.insert t m k v):=by
 intro io hc _ c h w env a o y h' ho r he hs;obtain ⟨c',w',h1,h2,rfl⟩:=mY (t:=t) (m:=m) (k:=k) (v:=v) hc r he hs;exact ⟨c',w',Go.undef,.inr ⟨by simp only [execOp,ho,Sem.run_bind,h1,Result.andThen_ok,Sem.run_pure],rfl⟩,h2,VR.undef⟩
end Ce
namespace Ce
open Go
variable {P:Program} {c:Cx} {h:H} {w:World} {env:List CV} {a:Act} {n:Nat}
theorem uB(t:TypeId)(m k:Operand):OpS P (.mapEntry t m k):=by
 intro io hc _ c h w env a o y h' ho r he hs;obtain ⟨m',hm,hc⟩:=aU hc;obtain ⟨k',hk,hc⟩:=aU hc;split at hc
 ·rename_i kt et hu;split at hc
  ·rename_i ag ls z hfl hz;injection hc with hc; subst hc
   have h1:=af he hm;have h2:=af he hk;obtain ⟨zi,zv,_,_,hcv,hrun⟩:=fJ hz;have hzv:=fO c h.n w _ _ hcv;simp only [stepO] at hs;split at hs
   ·rename_i hkk;have hck:∀em,(Instr.checkKey em 10000 kt (a.eval k)).run P w=.ok () w:=kR hfl h2 hkk;generalize m'.ev env=mv at hs h1;generalize hme:a.eval m=me at h1;split at hs
    ·rename_i rr;cases h1;split at hs
     ·rename_i es cl hb;obtain ⟨es',hob,hes⟩:=ng r hb;have hgo:=MapKept.run_getObj_map (P:=P) hob;obtain ⟨q1,q2⟩:=pK (P:=P) hfl h2 hkk hes;split at hs
      ·rename_i v b hl;simp only [sI,pI] at hs;obtain ⟨rfl,rfl⟩:=hs;obtain ⟨i,mm,hfd,hmm,hkey,hborn,hval,hfk⟩:=q2 v b hl;have hsame:h.put rr (.map es cl)=h:=by
        unfold H.put
        congr 1
        funext j
        split
        ·rename_i e; rw [e]; exact hb.symm
        ·rfl
       have hE:EsR c h.n w es (es'.modify i fun e=>{ e with key:=a.eval k }).toList:=by
        have:=hes.set (i:=i) (k:=k'.ev env) (v:=v) (b:=b) (fun e=>{ e with key:=a.eval k }) (fun m0 hm0=>by
         have:m0=mm:=by rw [←oh,hmm] at hm0; exact (lu hm0).symm
         rw [this];exact ⟨h2,hval,hborn⟩)
        rw [show es.set i (k'.ev env,v,b)=es from by
         apply List.ext_getElem?;intro j;rw [List.getElem?_set];split
         ·rename_i e; subst e; rw [hfd.1]; simp; exact (fU.1 hfd.1).1
         ·rfl] at this
        exact this
       obtain ⟨w1,w2⟩:=Stp.putMap (P:=P) (cl1:=cl) r hb hob hE;rw [hsame] at w2;rw [oh] at hmm;refine ⟨c,_,.tuple #[mm.val,.int .i64 b],.inl ?_,w2,(VRs.cons (hval.evo w2.evo) (VRs.cons (.int _ _) .nil)).tup⟩;simp [execOp,ho,Instr.mapEntry,aO hu,hme,hck,hgo,hfk,hmm,hkey,vI hkk h2,w1,goInt,hborn]
      ·rename_i hl;simp only [sI,pI] at hs;obtain ⟨rfl,rfl⟩:=hs;have hfk:=q1 hl;obtain ⟨w1,w2⟩:=Stp.putMap (P:=P) (cl1:=cl+1) r hb hob (hes.push h2 hzv cl);refine ⟨c,_,.tuple #[zv,.int .i64 cl],.inl ?_,w2,(VRs.cons (hzv.evo w2.evo) (VRs.cons (.int _ _) .nil)).tup⟩;simp [execOp,ho,Instr.mapEntry,aO hu,hme,hck,hgo,hfk,w1,goInt,hrun]
      ·cases hs
     ·cases hs
    ·cases hs
   ·cases hs
  ·cases hc
 ·cases hc
theorem z6:∀{es es1:List (CV × CV × Nat)} {b:Int} {v:CV} {ms:List MapEntry},qCO es b v=some es1→EsR c n w es ms →
  ∃i k v0 b0,ms.findIdx? (fun e=>(e.born:Int)==b)=some i∧es[i]?=some (k,v0,b0)∧es1=es.set i (k,v,b0)
 | [],_,_,_,_,h,_=>by cases h
 | (k',v',b')::es,es1,b,v,ms,h,he=>by
  cases ms with
  | nil=>have:=he.1; simp at this
  | cons m ms =>
   obtain ⟨_,_,h3⟩:=he.2 0 k' v' b' m rfl rfl;simp only [qCO] at h;split at h
   ·rename_i e;simp only [sI] at h; subst h;exact ⟨0,k',v',b',by rw [List.findIdx?_cons,aH]; rw [h3]; exact aZ.2 e,rfl,rfl⟩
   ·rename_i e;split at h
    ·rename_i rr hrr;simp only [sI] at h; subst h;obtain ⟨i,k,v0,b0,h1,h2,h4⟩:=z6 hrr he.tail;refine ⟨i+1,k,v0,b0,?_,by simpa using h2,by rw [h4]; rfl⟩;simp [List.findIdx?_cons,h3,e,h1]
    ·cases h
theorem qI(t:TypeId)(m s v:Operand):OpS P (.entryStore t m s v):=by
 intro io hc _ c h w env a o y h' ho r he hs;obtain ⟨m',hm,hc⟩:=aU hc;obtain ⟨s',hs',hc⟩:=aU hc;obtain ⟨v',hv,hc⟩:=aU hc;injection hc with hc; subst hc
 have h1:=af he hm;have h2:=af he hs';have h3:=af he hv;simp only [stepO] at hs;generalize m'.ev env=mv at hs h1;generalize s'.ev env=sv at hs h2;generalize hme:a.eval m=me at h1;generalize hse:a.eval s=se at h2;split at hs
 ·rename_i rr k b;cases h1; cases h2;split at hs
  ·rename_i es cl hb;obtain ⟨es',hob,hes⟩:=ng r hb;have hgo:=MapKept.run_getObj_map (P:=P) hob;split at hs
   ·rename_i es1 hsb;simp only [sI,pI] at hs;obtain ⟨rfl,rfl⟩:=hs;obtain ⟨i,k0,v0,b0,q1,q2,rfl⟩:=z6 hsb hes;have hE:=hes.set (i:=i) (k:=k0) (v:=v'.ev env) (b:=b0) (fun e=>{ e with val:=a.eval v }) (fun m0 hm0=>by
     obtain ⟨z1,z2,z3⟩:=hes.2 i k0 v0 b0 m0 q2 (by simpa using hm0);exact ⟨z1,h3,z3⟩)
    obtain ⟨w1,w2⟩:=Stp.putMap (P:=P) (cl1:=cl) r hb hob hE;refine ⟨c,_,Go.undef,.inr ⟨?_,rfl⟩,w2,VR.undef⟩;have q1':es'.findIdx? (fun e=>(e.born:Int)==b)=some i:=by rw [←q1]; cases es' with | mk l=>rw [List.findIdx?_toArray]
    simp [execOp,ho,Instr.entryStore,hme,hse,hgo,q1',w1,asInt,asIntOf]
   ·cases hs
  ·cases hs
 ·cases hs
theorem qD8(t:TypeId)(x:Operand):OpS P (.range t x):=by
 intro io hc _ c h w env a o y h' ho r he hs;obtain ⟨x',hx,hc⟩:=aU hc;split at hc
 ·rename_i hu;injection hc with hc; subst hc
  have h1:=af he hx;simp only [stepO] at hs;generalize x'.ev env=xv at hs h1;generalize hxe:a.eval x=xe at h1;split at hs
  ·rename_i s;simp only [sI,pI] at hs;obtain ⟨rfl,rfl⟩:=hs;cases h1;refine ⟨_,_,_,.inl ?_,Stp.push r (.sit s 0) (by simp),VR.new c h.n w _⟩;simp [execOp,ho,Instr.range,aO hu,hxe]
  ·cases hs
 ·cases hc
theorem qIK(it:Operand)(b:Bool):OpS P (.next it b):=by
 intro io hc _ c h w env a o y h' ho r he hs;cases b with
 | false=>cases hc
 | true =>
  obtain ⟨x',hx,hc⟩:=aU hc;injection hc with hc; subst hc
  have h1:=af he hx;simp only [stepO] at hs;generalize x'.ev env=xv at hs h1;generalize hxe:a.eval it=xe at h1;split at hs
  ·rename_i rr;cases h1;split at hs
   ·rename_i s pos hb;obtain ⟨o',hob,hbr⟩:=r.obj hb (by simp);cases hbr;have hgo:(getObj (c.β rr)).run P w=.ok (.stringIter s pos) w:=by simp [getObj,Sem.run,hob]
    split at hs
    ·rename_i hlt;simp only [sI,pI] at hs;obtain ⟨rfl,rfl⟩:=hs;have hbl:=(gJ.1 hob).1;have hst:Stp P c h w c (h.put rr (.sit s (pos+(Utf8.decode s pos).2))) { w with heap:=w.heap.setIfInBounds (c.β rr) (.stringIter s (pos+(Utf8.decode s pos).2)) }:=by
      refine Stp.put (o:=.stringIter s (pos+(Utf8.decode s pos).2)) r hb rfl hob (by simp) (by simp [hbl]) (fun k hk=>?_) rfl rfl (.sit _ _);simp [nJ,Ne.symm hk]
     refine ⟨c,_,.tuple #[.bool true,.int .i64 pos,.int .i32 (Utf8.decode s pos).1],.inl ?_,hst,?_⟩
     ·simp [execOp,ho,Instr.next,hxe,hgo,hlt,goInt,setObj,Sem.run,hob]
     ·exact (VRs.cons (.bool _) (VRs.cons (.int _ _) (VRs.cons (.int _ _) .nil))).tup
    ·rename_i hlt;simp only [sI,pI] at hs;obtain ⟨rfl,rfl⟩:=hs;refine .pure r (v:=.tuple #[.bool false]) ?_ (VRs.cons (.bool _) .nil).tup;simp [execOp,ho,Instr.next,hxe,hgo,hlt]
   ·cases hs
  ·cases hs
end Ce
namespace Ce
open Go
variable {P:Program} {c:Cx} {h:H} {w:World} {env:List CV} {a:Act} {n:Nat}
theorem mJ{k:Nat}:∀{rows:List (List CV)} {q:Nat} {x:CV},eO k rows=true→(bo rows)[q]?=some x→∃i row j,rows[i]?=some row∧row[j]?=some x∧q=i*k+j
 | [],q,x,_,h=>by simp [bo] at h
 | r::rs,q,x,hl,h=>by
  simp only [eO,aT,aZ] at hl;simp only [bo] at h;by_cases hq:q < r.length
  ·rw [fY hq] at h;exact ⟨0,r,q,rfl,h,by omega⟩
  ·rw [iM (by omega)] at h;obtain ⟨i,row,j,h1,h2,h3⟩:=mJ hl.2 h;refine ⟨i+1,row,j,by simpa using h1,h2,?_⟩;rw [dL]; omega
theorem mI{k:Nat}:∀{rows:List (List CV)},eO k rows=true→(bo rows).length=rows.length*k
 | [],_=>by simp [bo]
 | r::rs,h=>by
  simp only [eO,aT,aZ] at h;simp [bo,mI h.2,h.1,dL]; omega
theorem iE(r:Rel P c h w){k m:Nat}{x:CV}{v:Value}(hv:VR c h.n w x v){new:List CV}(hc:cellsOf k m h x=some new) :
  ∃us:List Value,us.length=m*k∧VRs c h.n w new us∧∀w':World,w'.heap=w.heap→(Builtin.firstCells k m v).run P w'=.ok us.toArray w':=by
 unfold cellsOf at hc;split at hc
 ·split at hc
  ·rename_i e;simp only [sI] at hc; subst hc; subst e;cases hv;exact ⟨[],by simp,.nil,fun w' _=>by simp [Builtin.firstCells]⟩
  ·cases hc
 ·rename_i k' rr off len cap;split at hc
  ·split at hc
   ·rename_i cs ro hb;unfold cut? at hc;split at hc
    ·rename_i hfit;simp only [sI] at hc; subst hc;cases hv with
     | slc _ _ _ _ _ cap' hr hcap hle hsz =>
      obtain ⟨us,hus,hcell⟩:=jb (a:=⟨c.β rr,off,none⟩) (xs:=(cs.drop off).take (m*k)) (c:=c) (n:=h.n) (w:=w) (by
       intro j y hy;rw [iK] at hy;split at hy
       ·rw [dP] at hy;rw [bY];exact ml r hb hy
       ·cases hy)
      have hl:us.length=m*k:=by rw [←hus.1]; simp; omega
      exact ⟨us,hl,hus,fun w' hw=>run_firstCells_some w' k m _ _ _ us hl fun j u hj=>by rw [mo (w:=w) (by rw [hw])]; exact hcell j u hj⟩
    ·cases hc
   ·cases hc
  ·cases hc
 ·rename_i rows ex;split at hc
  ·rename_i hcond;simp only [aT,dT] at hcond;obtain ⟨hm,hal⟩:=hcond;simp only [sI] at hc; subst hc;have hlen:(bo (rows.take m)).length=m*k:=by rw [mI hal]; simp; rw [Nat.min_eq_left hm]
   cases hv with
   | lst _ _ k2 b off sp cap' vs hle hsp hex him hk2 hcl hvv =>
    have hget:∀(i:Nat) (row:List CV),(rows.take m)[i]?=some row→rows[i]?=some row:=fun i row h=>by
     rw [iK] at h;split at h
     ·exact h
     ·cases h
    obtain ⟨us,hus,hcell⟩:=jb (a:=⟨b,off,none⟩) (xs:=bo (rows.take m)) (c:=c) (n:=h.n) (w:=w) (by
     intro q y hy;obtain ⟨i,row,j,h1,h2,h3⟩:=mJ hal hy;have h4:=hget i row h1;have hkk:k2=k:=by rw [←hk2 i row h4,lA hal i row h1]
     subst hkk;refine ⟨vs i j,?_,hvv i row j y h4 h2⟩;rw [bY,h3,←nC];exact hcl i row j y h4 h2)
    have hl:us.length=m*k:=by rw [←hus.1,hlen]
    refine ⟨us,hl,hus,fun w' hw=>run_firstCells_some w' k m _ _ _ us hl fun j u hj=>?_⟩;obtain rfl:=hsp (by
     rintro rfl;have:us.length=0:=by rw [hl,show m=0 from by simpa using hm,d9]
     rw [jQ this] at hj; simp at hj)
    rw [mo (w:=w) (by rw [hw])]; exact hcell j u hj
  ·cases hc
 ·cases hc
theorem kE{x:CV}{v:Value}(hv:VR c n w x v){m:Nat}(hm:lenOf x=some m):∃b cap,v=.slice b m cap:=by
 unfold lenOf at hm;split at hm<;>simp only [sI,reduceCtorEq] at hm<;>subst hm<;>cases hv<;>exact ⟨_,_,rfl⟩
theorem yk{st xt e e' ty:TypeId}{i:TypeInfo}(ht:P.underlying st=some (.slice e))(hx:P.underlying xt=some (.slice e'))(hi:P.info? e=some i){b xb:Option Addr}{sl sc m xc:Nat}(hn:sl+m≤sc)
  {us:List Value} (hf:(Builtin.firstCells i.size m (.slice xb m xc)).run P w=.ok us.toArray w) {w':World} (hst:∀a,b=some a→(storeCells (a.add (sl*i.size)) us).run P w=.ok () w') (hno:b=none→w'=w) :
  (Builtin.append_ #[st,xt] ty #[.slice b sl sc,.slice xb m xc]).run P w=.ok (.slice b (sl+m) sc) w':=by
 cases b with
 | none=>simp [Builtin.append_,aO ht,aO hx,Go.sizeOf,typeInfo,hi,Builtin.lenOf,hn,hf,hno rfl]
 | some a=>simp [Builtin.append_,aO ht,aO hx,Go.sizeOf,typeInfo,hi,Builtin.lenOf,hn,hf,hst a rfl]
theorem pV{st xt e e' ty:TypeId}{i:TypeInfo}{z:Value}(ht:P.underlying st=some (.slice e))(hx:P.underlying xt=some (.slice e'))(hi:P.info? e=some i)(hz:i.zero=some z){b xb:Option Addr}{sl sc m xc:Nat}(hn:sc < sl+m)
  (hroom:(sl+m)*(i.bytes+1)≤2 ^ 46) {os us:List Value} (ho:∀w':World,w'.heap=w.heap→(Builtin.firstCells i.size sl (.slice b sl sc)).run P w'=.ok os.toArray w')
  (hf:∀w':World,w'.heap=w.heap→(Builtin.firstCells i.size m (.slice xb m xc)).run P w'=.ok us.toArray w') :
  (Builtin.append_ #[st,xt] ty #[.slice b sl sc,.slice xb m xc]).run P w=.ok (.slice (some ⟨w.heap.size,0,none⟩) (sl+m) (grownCap w (sl+m) sc e)) (w.drew.alloc (.cells (os++us++(Builtin.zeroCells z.cells (grownCap w (sl+m) sc e - (sl+m))).toList).toArray e)):=by
 have hn':¬(sl+m≤sc):=by omega
 have h0:(sl+m)*(i.bytes+1)=(sl+m)*i.bytes+(sl+m):=by rw [Nat.mul_add,Nat.mul_one]
 have h63':¬(9223372036854775807 < ((sl:Int)+(m:Int))):=by omega
 have hfit:=growslice_fits (bytes:=i.bytes) hn (by omega);have h48':¬(281474976710656 < Builtin.nextslicecap (sl+m) sc*i.bytes):=by omega
 have hfo:=ho w.drew rfl;have hfn:=hf w.drew rfl;simp [Builtin.append_,aO ht,aO hx,Go.sizeOf,typeInfo,zeroValue,hi,hz,Builtin.lenOf,hn',h63',h48',Question.forced,hfo,hfn,newRow,grownCap]
 congr 2
 apply Array.ext';simp
theorem Stp.kill(r:Rel P c h w){i:Nat}{b:Blk}(hb:h.f i=some b):Stp P c h w c (h.put i .dead) w:=by
 have hlive:∀j,bR (h.put i .dead) j→bR h j:=by
  rintro j ⟨x,hx,hl⟩;rw [H.f_put] at hx;by_cases e:j=i
  ·rw [aH e] at hx; injection hx with hx; subst hx; cases hl
  ·rw [aC e] at hx; exact ⟨x,hx,hl⟩
 refine ⟨⟨?_,?_,fun a b ha hb e=>r.inj a b (hlive a ha) (hlive b hb) e,fun j hj=>r.notIm j (hlive j hj),?_,r.imlt⟩,⟨aV _,fun _ _=>rfl,fun _ h=>h,fun _ _=>rfl,fun _ _ _ h=>h,fun _ h=>h⟩,⟨aV _,fun _ _ _=>rfl,fun j hj=>.inl ⟨j,hlive j hj,rfl⟩,fun _ hb=>.inl hb,fun _ _=>rfl,rfl,rfl⟩⟩
 ·intro j x hx;rw [H.f_put] at hx
  show j < h.n
  by_cases e:j=i
  ·exact e ▸ r.bound i _ hb
  ·rw [aC e] at hx; exact r.bound j x hx
 ·intro j x hx;rw [H.f_put] at hx;by_cases e:j=i
  ·rw [aH e] at hx; injection hx with hx; subst hx; exact .inl rfl
  ·rw [aC e] at hx; exact r.blk j x hx
 ·intro j cs hx;rw [H.f_put] at hx;by_cases e:j=i
  ·rw [aH e] at hx; injection hx with hx; cases hx
  ·rw [aC e] at hx; exact r.ro j cs hx
theorem m6{e:TypeId}{i:TypeInfo}{z:Value}(hzs:z.cells.size=i.size)(r:Rel P c h w){old new:List CV}{os us:List Value}(ho:VRs c h.n w old os)(hu:VRs c h.n w new us){sl m sc:Nat}(hlo:os.length=sl*i.size)(hlu:us.length=m*i.size) :
  Stp P c h w (c.set h.n w.drew.heap.size) (h.push (.cells (old++new) false)) (w.drew.alloc (.cells (os++us++(Builtin.zeroCells z.cells (grownCap w (sl+m) sc e - (sl+m))).toList).toArray e)) ∧
  VR (c.set h.n w.drew.heap.size) (h.n+1) (w.drew.alloc (.cells (os++us++(Builtin.zeroCells z.cells (grownCap w (sl+m) sc e - (sl+m))).toList).toArray e)) (.slc i.size h.n 0 (sl+m) none) (.slice (some ⟨w.heap.size,0,none⟩) (sl+m) (grownCap w (sl+m) sc e)):=by
 have h1:Stp P c h w c h w.drew:=Stp.same r rfl;have h2:=Stp.newRow h1.rel ((ho.append hu).evo h1.evo) e (Builtin.zeroCells z.cells (grownCap w (sl+m) sc e - (sl+m))).toList;refine ⟨h1.trans h2,?_⟩;have hge:=grownCap_ge w (sl+m) sc e;have:=VR.slc (c:=c.set h.n w.drew.heap.size) (n:=h.n+1) (w:=w.drew.alloc (.cells (os++us++(Builtin.zeroCells z.cells (grownCap w (sl+m) sc e - (sl+m))).toList).toArray e)) i.size h.n 0 (sl+m) none (grownCap w (sl+m) sc e) (gO _) (fun m hm=>by cases hm) hge ⟨e,(os++us++(Builtin.zeroCells z.cells (grownCap w (sl+m) sc e - (sl+m))).toList).length,by
  rw [Cx.set_same,shape?_eq]
  show ((w.drew.heap.push _)[w.drew.heap.size]?).bind dJ=_
  rw [Array.getElem?_push_size]; simp [dJ],by
  simp only [jP,hlo,hlu,Array.length_toList,size_zeroCells,hzs,←eH,dg];exact dA _ (by omega)⟩
 rw [Cx.set_same] at this;exact this
end Ce
namespace Ce
open Go
variable {P:Program} {c:Cx} {h:H} {w:World} {env:List CV} {a:Act} {n:Nat}
theorem VRs.inl{xs ys:List CV}{vs:List Value}(h1:VRs c n w (xs++ys) vs):VRs c n w xs (vs.take xs.length):=by
 have:=h1.take xs.length
 simpa using this
theorem qC9{st xt e e' ty:TypeId}{i:TypeInfo}{z:Value}(ht:P.underlying st=some (.slice e))(hx:P.underlying xt=some (.slice e'))(hi:P.info? e=some i)(hz:i.zero=some z)(hzs:z.cells.size=i.size)
  (r:Rel P c h w) {s x:CV} {sv xv:Value} (hs:VR c h.n w s sv) (hxv:VR c h.n w x xv) {y:CV} {h':H} (ha:appV i.size i.bytes s x h=some (y,h')) :
  ∃c' w' v,(Builtin.append_ #[st,xt] ty #[sv,xv]).run P w=.ok v w'∧Stp P c h w c' h' w'∧VR c' h'.n w' y v:=by
 unfold appV at ha;split at ha
 ·rename_i sl m hsl hxl;obtain ⟨b,sc,rfl⟩:=kE hs hsl;obtain ⟨xb,xc,rfl⟩:=kE hxv hxl;split at ha
  ·rename_i hm;subst hm;simp only [sI,pI] at ha;obtain ⟨rfl,rfl⟩:=ha;have hle:sl≤sc:=by
    unfold lenOf at hsl;split at hsl<;>simp only [sI,reduceCtorEq] at hsl<;>subst hsl
    ·cases hs; exact aV _
    ·cases hs; assumption
    ·cases hs; assumption
   have hf:(Builtin.firstCells i.size 0 (.slice xb 0 xc)).run P w=.ok ([]:List Value).toArray w:=by
    cases xb with
    | none=>simp [Builtin.firstCells]
    | some a=>exact run_firstCells_some w i.size 0 a 0 xc [] (by simp) (by simp)
   refine ⟨c,w,.slice b sl sc,?_,.refl r,hs⟩;have:=yk (P:=P) (ty:=ty) (w':=w) (b:=b) (sl:=sl) (sc:=sc) ht hx hi (m:=0) (by omega) hf (fun a _=>by simp [storeCells]) (fun _=>rfl)
   simpa using this
  ·rename_i hm;split at ha
   ·cases ha
   ·rename_i hroom;have hroom':(sl+m)*(i.bytes+1)≤2 ^ 46:=by omega
    split at ha
    ·cases ha
    ·rename_i new hnew;obtain ⟨us,hlu,hus,hfu⟩:=iE (P:=P) r hxv hnew;split at ha
     ·cases ha
     ·rename_i hone;have hone':∀v∈us,v.oneCell'=true:=hus.one (by simpa using hone);split at ha
      ·
       simp only [sI,pI] at ha;obtain ⟨rfl,rfl⟩:=ha;simp only [lenOf,sI] at hsl; subst hsl;cases hs;have hr:=pV (P:=P) (ty:=ty) (os:=[]) (us:=us) (b:=none) (sl:=0) (sc:=0) ht hx hi hz (m:=m) (by omega) hroom' (fun w' _=>by simp [Builtin.firstCells]) hfu;obtain ⟨g1,g2⟩:=m6 (e:=e) (sc:=0) hzs r (VRs.nil (c:=c) (n:=h.n) (w:=w)) hus (sl:=0) (by simp) hlu;rw [eX] at g1;simp only [dg] at g1 g2 hr;exact ⟨_,_,_,hr,g1,g2⟩
      ·
       split at ha
       ·rename_i rows hal;simp only [sI,pI] at ha;obtain ⟨rfl,rfl⟩:=ha;simp only [lenOf,sI] at hsl; subst hsl;obtain ⟨os,hlo,hos,hfo⟩:=iE (P:=P) (k:=i.size) (m:=rows.length) (new:=bo rows) r hs (by simp [cellsOf,hal]);have hsc:sc=rows.length:=by
         cases hs with
         | lst _ _ _ _ _ _ _ _ _ _ hex=>exact hex rfl
        have hr:=pV (P:=P) (ty:=ty) ht hx hi hz (m:=m) (b:=b) (sl:=rows.length) (sc:=sc) (by omega) hroom' hfo hfu;obtain ⟨g1,g2⟩:=m6 (e:=e) (sc:=sc) hzs r hos hus hlo hlu;exact ⟨_,_,_,hr,g1,g2⟩
       ·cases ha
      ·
       rename_i k' rr off len cc;simp only [lenOf,sI] at hsl; subst hsl;split at ha
       ·cases ha
       ·rename_i hkk;have hkk:k'=i.size:=by simpa using hkk
        subst hkk;split at ha
        ·rename_i cs ro hb;split at ha
         ·rename_i hin;split at ha
          ·cases ha
          ·rename_i hro;split at ha
           ·rename_i hfit;simp only [sI,pI] at ha;obtain ⟨rfl,rfl⟩:=ha;have hro:ro=false:=by simpa using hro
            subst hro;cases hs with
            | slc _ _ _ _ _ _ hr hcap hle hsz =>
             have hcc:=hcap cc rfl;subst hcc;have hmul:(len+m)*i.size=len*i.size+m*i.size:=eH _ _ _;have hln:new.length=m*i.size:=by rw [hus.1,hlu]
             obtain ⟨w',hw,hst⟩:=Stp.splice (off:=off+len*i.size) r hb hus (by omega) hone';refine ⟨c,w',.slice (some ⟨c.β rr,off,none⟩) (len+m) sc,yk ht hx hi hin (hfu w rfl) (fun a ha=>?_) (fun e=>by cases e),hst,?_⟩
             ·injection ha with ha; subst ha; rw [bY]; exact hw
             ·obtain ⟨e1,s1,hs1,hb1⟩:=hsz;exact .slc _ rr off (len+m) _ sc hr (fun q hq=>by injection hq) hin ⟨e1,s1,hst.evo.shape _ _ _ hs1,hb1⟩
           ·cases ha
         ·rename_i hin;split at ha
          ·rename_i old hcut;simp only [sI,pI] at ha;obtain ⟨rfl,rfl⟩:=ha;have hco:cellsOf i.size len h (.slc i.size rr off len (some cc))=some old:=by
            simp only [cellsOf,aV,ac];rw [hb];exact hcut
           obtain ⟨os,hlo,hos,hfo⟩:=iE (P:=P) r hs hco;have hsc:sc=cc:=by
            cases hs with
            | slc _ _ _ _ _ _ _ hcap=>exact hcap cc rfl
           have hr:=pV (P:=P) (ty:=ty) ht hx hi hz (m:=m) (b:=b) (sl:=len) (sc:=sc) (by omega) hroom' hfo hfu;obtain ⟨g1,g2⟩:=m6 (e:=e) (sc:=sc) hzs r hos hus hlo hlu;exact ⟨_,_,_,hr,g1,g2⟩
          ·cases ha
        ·cases ha
      ·
       rename_i k' rr off len;simp only [lenOf,sI] at hsl; subst hsl;split at ha
       ·cases ha
       ·rename_i hkk;have hkk:k'=i.size:=by simpa using hkk
        subst hkk;split at ha
        ·rename_i cs hb;split at ha
         ·rename_i hcond;simp only [aT,dT,aZ] at hcond;obtain ⟨hoff,hlen⟩:=hcond;simp only [sI,pI] at ha;obtain ⟨rfl,rfl⟩:=ha;subst hoff;have hln:new.length=m*i.size:=by rw [hus.1,hlu]
          by_cases hin:len+m≤sc
          ·cases hs with
           | slc _ _ _ _ _ _ hr hcap hle hsz =>
            obtain ⟨e1,s1,hs1,hb1⟩:=hsz;obtain ⟨o,hob,hbr⟩:=r.obj hb (by simp);cases hbr with
            | cells _ _ arr et hsz hv =>
             have hs1':s1=arr.size:=by rw [shape?_eq,hob] at hs1; simp [dJ] at hs1; exact hs1.2.symm
             subst hs1';have hmul:(len+m)*i.size=len*i.size+m*i.size:=eH _ _ _;have hmul2:(len+m)*i.size≤sc*i.size:=dA _ hin;have hfit:len*i.size+0+us.length≤arr.size:=by omega
             have hw:=run_storeCells_at P (c.β rr) (len*i.size) et us 0 arr w hob hfit hone';have hE:∀w',w'.heap=w.heap→VRs c h.n w' new us:=fun w' hw=>hus.evo ⟨aV _,fun _ _=>rfl,fun _ h=>h,fun _ _=>by rw [hw],fun b e s hs=>by rw [bm (w:=w) (by rw [hw])]; exact hs,fun b hb=>by rw [hw]; exact hb⟩
             have hst:=Stp.grow (w':=w.setRow (c.β rr) (arr.toList.take (len*i.size+0)++us++arr.toList.drop (len*i.size+0+us.length)).toArray) (cs':=cs++new) r hb hob (by simp [World.setRow]) (setRow_heap w _ _ _ _ _ hob) (fun k hk=>setRow_other w _ k _ hk) (by simp; omega) (by
              refine .cells _ false _ et (by simp; omega) fun j x v hx hv'=>?_
              rw [List.getElem?_toArray,d8,nH] at hv';by_cases hj:j < cs.length
              ·rw [fY hj] at hx;rw [fY (by simp; omega),iK,aH (by omega)] at hv';exact hv j x v hx (by simpa using hv')
              ·rw [iM (by omega)] at hx;have hjn:=(fU.1 hx).1;rw [iM (by simp; omega),fY (by simp; omega)] at hv';refine hus.2 (j - cs.length) x v hx ?_;rw [←hv']
               congr 1
               simp;omega)
             refine ⟨_,_,.slice (some ⟨c.β rr,0,none⟩) (len+m) sc,yk ht hx hi hin (hfu w rfl) (fun a ha=>?_) (fun e=>by cases e),hst,?_⟩
             ·injection ha with ha; subst ha; rw [bY,dg]; exact hw
             ·have:=VR.slc (c:=c.set h.n (c.β rr)) (n:=h.n+1) (w:=w.setRow (c.β rr) (arr.toList.take (len*i.size+0)++us++arr.toList.drop (len*i.size+0+us.length)).toArray) i.size h.n 0 (len+m) none sc (gO _) (fun q hq=>by cases hq) hin ⟨e1,arr.size,by rw [Cx.set_same]; have:=hst.evo.shape _ _ _ hs1; exact this,hb1⟩;rw [Cx.set_same] at this;exact this
          ·have hco:cellsOf i.size len h (.slc i.size rr 0 len none)=some cs:=by
            simp only [cellsOf,aV,ac];rw [show h.get rr=_ from hb];simp [cut?,hlen]
           obtain ⟨os,hlo,hos,hfo⟩:=iE (P:=P) r hs hco;have hr:=pV (P:=P) (ty:=ty) ht hx hi hz (m:=m) (b:=b) (sl:=len) (sc:=sc) (by omega) hroom' hfo hfu;have hk:=Stp.kill r hb;obtain ⟨g1,g2⟩:=m6 (h:=h.put rr .dead) (e:=e) (sc:=sc) hzs hk.rel hos hus hlo hlu;exact ⟨_,_,_,hr,hk.trans g1,g2⟩
         ·cases ha
        ·cases ha
      ·cases ha
 ·cases ha
theorem fzX_ok(r:Rel P c h w){x:CV}{h1:H}(hf:fzX x h=some h1):∃c1,Stp P c h w c1 h1 w:=by
 unfold fzX at hf;split at hf
 ·rename_i k rr off len cap;split at hf
  ·rename_i a1 b1 d1 e1 f1 hb;split at hf
   ·rename_i v h2 hz;split at hf
    ·rename_i y hb2;simp only [sI] at hf; subst hf;obtain ⟨o,ho,hr⟩:=r.obj hb (by simp);cases hr with
     | cells _ _ arr e hsz hv =>
      have hsz1:1≤arr.size:=hsz;have hpos:0 < arr.size:=hsz1;have h0:=hv 0 _ (arr[0]'hpos) rfl (xK hpos);obtain ⟨c1,s1,hv1⟩:=(uT (P:=P) (w:=w) 20).1 _ _ _ _ _ _ hz r h0;have hlt:rr < h.n:=r.bound rr _ hb;have hbeta:=s1.evo.beta rr hlt;refine ⟨c1,s1.trans (Stp.reword s1.rel hb2 fun arr2 e2 ha2=>?_)⟩;rw [hbeta,ho] at ha2;simp only [sI,Obj.cells.injEq,cZ] at ha2;obtain ⟨rfl,rfl⟩:=ha2;refine ⟨hsz1,fun j x u hx hu=>?_⟩;cases j with
      | zero =>
       simp only [rV,sI] at hx; subst hx;rw [xK hpos,sI] at hu; subst hu;exact hv1
      | succ j=>simp at hx
    ·cases hf
   ·cases hf
  ·simp only [sI] at hf; subst hf; exact ⟨c,.refl r⟩
  ·cases hf
 ·simp only [sI] at hf; subst hf; exact ⟨c,.refl r⟩
theorem qZL{st xt e e' ty:TypeId}{i:TypeInfo}{z:Value}(ht:P.underlying st=some (.slice e))(hx:P.underlying xt=some (.slice e'))(hi:P.info? e=some i)(hz:i.zero=some z)(hzs:z.cells.size=i.size)
  (r:Rel P c h w) {s x:CV} {sv xv:Value} (hs:VR c h.n w s sv) (hxv:VR c h.n w x xv) {y:CV} {h':H} (ha:appW i.size i.bytes s x h=some (y,h')) :
  ∃c' w' v,(Builtin.append_ #[st,xt] ty #[sv,xv]).run P w=.ok v w'∧Stp P c h w c' h' w'∧VR c' h'.n w' y v:=by
 unfold appW at ha;split at ha
 ·split at ha
  ·rename_i h1 hf;obtain ⟨c1,s1⟩:=fzX_ok r hf;obtain ⟨c',w',v,g1,g2,g3⟩:=qC9 (P:=P) (ty:=ty) ht hx hi hz hzs s1.rel (hs.evo s1.evo) (hxv.evo s1.evo) ha;exact ⟨c',w',v,g1,s1.trans g2,g3⟩
  ·cases ha
 ·exact qC9 (P:=P) (ty:=ty) ht hx hi hz hzs r hs hxv ha
end Ce
namespace Ce
open Go
variable {P:Program} {c:Cx} {h:H} {w:World} {env:List CV} {a:Act} {n:Nat}
theorem qIY(xs:List CV):xs.foldl mnS none=none:=by
 induction xs with
 | nil=>rfl
 | cons x xs ih=>rw [nE]; cases x<;>exact ih
theorem zAF:∀(xs:List CV) (vs:List Value) (k:IntKind) (m:Int) (y:CV),VRs c n w xs vs→xs.foldl mnS (some (.int k m))=some y→∃v,(vs.foldlM Builtin.min2 (.int k m)).run P w=.ok v w∧VR c n w y v
 | [],[],k,m,y,_,hy=>by
  simp at hy; subst hy;exact ⟨.int k m,by simp,.int k m⟩
 | [],_::_,_,_,_,h,_=>by have:=h.1; simp at this
 | _::_,[],_,_,_,h,_=>by have:=h.1; simp at this
 | x::xs,v::vs,k,m,y,h,hy=>by
  have h1:=h.2 0 x v rfl rfl;have h2:VRs c n w xs vs:=⟨by simpa using h.1,fun i x y hx hy=>h.2 (i+1) x y (by simpa using hx) (by simpa using hy)⟩;rw [nE] at hy;have hno:mnS (some (.int k m)) x=none→False:=fun e=>by rw [e,qIY] at hy; cases hy
  cases h1 with
  | int k' m' =>
   obtain ⟨v,hv,hr⟩:=zAF xs vs k _ y h2 hy;refine ⟨v,?_,hr⟩;simp [List.foldlM_cons,Builtin.min2,hv]
  | _=>exact (hno rfl).elim
theorem qIX(xs:List CV):xs.foldl mxS none=none:=by
 induction xs with
 | nil=>rfl
 | cons x xs ih=>rw [nE]; cases x<;>exact ih
theorem zAE:∀(xs:List CV) (vs:List Value) (k:IntKind) (m:Int) (y:CV),VRs c n w xs vs→xs.foldl mxS (some (.int k m))=some y→∃v,(vs.foldlM Builtin.max2 (.int k m)).run P w=.ok v w∧VR c n w y v
 | [],[],k,m,y,_,hy=>by
  simp at hy; subst hy;exact ⟨.int k m,by simp,.int k m⟩
 | [],_::_,_,_,_,h,_=>by have:=h.1; simp at this
 | _::_,[],_,_,_,h,_=>by have:=h.1; simp at this
 | x::xs,v::vs,k,m,y,h,hy=>by
  have h1:=h.2 0 x v rfl rfl;have h2:VRs c n w xs vs:=⟨by simpa using h.1,fun i x y hx hy=>h.2 (i+1) x y (by simpa using hx) (by simpa using hy)⟩;rw [nE] at hy;have hno:mxS (some (.int k m)) x=none→False:=fun e=>by rw [e,qIX] at hy; cases hy
  cases h1 with
  | int k' m' =>
   obtain ⟨v,hv,hr⟩:=zAE xs vs k _ y h2 hy;refine ⟨v,?_,hr⟩;simp [List.foldlM_cons,Builtin.max2,hv]
  | _=>exact (hno rfl).elim
theorem qY2{dt st e e' ty:TypeId}{k:Nat}(hd:P.underlying dt=some (.slice e))(hk:ee P e=some k)(_:P.underlying st=some (.slice e'))
  (r:Rel P c h w) {d s:CV} {dv sv:Value} (hdv:VR c h.n w d dv) (hsv:VR c h.n w s sv) {y:CV} {h':H} (ha:cpyV k d s h=some (y,h')) :
  ∃w' v,(Builtin.copy_ #[dt,st] ty #[dv,sv]).run P w=.ok v w'∧Stp P c h w c h' w'∧VR c h'.n w' y v:=by
 unfold cpyV at ha;split at ha
 ·rename_i dl sl hdl hsl;obtain ⟨b,dc,rfl⟩:=kE hdv hdl;obtain ⟨sb,sc,rfl⟩:=kE hsv hsl
  dsimp only at ha
  split at ha
  ·rename_i hz;simp only [sI,pI] at ha;obtain ⟨rfl,rfl⟩:=ha;have hz':Nat.min sl dl=0:=hz;have hf:(Builtin.firstCells k 0 (.slice sb sl sc)).run P w=.ok ([]:List Value).toArray w:=by
    cases sb with
    | none=>simp [Builtin.firstCells]
    | some a=>exact run_firstCells_some w k 0 a sl sc [] (by simp) (by simp)
   refine ⟨w,.int .i64 0,?_,.refl r,.int _ _⟩;cases b with
   | none=>simp [Builtin.copy_,aO hd,Builtin.lenOf,hz',cN hk,hf,goInt]
   | some a=>simp [Builtin.copy_,aO hd,Builtin.lenOf,hz',cN hk,hf,goInt,storeCells]
  ·rename_i hz;split at ha
   ·rename_i new k' rr off len cap hnew;split at ha
    ·rename_i cs hb;split at ha
     ·rename_i hcond;simp only [aT,dT] at hcond;obtain ⟨hfit,hone⟩:=hcond;simp only [sI,pI] at ha;obtain ⟨rfl,rfl⟩:=ha;obtain ⟨us,hlu,hus,hfu⟩:=iE (P:=P) r hsv hnew;cases hdv with
      | slc _ _ _ _ _ _ hr hcap hle hsz =>
       have hln:new.length=min sl dl*k:=by rw [hus.1,hlu]
       obtain ⟨w',hw,hst⟩:=Stp.splice (off:=off) r hb hus (by omega) (hus.one hone);have hfc:(Builtin.firstCells k (Nat.min sl dl) (.slice sb sl sc)).run P w=.ok us.toArray w:=by
        have:=hfu w rfl;unfold Builtin.firstCells at this ⊢;cases sb<;>exact this
       refine ⟨w',.int .i64 (min sl dl:Nat),?_,hst,.int _ _⟩;have hmin:Nat.min sl dl=min sl dl:=rfl;simp [Builtin.copy_,aO hd,Builtin.lenOf,cN hk,hfc,hw,goInt,hmin]
     ·cases ha
    ·cases ha
   ·cases ha
 ·cases ha
theorem gE{α:Type}{xs:Array α}{l:List α}(h:xs.toList=l):xs=l.toArray:=by cases xs; simp at h; rw [h]
theorem vc(cl:Call)(b:Builtin)(hb:cl.callee=.builtin b):OpS P (.call cl):=by
 intro io hc _ c h w env a o y h' ho r he hs;simp only [cOp,hb] at hc;have hrun:∀(f:Array TypeId→TypeId→Array Value→Sem Value) ,(∀cs,builtin b cl.argTypes o.type cs (cl.args.map a.eval)=(do pure (.value (←f cl.argTypes o.type (cl.args.map a.eval))))) →
   (execOp a.eval o).run P w=((f cl.argTypes o.type (cl.args.map a.eval)).run P w).andThen fun v w=>.ok (.value v) w:=by
  intro f hf;simp only [execOp,ho,resolve,hb,Sem.run_bind,Sem.run_pure,Result.andThen_ok,invoke,hf]
 have hmap:∀l,cl.args.toList=l→cl.args.map a.eval=(l.map a.eval).toArray:=by
  intro l hl;rw [gE hl]; simp
 unfold jL at hc;split at hc
 ·
  rename_i x0 t0 hargs htys;obtain ⟨x',hx,hc⟩:=aU hc;have h1:=af he hx;have hr:=hrun Builtin.len_ (fun _=>rfl);rw [hmap _ hargs,gE htys] at hr;simp only [gM,iI] at hr;generalize a.eval x0=xv at h1 hr;split at hc
  ·rename_i e hu;injection hc with hc; subst hc
   simp only [stepO] at hs;split at hs
   ·rename_i m hm;simp only [sI,pI] at hs;obtain ⟨rfl,rfl⟩:=hs;obtain ⟨bb,cc,rfl⟩:=kE h1 hm;exact .pure r (v:=.int .i64 m) (by rw [hr]; simp [Builtin.len_,aO hu,goInt]) (.int _ _)
   ·cases hs
  ·rename_i hu;injection hc with hc; subst hc
   simp only [stepO] at hs;split at hs
   ·rename_i s hm;rw [hm] at h1;simp only [sI,pI] at hs;obtain ⟨rfl,rfl⟩:=hs;cases h1;exact .pure r (v:=.int .i64 s.size) (by rw [hr]; simp [Builtin.len_,aO hu,goInt]) (.int _ _)
   ·cases hs
  ·rename_i m e hu;injection hc with hc; subst hc
   simp only [stepO,sI,pI] at hs;obtain ⟨rfl,rfl⟩:=hs;exact .pure r (v:=.int .i64 m) (by rw [hr]; simp [Builtin.len_,aO hu,goInt]) (.int _ _)
  ·rename_i k e hu;injection hc with hc; subst hc
   simp only [stepO] at hs;split at hs
   ·rename_i hm;rw [hm] at h1;simp only [sI,pI] at hs;obtain ⟨rfl,rfl⟩:=hs;cases h1;exact .pure r (v:=.int .i64 0) (by rw [hr]; simp [Builtin.len_,aO hu,goInt]) (.int _ _)
   ·rename_i rr hm;rw [hm] at h1;split at hs
    ·rename_i es cl hb;simp only [sI,pI] at hs;obtain ⟨rfl,rfl⟩:=hs;obtain ⟨es',hob,hes⟩:=ng r hb;have hgo:=MapKept.run_getObj_map (P:=P) hob;cases h1;have hsz:es'.size=es.length:=by have:=hes.1; simpa using this.symm
     exact .pure r (v:=.int .i64 es.length) (by rw [hr]; simp [Builtin.len_,aO hu,goInt,hgo,hsz]) (.int _ _)
    ·cases hs
   ·cases hs
  ·cases hc
 ·
  rename_i s0 x0 st xt hargs htys;obtain ⟨s',hs',hc⟩:=aU hc;obtain ⟨x',hx,hc⟩:=aU hc;have h1:=af he hs';have h2:=af he hx;have hr:=hrun Builtin.append_ (fun _=>rfl);rw [hmap _ hargs,gE htys] at hr;split at hc
  ·rename_i e e' hu hu2;split at hc
   ·rename_i i hi;cases hiz:i.zero with
    | none=>simp [hiz] at hc
    | some z =>
     simp only [hiz] at hc;split at hc
     ·cases hc
     ·rename_i hcond;injection hc with hc; subst hc
      have hzs:z.cells.size=i.size:=by
       simp only [bU,not_or,jj,dY,Decidable.not_not] at hcond;exact hcond.2
      simp only [stepO] at hs;obtain ⟨c',w',v,g1,g2,g3⟩:=qZL (P:=P) (ty:=o.type) hu hu2 hi hiz hzs r h1 h2 hs;refine ⟨c',w',v,.inl ?_,g2,g3⟩;rw [hr];simp only [gM,iI];rw [g1]; rfl
   ·cases hc
  ·cases hc
 ·
  rename_i d0 s0 dt st hargs htys;obtain ⟨d',hd,hc⟩:=aU hc;obtain ⟨s',hs',hc⟩:=aU hc;have h1:=af he hd;have h2:=af he hs';have hr:=hrun Builtin.copy_ (fun _=>rfl);rw [hmap _ hargs,gE htys] at hr;split at hc
  ·rename_i e e' hu hu2;obtain ⟨k,hk,hc⟩:=aU hc;split at hc
   ·cases hc
   ·injection hc with hc; subst hc
    simp only [stepO] at hs;obtain ⟨w',v,g1,g2,g3⟩:=qY2 (P:=P) (ty:=o.type) hu hk hu2 r h1 h2 hs;refine ⟨c,w',v,.inl ?_,g2,g3⟩;rw [hr];simp only [gM,iI];rw [g1]; rfl
  ·cases hc
 ·
  rename_i x0 t0 hargs htys;obtain ⟨x',hx,hc⟩:=aU hc;have h1:=af he hx;have hr:=hrun Builtin.clear_ (fun _=>rfl);rw [hmap _ hargs,gE htys] at hr;simp only [gM,iI] at hr;generalize a.eval x0=xv at h1 hr;have key:∀(k:Nat) (z:List CV),io=.clr k z x'→(∃d,P.underlying t0=some d)→(k≠0→∃e zv,P.underlying t0=some (.slice e)∧VRs c h.n w z zv.cells.toList∧z.length=k∧∀w,(zeroValue e).run P w=.ok zv w)→OpOK P c h w ((execOp a.eval o).run P w) y h':=by
   rintro k z rfl ⟨d,hd⟩ hsl;simp only [stepO] at hs;generalize x'.ev env=x at hs h1;split at hs
   ·simp only [sI,pI] at hs;obtain ⟨rfl,rfl⟩:=hs;cases h1;exact .pure r (v:=.tuple #[]) (by rw [hr]; cases d<;>simp [Builtin.clear_,aO hd]) VR.undef
   ·simp only [sI,pI] at hs;obtain ⟨rfl,rfl⟩:=hs;cases h1;exact .pure r (v:=.tuple #[]) (by rw [hr]; cases d<;>simp [Builtin.clear_,aO hd]) VR.undef
   ·rename_i rr;split at hs
    ·rename_i es cl0 hb;simp only [sI,pI] at hs;obtain ⟨rfl,rfl⟩:=hs;cases h1;obtain ⟨es',hob,hes⟩:=ng r hb;have hgo:=MapKept.run_getObj_map (P:=P) hob;obtain ⟨w1,w2⟩:=Stp.putMap (P:=P) (es1:=[]) (ms1:=#[]) (cl1:=cl0) r hb hob ⟨rfl,by simp⟩;exact ⟨c,_,.tuple #[],.inl (by rw [hr]; cases d<;>simp [Builtin.clear_,aO hd,hgo,w1]),w2,VR.undef⟩
    ·cases hs
   ·rename_i k' rr off len cap;split at hs
    ·rename_i hz;simp only [sI,pI] at hs;obtain ⟨rfl,rfl⟩:=hs;subst hz;cases h1;exact .pure r (v:=.tuple #[]) (by rw [hr]; cases d<;>simp [Builtin.clear_,aO hd]) VR.undef
    ·rename_i hz;split at hs
     ·cases hs
     ·rename_i hk0;obtain ⟨e,zv,hu,hzr,hzl,hrun0⟩:=hsl hk0;split at hs
      ·rename_i cs hb;split at hs
       ·rename_i hcond;simp only [aT,dT] at hcond;obtain ⟨hfit,hone⟩:=hcond;simp only [sI,pI] at hs;obtain ⟨rfl,rfl⟩:=hs;cases h1 with
        | slc _ _ _ _ _ _ hrn hcap hle hsz =>
         have hR:=ly hzr (by omega) len;have h1':aM (dQ z len)=true:=by
          rw [rO] at hone ⊢;intro x hx;obtain ⟨i,hi,hx⟩:=List.mem_iff_getElem.1 hx;have hx':(dQ z len)[i]?=some x:=by rw [ed hi,hx]
          rw [px z len i (by rw [repl_len] at hi; exact hi)] at hx';exact hone x (rU hx')
         obtain ⟨w',hw,hst⟩:=Stp.splice (off:=off) r hb hR (by rw [repl_len]; rw [hzl]; omega) (hR.one h1');refine ⟨c,w',.tuple #[],.inl ?_,hst,VR.undef⟩;rw [hr];obtain ⟨len,rfl⟩:∃q,len=q+1:=⟨len - 1,by omega⟩;have hw2:(storeCells ⟨c.β rr,off,none⟩ (Builtin.zeroCells zv.cells (len+1)).toList).run P w=.ok () w':=hw;simp [Builtin.clear_,aO hu,hrun0,hw2]
       ·cases hs
      ·cases hs
   ·simp only [sI,pI] at hs;obtain ⟨rfl,rfl⟩:=hs;cases h1;exact .pure r (v:=.tuple #[]) (by rw [hr]; cases d<;>simp [Builtin.clear_,aO hd]) VR.undef
   ·cases hs
  split at hc
  ·rename_i k e hu;injection hc with hc
   exact key 0 [] hc.symm ⟨_,hu⟩ (fun h=>absurd rfl h)
  ·rename_i e hu;obtain ⟨k,hk,hc⟩:=aU hc;obtain ⟨z,hz,hc⟩:=aU hc;split at hc
   ·cases hc
   ·rename_i hcond;simp only [bU,dT,not_or,dY,Decidable.not_not,Bool.not_eq_true] at hcond;injection hc with hc
    obtain ⟨zi,zv,_,_,hcv,hrun0⟩:=fJ hz;exact key k z.cells hc.symm ⟨_,hu⟩ (fun _=>⟨e,zv,hu,(fO c h.n w _ _ hcv).cells,by simpa using hcond.1,hrun0⟩)
  ·cases hc
 ·
  rename_i xs _;obtain ⟨xs',hx,hc⟩:=aU hc;injection hc with hc; subst hc
  have h1:=jY he hx;have hr:=hrun Builtin.min_ (fun _=>rfl);simp only [stepO] at hs;split at hs
  ·rename_i v hv;simp only [sI,pI] at hs;obtain ⟨rfl,rfl⟩:=hs;unfold mnL at hv;split at hv
   ·rename_i k m ys hev;rw [hev] at h1;generalize hvs:List.map a.eval cl.args.toList=vs at h1;cases vs with
    | nil=>have:=h1.1; simp at this
    | cons v0 vs =>
     have hv0:=h1.2 0 _ v0 rfl rfl;cases hv0;have h2:VRs c h.n w ys vs:=⟨by simpa using h1.1,fun i x y hx hy=>h1.2 (i+1) x y (by simpa using hx) (by simpa using hy)⟩;obtain ⟨v',g1,g2⟩:=zAF (P:=P) ys vs k m _ h2 hv;refine .pure r (v:=v') ?_ g2;rw [hr];simp only [Builtin.min_,Array.toList_map,hvs,g1];rfl
   ·cases hv
  ·cases hs
 ·rename_i xs _;obtain ⟨xs',hx,hc⟩:=aU hc;injection hc with hc; subst hc
  have h1:=jY he hx;have hr:=hrun Builtin.max_ (fun _=>rfl);simp only [stepO] at hs;split at hs
  ·rename_i v hv;simp only [sI,pI] at hs;obtain ⟨rfl,rfl⟩:=hs;unfold mxL at hv;split at hv
   ·rename_i k m ys hev;rw [hev] at h1;generalize hvs:List.map a.eval cl.args.toList=vs at h1;cases vs with
    | nil=>have:=h1.1; simp at this
    | cons v0 vs =>
     have hv0:=h1.2 0 _ v0 rfl rfl;cases hv0;have h2:VRs c h.n w ys vs:=⟨by simpa using h1.1,fun i x y hx hy=>h1.2 (i+1) x y (by simpa using hx) (by simpa using hy)⟩;obtain ⟨v',g1,g2⟩:=zAE (P:=P) ys vs k m _ h2 hv;refine .pure r (v:=v') ?_ g2;rw [hr];simp only [Builtin.max_,Array.toList_map,hvs,g1];rfl
   ·cases hv
  ·cases hs
 ·cases hc
end Ce
namespace Ce
open Go
variable {P:Program} {c:Cx} {h:H} {w:World} {env:List CV} {a:Act} {n:Nat}
theorem qQ8(op:Op):OpS P op:=by
 cases op with
 | move x=>exact qIL x
 | assign x=>exact yH x
 | pick p q s=>exact qIJ p q s
 | alloc t=>exact qDD t
 | box t x=>exact qQ7 t x
 | build t ps=>exact qDB t ps
 | buildSlice t l ps=>exact qJ t l ps
 | insert t m k v=>exact yG t m k v
 | load t x=>exact qIM t x
 | store t x y=>exact qD6 t x y
 | nilCheck x=>exact uA x
 | binOp op t x y yt=>exact qDC op t x y yt
 | unOp op t x=>exact qII op t x
 | convert s d x=>exact v9 s d x
 | makeFunc f xs ys=>exact uC f xs ys
 | makeMap t r=>exact vY t r
 | makeSlice t l cp=>exact rh t l cp
 | slice t x lo hi mx=>exact qD7 t x lo hi mx
 | fieldAddr s x f=>exact rj s x f
 | field t x f=>exact qDA t x f
 | indexAddr t x i=>exact ri t x i
 | index t x i=>exact qD9 t x i
 | lookup t x i ok=>exact yF t x i ok
 | mapUpdate t m k v=>exact rf t m k v
 | mapEntry t m k=>exact uB t m k
 | entryStore t m s v=>exact qI t m s v
 | range t x=>exact qD8 t x
 | next it b=>exact qIK it b
 | extract x i=>exact vZ x i
 | call cl =>
  cases hcl:cl.callee with
  | builtin b=>exact vc cl b hcl
  | value x =>
   intro io hc hi;simp only [cOp,hcl] at hc;exfalso;split at hc
   ·rename_i e; cases e;obtain ⟨as,_,hc⟩:=aU hc;split at hc
    ·split at hc
     ·injection hc with hc; subst hc; cases hi
     ·cases hc
    ·cases hc
   ·obtain ⟨x',_,hc⟩:=aU hc;obtain ⟨as,_,hc⟩:=aU hc;injection hc with hc; subst hc; cases hi
   ·rename_i e; cases e
   ·cases hc
  | invoke r m=>intro io hc; simp only [cOp,hcl] at hc; cases hc
 | _=>intro io hc; cases hc
def NC(m:Option Ins):Prop:=∀i,m=some i→isCall i=false
theorem NC.none:NC none:=fun i h=>by cases h
theorem NC.some{i:Ins}(h:isCall i=false):NC (some i):=fun j e=>by injection e with e; rw [←e]; exact h
theorem NC.bind{α:Type}{m:Option α}{f:α→Option Ins}(h:∀a,NC (f a)):NC (m >>= f):=fun i e=>by
 obtain ⟨a,_,e⟩:=aU e;exact h a i e
theorem NC.ite{c:Prop}[Decidable c]{x y:Option Ins}(h1:NC x)(h2:NC y):NC (if c then x else y):=by split<;>assumption
theorem od(b:Builtin)(as:List Operand)(ts:List TypeId):NC (jL P b as ts):=by
 unfold jL;split
 all_goals (repeat' (first | exact NC.none | exact NC.some rfl | (apply NC.bind; intro _) | apply NC.ite | split))
theorem cOp_nc(op:Op)(hop:∀cl f,op=.call cl→cl.callee≠.value f):NC (cOp P op):=by
 unfold cOp;split
 all_goals (try (repeat' (first | exact NC.none | exact NC.some rfl | (apply NC.bind; intro _) | apply NC.ite | split)))
 ·rename_i hcl _ _ _ _; exact absurd hcl (hop _ _ rfl)
 ·rename_i hcl _ _; exact absurd hcl (hop _ _ rfl)
 ·exact od _ _ _
def qG7(P:Program)(c:Cx)(h:H)(w:World)(x:CV)(h':H):Ending→World→Prop
 | .returned v,w'=>∃c',Stp P c h w c' h' w'∧VR c' h'.n w' x v
 | _,_=>False
def ul(lp:Loop)(vs:Array Value):Array Value:=(lp.params.zip vs).foldl (fun tmps (t,a)=>tmps.setIfInBounds t a) lp.tmps
def ki(P:Program)(call:Tgt→List CV→H→Option (CV × H)):Prop :=
 ∀(t:Tgt) (args:List CV) (h:H) (x:CV) (h':H),call t args h=some (x,h')→∀(c:Cx) (w:World) (vs:List Value),Rel P c h w→VRs c h.n w args vs →
  match t with
  | .fn f=>(∃fn,P.funcs[f]?=some fn∧fn.body.isNone=false∧(fn.name == "runtime.NumGoroutine")=false)∧CallsIn Fence.wide 0 P f vs.toArray w (qG7 P c h w x h')
  | .yl l=>∃lp,w.heap[c.β l]?=some (.loop lp)∧vs.length=lp.params.size∧RoundIn Fence.wide 0 P (c.β l) lp.fn (ul lp vs.toArray) lp.assign lp.body w (qG7 P c h w x h')
def iT(F:Fence):Prop:=F=Fence.wide∨∃l,F=Fence.wide.inRound l
theorem iT.fn{F:Fence}(h:iT F)(f:FuncId):F.fn f:=by rcases h with rfl | ⟨l,rfl⟩<;>trivial
theorem iT.depth{F:Fence}(h:iT F):F.depth=none:=by rcases h with rfl | ⟨l,rfl⟩<;>rfl
theorem iT.room{F:Fence}(h:iT F)(k:Nat):F.room k:=by intro d hd; rw [h.depth] at hd; cases hd
theorem iT.calls{F:Fence}(h:iT F){m k:Nat}{f:FuncId}{args:Array Value}{w:World}{R:Ending→World→Prop}(hc:CallsIn Fence.wide m P f args w R):CallsIn F k P f args w R:=by
 have h1:CallsIn Fence.wide k P f args w R:=⟨trivial,fun cs _=>hc.2 cs (iT.room (.inl rfl) _)⟩;rcases h with rfl | ⟨l,rfl⟩
 ·exact h1
 ·exact h1
theorem iT.rounds{F:Fence}(h:iT F){m k l:Nat}{f:FuncId}{tmps:Array Value}{x y:Code}{w:World}{R:Ending→World→Prop}(hc:RoundIn Fence.wide m P l f tmps x y w R):RoundIn F k P l f tmps x y w R:=by
 have h1:RoundIn Fence.wide k P l f tmps x y w R:=⟨trivial,fun cc cs _=>hc.2 cc cs (iT.room (.inl rfl) _)⟩;rcases h with rfl | ⟨l,rfl⟩
 ·exact h1
 ·exact h1
theorem s8{α:Type}{x:Option α}(h:x.isNone=false):¬x=none:=by rintro rfl; cases h
theorem pf{call:Tgt→List CV→H→Option (CV × H)}(hcall:ki P call){F:Fence}(hF:iT F){m:Nat}{o:Oper}(r:Rel P c h w)(he:dC c h.n w env a.tmps){x:CV}{h':H}
  (hs:stepO call ((cOp P o.op).getD .bad) env h=some (x,h')) {K:Act→World→Prop} {Q:Exit→Act→World→Prop}
  (hK:∀c' w' v,Stp P c h w c' h' w'→VR c' h'.n w' x v→K (a.put o.dst v) w'):o.wpIn F m P a w K Q:=by
 refine ⟨fun f _=>hF.fn f,?_⟩;cases hc:cOp P o.op with
 | none=>rw [hc] at hs; cases hs
 | some io =>
  rw [hc] at hs;simp only [rR] at hs;have hnd:∀cl,o.op≠.defer cl:=by intro cl e; rw [e] at hc; cases hc
  rw [Oper.semAt_eq _ _ _ hnd];cases hi:isCall io with
  | false =>
   have hs':stepO noC io env h=some (x,h'):=by
    cases io<;>first | exact hs | cases hi
   obtain ⟨c',w',v,hres,hst,hv⟩:=qQ8 o.op io hc hi c h w env a o x h' rfl r he hs';rcases hres with hres | ⟨hres,rfl⟩
   ·rw [hres]; exact hK c' w' v hst hv
   ·rw [hres]; exact hK c' w' _ hst hv
  | true =>
   cases hop:o.op with
   | call cl =>
    rw [hop] at hc;cases hcl:cl.callee with
    | builtin b =>
     simp only [cOp,hcl] at hc;rw [od _ _ _ _ hc] at hi; cases hi
    | invoke rr mm=>simp only [cOp,hcl] at hc; cases hc
    | value f0 =>
     simp only [cOp,hcl] at hc;have hargs:cl.args.map a.eval=(cl.args.toList.map a.eval).toArray:=by
      apply Array.ext'; simp
     split at hc
     ·rename_i f e;obtain ⟨as,has,hc⟩:=aU hc;cases e;split at hc
      ·split at hc
       ·injection hc with hc; subst hc
        simp only [stepO] at hs;obtain ⟨⟨fn,g1,g2,g3⟩,hcl'⟩:=hcall _ _ _ _ _ hs c w _ r (jY he has);have:(execOp a.eval o).run P w=.ok (.enter f (cl.args.toList.map a.eval).toArray) w:=by
         rw [←hargs];simp [execOp,hop,resolve,hcl,Act.eval,Deferred.ofValue,invoke,callFunc,Sem.run_bind,g1,s8 g2,beq_eq_false_iff_ne.1 g3]
        rw [this];refine ⟨fun hd=>(by rw [hF.depth] at hd; cases hd),hF.calls (hcl'.mono ?_)⟩;rintro (v | _ | _) w' hR
        ·obtain ⟨c',h1,h2⟩:=hR; exact hK c' w' v h1 h2
        ·exact hR.elim
        ·exact hR.elim
       ·cases hc
      ·cases hc
     ·rename_i f0' hne e;obtain ⟨f',hf,hc⟩:=aU hc;obtain ⟨as,has,hc⟩:=aU hc;injection hc with hc; subst hc
      cases e;have hfv:=af he hf;have hav:=jY he has;simp only [stepO] at hs;generalize f'.ev env=fv at hs hfv;generalize hfe:a.eval f0=fe at hfv;split at hs
      ·rename_i f xs ys;cases hfv with
       | clo _ _ _ vs us hx hy hvx hvy =>
        have hall:VRs c h.n w (xs++evs env as++ys) (vs.toList++cl.args.toList.map a.eval++us.toList) :=
         VRs.append (VRs.append ⟨by simpa using hx,fun i x v h1 h2=>hvx i x v h1 (by simpa using h2)⟩ hav) ⟨by simpa using hy,fun i x v h1 h2=>hvy i x v h1 (by simpa using h2)⟩
        obtain ⟨⟨fn,g1,g2,g3⟩,hcl'⟩:=hcall _ _ _ _ _ hs c w _ r hall;have harr:(vs++cl.args.map a.eval)++us=(vs.toList++cl.args.toList.map a.eval++us.toList).toArray:=by apply Array.ext'; simp
        have:(execOp a.eval o).run P w=.ok (.enter f (vs.toList++cl.args.toList.map a.eval++us.toList).toArray) w:=by
         rw [←harr];simp [execOp,hop,resolve,hcl,hfe,Deferred.ofValue,invoke,callFunc,Sem.run_bind,g1,s8 g2,beq_eq_false_iff_ne.1 g3]
        rw [this];refine ⟨fun hd=>(by rw [hF.depth] at hd; cases hd),hF.calls (hcl'.mono ?_)⟩;rintro (v | _ | _) w' hR
        ·obtain ⟨c',h1,h2⟩:=hR; exact hK c' w' v h1 h2
        ·exact hR.elim
        ·exact hR.elim
      ·rename_i l;cases hfv with
       | yld _ hr =>
        obtain ⟨lp,g1,g2,hrd⟩:=hcall _ _ _ _ _ hs c w _ r hav;have hgo:(getObj (c.β l)).run P w=.ok (.loop lp) w:=by simp [getObj,Sem.run,g1]
        have hsz:(cl.args.map a.eval).size=lp.params.size:=by rw [←g2]; simp
        have:(execOp a.eval o).run P w=.ok (.round (c.β l) lp.fn (ul lp (cl.args.toList.map a.eval).toArray) lp.assign lp.body) w:=by
         rw [←hargs];simp [execOp,hop,resolve,hcl,hfe,Deferred.ofValue,invoke,Instr.yield,Instr.getLoop,hgo,hsz,ul]
        rw [this];refine ⟨fun hd=>(by rw [hF.depth] at hd; cases hd),hF.rounds (hrd.mono ?_)⟩;rintro (v | _ | _) w' hR
        ·obtain ⟨c',h1,h2⟩:=hR; exact hK c' w' v h1 h2
        ·exact hR.elim
        ·exact hR.elim
      ·cases hs
     ·rename_i e; cases e
     ·cases hc
   | _=>rw [cOp_nc _ (by intro cl f e; rw [hop] at e; cases e) _ hc] at hi; cases hi
end Ce
namespace Ce
open Go
variable {P:Program} {c:Cx} {h:H} {w:World} {env:List CV} {a:Act} {n:Nat}
theorem jq(he:dC c n w env a.tmps){ops:Array Oper}{j d:Nat}{q:Oper}(hq:ops[j]?=some q)(hd:q.dst=some d)(want:Bool):(yielded ops a.tmps j==some want)=eL want (aR env d):=by
 have h1:=he.get d;unfold yielded;simp only [hq,Option.bind_some,hd];cases hv:a.tmps[d]? with
 | none =>
  have hu:a.tmps.getD d Go.undef=Go.undef:=by simp [jn,hv]
  rw [hu] at h1;generalize aR env d=x at h1;cases h1<;>simp [eL]
 | some v =>
  have hu:a.tmps.getD d Go.undef=v:=by simp [jn,hv]
  rw [hu] at h1;generalize aR env d=x at h1;cases h1<;>simp [eL]
  all_goals (rename_i b; cases b<;>cases want<;>rfl)
theorem nZ(he:dC c n w env a.tmps)(d:Option Nat){x:CV}{v:Value}(hv:VR c n w x v):dC c n w (put? env d x) (a.put d v).tmps:=by
 cases d with
 | none=>exact he
 | some d=>exact he.put hv d
theorem jV(d:Option Nat)(v:Value):(a.put d v).defers=a.defers:=by cases d<;>rfl
theorem qH{call:Tgt→List CV→H→Option (CV × H)}(hcall:ki P call){F:Fence}(hF:iT F){m:Nat}{ops:Array Oper}{i:Nat}{o:Oper}(ho:ops[i]?=some o){q:IOp}(hq:oc P ops o=some q)(r:Rel P c h w)(he:dC c h.n w env a.tmps)
  {env':List CV} {h':H} (hs:opsR call [q] env h=some (env',h')) {K:Act→World→Prop} {Q:Exit→Act→World→Prop}
  (hK:∀c' w' a',Stp P c h w c' h' w'→dC c' h'.n w' env' a'.tmps→a'.defers=a.defers→K a' w'):wpOpIn F m P ops Q i K a w:=by
 unfold wpOpIn;simp only [ho];unfold oc at hq;have key:∀(g:Option (Nat × Bool)),Region.wanted o (yielded ops a.tmps)=grd g env→opsR call [⟨o.dst,(cOp P o.op).getD .bad,g⟩] env h=some (env',h') →
   (if Region.wanted o (yielded ops a.tmps)=true then o.wpIn F m P a w K Q else (∀f,o.about P w a.eval=some f→F.fn f)∧K (a.put o.dst Go.undef) w):=by
  intro g hw hs;rw [hw];simp only [opsR] at hs;cases hg:grd g env with
  | true =>
   rw [hg] at hs;simp only [ac]
   dsimp only at hs
   split at hs
   ·rename_i x h1 hst;simp only [sI,pI] at hs;obtain ⟨rfl,rfl⟩:=hs;exact pf hcall hF r he hst fun c' w' v h1 h2=>hK c' w' _ h1 (nZ (he.evo h1.evo) _ h2) (jV _ _)
   ·cases hs
  | false =>
   rw [hg] at hs;simp only [sI,pI] at hs;obtain ⟨rfl,rfl⟩:=hs;simp only [bj,bX];exact ⟨fun f _=>hF.fn f,hK c w _ (.refl r) (nZ he _ VR.undef) (jV _ _)⟩
 split at hq
 ·rename_i hgd;injection hq with hq; subst hq
  exact key none (by simp [Region.wanted,hgd,grd]) hs
 ·rename_i j want hgd;split at hq
  ·rename_i qq hqq;split at hq
   ·rename_i d hd;injection hq with hq; subst hq
    exact key (some (d,want)) (by simp only [Region.wanted,hgd,grd]; exact jq he hqq hd want) hs
   ·cases hq
  ·cases hq
theorem qD5{call:Tgt→List CV→H→Option (CV × H)}{q:IOp}{l:List IOp}{env env':List CV}{h h':H}(hs:opsR call (q::l) env h=some (env',h')):∃e1 h1,opsR call [q] env h=some (e1,h1)∧opsR call l e1 h1=some (env',h'):=by
 simp only [opsR] at hs ⊢;split at hs
 ·rename_i hg;split at hs
  ·rename_i v h1 hv; exact ⟨_,_,rfl,hs⟩
  ·cases hs
 ·rename_i hg;exact ⟨_,_,rfl,hs⟩
theorem qD4{call:Tgt→List CV→H→Option (CV × H)}(hcall:ki P call){F:Fence}(hF:iT F){m:Nat}{ops:Array Oper}{Q:Exit→Act→World→Prop}:∀(l:List IOp) (i:Nat) (env:List CV) (h:H) (c:Cx) (w:World) (a:Act) (env':List CV) (h':H),
  fi P ops (ops.toList.drop i)=some l→Rel P c h w→dC c h.n w env a.tmps→opsR call l env h=some (env',h') →
  (∀c' w' a',Stp P c h w c' h' w'→dC c' h'.n w' env' a'.tmps→a'.defers=a.defers→Q .normal a' w') →
  wpOpsIn F m P ops Q (List.range' i (ops.size - i)) a w:=by
 intro l
 induction l with
 | nil =>
  intro i env h c w a env' h' hl r he hs hK;have:ops.size - i=0:=by
   cases hd:ops.toList.drop i with
   | nil=>have:=List.drop_eq_nil_iff.1 hd; simp at this; omega
   | cons x xs =>
    rw [hd] at hl;simp only [fi] at hl;split at hl<;>cases hl
  rw [this];simp only [opsR,sI,pI] at hs;obtain ⟨rfl,rfl⟩:=hs;exact hK c w a (.refl r) he rfl
 | cons q l ih =>
  intro i env h c w a env' h' hl r he hs hK;cases hd:ops.toList.drop i with
  | nil=>rw [hd] at hl; cases hl
  | cons o os =>
   rw [hd] at hl;simp only [fi] at hl;split at hl
   ·rename_i q' l' hq hl';injection hl with hl; injection hl with e1 e2; subst e1; subst e2
    have ho:ops[i]?=some o:=by
     have:(ops.toList.drop i)[0]?=some o:=by rw [hd]; rfl
     rw [dP] at this
     simpa using this
    have hlt:i < ops.size:=(gJ.1 ho).1;have hos:ops.toList.drop (i+1)=os:=by
     have:=congrArg (List.drop 1) hd;rw [kW] at this
     simpa using this
    obtain ⟨e1,h1,hs1,hs2⟩:=qD5 hs;have hr:List.range' i (ops.size - i)=i::List.range' (i+1) (ops.size - (i+1)):=by
     rw [show ops.size - i=(ops.size - (i+1))+1 from by omega,List.range'_succ]
    rw [hr,wpOpsIn_cons];refine qH hcall hF ho hq r he hs1 fun c1 w1 a1 s1 he1 hd1=>?_
    refine ih (i+1) e1 h1 c1 w1 a1 env' h' (by rw [hos]; exact hl') s1.rel he1 hs2 fun c2 w2 a2 s2 he2 hd2=>?_
    exact hK c2 w2 a2 (s1.trans s2) he2 (hd2.trans hd1)
   ·cases hl
end Ce
namespace Ce
open Go
abbrev cS:=Tgt→List CV→H→Option (CV × H)
def cS.le(c d:cS):Prop:=∀t a h r,c t a h=some r→d t a h=some r
theorem pg{c d:cS}(hle:cS.le c d)(o:Ins)(env:List CV)(h:H)(r:CV × H)(hr:stepO c o env h=some r):stepO d o env h=some r:=by
 cases o<;>try exact hr
 case callF f as=>exact hle _ _ _ _ hr
 case callV f as =>
  simp only [stepO] at hr ⊢;split at hr
  ·exact hle _ _ _ _ hr
  ·exact hle _ _ _ _ hr
  ·cases hr
theorem sJ{c d:cS}(hle:cS.le c d)(l:List IOp):∀(env:List CV) (h:H) (r:List CV × H),opsR c l env h=some r→opsR d l env h=some r:=by
 induction l with
 | nil=>intro env h r hr; exact hr
 | cons o os ih =>
  intro env h r hr;simp only [opsR] at hr ⊢;cases hg:grd o.guard env with
  | true =>
   rw [hg] at hr
   dsimp only at hr ⊢
   cases hs:stepO c o.op env h with
   | none=>rw [hs] at hr; cases hr
   | some x=>rw [hs] at hr; rw [pg hle _ _ _ _ hs]; exact ih _ _ _ hr
  | false=>rw [hg] at hr; exact ih _ _ _ hr
theorem lX{f g:List CV→H→Option (Ex × List CV × H)}(hfg:∀env h r,f env h=some r→g env h=some r):∀(n m:Nat),n≤m→∀env h r,loopR f n env h=some r→loopR g m env h=some r:=by
 intro n
 induction n with
 | zero=>intro m _ env h r hr; cases hr
 | succ n ih =>
  intro m hm env h r hr;obtain ⟨m,rfl⟩:∃k,m=k+1:=⟨m - 1,by omega⟩;simp only [loopR] at hr ⊢;split at hr
  ·rename_i env' h' hb;rw [hfg _ _ _ hb];exact ih m (by omega) _ _ _ hr
  ·rename_i hb;cases hfb:f env h with
   | none=>rw [hfb] at hr; cases hr
   | some x =>
    rw [hfb] at hr;rw [hfg _ _ _ hfb];obtain ⟨ex,e',h'⟩:=x;cases ex with
    | nor=>exact absurd hfb (hb e' h')
    | jmp j=>exact hr
theorem eD{c d:cS}(hle:cS.le c d){n m:Nat}(hnm:n≤m)(code:IC):∀(env:List CV) (h:H) (r:Ex × List CV × H),exec c n code env h=some r→exec d m code env h=some r:=by
 induction code with
 | skip=>intro env h r hr; exact hr
 | ops l =>
  intro env h r hr;simp only [exec] at hr ⊢;split at hr
  ·rename_i e' h' hs;rw [sJ hle _ _ _ _ hs]; exact hr
  ·cases hr
 | seq a b iha ihb =>
  intro env h r hr;simp only [exec] at hr ⊢;cases ha:exec c n a env h with
  | none=>rw [ha] at hr; cases hr
  | some x =>
   rw [ha] at hr;rw [iha _ _ _ ha];obtain ⟨ex,e',h'⟩:=x;cases ex with
   | nor=>exact ihb _ _ _ hr
   | jmp j=>exact hr
 | cond x a b iha ihb =>
  intro env h r hr;simp only [exec] at hr ⊢;split at hr
  ·exact iha _ _ _ hr
  ·exact ihb _ _ _ hr
  ·cases hr
 | block id a iha =>
  intro env h r hr;simp only [exec] at hr ⊢;cases ha:exec c n a env h with
  | none=>rw [ha] at hr; cases hr
  | some x =>
   rw [ha] at hr;rw [iha _ _ _ ha];exact hr
 | loop a iha =>
  intro env h r hr;simp only [exec] at hr ⊢;exact lX (fun env h r=>iha env h r) _ _ hnm _ _ _ hr
 | rangeF f ps a b _ _ =>
  intro env h r hr;simp only [exec] at hr ⊢;split at hr
  ·rename_i y h' hs;split at hs
   ·rename_i f' x' y' hf;rw [hle _ _ _ _ hs]; exact hr
   ·cases hs
  ·cases hr
 | exit id=>intro env h r hr; exact hr
 | ret=>intro env h r hr; exact hr
theorem eJ(tbl:Nat→Option IF):∀(n m:Nat),n≤m→cS.le (run tbl n) (run tbl m):=by
 intro n
 induction n with
 | zero=>intro m _ t a h r hr; cases t<;>cases hr
 | succ n ih =>
  intro m hm t a h r hr;obtain ⟨m,rfl⟩:∃k,m=k+1:=⟨m - 1,by omega⟩;have hle:=ih m (by omega);have hex:=fun code env h r=>eD hle (show n≤m by omega) code env h r
  cases t with
  | fn f =>
   simp only [run] at hr ⊢;split at hr
   ·rename_i F hF;have hb:∀a h r,bodyR (exec (run tbl n) n F.body) F a h=some r→bodyR (exec (run tbl m) m F.body) F a h=some r:=by
     intro a h r hr;simp only [bodyR] at hr ⊢;cases hb:exec (run tbl n) n F.body (a++cB (F.ntmps - a.length)) h with
     | none=>rw [hb] at hr; cases hr
     | some x=>rw [hb] at hr; rw [hex _ _ _ _ hb]; exact hr
    split at hr
    ·rename_i h2;rw [aH h2];split at hr
     ·rename_i a' h' hz;split at hr
      ·cases hr
      ·rename_i hc;rw [aC hc];cases hbb:bodyR (exec (run tbl n) n F.body) F a' H.empty with
       | none=>rw [hbb] at hr; cases hr
       | some x=>rw [hbb] at hr; rw [hb _ _ _ hbb]; exact hr
     ·cases hr
    ·rename_i h2;rw [aC h2];cases hbg:Nat.beq F.mode 3&&big a with
     | true=>rw [hbg] at hr; exact hr
     | false =>
      rw [hbg] at hr
      dsimp only at hr ⊢
      cases hbb:bodyR (exec (run tbl n) n F.body) F a h with
      | none=>rw [hbb] at hr; cases hr
      | some x=>rw [hbb] at hr; rw [hb _ _ _ hbb]; exact hr
   ·cases hr
  | yl l =>
   simp only [run] at hr ⊢;split at hr
   ·rename_i pend env ps aa bb hl;split at hr
    ·rename_i env' he;cases hb:exec (run tbl n) n aa env' h with
     | none=>rw [hb] at hr; cases hr
     | some x =>
      rw [hb] at hr; rw [hex _ _ _ _ hb];obtain ⟨ex,e1,h1⟩:=x;cases ex with
      | jmp j=>cases hr
      | nor =>
       dsimp only at hr ⊢
       split at hr
       ·rename_i pend' env0 ps' a' b' hl2;cases hb2:exec (run tbl n) n bb e1 (h1.put l (.loop .busy pend' env0 ps' a' b')) with
        | none=>rw [hb2] at hr; cases hr
        | some x=>rw [hb2] at hr; rw [hex _ _ _ _ hb2]; exact hr
       ·cases hr
    ·cases hr
   ·cases hr
section
variable (tbl:Nat→Option IF)
def Wc(c:IC)(env:List CV)(h:H)(Q:Ex→List CV→H→Prop):Prop:=∃n ex env' h',exec (run tbl n) n c env h=some (ex,env',h')∧Q ex env' h'
def Wo(l:List IOp)(env:List CV)(h:H)(Q:List CV→H→Prop):Prop:=∃n env' h',opsR (run tbl n) l env h=some (env',h')∧Q env' h'
def Wf(t:Tgt)(args:List CV)(h:H)(Q:CV→H→Prop):Prop:=∃n v h',run tbl n t args h=some (v,h')∧Q v h'
variable {tbl}
variable {env:List CV} {h:H}
theorem Wf.mono{t:Tgt}{args:List CV}{Q Q':CV→H→Prop}(w:Wf tbl t args h Q)(hq:∀v h',Q v h'→Q' v h'):Wf tbl t args h Q':=by
 obtain ⟨n,v,h',e,q⟩:=w; exact ⟨n,v,h',e,hq _ _ q⟩
theorem Wc.mono{c:IC}{Q Q':Ex→List CV→H→Prop}(w:Wc tbl c env h Q)(hq:∀x e h',Q x e h'→Q' x e h'):Wc tbl c env h Q':=by
 obtain ⟨n,v,e',h',e,q⟩:=w; exact ⟨n,v,e',h',e,hq _ _ _ q⟩
theorem fT{Q:Ex→List CV→H→Prop}(q:Q .nor env h):Wc tbl .skip env h Q:=⟨0,_,_,_,rfl,q⟩
theorem lB{id:Nat}{Q:Ex→List CV→H→Prop}(q:Q (.jmp (.exit id)) env h):Wc tbl (.exit id) env h Q:=⟨0,_,_,_,rfl,q⟩
theorem rX{Q:Ex→List CV→H→Prop}(q:Q (.jmp .ret) env h):Wc tbl .ret env h Q:=⟨0,_,_,_,rfl,q⟩
theorem bE{l:List IOp}{Q:Ex→List CV→H→Prop}(w:Wo tbl l env h (Q .nor)):Wc tbl (.ops l) env h Q:=by
 obtain ⟨n,e,h',r,q⟩:=w;exact ⟨n,_,_,_,by simp only [exec,r],q⟩
def bn(Q:Ex→List CV→H→Prop)(k:List CV→H→Prop):Ex→List CV→H→Prop
 | .nor,e,h=>k e h
 | .jmp j,e,h=>Q (.jmp j) e h
theorem am{a b:IC}{Q:Ex→List CV→H→Prop}(w:Wc tbl a env h (bn Q fun e h=>Wc tbl b e h Q)):Wc tbl (.seq a b) env h Q:=by
 obtain ⟨n,ex,e,h',r,q⟩:=w;cases ex with
 | jmp j=>exact ⟨n,_,_,_,by simp only [exec,r],q⟩
 | nor =>
  obtain ⟨m,ex2,e2,h2,r2,q2⟩:=q;refine ⟨max n m,ex2,e2,h2,?_,q2⟩;have h1:=eD (eJ tbl n (max n m) (by omega)) (show n≤max n m by omega) _ _ _ _ r;have h3:=eD (eJ tbl m (max n m) (by omega)) (show m≤max n m by omega) _ _ _ _ r2;simp only [exec,h1,h3]
theorem eu{x:Opd}{a b:IC}{Q:Ex→List CV→H→Prop}(t:Bool)(hx:x.ev env=.bool t)(ha:t=true→Wc tbl a env h Q)(hb:t=false→Wc tbl b env h Q):Wc tbl (.cond x a b) env h Q:=by
 cases t with
 | true=>obtain ⟨n,ex,e,h',r,q⟩:=ha rfl; exact ⟨n,_,_,_,by simp only [exec,hx]; exact r,q⟩
 | false=>obtain ⟨n,ex,e,h',r,q⟩:=hb rfl; exact ⟨n,_,_,_,by simp only [exec,hx]; exact r,q⟩
def iw(id:Nat)(Q:Ex→List CV→H→Prop):Ex→List CV→H→Prop
 | .nor,e,h=>Q .nor e h
 | .jmp .ret,e,h=>Q (.jmp .ret) e h
 | .jmp (.exit i),e,h=>if i=id then Q .nor e h else Q (.jmp (.exit i)) e h
theorem eP{id:Nat}{a:IC}{Q:Ex→List CV→H→Prop}(w:Wc tbl a env h (iw id Q)):Wc tbl (.block id a) env h Q:=by
 obtain ⟨n,ex,e,h',r,q⟩:=w
 match ex,q with
 | .nor,q=>exact ⟨n,_,_,_,by simp only [exec,r],q⟩
 | .jmp .ret,q=>exact ⟨n,_,_,_,by simp only [exec,r],q⟩
 | .jmp (.exit i),q =>
  simp only [iw] at q;split at q
  ·rename_i hi; exact ⟨n,_,_,_,by simp only [exec,r]; rw [aH hi],q⟩
  ·rename_i hi; exact ⟨n,_,_,_,by simp only [exec,r]; rw [aC hi],q⟩
def loopQ(I:Nat→List CV→H→Prop)(m:Nat)(Q:Ex→List CV→H→Prop):Ex→List CV→H→Prop
 | .nor,e,h=>∃m',m' < m∧I m' e h
 | .jmp j,e,h=>Q (.jmp j) e h
theorem jf{a:IC}{Q:Ex→List CV→H→Prop}(I:Nat→List CV→H→Prop)(m:Nat)(h0:I m env h)(hI:∀m e h,I m e h→Wc tbl a e h (loopQ I m Q)):Wc tbl (.loop a) env h Q:=by
 suffices hs:∀m,∀k,k≤m→∀env h,I k env h→∃n ex e h',loopR (exec (run tbl n) n a) n env h=some (ex,e,h')∧Q ex e h' by
  obtain ⟨n,ex,e,h',r,q⟩:=hs m m (aV _) env h h0;exact ⟨n,ex,e,h',by simp only [exec]; exact r,q⟩
 intro m
 induction m with
 | zero =>
  intro k hk env h hi;obtain ⟨n,ex,e,h',r,q⟩:=hI k env h hi;cases ex with
  | nor=>obtain ⟨m',hm',_⟩:=q; omega
  | jmp j=>exact ⟨n+1,_,_,_,by simp only [loopR,eD (eJ tbl n (n+1) (by omega)) (show n≤n+1 by omega) _ _ _ _ r],q⟩
 | succ m ih =>
  intro k hk env h hi;obtain ⟨n,ex,e,h',r,q⟩:=hI k env h hi;cases ex with
  | jmp j=>exact ⟨n+1,_,_,_,by simp only [loopR,eD (eJ tbl n (n+1) (by omega)) (show n≤n+1 by omega) _ _ _ _ r],q⟩
  | nor =>
   obtain ⟨m',hm',hi'⟩:=q;obtain ⟨n2,ex2,e2,h2,r2,q2⟩:=ih m' (by omega) e h' hi';refine ⟨max n n2+1,ex2,e2,h2,?_,q2⟩;have h1:=eD (eJ tbl n (max n n2+1) (by omega)) (show n≤max n n2+1 by omega) _ _ _ _ r;simp only [loopR,h1];refine lX ?_ _ _ (show n2≤max n n2 by omega) _ _ _ r2;intro env h r hr;exact eD (eJ tbl n2 _ (by omega)) (by omega) _ _ _ _ hr
theorem ay{Q:List CV→H→Prop}(q:Q env h):Wo tbl [] env h Q:=⟨0,_,_,rfl,q⟩
theorem aB{o:IOp}{os:List IOp}{Q:List CV→H→Prop}{v:CV}{h':H}(hg:grd o.guard env=true)(hs:stepO (fun _ _ _=>none) o.op env h=some (v,h'))(w:Wo tbl os (put? env o.dst v) h' Q):Wo tbl (o::os) env h Q:=by
 obtain ⟨n,e,h2,r,q⟩:=w;refine ⟨n,e,h2,?_,q⟩;have:stepO (run tbl n) o.op env h=some (v,h'):=pg (by intro t a h r hr; cases hr) _ _ _ _ hs;simp only [opsR,hg,this];exact r
theorem qMU{o:IOp}{os:List IOp}{Q:List CV→H→Prop}(hg:grd o.guard env=false)(w:Wo tbl os (put? env o.dst undef) h Q):Wo tbl (o::os) env h Q:=by
 obtain ⟨n,e,h2,r,q⟩:=w;refine ⟨n,e,h2,?_,q⟩;simp only [opsR,hg];exact r
theorem dB{d:Option Nat}{g:Option (Nat × Bool)}{o:Ins}{os:List IOp}{Q:List CV→H→Prop}(t:Tgt)(as:List CV)(hg:grd g env=true)(ho:∀c:cS,stepO c o env h=c t as h)
  (w:Wf tbl t as h fun v h'=>Wo tbl os (put? env d v) h' Q):Wo tbl (⟨d,o,g⟩::os) env h Q:=by
 obtain ⟨n,v,h1,r,m,e,h2,r2,q⟩:=w;refine ⟨max n m,e,h2,?_,q⟩;simp only [opsR,hg,ho,eJ tbl n (max n m) (by omega) _ _ _ _ r];exact sJ (eJ tbl m _ (by omega)) _ _ _ _ r2
def qPY(rs:List IRes)(Q:CV→H→Prop):Ex→List CV→H→Prop
 | .nor,e,h | .jmp .ret,e,h=>∃vs,resV rs e h=some vs∧Q (one? vs) h
 | .jmp (.exit _),_,_=>False
def Wb(tbl:Nat→Option IF)(F:IF)(args:List CV)(h:H)(Q:CV→H→Prop):Prop:=∃n v h',bodyR (exec (run tbl n) n F.body) F args h=some (v,h')∧Q v h'
theorem qMY{F:IF}{args:List CV}{Q:CV→H→Prop}(w:Wc tbl F.body (args++cB (F.ntmps - args.length)) h (qPY F.res Q)):Wb tbl F args h Q:=by
 obtain ⟨n,ex,e,h',r,q⟩:=w
 match ex,q with
 | .nor,⟨vs,hv,q⟩=>exact ⟨n,_,_,by simp only [bodyR,r,hv],q⟩
 | .jmp .ret,⟨vs,hv,q⟩=>exact ⟨n,_,_,by simp only [bodyR,r,hv],q⟩
theorem jR{f:Nat}{F:IF}{args:List CV}{Q:CV→H→Prop}(hF:tbl f=some F)(hm:F.mode=0)(w:Wc tbl F.body (args++cB (F.ntmps - args.length)) h (qPY F.res Q)):Wf tbl (.fn f) args h Q:=by
 obtain ⟨n,v,h',r,q⟩:=qMY w;refine ⟨n+1,v,h',?_,q⟩;simp only [run,hF,hm,r];rfl
theorem rW{f:Nat}{F:IF}{args args':List CV}{h1:H}{Q:CV→H→Prop}(hF:tbl f=some F)(hm:F.mode=2)(hz:frzL (frz 20) args h=some (args',h1))(hc:iD args'=true)
  (w:Wb tbl F args' H.empty fun v hs=>∃v' hs' h',xp 20 v (hs,h1)=some (v',hs',h')∧Q v' h'):Wf tbl (.fn f) args h Q:=by
 obtain ⟨n,v,hs,r,v',hs',h',hx,q⟩:=w;refine ⟨n+1,v',h',?_,q⟩;simp only [run,hF,hm,hz,hc,r,hx];rfl
end
end Ce
namespace Ce
open Go
theorem nV:∀(l:List CV) (i j:Nat) (v u:CV),i≠j→aL (aL l i v) j u=aL (aL l j u) i v
 | [],_,_,_,_,_=>rfl
 | x::l,0,0,v,u,h=>absurd rfl h
 | x::l,0,j+1,v,u,h=>rfl
 | x::l,i+1,0,v,u,h=>rfl
 | x::l,i+1,j+1,v,u,h=>by simp only [dG,nV l i j v u (by omega)]
theorem j5:∀(l:List CV) (i j:Nat) (v:CV),i≠j→aR (aL l j v) i=aR l i
 | [],_,_,_,_=>rfl
 | x::l,0,0,v,h=>absurd rfl h
 | x::l,0,j+1,v,h=>rfl
 | x::l,i+1,0,v,h=>rfl
 | x::l,i+1,j+1,v,h=>by simp only [dG,bL,j5 l i j v (by omega)]
theorem uy:∀(l:List CV) (i:Nat) (v u:CV),aL (aL l i v) i u=aL l i u
 | [],_,_,_=>rfl
 | x::l,0,v,u=>rfl
 | x::l,i+1,v,u=>by simp only [dG,uy l i v u]
theorem rz:∀(l:List CV) (i:Nat) (v u:CV),aR (aL l i v) i=u→aL l i u=aL l i v
 | [],_,_,_,_=>rfl
 | x::l,0,v,u,h=>by simp only [jA,fC] at h ⊢; rw [h]
 | x::l,i+1,v,u,h=>by simp only [dG,bL] at h ⊢; rw [rz l i v u h]
variable {d:Nat} {v:CV} {env:List CV} {h:H}
theorem mf:∀{x:Opd},x.free d=true→x.ev (aL env d v)=x.ev env
 | .t i,hf=>by simp only [Opd.free,jj,dY] at hf; simp only [Opd.ev]; exact j5 env i d v hf
 | .c _,_=>rfl
theorem wW:∀{xs:List Opd},m8 d xs=true→evs (aL env d v) xs=evs env xs
 | [],_=>rfl
 | x::xs,hf=>by
  simp only [m8,aT] at hf;simp only [evs,mf hf.1,wW hf.2]
theorem qLH:∀{x:Option Opd},m7 d x=true→Opd.evo (aL env d v) x=Opd.evo env x
 | none,_=>rfl
 | some x,hf=>by simp only [Opd.evo]; rw [mf hf]
theorem sq:∀(ps:List (Nat × Nat × Opd)) (z:List CV),qBD d ps=true→cG z (aL env d v) ps=cG z env ps
 | [],_,_=>rfl
 | (a,n,x)::ps,z,hf=>by
  simp only [qBD,aT] at hf;simp only [cG,mf hf.1,fun z=>sq ps z hf.2]
theorem oI(k:Nat):∀(ps:List (Nat × Opd)) (z:List CV),qBC d ps=true→gU k z (aL env d v) ps=gU k z env ps
 | [],_,_=>rfl
 | (a,x)::ps,z,hf=>by
  simp only [qBC,aT] at hf;simp only [gU,mf hf.1,fun z=>oI k ps z hf.2]
theorem x9{call:cS}{o:Ins}(hf:o.free d=true):stepO call o (aL env d v) h=stepO call o env h:=by
 cases o<;>simp only [Ins.free,aT] at hf<;>simp_all only [stepO,mf,wW,qLH,sq,oI]
theorem qc{g:Option (Nat × Bool)}(hf:(match g with | none=>true | some (s,_)=>s != d)=true):grd g (aL env d v)=grd g env:=by
 cases g with
 | none=>rfl
 | some p =>
  obtain ⟨s,b⟩:=p;simp only [jj,dY] at hf;simp only [grd,j5 env s d v hf]
theorem sH{call:cS}{o:Ins}(hk:o.kind=0){x:CV}{h':H}(hs:stepO call o env h=some (x,h')):h'=h∧∀h2,stepO call o env h2=some (x,h2):=by
  cases o<;>simp only [Ins.kind,reduceCtorEq,Nat.reduceEqDiff] at hk
  all_goals (
    simp only [stepO] at hs ⊢
    (repeat' (split at hs))
    all_goals first
      | (cases hs; done)
      | (simp only [sI,pI] at hs
         obtain ⟨rfl,rfl⟩:=hs;refine ⟨rfl,fun h2=>?_⟩;simp_all))
theorem qCY{call:cS}{o:Ins}(hk:o.kind≤1){x:CV}{h':H}(hs:stepO call o env h=some (x,h')):h'=h:=by
  cases o<;>simp only [Ins.kind,Nat.not_succ_le_self,Nat.reduceLeDiff,fV,aV] at hk
  all_goals (
    simp only [stepO] at hs
    (repeat' (split at hs))
    all_goals first
      | (cases hs; done)
      | (simp only [sI,pI] at hs
         exact hs.2.symm))
end Ce
namespace Ce
open Go
variable {call:cS} {env:List CV} {h:H}
noncomputable def val(call:cS)(q:IOp)(env:List CV)(h:H):Option (CV × H):=match grd q.guard env with
 | true=>stepO call q.op env h
 | false=>some (undef,h)
theorem gR(q:IOp):opsR call [q] env h=match val call q env h with
  | some (v,h')=>some (put? env q.dst v,h')
  | none=>none:=by
 simp only [opsR,val];cases grd q.guard env with
 | true=>cases stepO call q.op env h<;>rfl
 | false=>rfl
theorem bW(q:IOp)(l:List IOp):opsR call (q::l) env h=match opsR call [q] env h with
  | some (e,h')=>opsR call l e h'
  | none=>none:=by
 rw [gR];simp only [opsR,val];cases grd q.guard env with
 | true=>cases stepO call q.op env h<;>rfl
 | false=>rfl
theorem qd{d:Nat}{q:IOp}(hf:q.free d=true){v:CV}:val call q (aL env d v) h=val call q env h:=by
 simp only [IOp.free,aT] at hf;simp only [val,qc hf.2,x9 hf.1]
theorem gQ{a x:IOp}(hf:cW a x=true){v:CV}:val call x (put? env a.dst v) h=val call x env h:=by
 unfold cW at hf;cases hd:a.dst with
 | none=>rfl
 | some d=>rw [hd] at hf; exact qd hf
theorem um{q:IOp}(hk:q.op.kind=0){x:CV}{h':H}(hs:val call q env h=some (x,h')):h'=h∧∀h2,val call q env h2=some (x,h2):=by
 simp only [val] at hs ⊢;cases hg:grd q.guard env with
 | true=>rw [hg] at hs; exact sH hk hs
 | false =>
  rw [hg] at hs;simp only [sI,pI] at hs;obtain ⟨rfl,rfl⟩:=hs;exact ⟨rfl,fun _=>rfl⟩
theorem gn{q:IOp}(hk:q.op.kind≤1){x:CV}{h':H}(hs:val call q env h=some (x,h')):h'=h:=by
 simp only [val] at hs;cases hg:grd q.guard env with
 | true=>rw [hg] at hs; exact qCY hk hs
 | false =>
  rw [hg] at hs;simp only [sI,pI] at hs;exact hs.2.symm
theorem ko{a x:IOp}(ha:apart a x=true)(u v:CV):put? (put? env a.dst u) x.dst v=put? (put? env x.dst v) a.dst u:=by
 simp only [apart,aT] at ha;cases hd:a.dst with
 | none=>rfl
 | some d =>
  cases he:x.dst with
  | none=>rfl
  | some e =>
   rw [hd,he] at ha;simp only [jj,dY] at ha;exact nV env d e u v ha.2
theorem swap1{a x:IOp}(hap:apart a x=true)(hk:rm a.op.kind x.op.kind=true){s1 s2:List CV × H}(h1:opsR call [a] env h=some s1)(h2:opsR call [x] s1.1 s1.2=some s2) :
  ∃t,opsR call [x] env h=some t∧opsR call [a] t.1 t.2=some s2:=by
 have hap':=hap;simp only [apart,aT] at hap';obtain ⟨⟨f1,f2⟩,_⟩:=hap';rw [gR] at h1 h2;cases hva:val call a env h with
 | none=>rw [hva] at h1; cases h1
 | some p =>
  obtain ⟨va,ha⟩:=p;rw [hva] at h1;simp only [sI] at h1;subst h1
  dsimp only at h2
  rw [gQ f1] at h2;cases hvx:val call x env ha with
  | none=>rw [hvx] at h2; cases h2
  | some p =>
   obtain ⟨vx,hx⟩:=p;rw [hvx] at h2;simp only [sI] at h2;subst h2;have key:∃hx',val call x env h=some (vx,hx')∧val call a env hx'=some (va,hx):=by
    simp only [rm,bU,aZ,aT,dT] at hk;rcases hk with (hk | hk) | ⟨k1,k2⟩
    ·obtain ⟨rfl,hall⟩:=um hk hva;exact ⟨hx,hvx,hall hx⟩
    ·obtain ⟨rfl,hall⟩:=um hk hvx;exact ⟨h,hall h,hva⟩
    ·have e1:=gn k1 hva;have e2:=gn k2 hvx;subst e1; subst e2;exact ⟨_,hvx,hva⟩
   obtain ⟨hx',k1,k2⟩:=key;refine ⟨(put? env x.dst vx,hx'),by rw [gR,k1],?_⟩;rw [gR]
   dsimp only
   rw [gQ f2,k2]
   dsimp only
   rw [ko hap]
mutual
theorem kU:∀(x y:CV),bA x y=true→x=y
 | .bool a,y,h=>by cases y<;>simp_all [bA]
 | .int k a,y,h=>by cases y<;>simp_all [bA]
 | .str a,y,h=>by
  cases y<;>simp only [bA,bj] at h;rename_i b;rw [aZ,ByteArray.toList_eq,ByteArray.toList_eq] at h;cases a; cases b; simp at h; rw [h]
 | .nilp,y,h=>by cases y<;>simp_all [bA]
 | .ptr r o,y,h=>by cases y<;>simp_all [bA]
 | .rptr c,y,h=>by cases y<;>simp_all [bA]
 | .nils,y,h=>by cases y<;>simp_all [bA]
 | .slc k r o l c,y,h=>by cases y<;>simp_all [bA]
 | .lst xs e,y,h=>by
  cases y<;>simp only [bA,bj,aT,aZ] at h;rw [rG _ _ h.1,h.2]
 | .nilm,y,h=>by cases y<;>simp_all [bA]
 | .map r,y,h=>by cases y<;>simp_all [bA]
 | .nilf,y,h=>by cases y<;>simp_all [bA]
 | .clo f a b,y,h=>by
  cases y<;>simp only [bA,bj,aT,aZ] at h;rw [h.1.1,fE _ _ h.1.2,fE _ _ h.2]
 | .yld r,y,h=>by cases y<;>simp_all [bA]
 | .nili,y,h=>by cases y<;>simp_all [bA]
 | .ifc t v,y,h=>by cases y<;>simp_all [bA]
 | .agg xs,y,h=>by
  cases y<;>simp only [bA,bj] at h;rw [fE _ _ h]
 | .tup xs,y,h=>by
  cases y<;>simp only [bA,bj] at h;rw [fE _ _ h]
theorem fE:∀(xs ys:List CV),ew xs ys=true→xs=ys
 | [],ys,h=>by cases ys<;>simp_all [ew]
 | x::xs,ys,h=>by
  cases ys<;>simp only [ew,bj,aT] at h;rw [kU _ _ h.1,fE _ _ h.2]
theorem rG:∀(xs ys:List (List CV)),gV xs ys=true→xs=ys
 | [],ys,h=>by cases ys<;>simp_all [gV]
 | x::xs,ys,h=>by
  cases ys<;>simp only [gV,bj,aT] at h;rw [fE _ _ h.1,rG _ _ h.2]
end
theorem qLY{a:IOp}(hld:a.isLd=true):∃d,a.dst=some d∧a.op.kind=1∧∀env h s,val call (cH a) env h=some s→grd a.guard env=true→val call a env h=some (aR env d,h):=by
 obtain ⟨ad,ao,ag⟩:=a;cases ad with
 | none=>cases hld
 | some d =>
  cases ao with
  | ld g ad =>
   refine ⟨d,rfl,rfl,fun env h s hs hg=>?_⟩
   dsimp only at hg
   simp only [cH,val,hg,stepO] at hs ⊢;cases hl:ldV g (ad.ev env) h with
   | none=>rw [hl] at hs; cases hs
   | some v =>
    rw [hl] at hs
    dsimp only at hs ⊢
    cases hb:bA v (Opd.ev env (Opd.t d)) with
    | true=>rw [kU _ _ hb]; rfl
    | false=>rw [hb] at hs; simp at hs
  | lku g ls z x i ok =>
   refine ⟨d,rfl,rfl,fun env h s hs hg=>?_⟩
   dsimp only at hg
   simp only [cH,val,hg,stepO] at hs ⊢;cases hl:lkuV g ls z (x.ev env) (i.ev env) ok h with
   | none=>rw [hl] at hs; cases hs
   | some v =>
    rw [hl] at hs
    dsimp only at hs ⊢
    cases hb:bA v (Opd.ev env (Opd.t d)) with
    | true=>rw [kU _ _ hb]; rfl
    | false=>rw [hb] at hs; simp at hs
  | _=>cases hld
theorem qAU{a x:IOp}(hf:cW a x=true){v:CV}:grd x.guard (put? env a.dst v)=grd x.guard env:=by
 unfold cW at hf;cases hd:a.dst with
 | none=>rfl
 | some d =>
  rw [hd] at hf;simp only [IOp.free,aT] at hf;exact qc hf.2
theorem swap2{a x:IOp}(hap:apart a x=true)(hld:a.isLd=true)(hself:cW a a=true){s1 s2:List CV × H}(h1:opsR call [a] env h=some s1)(h2:opsR call [x] s1.1 s1.2=some s2)(hc:opsR call [cH a] s2.1 s2.2=some s2) :
  ∃t,opsR call [x] env h=some t∧opsR call [a] t.1 t.2=some s2:=by
 have hap':=hap;simp only [apart,aT] at hap';obtain ⟨⟨f1,f2⟩,_⟩:=hap';obtain ⟨d,hd,hk,hsp⟩:=qLY (call:=call) hld;rw [gR] at h1 h2;cases hva:val call a env h with
 | none=>rw [hva] at h1; cases h1
 | some p =>
  obtain ⟨va,ha⟩:=p;rw [hva] at h1;simp only [sI] at h1;subst h1
  dsimp only at h2
  rw [gQ f1] at h2;have e1:=gn (Nat.le_of_eq hk) hva;subst e1;cases hvx:val call x env ha with
  | none=>rw [hvx] at h2; cases h2
  | some p =>
   obtain ⟨vx,hx⟩:=p;rw [hvx] at h2;simp only [sI] at h2;subst h2;have hE:put? (put? env a.dst va) x.dst vx=put? (put? env x.dst vx) a.dst va:=ko hap va vx;refine ⟨(put? env x.dst vx,hx),by rw [gR,hvx],?_⟩;rw [gR] at hc ⊢
   dsimp only at hc ⊢
   rw [hE] at hc ⊢;have hv2:val call a (put? (put? env x.dst vx) a.dst va) hx=val call a env hx:=(gQ hself).trans (gQ f2);have hg2:grd a.guard (put? (put? env x.dst vx) a.dst va)=grd a.guard env:=(qAU hself).trans (qAU f2);rw [gQ f2];cases hg:grd a.guard env with
   | false =>
    have q1:va=undef:=by
     simp only [val,hg,sI,pI] at hva; exact hva.1.symm
    have q2:val call a env hx=some (undef,hx):=by simp only [val,hg]
    rw [q2,q1]
   | true =>
    cases hck:val call (cH a) (put? (put? env x.dst vx) a.dst va) hx with
    | none=>rw [hck] at hc; cases hc
    | some s =>
     have:=hsp _ _ _ hck (hg2.trans hg);rw [hv2] at this;rw [this,hd];simp only;exact congrArg (fun e=>some (e,hx)) (rz _ _ _ _ rfl)
def xT(x:IOp)(ks:List IOp):List IOp→Prop
 | []=>True
 | a::L=>apart a x=true∧(rm a.op.kind x.op.kind=true∨(a.isLd=true∧a.op.kind≤1∧cW a a=true∧cH a∈ks∧∀b∈L,cW b (cH a)=true∧b.op.kind≤1))∧xT x ks L
theorem qG1{k:IOp}(hk:k.op.kind≤1)(hd:k.dst=none){s:List CV × H}(hs:opsR call [k] env h=some s):s=(env,h):=by
 rw [gR] at hs;cases hv:val call k env h with
 | none=>rw [hv] at hs; cases hs
 | some p =>
  obtain ⟨v,h'⟩:=p;rw [hv,hd] at hs;simp only [sI] at hs;rw [←hs,gn hk hv];rfl
theorem pull{x:IOp}{ks:List IOp}(hks:∀k∈ks,k.op.kind≤1∧k.dst=none){B:List IOp}{r:List CV × H}:∀(L:List IOp) (env:List CV) (h:H),xT x ks L→opsR call (L++(x::ks++B)) env h=some r →
  ∃s,opsR call [x] env h=some s∧(∀k∈ks,(∀b∈L,cW b k=true∧b.op.kind≤1)→opsR call [k] s.1 s.2=some s)∧opsR call (L++B) s.1 s.2=some r
 | [],env,h,_,hr=>by
  rw [eX,eI,bW] at hr;cases hx:opsR call [x] env h with
  | none=>rw [hx] at hr; cases hr
  | some s =>
   rw [hx] at hr
   dsimp only at hr
   refine ⟨s,rfl,?_⟩;have:∀(ks:List IOp),(∀k∈ks,k.op.kind≤1∧k.dst=none)→opsR call (ks++B) s.1 s.2=some r→(∀k∈ks,opsR call [k] s.1 s.2=some s)∧opsR call B s.1 s.2=some r:=by
    intro ks
    induction ks with
    | nil=>intro _ hr; exact ⟨by simp,hr⟩
    | cons k ks ih =>
     intro hks hr;rw [eI,bW] at hr;cases hk:opsR call [k] s.1 s.2 with
     | none=>rw [hk] at hr; cases hr
     | some s' =>
      have he:=qG1 (hks k (by simp)).1 (hks k (by simp)).2 hk;rw [hk,he] at hr;obtain ⟨i1,i2⟩:=ih (fun k hk=>hks k (by simp [hk])) hr;refine ⟨fun k' hk'=>?_,i2⟩;rcases aS.1 hk' with rfl | hk'
      ·rw [hk,he]
      ·exact i1 k' hk'
   obtain ⟨i1,i2⟩:=this ks hks hr;exact ⟨fun k hk _=>i1 k hk,i2⟩
 | a::L,env,h,hp,hr=>by
  obtain ⟨hap,hor,hp'⟩:=hp;rw [eI,bW] at hr;cases ha:opsR call [a] env h with
  | none=>rw [ha] at hr; cases hr
  | some s1 =>
   rw [ha] at hr;obtain ⟨s2,g1,g2,g3⟩:=pull hks L s1.1 s1.2 hp' hr;have hsw:∃t,opsR call [x] env h=some t∧opsR call [a] t.1 t.2=some s2:=by
    rcases hor with hk | ⟨q1,q2,q3,q4,q5⟩
    ·exact swap1 hap hk ha g1
    ·exact swap2 hap q1 q3 ha g1 (g2 _ q4 q5)
   obtain ⟨t,t1,t2⟩:=hsw;refine ⟨t,t1,fun k hk hL=>?_,by rw [eI,bW,t2]; exact g3⟩;have hsk:=g2 k hk (fun b hb=>hL b (by simp [hb]));obtain ⟨fa,ka⟩:=hL a (by simp);obtain ⟨k1,k2⟩:=hks k hk;rw [gR] at t2;cases hva:val call a t.1 t.2 with
   | none=>rw [hva] at t2; cases t2
   | some p =>
    obtain ⟨va,ha'⟩:=p;rw [hva] at t2;simp only [sI] at t2;subst t2;have e:=gn ka hva;subst e;rw [gR] at hsk ⊢
    dsimp only at hsk
    rw [gQ fa] at hsk;cases hvk:val call k t.1 t.2 with
    | none=>rw [hvk] at hsk; cases hsk
    | some p =>
     obtain ⟨vk,hk'⟩:=p;have e:=gn k1 hvk;subst e;simp only [k2];rfl
end Ce
namespace Ce
open Go
theorem je{α:Type}{r:α→α→Bool}:∀{l:List α},jN r l=true↔l.Pairwise (fun a b=>r a b=true)
 | []=>by simp [jN]
 | a::l=>by simp [jN,je,jl]
theorem kP{q:IOp}(h:q.isLd=true):(cH q).op.kind≤1∧(cH q).dst=none:=by
 obtain ⟨d,o,g⟩:=q;cases d with
 | none=>cases h
 | some d=>cases o<;>first | exact ⟨aV _,rfl⟩ | cases h
theorem iZ{q:IOp}(h:q.isLd=true):q.op.kind=1:=by
 obtain ⟨d,o,g⟩:=q;cases d with
 | none=>cases h
 | some d=>cases o<;>first | rfl | cases h
theorem bc(l:List IOp):∀(A B:List It),az l (A++B)=az l A++az l B
 | [],B=>rfl
 | x::A,B=>by simp [az,bc l A B]
structure IOk (b:List Nat) (l:List IOp) (its:List It):Prop where
 pair:its.Pairwise (fun a x=>fK b l its a x=true)
 ks:∀x∈its,((qAt l x.i).op.kind=2∨x.ks=[])∧∀k∈x.ks,(qAt l k).isLd=true∧cW (qAt l k) (qAt l k)=true
theorem IOk.of{b:List Nat}{l:List IOp}{its:List It}(h:uN b l its=true):IOk b l its:=by
 simp only [uN,aT,je,jO,bU,dT,List.isEmpty_iff] at h;exact ⟨h.1,fun x hx=>⟨(h.2 x hx).1,fun k hk=>(h.2 x hx).2 k hk⟩⟩
theorem qA{b:List Nat}{l:List IOp}{its:List It}(ok:IOk b l its){x:It}(hx:x∈its):∀(A:List It),(∀a∈A,a∈its)→A.Pairwise (fun a y=>fK b l its a y=true)→(∀a∈A,fK b l its a x=true∧(b.getD x.i 0).testBit a.i=false) →
  xT (qAt l x.i) (x.ks.map fun k=>cH (qAt l k)) (az l A)
 | [],_,_,_=>trivial
 | a::A,hin,hpw,hax=>by
  obtain ⟨h1,h2⟩:=hax a (by simp);have ih:=qA ok hx A (fun y hy=>hin y (by simp [hy])) (jl.1 hpw).2 (fun y hy=>hax y (by simp [hy]));simp only [fK,h2,Bool.false_or,aT,jj,dY,jO] at h1;obtain ⟨⟨⟨hsw,hne⟩,hafter⟩,hchk⟩:=h1;simp only [jr,aT,bU] at hsw;obtain ⟨hap,hor⟩:=hsw;have hwr:∀y∈A,(x.ks≠[])→(qAt l y.i).op.kind≤1∧y.ks=[]:=by
   intro y hy hne;have hk2:=((ok.ks x hx).1).resolve_right hne;obtain ⟨p1,p2⟩:=hax y (by simp [hy]);simp only [fK,p2,Bool.false_or,aT] at p1;have hs:=p1.1.1.1;simp only [jr,aT,bU] at hs;have hky:(qAt l y.i).op.kind≤1:=by
    rcases hs.2 with hk | hk
    ·simp only [rm,hk2,bU,aZ,aT,dT] at hk;rcases hk with (hk | hk) | hk<;>omega
    ·rw [iZ hk.1]; exact aV _
   refine ⟨hky,?_⟩;rcases (ok.ks y (hin y (by simp [hy]))).1 with h | h
   ·omega
   ·exact h
  have hrest:xT (qAt l x.i) (x.ks.map fun k=>cH (qAt l k)) ((a.ks.map fun k=>cH (qAt l k))++az l A):=by
   have:∀(ks:List Nat),(∀k∈ks,k∈a.ks)→xT (qAt l x.i) (x.ks.map fun k=>cH (qAt l k)) ((ks.map fun k=>cH (qAt l k))++az l A):=by
    intro ks
    induction ks with
    | nil=>intro _; exact ih
    | cons k ks ihk =>
     intro hks;have hka:=hks k (by simp);have hld:=((ok.ks a (hin a (by simp))).2 k hka).1;obtain ⟨c1,c2⟩:=kP hld;have hka2:(qAt l a.i).op.kind=2:=((ok.ks a (hin a (by simp))).1).resolve_right (by intro e; rw [e] at hka; cases hka);refine ⟨?_,.inl ?_,ihk fun k' hk'=>hks k' (by simp [hk'])⟩
     ·simp only [apart,aT];refine ⟨⟨by simp [cW,c2],hchk k hka⟩,by rw [c2]⟩
     ·simp only [rm,bU,aZ,aT,dT];rcases hor with hk | hk
      ·simp only [rm,hka2,bU,aZ,aT,dT] at hk;rcases hk with (hk | hk) | hk
       ·omega
       ·exact .inl (.inr hk)
       ·omega
      ·have:=iZ hk.1; omega
   exact this a.ks fun k hk=>hk
  refine ⟨hap,?_,hrest⟩;rcases hor with hk | ⟨hl,hmem⟩
  ·exact .inl hk
  ·have hmem':a.i∈x.ks:=by simpa using hmem
   have hne':x.ks≠[]:=by intro e; rw [e] at hmem'; cases hmem'
   refine .inr ⟨hl,Nat.le_of_eq (iZ hl),((ok.ks x hx).2 _ hmem').2,cI.2 ⟨a.i,hmem',rfl⟩,?_⟩;have ha0:a.ks=[]:=by
    rcases (ok.ks a (hin a (by simp))).1 with h | h
    ·have:=iZ hl; omega
    ·exact h
   rw [ha0];simp only [iI,eX];have hflat:∀(A':List It),(∀y∈A',y∈A)→∀q∈az l A',∃y∈A',q=qAt l y.i:=by
    intro A'
    induction A' with
    | nil=>intro _ q hq; cases hq
    | cons y A' ihA =>
     intro hsub q hq;have hy0:=(hwr y (hsub y (by simp)) hne').2;simp only [az,hy0,iI,eI,eX,aS] at hq;rcases hq with rfl | hq
     ·exact ⟨y,by simp,rfl⟩
     ·obtain ⟨z,hz,e⟩:=ihA (fun z hz=>hsub z (by simp [hz])) q hq;exact ⟨z,by simp [hz],e⟩
   intro q hq;obtain ⟨y,hy,rfl⟩:=hflat A (fun y hy=>hy) q hq;refine ⟨?_,(hwr y hy hne').1⟩;have hay:=(jl.1 hpw).1 y hy;simp only [fK,aT,bU,Bool.not_eq_true'] at hay;rcases hay.1.2 with h | h
   ·exfalso;rw [List.any_eq_false] at h;have:=h x hx;simp [hmem'] at this
   ·exact h
theorem qCJ{call:cS}{b:List Nat}{l:List IOp}{its:List It}(ok:IOk b l its){A B:List It}{x:It}(hsub:(A++x::B).Sublist its)(hx:∀a∈A,(b.getD x.i 0).testBit a.i=false)
  {env:List CV} {h:H} {r:List CV × H} (hr:opsR call (az l (A++x::B)) env h=some r):∃s,opsR call [qAt l x.i] env h=some s∧opsR call (az l (A++B)) s.1 s.2=some r:=by
 have hpw:=ok.pair.sublist hsub;have hmem:∀y∈A++x::B,y∈its:=fun y hy=>hsub.subset hy
 rw [tS] at hpw;obtain ⟨pA,pB,pAB⟩:=hpw;have hp:=qA ok (hmem x (by simp)) A (fun a ha=>hmem a (by simp [ha])) pA (fun a ha=>⟨pAB a ha x (by simp),hx a ha⟩);rw [bc] at hr;have hf:az l (x::B)=qAt l x.i::(x.ks.map fun k=>cH (qAt l k))++az l B:=rfl;rw [hf] at hr;obtain ⟨s,s1,_,s3⟩:=pull (call:=call) (ks:=x.ks.map fun k=>cH (qAt l k)) (by
  intro k hk;obtain ⟨j,hj,rfl⟩:=cI.1 hk;exact kP ((ok.ks x (hmem x (by simp))).2 j hj).1) (az l A) env h hp hr
 exact ⟨s,s1,by rw [bc]; exact s3⟩
end Ce
namespace Ce
open Go
variable {P:Program} {c:Cx} {h:H} {w:World} {env:List CV} {a:Act} {n:Nat}
theorem oH{ops:Array Oper}:∀{os:List Oper} {l:List IOp} {i:Nat} {o:Oper},fi P ops os=some l→os[i]?=some o→∃q,l[i]?=some q∧oc P ops o=some q
 | [],l,i,o,_,h=>by simp at h
 | o'::os,l,i,o,hl,h=>by
  simp only [fi] at hl;split at hl
  ·rename_i q qs hq hqs;simp only [sI] at hl;subst hl;cases i with
   | zero=>simp at h; subst h; exact ⟨q,rfl,hq⟩
   | succ i=>simpa using oH hqs (by simpa using h)
  ·cases hl
theorem jM{b:List Nat}:∀{os:List Oper} {k i:Nat} {o:Oper},rM b k os=true→os[i]?=some o→(∀j∈oq o,j < k+i)∧b.getD (k+i) 0=jd b (oq o)
 | [],k,i,o,_,h=>by simp at h
 | o'::os,k,i,o,hl,h=>by
  simp only [rM,aT,jO,dT,aZ] at hl;cases i with
  | zero=>simp at h; subst h; exact ⟨fun j hj=>hl.1.1 j hj,hl.1.2⟩
  | succ i =>
   obtain ⟨h1,h2⟩:=jM hl.2 (i:=i) (by simpa using h);exact ⟨fun j hj=>by have:=h1 j hj; omega,by rw [←h2]; congr 1; omega⟩
theorem i5{b:List Nat}{x:Nat}:∀{ds:List Nat},(jd b ds).testBit x=true→∃j∈ds,x=j∨(b.getD j 0).testBit x=true
 | [],h=>by simp [jd] at h
 | j::ds,h=>by
  simp only [jd,Nat.testBit_or,bU,Nat.testBit_two_pow,dT] at h;rcases h with (h | h) | h
  ·exact ⟨j,by simp,.inl h.symm⟩
  ·exact ⟨j,by simp,.inr h⟩
  ·obtain ⟨k,hk,e⟩:=i5 h;exact ⟨k,by simp [hk],e⟩
section
variable {ops:Array Oper} {b:List Nat}
def Lst(listed:Array Bool)(i:Nat):Prop:=listed.getD i false=true
theorem rL(hanc:rM b 0 ops.toList=true){listed:Array Bool}(hsz:listed.size=ops.size)(hcl:∀(i:Nat) (o:Oper),ops[i]?=some o→Lst listed i→∀j∈oq o,Lst listed j) :
  ∀(j:Nat),Lst listed j→∀x,(b.getD j 0).testBit x=true→Lst listed x:=by
 intro j
 induction j using Nat.strongRecOn with
 | _ j ih =>
  intro hj x hx;have hlt:j < ops.size:=by
   rcases i7 j ops.size with h | h
   ·exact h
   ·unfold Lst at hj; rw [jn,jm (by omega)] at hj; cases hj
  obtain ⟨o,ho⟩:∃o,ops[j]?=some o:=⟨ops[j],by simp [hlt]⟩;obtain ⟨h1,h2⟩:=jM hanc (i:=j) (o:=o) (by simpa using ho);rw [dg] at h2;rw [h2] at hx;obtain ⟨k,hk,e⟩:=i5 hx;have hkl:=hcl j o ho hj k hk;rcases e with rfl | e
  ·exact hkl
  ·exact ih k (by have:=h1 k hk; omega) hkl x e
theorem ga{listed:Array Bool}(hsz:listed.size=ops.size){i:Nat}:i∈Region.ready .any ops listed↔∃o,ops[i]?=some o∧¬Lst listed i∧∀j∈oq o,Lst listed j:=by
 unfold Region.ready;rw [nD,List.mem_range];constructor
 ·rintro ⟨hi,hc⟩;simp only [aT,Bool.not_eq_true'] at hc;have ho:ops[i]?=some ops[i]:=by simp [hi]
  refine ⟨ops[i],ho,?_,?_⟩
  ·unfold Lst;have:i < listed.size:=by omega
   have hc1:=hc.1;rw [jn,xK this] at hc1 ⊢;simp at hc1 ⊢;exact hc1
  ·have hc2:=hc.2;rw [ho] at hc2;simp only [dh,rR,Array.all_eq_true'] at hc2;intro j hj;simp only [oq,cI,nD] at hj;obtain ⟨e,⟨he,hb⟩,rfl⟩:=hj;have:=hc2 e (by simpa using he);simp only [hb,Bool.not_true,Bool.false_or] at this;exact this
 ·rintro ⟨o,ho,hn,hd⟩;have hi:=(gJ.1 ho).1;refine ⟨hi,?_⟩;simp only [aT,Bool.not_eq_true'];refine ⟨?_,?_⟩
  ·have:i < listed.size:=by omega
   unfold Lst at hn;rw [jn,xK this] at hn ⊢;simp at hn ⊢;exact hn
  ·rw [ho];simp only [dh,rR,Array.all_eq_true'];intro e he;cases hb:Region.binds .any e with
   | false=>rfl
   | true =>
    simp only [Bool.not_true,Bool.false_or];exact hd e.on (by simp only [oq,cI,nD]; exact ⟨e,⟨by simpa using he,hb⟩,rfl⟩)
theorem iY{listed:Array Bool}{i j:Nat}(hi:i < listed.size):Lst (listed.setIfInBounds i true) j↔(j=i∨Lst listed j):=by
 unfold Lst;rw [jn,jn,nJ];by_cases h:i=j
 ·subst h; simp [hi]
 ·simp [h,Ne.symm h]
theorem qI7:∀{l:List It},l.Pairwise (fun a x=>a.i≠x.i)→∀{x y:It},x∈l→y∈l→x≠y→x.i≠y.i
 | [],_,x,y,hx,_,_=>by cases hx
 | z::l,hp,x,y,hx,hy,hne=>by
  obtain ⟨h1,h2⟩:=jl.1 hp;rcases aS.1 hx with e1 | hx1<;>rcases aS.1 hy with e2 | hy1
  ·exact absurd (e1.trans e2.symm) hne
  ·rw [e1]; exact h1 y hy1
  ·rw [e2]; exact fun e=>h1 x hx1 e.symm
  ·exact qI7 h2 hx1 hy1 hne
theorem qG6{call:Tgt→List CV→H→Option (CV × H)}(hcall:ki P call){F:Fence}(hF:iT F){m:Nat}{l:List IOp}{its:List It}(hl:fi P ops ops.toList=some l)(hanc:rM b 0 ops.toList=true)(ok:IOk b l its)
  (hidx:∀i,i < ops.size→∃x∈its,x.i=i) {Q:Exit→Act→World→Prop} :
  ∀(fuel:Nat) (R:List It) (listed:Array Bool) (env:List CV) (h:H) (c:Cx) (w:World) (a:Act) (env':List CV) (h':H),R.length=fuel→R.Sublist its→listed.size=ops.size→(∀x∈its,x∈R↔¬Lst listed x.i) →
   (∀(i:Nat) (o:Oper),ops[i]?=some o→Lst listed i→∀j∈oq o,Lst listed j) →
   Rel P c h w→dC c h.n w env a.tmps→opsR call (az l R) env h=some (env',h') →
   (∀c' w' a',Stp P c h w c' h' w'→dC c' h'.n w' env' a'.tmps→a'.defers=a.defers→Q .normal a' w') →
   wpAnyIn F m P .any ops Q fuel listed a w:=by
 have hne:∀x∈its,∀y∈its,x.i=y.i→x=y:=by
  intro x hx y hy e;by_cases hxy:x=y
  ·exact hxy
  ·exfalso;have hp:its.Pairwise (fun a x=>a.i≠x.i):=ok.pair.imp fun {p q} hpq=>by
    simp only [fK,aT,jj,dY] at hpq;exact hpq.1.1.2
   exact qI7 hp hx hy hxy e
 have hnd:its.Nodup:=ok.pair.imp fun {p q} hpq e=>by
  simp only [fK,aT,jj,dY] at hpq;exact hpq.1.1.2 (by rw [e])
 intro fuel
 induction fuel with
 | zero =>
  intro R listed env h c w a env' h' hlen hsub hsz hR hcl r he hs hK;have hR0:R=[]:=jQ hlen;subst hR0;simp only [az,opsR,sI,pI] at hs;obtain ⟨rfl,rfl⟩:=hs;refine ⟨?_,hK c w a (.refl r) he rfl⟩;rw [List.eq_nil_iff_forall_not_mem];intro i hi;obtain ⟨o,ho,hn,_⟩:=(ga hsz).1 hi;obtain ⟨x,hx,rfl⟩:=hidx i (gJ.1 ho).1;have:=(hR x hx).2 hn;cases this
 | succ fuel ih =>
  intro R listed env h c w a env' h' hlen hsub hsz hR hcl r he hs hK;refine ⟨fun hnil=>?_,fun i hi=>?_⟩
  ·exfalso;have hex:∀k,∀i,i < k→i < ops.size→¬Lst listed i→False:=by
    intro k
    induction k with
    | zero=>intro i hi; omega
    | succ k ihk =>
     intro i hi hlt hn;have ho:ops[i]?=some ops[i]:=by simp [hlt]
     obtain ⟨h1,_⟩:=jM hanc (i:=i) (o:=ops[i]) (by simp [hlt]);have:i∈Region.ready .any ops listed:=(ga hsz).2 ⟨_,ho,hn,fun j hj=>by
      by_cases hlj:Lst listed j
      ·exact hlj
      ·have hji:=h1 j hj;exact (ihk j (by omega) (by omega) hlj).elim⟩
     rw [hnil] at this;cases this
   cases R with
   | nil=>cases hlen
   | cons x R =>
    have hxi:x∈its:=hsub.subset (by simp);have hn:=(hR x hxi).1 (by simp);by_cases hlt:x.i < ops.size
    ·exact hex (x.i+1) x.i (by omega) hlt hn
    ·
     have hs':=hs;rw [show az l (x::R)=qAt l x.i::((x.ks.map fun k=>cH (qAt l k))++az l R) from rfl,bW] at hs';have s8:l[x.i]?=none:=by
      have hll:∀{os:List Oper} {l:List IOp},fi P ops os=some l→l.length=os.length:=by
       intro os
       induction os with
       | nil=>intro l hl; simp only [fi,sI] at hl; subst hl; rfl
       | cons o os iho =>
        intro l hl;simp only [fi] at hl;split at hl
        ·rename_i q qs hq hqs;simp only [sI] at hl;rw [←hl];simp [iho hqs]
        ·cases hl
      apply List.getElem?_eq_none;rw [hll hl]; simp; omega
     have:qAt l x.i=⟨none,.bad,none⟩:=by unfold qAt; rw [s8]
     rw [this] at hs';simp [opsR,grd,stepO] at hs'
  ·obtain ⟨o,ho,hn,hd⟩:=(ga hsz).1 hi;have hlt:=(gJ.1 ho).1;obtain ⟨x,hx,rfl⟩:=hidx i hlt;have hxR:=(hR x hx).2 hn;obtain ⟨A,B,rfl⟩:=List.append_of_mem hxR;have hA:∀y∈A,(b.getD x.i 0).testBit y.i=false:=by
    intro y hy;cases hb:(b.getD x.i 0).testBit y.i with
    | false=>rfl
    | true =>
     exfalso;obtain ⟨_,h2⟩:=jM hanc (i:=x.i) (o:=o) (by simpa using ho);rw [dg] at h2;rw [h2] at hb;obtain ⟨j,hj,e⟩:=i5 hb;have hjl:=hd j hj;have hyl:Lst listed y.i:=by
      rcases e with e | e
      ·rw [e]; exact hjl
      ·exact rL hanc hsz hcl j hjl _ e
     exact (hR y (hsub.subset (by simp [hy]))).1 (by simp [hy]) hyl
   obtain ⟨s,s1,s2⟩:=qCJ ok hsub hA hs;obtain ⟨q,hq1,hq2⟩:=oH hl (i:=x.i) (o:=o) (by simpa using ho);have hqa:qAt l x.i=q:=by unfold qAt; rw [hq1]
   rw [hqa] at s1;refine qH hcall hF ho hq2 r he (env':=s.1) (h':=s.2) s1 fun c1 w1 a1 st1 he1 hd1=>?_
   have hxl:x.i < listed.size:=by omega
   have hndR:(A++x::B).Nodup:=hnd.sublist hsub;refine ih (A++B) (listed.setIfInBounds x.i true) s.1 s.2 c1 w1 a1 env' h' ?_ ?_ (by simpa using hsz) ?_ ?_ st1.rel he1 s2 fun c2 w2 a2 st2 he2 hd2=>hK c2 w2 a2 (st1.trans st2) he2 (hd2.trans hd1)
   ·simp at hlen ⊢; omega
   ·exact (List.Sublist.append_left (List.sublist_cons_self x B) A).trans hsub
   ·intro y hy;rw [iY hxl];constructor
    ·intro hyR hor;have hyR':y∈A++x::B:=by
      rcases bP.1 hyR with h | h<;>simp [h]
     rcases hor with e | e
     ·have:y=x:=hne y hy x hx e;subst this;rw [List.nodup_append] at hndR;obtain ⟨n1,n2,n3⟩:=hndR;rcases bP.1 hyR with h | h
      ·exact n3 y h y (by simp) rfl
      ·exact (nF.1 n2).1 h
     ·exact (hR y hy).1 hyR' e
    ·intro hnor;have hyx:y≠x:=fun e=>hnor (.inl (by rw [e]))
     have:=(hR y hy).2 (fun e=>hnor (.inr e));rcases bP.1 this with h | h
     ·simp [h]
     ·rcases aS.1 h with h | h
      ·exact absurd h hyx
      ·simp [h]
   ·intro i o' ho' hli j hj;rw [iY hxl] at hli ⊢;rcases hli with rfl | hli
    ·rw [ho] at ho';injection ho' with e
     subst e;exact .inr (hd j hj)
    ·exact .inr (hcl i o' ho' hli j hj)
end
end Ce
