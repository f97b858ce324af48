/- A part of a proof. -/
import Derived.Laws.Append
import Derived.Laws.AppendOwn
import Derived.Laws.Cells
import Derived.Laws.CopyRow
import Derived.Laws.Entries
import Derived.Laws.Rows
import Derived.Laws.Sem
import Derived.Laws.Slices
import Derived.Laws.Small
import Derived.Laws.StructEq
import Derived.Laws.Tables
import Derived.Laws.World
import Derived.MapKept
import Derived.OrdersIn
import Derived.RangeFuncIn
import Derived.RangeFuncLeaves
import GoSem.Dispatch
import GoSem.Step
set_option linter.unusedVariables false
set_option linter.unusedSimpArgs false
set_option maxRecDepth 1000000
namespace Ce
theorem sI {α : Type _} (a b : α) : (some a = some b) = (a = b) := Option.some.injEq a b
theorem pI {α : Type _} {β : Type _} (a : α) (b : β) (c : α) (d : β) : ((a, b) = (c, d)) = (a = c ∧ b = d) := Prod.mk.injEq a b c d
theorem aT (a b : Bool) : ((a && b) = true) = (a = true ∧ b = true) := Bool.and_eq_true a b
theorem dT {p : Prop} [Decidable p] : (decide p = true) = p := decide_eq_true_eq
theorem mS {α : Type _} {a : α} {l : List α} : a ∈ a :: l := List.mem_cons_self
theorem mC {α : Type _} {a : α} (b : α) {l : List α} (h : a ∈ l) : a ∈ b :: l := List.mem_cons_of_mem b h
theorem nQ {n m : Nat} (h : Nat.beq n m = true) : n = m := Nat.eq_of_beq_eq_true h
open Go
inductive Tr (α : Type) where
 | nil
 | node (l : Tr α) (v : Option α) (r : Tr α)
 deriving Inhabited
def Tr.get {α : Type} : Tr α → Nat → Option α
 | nil, _ => none
 | node l v r, i => if i = 0 then v else if i % 2 = 1 then l.get (i / 2) else r.get (i / 2 - 1)
inductive CV where
 | bool (b : Bool)
 | int (k : IntKind) (n : Int)
 | str (s : ByteArray)
 | nilp
 | ptr (r off : Nat)
 | rptr (cells : List CV)
 | nils
 | slc (k r off len : Nat) (cap : Option Nat)
 | lst (rows : List (List CV)) (exact : Bool)
 | nilm
 | map (r : Nat)
 | nilf
 | clo (f : Nat) (first caps : List CV)
 | yld (r : Nat)
 | nili
 | ifc (t : Nat) (v : CV)
 | agg (cs : List CV)
 | tup (vs : List CV)
 deriving Inhabited
inductive Opd where
 | t (i : Nat)
 | c (v : CV)
 deriving Inhabited
inductive Lf where
 | b | i | s
 deriving Inhabited, DecidableEq
inductive EqK where
 | leaf (ag : Bool) (ls : List Lf)
 | ptr | slc | fn | map
 deriving Inhabited
inductive Ins where
 | mov (x : Opd)
 | pick (c a b : Opd)
 | alloc (zero : List CV)
 | box (x : Opd)
 | build (zero : List CV) (parts : List (Nat × Nat × Opd))
 | bsl (k : Nat) (zero : List CV) (len : Nat) (parts : List (Nat × Opd))
 | ld (ag : Option Nat) (a : Opd)
 | st (n : Nat) (a x : Opd)
 | nilck (x : Opd)
 | bin (op : BinOp) (x y : Opd)
 | eqo (neg : Bool) (e : EqK) (x y : Opd)
 | un (op : UnOp) (x : Opd)
 | cvi (k : IntKind) (x : Opd)
 | cvid (x : Opd)
 | mkf (f : Nat) (first caps : List Opd)
 | mkmap
 | mksl (k bytes : Nat) (zero : List CV) (l c : Opd)
 | slA (n k : Nat) (x : Opd) (lo hi mx : Option Opd)
 | slS (k : Nat) (x : Opd) (lo hi mx : Option Opd)
 | slT (x : Opd) (lo hi : Option Opd)
 | fad (off : Nat) (x : Opd)
 | fld (off : Nat) (ag : Option Nat) (x : Opd)
 | iaS (k : Nat) (x i : Opd)
 | iaA (n k : Nat) (x i : Opd)
 | ixA (n k : Nat) (ag : Option Nat) (x i : Opd)
 | ixT (x i : Opd)
 | lku (ag : Bool) (ls : List Lf) (zero : CV) (x i : Opd) (ok : Bool)
 | mset (ag : Bool) (ls : List Lf) (m k v : Opd)
 | ment (ag : Bool) (ls : List Lf) (zero : CV) (m k : Opd)
 | msto (m s v : Opd)
 | rngT (x : Opd)
 | nxtT (it : Opd)
 | ext (t : Opd) (i : Nat)
 | app (k bytes : Nat) (s x : Opd)
 | lenS (x : Opd)
 | lenT (x : Opd)
 | lenA (n : Nat)
 | lenM (x : Opd)
 | cpy (k : Nat) (d s : Opd)
 | mn (xs : List Opd)
 | mx (xs : List Opd)
 | clr (k : Nat) (zero : List CV) (x : Opd)
 | ckl (ag : Option Nat) (a x : Opd)
 | cku (ag : Bool) (ls : List Lf) (zero : CV) (x i : Opd) (ok : Bool) (d : Opd)
 | bad
 | callF (f : Nat) (args : List Opd)
 | callV (f : Opd) (args : List Opd)
 deriving Inhabited
structure IOp where
 dst : Option Nat
 op : Ins
 guard : Option (Nat × Bool)
 deriving Inhabited
inductive IC where
 | skip
 | ops (l : List IOp)
 | seq (a b : IC)
 | cond (x : Opd) (a b : IC)
 | block (id : Nat) (c : IC)
 | loop (c : IC)
 | rangeF (f : Opd) (params : List Nat) (assign body : IC)
 | exit (id : Nat)
 | ret
 deriving Inhabited
inductive IRes where
 | tmp (t : Nat)
 | cell (t : Nat) (ag : Option Nat)
 deriving Inhabited
structure IF where
 ntmps : Nat
 res : List IRes
 body : IC
 mode : Nat
 deriving Inhabited
inductive Jump where
 | ret
 | exit (id : Nat)
 deriving Inhabited, DecidableEq
inductive Ex where
 | nor
 | jmp (j : Jump)
 deriving Inhabited, DecidableEq
inductive LSt where
 | ready | busy | done | exhausted
 deriving Inhabited, DecidableEq
inductive Blk where
 | cells (c : List CV) (ro : Bool)
 | map (es : List (CV × CV × Nat)) (clock : Nat)
 | loop (st : LSt) (pend : Option Jump) (env : List CV) (params : List Nat) (assign body : IC)
 | sit (s : ByteArray) (pos : Nat)
 | dead
 deriving Inhabited
structure H where
 n : Nat
 f : Nat → Option Blk
def H.get (h : H) (i : Nat) : Option Blk := h.f i
def H.put (h : H) (i : Nat) (b : Blk) : H := ⟨h.n, fun j => if j = i then some b else h.f j⟩
def H.push (h : H) (b : Blk) : H := ⟨h.n + 1, fun j => if j = h.n then some b else h.f j⟩
def H.empty : H := ⟨0, fun _ => none⟩
def undef : CV := .tup []
def CV.cells : CV → List CV
 | .agg cs => cs
 | v => [v]
def CV.one : CV → Bool
 | .agg _ | .tup _ => false
 | _ => true
def aJ : List CV → Bool
 | [] => true
 | c :: cs => c.one && aJ cs
def splice : List CV → Nat → List CV → List CV
 | c, 0, [] => c
 | _ :: c, 0, x :: xs => x :: splice c 0 xs
 | a :: c, n + 1, xs => a :: splice c n xs
 | [], _, _ => []
noncomputable def aH (l : List CV) (n : Nat) (v : CV) : List CV := List.rec (motive := fun _ => Nat → List CV) (fun _ => []) (fun a l ih n => Nat.rec (motive := fun _ => List CV) (v :: l) (fun m _ => a :: ih m) n) l n
noncomputable def aM (l : List CV) (n : Nat) : CV := List.rec (motive := fun _ => Nat → CV) (fun _ => undef) (fun a _ ih n => Nat.rec (motive := fun _ => CV) a (fun m _ => ih m) n) l n
theorem yE (n : Nat) (v : CV) : aH [] n v = [] := rfl
theorem fm (a : CV) (l : List CV) (v : CV) : aH (a :: l) 0 v = v :: l := rfl
theorem bz (a : CV) (l : List CV) (n : Nat) (v : CV) : aH (a :: l) (n + 1) v = a :: aH l n v := rfl
theorem qAC (n : Nat) : aM [] n = undef := rfl
theorem dV (a : CV) (l : List CV) : aM (a :: l) 0 = a := rfl
theorem au (a : CV) (l : List CV) (n : Nat) : aM (a :: l) (n + 1) = aM l n := rfl
def nth? {α : Type} : List α → Nat → Option α
 | [], _ => none
 | a :: _, 0 => some a
 | _ :: l, n + 1 => nth? l n
def cut? (c : List CV) (off n : Nat) : Option (List CV) := if off + n ≤ c.length then some ((c.drop off).take n) else none
def bY (k : Nat) : Nat → List CV → List (List CV)
 | 0, _ => []
 | n + 1, c => c.take k :: bY k n (c.drop k)
def bX (ag : Option Nat) (c : List CV) (off : Nat) : Option CV :=
 match ag with
 | none => match nth? c off with
  | some v => if v.one then some v else none
  | none => none
 | some n => (cut? c off n).map .agg
noncomputable section
def Opd.ev (env : List CV) : Opd → CV
 | .t i => aM env i
 | .c v => v
def evs (env : List CV) : List Opd → List CV
 | [] => []
 | o :: os => o.ev env :: evs env os
def Opd.evo (env : List CV) : Option Opd → Option CV
 | none => none
 | some o => some (o.ev env)
def eqv : CV → CV → Option Bool
 | .int k a, .int k' b => if k = k' then some (a == b) else none
 | .bool a, .bool b => some (a == b)
 | .str a, .str b => some (a.toList == b.toList)
 | _, _ => none
def bj : List CV → List CV → Option Bool
 | [], [] => some true
 | a :: as, b :: bs => match eqv a b with
  | some true => bj as bs
  | some false => some false
  | none => none
 | _, _ => none
def dG : List Lf → List CV → Bool
 | [], [] => true
 | .b :: ls, .bool _ :: cs => dG ls cs
 | .i :: ls, .int _ _ :: cs => dG ls cs
 | .s :: ls, .str _ :: cs => dG ls cs
 | _, _ => false
def bU : CV → Bool
 | .agg _ => true
 | _ => false
def kOk (ag : Bool) (ls : List Lf) (x : CV) : Bool := bU x == ag && dG ls x.cells
def eqF (x y : CV) : Option Bool := if bU x == bU y && x.cells.length == y.cells.length then bj x.cells y.cells else none
def eqK (e : EqK) (x y : CV) : Option Bool :=
 match e with
 | .leaf ag ls => if kOk ag ls x then eqF x y else none
 | .ptr => match x, y with
  | .nilp, .nilp => some true
  | .nilp, .ptr _ _ | .ptr _ _, .nilp | .nilp, .rptr _ | .rptr _, .nilp => some false
  | _, _ => none
 | .slc => match x, y with
  | .nils, .nils => some true
  | .nils, .slc .. | .slc .., .nils | .nils, .lst .. | .lst .., .nils => some false
  | _, _ => none
 | .fn => match x, y with
  | .nilf, .nilf => some true
  | .nilf, .clo .. | .clo .., .nilf => some false
  | _, _ => none
 | .map => match x, y with
  | .nilm, .nilm => some true
  | .nilm, .map _ | .map _, .nilm => some false
  | _, _ => none
def iV (op : BinOp) (k : IntKind) (a b : Int) : Option CV :=
 match op with
 | .add => some (.int k (k.wrap (a + b)))
 | .sub => some (.int k (k.wrap (a - b)))
 | .mul => some (.int k (k.wrap (a * b)))
 | .quo => if b = 0 then none else some (.int k (k.wrap (a.tdiv b)))
 | .rem => if b = 0 then none else some (.int k (a.tmod b))
 | .and => some (.int k (k.wrap (BitVec.ofInt k.bits a &&& BitVec.ofInt k.bits b).toNat))
 | .or => some (.int k (k.wrap (BitVec.ofInt k.bits a ||| BitVec.ofInt k.bits b).toNat))
 | .xor => some (.int k (k.wrap (BitVec.ofInt k.bits a ^^^ BitVec.ofInt k.bits b).toNat))
 | .andNot => some (.int k (k.wrap (BitVec.ofInt k.bits a &&& ~~~ BitVec.ofInt k.bits b).toNat))
 | .lss => some (.bool (decide (a < b)))
 | .leq => some (.bool (decide (a ≤ b)))
 | .gtr => some (.bool (decide (a > b)))
 | .geq => some (.bool (decide (a ≥ b)))
 | _ => none
def kS (op : BinOp) (k : IntKind) (a b : Int) : Option CV :=
 if b < 0 then none else
 match op with
 | .shl => some (.int k (k.wrap (a * 2 ^ (min b.toNat k.bits))))
 | .shr => some (.int k (a.fdiv (2 ^ (min b.toNat k.bits))))
 | _ => none
def binT (op : BinOp) (a b : ByteArray) : Option CV :=
 match op with
 | .add => if a.size + b.size ≤ 2 ^ 40 then some (.str (a ++ b)) else none
 | .lss => some (.bool (Op.bytesLess a.toList b.toList))
 | .leq => some (.bool (Op.bytesLess a.toList b.toList || a.toList == b.toList))
 | .gtr => some (.bool !(Op.bytesLess a.toList b.toList || a.toList == b.toList))
 | .geq => some (.bool !(Op.bytesLess a.toList b.toList))
 | _ => none
def bin (op : BinOp) (x y : CV) : Option CV :=
 match x, y with
 | .int k a, .int k' b =>
  match op with
  | .shl | .shr => kS op k a b
  | _ => if k = k' then iV op k a b else none
 | .str a, .str b => binT op a b
 | _, _ => none
def un (op : UnOp) (x : CV) : Option CV :=
 match op, x with
 | .neg, .int k n => some (.int k (k.wrap (0 - n)))
 | .xor, .int k n => some (.int k (k.wrap (BitVec.ofInt k.bits (if k.signed then -1 else k.max) ^^^ BitVec.ofInt k.bits n).toNat))
 | .not, .bool b => some (.bool !b)
 | _, _ => none
def bI : List (List CV) → List CV
 | [] => []
 | r :: rs => r ++ bI rs
def dD (k : Nat) : List (List CV) → Bool
 | [] => true
 | r :: rs => r.length == k && dD k rs
def lenOf : CV → Option Nat
 | .nils => some 0
 | .slc _ _ _ len _ => some len
 | .lst rows _ => some rows.length
 | _ => none
def cellsOf (k n : Nat) (h : H) : CV → Option (List CV)
 | .nils => if n = 0 then some [] else none
 | .slc _ r off len _ => if n ≤ len then (match h.get r with
  | some (.cells c _) => cut? c off (n * k)
  | _ => none) else none
 | .lst rows _ => if n ≤ rows.length && dD k (rows.take n) then some (bI (rows.take n)) else none
 | _ => none
def bG? : CV → Option Nat
 | .int _ n => if 0 ≤ n then some n.toNat else none
 | _ => none
def bnd (x : Option CV) (els y : Nat) : Option Nat :=
 match x with
 | none => some els
 | some v => match bG? v with
  | some n => if n ≤ y then some n else none
  | none => none
def slS (x : CV) (k : Nat) (lo hi mx : Option CV) : Option CV :=
 match x with
 | .nils => match bnd mx 0 0, bnd hi 0 0, bnd lo 0 0 with
  | some _, some _, some _ => some .nils
  | _, _, _ => none
 | .slc k' r off len cap =>
  if k' ≠ k then none else
  match cap, mx with
  | some c, _ =>
   match bnd mx c c with
   | none => none
   | some m => match bnd hi len m with
    | none => none
    | some h => match bnd lo 0 h with
     | none => none
     | some l => if h ≤ m then some (.slc k' r (if m = l then off else off + l * k) (h - l) (some (m - l))) else none
  | none, none =>
   match bnd hi len len with
   | none => none
   | some h => match bnd lo 0 h with
    | none => none
    | some l => if l = 0 || l < len then some (.slc k' r (off + l * k) (h - l) none) else none
  | none, some m => match bnd (some m) 0 len with
   | none => none
   | some m => match bnd hi len m with
    | none => none
    | some h => match bnd lo 0 h with
     | none => none
     | some l => if h ≤ m then some (.slc k' r (if m = l then off else off + l * k) (h - l) (some (m - l))) else none
 | .lst rows ex =>
  if !(dD k rows) then none else
  match mx with
  | none => match bnd hi rows.length rows.length with
   | none => none
   | some h => match bnd lo 0 h with
    | none => none
    | some l => some (.lst ((rows.drop l).take (h - l)) (ex && h == rows.length))
  | some m => match bnd (some m) 0 rows.length with
   | none => none
   | some m => match bnd hi rows.length m with
    | none => none
    | some h => match bnd lo 0 h with
     | none => none
     | some l => if h ≤ m then some (.lst ((rows.drop l).take (h - l)) (h == m)) else none
 | _ => none
def slA (hp : H) (x : CV) (n k : Nat) (lo hi mx : Option CV) : Option CV :=
 match x with
 | .ptr r off =>
  match hp.get r with
  | some (.cells c _) =>
   if off + n * k ≤ c.length then
    match bnd mx n n with
    | none => none
    | some m => match bnd hi n m with
     | none => none
     | some h => match bnd lo 0 h with
      | none => none
      | some l => if h ≤ m then some (.slc k r (if m = l then off else off + l * k) (h - l) (some (m - l))) else none
   else none
  | _ => none
 | _ => none
def bS (cs : List CV) (env : List CV) : List (Nat × Nat × Opd) → Option (List CV)
 | [] => some cs
 | (off, n, o) :: ps =>
  let v := (o.ev env).cells
  if v.length = n && off + n ≤ cs.length && aJ v then bS (splice cs off v) env ps else none
def da (zero : List CV) : Nat → List CV
 | 0 => []
 | n + 1 => zero ++ da zero n
def bJ (es : List (CV × CV × Nat)) (k : CV) : Option (Option (CV × Nat)) :=
 match es with
 | [] => some none
 | (k', v, b) :: es => match eqF k k' with
  | some true => some (some (v, b))
  | some false => bJ es k
  | none => none
def oM (es : List (CV × CV × Nat)) (k v : CV) : List (CV × CV × Nat) :=
 match es with
 | [] => []
 | (k', v', b) :: es => match eqF k k' with
  | some true => (k', v, b) :: es
  | _ => (k', v', b) :: oM es k v
def wT (es : List (CV × CV × Nat)) (b : Int) (v : CV) : Option (List (CV × CV × Nat)) :=
 match es with
 | [] => none
 | (k', v', b') :: es => if (b' : Int) = b then some ((k', v, b') :: es) else match wT es b v with
  | some r => some ((k', v', b') :: r)
  | none => none
def frzL (f : CV → H → Option (CV × H)) : List CV → H → Option (List CV × H)
 | [], h => some ([], h)
 | v :: vs, h => match f v h with
  | some (v, h) => match frzL f vs h with
   | some (vs, h) => some (v :: vs, h)
   | none => none
  | none => none
def frz : Nat → CV → H → Option (CV × H)
 | 0, _, _ => none
 | n + 1, v, h =>
  match v with
  | .slc k r off len _ => match h.get r with
   | some (.cells c _) => match cut? c off (len * k) with
    | some cs => match frzL (frz n) cs (h.put r (.cells c true)) with
     | some (cs, h) => some (.lst (bY k len cs) false, h)
     | none => none
    | none => none
   | _ => none
  | .agg cs => match frzL (frz n) cs h with
   | some (cs, h) => some (.agg cs, h)
   | none => none
  | .tup cs => match frzL (frz n) cs h with
   | some (cs, h) => some (.tup cs, h)
   | none => none
  | v => some (v, h)
mutual
def af : CV → CV → Bool
 | .bool a, .bool b => a == b
 | .int k a, .int k' b => decide (k = k') && a == b
 | .str a, .str b => a.toList == b.toList
 | .nilp, .nilp | .nils, .nils | .nilm, .nilm | .nilf, .nilf | .nili, .nili => true
 | .ptr r o, .ptr r' o' => r == r' && o == o'
 | .slc k r o l c, .slc k' r' o' l' c' => k == k' && r == r' && o == o' && l == l' && c == c'
 | .lst xs e, .lst ys e' => eS xs ys && e == e'
 | .map r, .map r' => r == r'
 | .clo f a b, .clo f' a' b' => f == f' && dR a a' && dR b b'
 | .agg xs, .agg ys => dR xs ys
 | .tup xs, .tup ys => dR xs ys
 | _, _ => false
def dR : List CV → List CV → Bool
 | [], [] => true
 | x :: xs, y :: ys => af x y && dR xs ys
 | _, _ => false
def eS : List (List CV) → List (List CV) → Bool
 | [], [] => true
 | x :: xs, y :: ys => dR x y && eS xs ys
 | _, _ => false
end
mutual
def cln : CV → Bool
 | .bool _ | .int _ _ | .str _ | .nilp | .nils | .nilm | .nilf | .nili => true
 | .lst rows _ => xN rows
 | .agg xs => fG xs
 | _ => false
def fG : List CV → Bool
 | [] => true
 | x :: xs => cln x && fG xs
def xN : List (List CV) → Bool
 | [] => true
 | x :: xs => fG x && xN xs
end
def xpL (f : CV → H × H → Option (CV × H × H)) : List CV → H × H → Option (List CV × H × H)
 | [], h => some ([], h)
 | v :: vs, h => match f v h with
  | some (v, h) => match xpL f vs h with
   | some (vs, h) => some (v :: vs, h)
   | none => none
  | none => none
def xp : Nat → CV → H × H → Option (CV × H × H)
 | 0, _, _ => none
 | n + 1, v, h =>
  match v with
  | .slc k r off len cap => match h.1.get r with
   | some (.cells c false) => match xpL (xp n) c (h.1.put r .dead, h.2) with
    | some (c, hs, hc) => some (.slc k hc.n off len cap, hs, hc.push (.cells c false))
    | none => none
   | _ => none
  | .agg cs => match xpL (xp n) cs h with
   | some (cs, h) => some (.agg cs, h)
   | none => none
  | .tup cs => match xpL (xp n) cs h with
   | some (cs, h) => some (.tup cs, h)
   | none => none
  | .bool b => some (.bool b, h)
  | .int k m => some (.int k m, h)
  | .str s => some (.str s, h)
  | .nilp => some (.nilp, h)
  | .nils => some (.nils, h)
  | .nilm => some (.nilm, h)
  | .nilf => some (.nilf, h)
  | .nili => some (.nili, h)
  | _ => none
def Ins.kind : Ins → Nat
 | .mov .. | .pick .. | .build .. | .nilck .. | .bin .. | .eqo .. | .un .. | .cvi .. | .cvid .. | .mkf .. | .slS .. | .slT .. | .fad .. | .fld .. | .iaS .. | .iaA .. | .ixA .. | .ixT .. | .ext .. | .lenS .. | .lenT .. | .lenA .. | .mn .. | .mx .. => 0
 | .ld .. | .slA .. | .lku .. | .lenM .. | .ckl .. | .cku .. => 1
 | _ => 2
def Opd.free (d : Nat) : Opd → Bool
 | .t i => i != d
 | .c _ => true
def jp (d : Nat) : List Opd → Bool
 | [] => true
 | x :: xs => x.free d && jp d xs
def jo (d : Nat) : Option Opd → Bool
 | some x => x.free d
 | none => true
def vg (d : Nat) : List (Nat × Nat × Opd) → Bool
 | [] => true
 | (_, _, x) :: xs => x.free d && vg d xs
def vf (d : Nat) : List (Nat × Opd) → Bool
 | [] => true
 | (_, x) :: xs => x.free d && vf d xs
def Ins.free (d : Nat) : Ins → Bool
 | .mov x => x.free d
 | .pick c a b => c.free d && a.free d && b.free d
 | .alloc _ => true
 | .box x => x.free d
 | .build _ parts => vg d parts
 | .bsl _ _ _ parts => vf d parts
 | .ld _ a => a.free d
 | .st _ a x => a.free d && x.free d
 | .nilck x => x.free d
 | .bin _ x y => x.free d && y.free d
 | .eqo _ _ x y => x.free d && y.free d
 | .un _ x => x.free d
 | .cvi _ x => x.free d
 | .cvid x => x.free d
 | .mkf _ first caps => jp d first && jp d caps
 | .mkmap => true
 | .mksl _ _ _ l c => l.free d && c.free d
 | .slA _ _ x lo hi m1 => x.free d && jo d lo && jo d hi && jo d m1
 | .slS _ x lo hi m1 => x.free d && jo d lo && jo d hi && jo d m1
 | .slT x lo hi => x.free d && jo d lo && jo d hi
 | .fad _ x => x.free d
 | .fld _ _ x => x.free d
 | .iaS _ x i => x.free d && i.free d
 | .iaA _ _ x i => x.free d && i.free d
 | .ixA _ _ _ x i => x.free d && i.free d
 | .ixT x i => x.free d && i.free d
 | .lku _ _ _ x i _ => x.free d && i.free d
 | .mset _ _ m k v => m.free d && k.free d && v.free d
 | .ment _ _ _ m k => m.free d && k.free d
 | .msto m s v => m.free d && s.free d && v.free d
 | .rngT x => x.free d
 | .nxtT it => it.free d
 | .ext t _ => t.free d
 | .app _ _ s x => s.free d && x.free d
 | .lenS x => x.free d
 | .lenT x => x.free d
 | .lenA _ => true
 | .lenM x => x.free d
 | .cpy _ y s => y.free d && s.free d
 | .mn xs => jp d xs
 | .mx xs => jp d xs
 | .clr _ _ x => x.free d
 | .ckl _ a x => a.free d && x.free d
 | .cku _ _ _ x i _ y => x.free d && i.free d && y.free d
 | .bad => true
 | .callF _ args => jp d args
 | .callV f args => f.free d && jp d args
def IOp.free (d : Nat) (q : IOp) : Bool := q.op.free d && (match q.guard with
 | none => true
 | some (s, _) => s != d)
def bq (a x : IOp) : Bool := match a.dst with
 | none => true
 | some d => x.free d
def apart (a x : IOp) : Bool := bq a x && bq x a && (match a.dst, x.dst with
 | some d, some e => d != e
 | _, _ => true)
def IOp.isLd (q : IOp) : Bool := match q.dst, q.op with
 | some _, .ld _ _ => true
 | some _, .lku .. => true
 | _, _ => false
def bZ (q : IOp) : IOp := match q.dst, q.op with
 | some d, .ld g a => ⟨none, .ckl g a (.t d), q.guard⟩
 | some d, .lku ag ls z x i ok => ⟨none, .cku ag ls z x i ok (.t d), q.guard⟩
 | _, _ => ⟨none, .bad, none⟩
end
end Ce
namespace Ce
open Go
mutual
def fO : Value → Option CV
 | .bool b => some (.bool b)
 | .int k n => some (.int k n)
 | .string s => some (.str s)
 | .pointer none => some .nilp
 | .slice none 0 0 => some .nils
 | .map none => some .nilm
 | .nilFunc => some .nilf
 | .nilIface => some .nili
 | .agg ⟨cs⟩ => match s9 cs with
  | some l => some (.agg l)
  | none => none
 | _ => none
def s9 : List Value → Option (List CV)
 | [] => some []
 | v :: vs => match fO v with
  | some c => match s9 vs with
   | some cs => some (c :: cs)
   | none => none
  | none => none
end
def jM (p : Program) (rec : TypeId → Option (List Lf)) : List Field → Nat → Option (List Lf)
 | [], _ => some []
 | f :: fs, n =>
  if f.name = "_" then none else
  if f.offset = n then match rec f.type with
   | some k => if p.cellsOf f.type = k.length then (match jM p rec fs (n + k.length) with
    | some ks => some (k ++ ks)
    | none => none) else none
   | none => none
  else none
def ft (k : List Lf) : Nat → List Lf
 | 0 => []
 | n + 1 => k ++ ft k n
def nK (p : Program) : Nat → TypeId → Option (List Lf)
 | 0, _ => none
 | d + 1, t => if (p.info? t).isNone then none else match p.underlying t with
  | some .bool => some [.b]
  | some (.int _) => some [.i]
  | some .string => some [.s]
  | some (.array n e) => match nK p d e with
   | some k => if p.cellsOf e = k.length then some (ft k n) else none
   | none => none
  | some (.struct fs) => if p.stoodInHeld t then none else jM p (nK p d) fs.toList 0
  | _ => none
def gp : TypeDesc → Bool
 | .struct _ | .array _ _ => true
 | _ => false
def flatT (p : Program) (t : TypeId) : Option (Bool × List Lf) :=
 match nK p 40 t, p.underlying t with
 | some ls, some d => if p.eqGuardType p.depth t then none else some (gp d, ls)
 | _, _ => none
section
variable (p : Program)
def bc (t : TypeId) : Option Bool := match p.underlying t with
 | some (.struct _) | some (.array _ _) => some true
 | some _ => some false
 | none => none
def agT (t : TypeId) : Option (Option Nat) := match bc p t, p.info? t with
 | some true, some i => some (some i.size)
 | some false, some _ => some none
 | _, _ => none
def jW (t : TypeId) : Option CV := match p.info? t with
 | some i => match i.zero with
  | some v => fO v
  | none => none
 | none => none
def dJ (t : TypeId) : Option Nat := match p.info? t with
 | some i => some i.size
 | none => none
def bO : Operand → Option Opd
 | .tmp t => some (.t t)
 | .const v => (fO v).map .c
 | .func f => some (.c (.clo f [] []))
 | .global _ => none
def iy : List Operand → Option (List Opd)
 | [] => some []
 | o :: os => match bO o, iy os with
  | some o, some os => some (o :: os)
  | _, _ => none
def nk : Option Operand → Option (Option Opd)
 | none => some none
 | some o => (bO o).map some
def jP (fs : Nat → Option (Nat × Nat)) : List (Nat × Operand) → Option (List (Nat × Nat × Opd))
 | [] => some []
 | (i, o) :: ps => match fs i, bO o, jP fs ps with
  | some (a, n), some o, some ps => some ((a, n, o) :: ps)
  | _, _, _ => none
def kB : List (Nat × Operand) → Option (List (Nat × Opd))
 | [] => some []
 | (i, o) :: ps => match bO o, kB ps with
  | some o, some ps => some ((i, o) :: ps)
  | _, _ => none
def gC (b : Builtin) (args : List Operand) (ts : List TypeId) : Option Ins :=
 match b, args, ts with
 | .len, [x], [t] => do
  let x ← bO x
  match p.underlying t with
  | some (.slice _) => some (.lenS x)
  | some .string => some (.lenT x)
  | some (.array n _) => some (.lenA n)
  | some (.map _ _) => some (.lenM x)
  | _ => none
 | .append, [s, x], [st, xt] => do
  let s ← bO s
  let x ← bO x
  match p.underlying st, p.underlying xt with
  | some (.slice e), some (.slice _) =>
   match p.info? e with
   | some i => if i.size = 0 || i.bytes > 2 ^ 20 || (match i.zero with | some z => z.cells.size != i.size | none => true) then none else some (.app i.size i.bytes s x)
   | none => none
  | _, _ => none
 | .copy, [d, s], [dt, st] => do
  let d ← bO d
  let s ← bO s
  match p.underlying dt, p.underlying st with
  | some (.slice e), some (.slice _) => do
   let k ← dJ p e
   if k = 0 then none else some (.cpy k d s)
  | _, _ => none
 | .clear, [x], [t] => do
  let x ← bO x
  match p.underlying t with
  | some (.map _ _) => some (.clr 0 [] x)
  | some (.slice e) => do
   let k ← dJ p e
   let z ← jW p e
   if z.cells.length ≠ k || k = 0 then none else some (.clr k z.cells x)
  | _ => none
 | .min, xs, _ => do let xs ← iy xs; some (.mn xs)
 | .max, xs, _ => do let xs ← iy xs; some (.mx xs)
 | _, _, _ => none
def cOp (o : Op) : Option Ins :=
 match o with
 | .move x | .assign x => do let x ← bO x; some (.mov x)
 | .pick c a b => do let c ← bO c; let a ← bO a; let b ← bO b; some (.pick c a b)
 | .alloc t => do let z ← jW p t; some (.alloc z.cells)
 | .box _ x => do let x ← bO x; some (.box x)
 | .build t ps => do
  let z ← jW p t
  match p.underlying t with
  | some (.struct fs) => match fs.toList.mapM (fun f => (p.info? f.type).map fun i => (f.offset, i.size)) with
   | some pl => do
    let ps ← jP (fun i => pl.toArray[i]?) ps.toList
    some (.build z.cells ps)
   | none => none
  | some (.array _ e) => do
   let k ← dJ p e
   let ps ← jP (fun i => some (i * k, k)) ps.toList
   some (.build z.cells ps)
  | _ => none
 | .buildSlice t len ps => do
  match p.underlying t with
  | some (.slice e) => do
   let k ← dJ p e
   let z ← jW p e
   let ps ← kB ps.toList
   if k = 0 || z.cells.length ≠ k || len * k > 2 ^ 20 then none else some (.bsl k z.cells len ps)
  | _ => none
 | .load t a => do let g ← agT p t; let a ← bO a; some (.ld g a)
 | .store t a x => do let n ← dJ p t; let a ← bO a; let x ← bO x; some (.st n a x)
 | .nilCheck x => do let x ← bO x; some (.nilck x)
 | .binOp op t x y _ => do
  let x ← bO x
  let y ← bO y
  match op with
  | .eql | .neq =>
   match p.underlying t with
   | some (.pointer _) => some (.eqo (op == .neq) .ptr x y)
   | some (.slice _) => some (.eqo (op == .neq) .slc x y)
   | some (.func _ _ _) => some (.eqo (op == .neq) .fn x y)
   | some (.map _ _) => some (.eqo (op == .neq) .map x y)
   | _ => match flatT p t with
    | some (ag, ls) => some (.eqo (op == .neq) (.leaf ag ls) x y)
    | none => none
  | _ => some (.bin op x y)
 | .unOp op _ x => do let x ← bO x; some (.un op x)
 | .convert s d x => do
  let x ← bO x
  match p.underlying s, p.underlying d with
  | some (.int _), some (.int k) => some (.cvi k x)
  | some .string, some .string => some (.cvid x)
  | _, _ => none
 | .makeFunc (.func f) a b => do let a ← iy a.toList; let b ← iy b.toList; some (.mkf f a b)
 | .makeMap _ none => some .mkmap
 | .makeSlice t l c => do
  let l ← bO l
  let c ← bO c
  match p.underlying t with
  | some (.slice e) => match p.info? e with
   | some i => do
    let z ← jW p e
    if i.size = 0 || i.bytes > 2 ^ 20 || z.cells.length ≠ i.size then none else some (.mksl i.size i.bytes z.cells l c)
   | none => none
  | _ => none
 | .slice t x lo hi mx => do
  let x ← bO x
  let lo ← nk lo
  let hi ← nk hi
  let mx ← nk mx
  if mx.isSome && hi.isNone then none else
  match p.underlying t with
  | some (.array n e) => do let k ← dJ p e; some (.slA n k x lo hi mx)
  | some (.slice e) => do let k ← dJ p e; if k = 0 then none else some (.slS k x lo hi mx)
  | some .string => match mx with
   | none => some (.slT x lo hi)
   | some _ => none
  | _ => none
 | .fieldAddr s x f => do
  let x ← bO x
  match p.underlying s with
  | some (.struct fs) => match fs[f]? with
   | some f => do let k ← dJ p f.type; if k = 0 then none else some (.fad f.offset x)
   | none => none
  | _ => none
 | .field t x f => do
  let x ← bO x
  match p.underlying t with
  | some (.struct fs) => match fs[f]? with
   | some f => do let g ← agT p f.type; some (.fld f.offset g x)
   | none => none
  | _ => none
 | .indexAddr t x i => do
  let x ← bO x
  let i ← bO i
  match p.underlying t with
  | some (.array n e) => do let k ← dJ p e; some (.iaA n k x i)
  | some (.slice e) => do let k ← dJ p e; if k = 0 then none else some (.iaS k x i)
  | _ => none
 | .index t x i => do
  let x ← bO x
  let i ← bO i
  match p.underlying t with
  | some (.array n e) => do let k ← dJ p e; let g ← agT p e; some (.ixA n k g x i)
  | some .string => some (.ixT x i)
  | _ => none
 | .lookup t x i ok => do
  let x ← bO x
  let i ← bO i
  match p.underlying t with
  | some (.map k e) => match flatT p k, jW p e with
   | some (ag, ls), some z => some (.lku ag ls z x i ok)
   | _, _ => none
  | _ => none
 | .mapUpdate t m k v | .insert t m k v => do
  let m ← bO m
  let k' ← bO k
  let v ← bO v
  match p.underlying t with
  | some (.map k _) => match flatT p k with
   | some (ag, ls) => some (.mset ag ls m k' v)
   | none => none
  | _ => none
 | .mapEntry t m k => do
  let m ← bO m
  let k' ← bO k
  match p.underlying t with
  | some (.map k e) => match flatT p k, jW p e with
   | some (ag, ls), some z => some (.ment ag ls z m k')
   | _, _ => none
  | _ => none
 | .entryStore _ m s v => do
  let m ← bO m
  let s ← bO s
  let v ← bO v
  some (.msto m s v)
 | .range t x => do
  let x ← bO x
  match p.underlying t with
  | some .string => some (.rngT x)
  | _ => none
 | .next it true => do let it ← bO it; some (.nxtT it)
 | .extract t i => do let t ← bO t; some (.ext t i)
 | .call c =>
  match c.callee with
  | .value (.func f) => do
   let as ← iy c.args.toList
   match p.funcs[f]? with
   | some fn => if fn.body.isSome && fn.name != "runtime.NumGoroutine" then some (.callF f as) else none
   | none => none
  | .value x => do let x ← bO x; let as ← iy c.args.toList; some (.callV x as)
  | .builtin b => gC p b c.args.toList c.argTypes.toList
  | _ => none
 | _ => none
def lZ (ops : Array Oper) (o : Oper) : Option IOp :=
 let i := (cOp p o.op).getD .bad
 match o.guard with
 | none => some ⟨o.dst, i, none⟩
 | some (j, want) => match ops[j]? with
  | some q => match q.dst with
   | some d => some ⟨o.dst, i, some (d, want)⟩
   | none => none
  | none => none
def dz (ops : Array Oper) : List Oper → Option (List IOp)
 | [] => some []
 | o :: os => match lZ p ops o, dz ops os with
  | some i, some is => some (i :: is)
  | _, _ => none
def lq (o : Oper) : List Nat := (o.after.toList.filter (Region.binds .any)).map (·.on)
def ga (b : List Nat) (ds : List Nat) : Nat :=
 match ds with
 | [] => 0
 | j :: ds => (2 ^ j ||| b.getD j 0) ||| ga b ds
def qBO (os : List Oper) (b : List Nat) : List Nat :=
 match os with
 | [] => b
 | o :: os => qBO os (b ++ [ga b (lq o)])
def oA (b : List Nat) (i : Nat) (os : List Oper) : Bool :=
 match os with
 | [] => true
 | o :: os => (lq o).all (fun j => decide (j < i)) && b.getD i 0 == ga b (lq o) && oA b (i + 1) os
def qAt (l : List IOp) (i : Nat) : IOp := match l[i]? with
 | some q => q
 | none => ⟨none, .bad, none⟩
def zF (l : List IOp) (b : List Nat) : Nat → List Nat → Nat → List Nat
 | 0, _, _ => []
 | fuel + 1, left, done =>
  let ready := left.filter fun i => (b.getD i 0) &&& done == (b.getD i 0)
  let pick := match ready.find? (fun i => decide ((qAt l i).op.kind ≤ 1)) with
   | some i => some i
   | none => ready.head?
  match pick with
  | some i => i :: zF l b fuel (left.filter (· != i)) (done ||| 2 ^ i)
  | none => []
structure It where
 i : Nat
 ks : List Nat
 deriving Inhabited
def vX (l : List IOp) (b : List Nat) (before : List Nat) : List Nat → List It
 | [] => []
 | i :: is =>
  let ks := if (qAt l i).op.kind = 2 then before.filter fun j => (qAt l j).isLd && !(b.getD i 0).testBit j else []
  ⟨i, ks⟩ :: vX l b (before ++ [i]) is
def oV (ka kx : Nat) : Bool := ka == 0 || kx == 0 || (decide (ka ≤ 1) && decide (kx ≤ 1))
def gr (l : List IOp) (a x : It) : Bool :=
 apart (qAt l a.i) (qAt l x.i) && (oV (qAt l a.i).op.kind (qAt l x.i).op.kind || ((qAt l a.i).isLd && x.ks.contains a.i))
def gE {α : Type} (r : α → α → Bool) : List α → Bool
 | [] => true
 | a :: l => l.all (r a) && gE r l
def db (b : List Nat) (l : List IOp) (its : List It) (a x : It) : Bool :=
 ((b.getD x.i 0).testBit a.i || gr l a x) && a.i != x.i &&
 (!(its.any fun y => y.ks.contains a.i) || bq (qAt l x.i) (bZ (qAt l a.i))) && a.ks.all (fun j => bq (qAt l x.i) (bZ (qAt l j)))
def qS (b : List Nat) (l : List IOp) (its : List It) : Bool :=
 gE (db b l its) its &&
 its.all (fun x => (decide ((qAt l x.i).op.kind = 2) || x.ks.isEmpty) && x.ks.all (fun k => (qAt l k).isLd && bq (qAt l k) (qAt l k)))
def mA (n : Nat) (its : List It) : Bool :=
 decide (its.length = n) && (List.range n).all (fun i => its.any fun x => x.i == i)
def an (l : List IOp) : List It → List IOp
 | [] => []
 | x :: xs => qAt l x.i :: (x.ks.map fun k => bZ (qAt l k)) ++ an l xs
def nD : Ins → Bool
 | .alloc _ | .bsl .. => true
 | _ => false
def IOp.lzy (q : IOp) : Bool := q.guard.isNone && q.dst.isSome && nD q.op
def qG8 (l : List IOp) (b : List Nat) : Nat → List Nat → Nat → List Nat
 | 0, _, _ => []
 | fuel + 1, left, done =>
  let ready := left.filter fun i => (b.getD i 0) &&& done == (b.getD i 0)
  let pick := match ready.find? (fun i => decide ((qAt l i).op.kind ≤ 1)) with
   | some i => some i
   | none => match ready.find? (fun i => !(qAt l i).lzy) with
    | some i => some i
    | none => ready.head?
  match pick with
  | some i => i :: qG8 l b fuel (left.filter (· != i)) (done ||| 2 ^ i)
  | none => []
def zr (l : List IOp) (b : List Nat) (before : List Nat) : List Nat → List It
 | [] => []
 | i :: is =>
  let ks := if (qAt l i).op.kind = 2 && !(qAt l i).lzy then before.filter fun j => (qAt l j).isLd && !(b.getD i 0).testBit j else []
  ⟨i, ks⟩ :: zr l b (before ++ [i]) is
def mr (l : List IOp) (its : List It) (a x : It) : Bool :=
 a.i != x.i && (!(its.any fun y => y.ks.contains a.i) || bq (qAt l x.i) (bZ (qAt l a.i))) && a.ks.all (fun j => bq (qAt l x.i) (bZ (qAt l j)))
def je (b : List Nat) (l : List IOp) (its : List It) (a x : It) : Bool :=
 ((b.getD x.i 0).testBit a.i || (if (qAt l x.i).lzy then
  apart (qAt l a.i) (qAt l x.i) && (decide ((qAt l a.i).op.kind ≤ 1) || its.all fun y => !(b.getD y.i 0).testBit x.i || (b.getD y.i 0).testBit a.i)
  else gr l a x)) && mr l its a x
def nO (b : List Nat) (l : List IOp) (its : List It) : Bool :=
 gE (je b l its) its &&
 its.all (fun x => ((decide ((qAt l x.i).op.kind = 2) && !(qAt l x.i).lzy) || x.ks.isEmpty) && x.ks.all (fun k => (qAt l k).isLd && bq (qAt l k) (qAt l k)) && (!(qAt l x.i).lzy || bq (qAt l x.i) (qAt l x.i)))
def qGR (ops : Array Oper) : Option (List IOp) :=
 match dz p ops ops.toList with
 | some l =>
  let b := qBO ops.toList []
  let its := vX l b [] (zF l b ops.size (List.range ops.size) 0)
  if p.follows .mixedOrders && oA b 0 ops.toList then
   if qS b l its && mA ops.size its then some (an l its) else
   let its := zr l b [] (qG8 l b ops.size (List.range ops.size) 0)
   if nO b l its && mA ops.size its && its.all (fun x => decide (x.i < ops.size)) then some (an l its) else none
  else none
 | none => none
def bh : Code → Option IC
 | .skip | .label _ => some .skip
 | .region _ ops draw => (if draw then qGR p ops else dz p ops ops.toList).map .ops
 | .seq a b => match bh a, bh b with
  | some a, some b => some (.seq a b)
  | _, _ => none
 | .cond x a b => match bO x, bh a, bh b with
  | some x, some a, some b => some (.cond x a b)
  | _, _, _ => none
 | .block id c => (bh c).map (.block id)
 | .loop c => (bh c).map .loop
 | .rangeFunc f ps a b => match bO f, bh a, bh b with
  | some f, some a, some b => some (.rangeF f ps.toList a b)
  | _, _, _ => none
 | .exit id => some (.exit id)
 | .scope c => bh c
 | .ret => some .ret
 | .goto _ | .refuse _ => none
def lr : List ResultVar → Option (List IRes)
 | [] => some []
 | .tmp t :: rs => match lr rs with
  | some rs => some (.tmp t :: rs)
  | none => none
 | .cell a t :: rs => match agT p t, lr rs with
  | some g, some rs => some (.cell a g :: rs)
  | _, _ => none
def qBA (f : Nat) : Option IF :=
 match p.funcs[f]? with
 | some fn => match fn.body with
  | some c => match bh p c, lr p fn.results.toList with
   | some b, some r => some ⟨fn.ntmps, r, b, 0⟩
   | _, _ => none
  | none => none
 | none => none
end
end Ce
namespace Ce
noncomputable section
open Go
inductive Tgt where
 | fn (f : Nat)
 | yl (r : Nat)
def ldV (ag : Option Nat) (a : CV) (h : H) : Option CV :=
 match a with
 | .ptr r off => match h.get r with
  | some (.cells c _) => bX ag c off
  | _ => none
 | .rptr c => bX ag c 0
 | _ => none
def stV (n : Nat) (a x : CV) (h : H) : Option H :=
 match a with
 | .ptr r off => match h.get r with
  | some (.cells c false) => if x.cells.length = n && off + n ≤ c.length && aJ x.cells then some (h.put r (.cells (splice c off x.cells) false)) else none
  | _ => none
 | _ => none
def newC (c : List CV) (h : H) : CV × H := (.ptr h.n 0, h.push (.cells c false))
def appV (k bytes : Nat) (s x : CV) (h : H) : Option (CV × H) :=
 match lenOf s, lenOf x with
 | some sl, some n =>
  if n = 0 then some (s, h) else
  if (sl + n) * (bytes + 1) > 2 ^ 40 then none else
  match cellsOf k n h x with
  | none => none
  | some new =>
   if aJ new = false then none else
   match s with
   | .nils => some (.slc k h.n 0 n none, h.push (.cells new false))
   | .lst rows true => if dD k rows then some (.slc k h.n 0 (sl + n) none, h.push (.cells (bI rows ++ new) false)) else none
   | .slc k' r off len (some c) =>
    if k' ≠ k then none else
    match h.get r with
    | some (.cells cs ro) =>
     if len + n ≤ c then
      if ro then none else
      if off + (len + n) * k ≤ cs.length then some (.slc k r off (len + n) (some c), h.put r (.cells (splice cs (off + len * k) new) false)) else none
     else match cut? cs off (len * k) with
      | some old => some (.slc k h.n 0 (len + n) none, h.push (.cells (old ++ new) false))
      | none => none
    | _ => none
   | .slc k' r off len none =>
    if k' ≠ k then none else
    match h.get r with
    | some (.cells cs false) => if off = 0 && len * k = cs.length then some (.slc k h.n 0 (len + n) none, (h.put r .dead).push (.cells (cs ++ new) false)) else none
    | _ => none
   | _ => none
 | _, _ => none
def cpyV (k : Nat) (d s : CV) (h : H) : Option (CV × H) :=
 match lenOf d, lenOf s with
 | some dl, some sl =>
  let n := min sl dl
  if n = 0 then some (.int .i64 0, h) else
  match cellsOf k n h s, d with
  | some new, .slc _ r off _ _ => match h.get r with
   | some (.cells cs false) => if off + n * k ≤ cs.length && aJ new then some (.int .i64 n, h.put r (.cells (splice cs off new) false)) else none
   | _ => none
  | _, _ => none
 | _, _ => none
def mkslV (k bytes : Nat) (zero : List CV) (l c : CV) (h : H) : Option (CV × H) :=
 match l, c with
 | .int _ l, .int _ c => if 0 ≤ l ∧ l ≤ c ∧ c * (bytes + 1) ≤ 2 ^ 40 then some (.slc k h.n 0 l.toNat (some c.toNat), h.push (.cells (da zero c.toNat) false)) else none
 | _, _ => none
def mnS : Option CV → CV → Option CV
 | some (.int k a), .int _ b => some (.int k (if b < a then b else a))
 | _, _ => none
def mxS : Option CV → CV → Option CV
 | some (.int k a), .int _ b => some (.int k (if b > a then b else a))
 | _, _ => none
def mnL (xs : List CV) : Option CV :=
 match xs with
 | .int k a :: xs => xs.foldl mnS (some (.int k a))
 | _ => none
def mxL (xs : List CV) : Option CV :=
 match xs with
 | .int k a :: xs => xs.foldl mxS (some (.int k a))
 | _ => none
def lkuV (ag : Bool) (ls : List Lf) (z x i : CV) (ok : Bool) (h : H) : Option CV :=
 if kOk ag ls i then (match x with
  | .nilm => some (if ok then .tup [z, .bool false] else z)
  | .map r => match h.get r with
   | some (.map es _) => match bJ es i with
    | some (some (v, _)) => some (if ok then .tup [v, .bool true] else v)
    | some none => some (if ok then .tup [z, .bool false] else z)
    | none => none
   | _ => none
  | _ => none) else none
def eR (k : Nat) (cs : List CV) (env : List CV) : List (Nat × Opd) → Option (List CV)
 | [] => some cs
 | (i, o) :: ps =>
  let v := (o.ev env).cells
  if v.length = k && i * k + k ≤ cs.length && aJ v then eR k (splice cs (i * k) v) env ps else none
def stepO (call : Tgt → List CV → H → Option (CV × H)) (o : Ins) (env : List CV) (h : H) : Option (CV × H) :=
 match o with
 | .mov x => some (x.ev env, h)
 | .pick c a b => match c.ev env with
  | .bool true => some (a.ev env, h)
  | .bool false => some (b.ev env, h)
  | _ => none
 | .alloc z => some (newC z h)
 | .box x => let v := x.ev env
  if aJ v.cells then some (newC v.cells h) else none
 | .build z ps => match bS z env ps with
  | some c => some (.agg c, h)
  | none => none
 | .bsl k z len ps => match eR k (da z len) env ps with
  | some c => some (.slc k h.n 0 len (some len), h.push (.cells c false))
  | none => none
 | .ld g a => match ldV g (a.ev env) h with
  | some v => some (v, h)
  | none => none
 | .st n a x => match stV n (a.ev env) (x.ev env) h with
  | some h => some (undef, h)
  | none => none
 | .nilck x => match x.ev env with
  | .nilp | .nili | .nilf => none
  | v => some (v, h)
 | .bin op x y => match bin op (x.ev env) (y.ev env) with
  | some v => some (v, h)
  | none => none
 | .eqo neg e x y => match eqK e (x.ev env) (y.ev env) with
  | some b => some (.bool (if neg then !b else b), h)
  | none => none
 | .un op x => match un op (x.ev env) with
  | some v => some (v, h)
  | none => none
 | .cvi k x => match x.ev env with
  | .int _ n => some (.int k (k.wrap n), h)
  | _ => none
 | .cvid x => match x.ev env with
  | .str s => some (.str s, h)
  | _ => none
 | .mkf f a b => some (.clo f (evs env a) (evs env b), h)
 | .mkmap => some (.map h.n, h.push (.map [] 0))
 | .mksl k bytes z l c => mkslV k bytes z (l.ev env) (c.ev env) h
 | .slA n k x lo hi mx => match slA h (x.ev env) n k (Opd.evo env lo) (Opd.evo env hi) (Opd.evo env mx) with
  | some v => some (v, h)
  | none => none
 | .slS k x lo hi mx => match slS (x.ev env) k (Opd.evo env lo) (Opd.evo env hi) (Opd.evo env mx) with
  | some v => some (v, h)
  | none => none
 | .slT x lo hi => match x.ev env with
  | .str s => match bnd (Opd.evo env hi) s.size s.size with
   | some b => match bnd (Opd.evo env lo) 0 b with
    | some a => some (.str (s.extract a b), h)
    | none => none
   | none => none
  | _ => none
 | .fad off x => match x.ev env with
  | .ptr r o => some (.ptr r (o + off), h)
  | .rptr c => some (.rptr (c.drop off), h)
  | _ => none
 | .fld off g x => match x.ev env with
  | .agg c => match bX g c off with
   | some v => some (v, h)
   | none => none
  | _ => none
 | .iaS k x i => match x.ev env, bG? (i.ev env) with
  | .slc _ r off len _, some i => if i < len then some (.ptr r (off + i * k), h) else none
  | .lst rows _, some i => match nth? rows i with
   | some row => if row.length = k then some (.rptr row, h) else none
   | none => none
  | _, _ => none
 | .iaA n k x i => match x.ev env, bG? (i.ev env) with
  | .ptr r off, some i => if i < n then some (.ptr r (off + i * k), h) else none
  | .rptr c, some i => if i < n then some (.rptr (c.drop (i * k)), h) else none
  | _, _ => none
 | .ixA n k g x i => match x.ev env, bG? (i.ev env) with
  | .agg c, some i => if i < n then (match bX g c (i * k) with
   | some v => some (v, h)
   | none => none) else none
  | _, _ => none
 | .ixT x i => match x.ev env, bG? (i.ev env) with
  | .str s, some i => match s.data.toList[i]? with
   | some b => some (.int .u8 b.toNat, h)
   | none => none
  | _, _ => none
 | .lku ag ls z x i ok => match lkuV ag ls z (x.ev env) (i.ev env) ok h with
  | some v => some (v, h)
  | none => none
 | .mset ag ls m k v => if kOk ag ls (k.ev env) then (match m.ev env with
  | .map r => match frz 20 (v.ev env) h with
   | some (v, h) => match h.get r with
    | some (.map es cl) => match bJ es (k.ev env) with
     | some (some _) => some (undef, h.put r (.map (oM es (k.ev env) v) cl))
     | some none => some (undef, h.put r (.map (es ++ [(k.ev env, v, cl)]) (cl + 1)))
     | none => none
    | _ => none
   | none => none
  | _ => none) else none
 | .ment ag ls z m k => if kOk ag ls (k.ev env) then (match m.ev env with
  | .map r => match h.get r with
   | some (.map es cl) => match bJ es (k.ev env) with
    | some (some (v, b)) => some (.tup [v, .int .i64 b], h)
    | some none => some (.tup [z, .int .i64 cl], h.put r (.map (es ++ [(k.ev env, z, cl)]) (cl + 1)))
    | none => none
   | _ => none
  | _ => none) else none
 | .msto m s v => match m.ev env, s.ev env with
  | .map r, .int _ b => match h.get r with
   | some (.map es cl) => match wT es b (v.ev env) with
    | some es => some (undef, h.put r (.map es cl))
    | none => none
   | _ => none
  | _, _ => none
 | .rngT x => match x.ev env with
  | .str s => some (.ptr h.n 0, h.push (.sit s 0))
  | _ => none
 | .nxtT it => match it.ev env with
  | .ptr r 0 => match h.get r with
   | some (.sit s pos) => if pos < s.size then
     let d := Utf8.decode s pos
     some (.tup [.bool true, .int .i64 pos, .int .i32 d.1], h.put r (.sit s (pos + d.2)))
    else some (.tup [.bool false], h)
   | _ => none
  | _ => none
 | .ext t i => match t.ev env with
  | .tup vs => match nth? vs i with
   | some v => some (v, h)
   | none => none
  | _ => none
 | .app k bytes s x => appV k bytes (s.ev env) (x.ev env) h
 | .lenS x => match lenOf (x.ev env) with
  | some n => some (.int .i64 n, h)
  | none => none
 | .lenT x => match x.ev env with
  | .str s => some (.int .i64 s.size, h)
  | _ => none
 | .lenA n => some (.int .i64 n, h)
 | .lenM x => match x.ev env with
  | .nilm => some (.int .i64 0, h)
  | .map r => match h.get r with
   | some (.map es _) => some (.int .i64 es.length, h)
   | _ => none
  | _ => none
 | .cpy k d s => cpyV k (d.ev env) (s.ev env) h
 | .mn xs => match mnL (evs env xs) with
  | some v => some (v, h)
  | none => none
 | .mx xs => match mxL (evs env xs) with
  | some v => some (v, h)
  | none => none
 | .clr k z x => match x.ev env with
  | .nilm | .nils => some (.tup [], h)
  | .map r => match h.get r with
   | some (.map _ cl) => some (.tup [], h.put r (.map [] cl))
   | _ => none
  | .slc _ r off len _ => if len = 0 then some (.tup [], h) else if k = 0 then none else (match h.get r with
   | some (.cells cs false) => if off + len * k ≤ cs.length && aJ z then some (.tup [], h.put r (.cells (splice cs off (da z len)) false)) else none
   | _ => none)
  | .lst [] _ => some (.tup [], h)
  | _ => none
 | .ckl g a x => match ldV g (a.ev env) h with
  | some v => if af v (x.ev env) then some (undef, h) else none
  | none => none
 | .cku ag ls z x i ok d => match lkuV ag ls z (x.ev env) (i.ev env) ok h with
  | some v => if af v (d.ev env) then some (undef, h) else none
  | none => none
 | .bad => none
 | .callF f as => call (.fn f) (evs env as) h
 | .callV f as => match f.ev env with
  | .clo f a b => call (.fn f) (a ++ evs env as ++ b) h
  | .yld r => call (.yl r) (evs env as) h
  | _ => none
def isCall : Ins → Bool
 | .callF .. | .callV .. => true
 | _ => false
def noC : Tgt → List CV → H → Option (CV × H) := fun _ _ _ => none
def cy (b : Bool) : CV → Bool
 | .bool c => b == c
 | _ => false
def put? (env : List CV) (d : Option Nat) (v : CV) : List CV :=
 match d with
 | none => env
 | some d => aH env d v
def grd (g : Option (Nat × Bool)) (env : List CV) : Bool := match g with
 | none => true
 | some (s, b) => cy b (aM env s)
def opsR (call : Tgt → List CV → H → Option (CV × H)) : List IOp → List CV → H → Option (List CV × H)
 | [], env, h => some (env, h)
 | o :: os, env, h =>
  match grd o.guard env with
  | true => match stepO call o.op env h with
   | some (v, h) => opsR call os (put? env o.dst v) h
   | none => none
  | false => opsR call os (put? env o.dst undef) h
def loopR (body : List CV → H → Option (Ex × List CV × H)) : Nat → List CV → H → Option (Ex × List CV × H)
 | 0, _, _ => none
 | n + 1, env, h => match body env h with
  | some (.nor, env, h) => loopR body n env h
  | r => r
def exec (call : Tgt → List CV → H → Option (CV × H)) (n : Nat) : IC → List CV → H → Option (Ex × List CV × H)
 | .skip, env, h => some (.nor, env, h)
 | .ops l, env, h => match opsR call l env h with
  | some (env, h) => some (.nor, env, h)
  | none => none
 | .seq a b, env, h => match exec call n a env h with
  | some (.nor, env, h) => exec call n b env h
  | r => r
 | .cond x a b, env, h => match x.ev env with
  | .bool true => exec call n a env h
  | .bool false => exec call n b env h
  | _ => none
 | .block id c, env, h => match exec call n c env h with
  | some (.jmp (.exit i), env, h) => if i = id then some (.nor, env, h) else some (.jmp (.exit i), env, h)
  | r => r
 | .loop c, env, h => loopR (exec call n c) n env h
 | .rangeF f ps a b, env, h =>
  let l := h.n
  let h := h.push (.loop .ready none env ps a b)
  let r := match f.ev env with
   | .clo f x y => call (.fn f) (x ++ [CV.yld l] ++ y) h
   | _ => none
  match r with
  | some (_, h) => match h.get l with
   | some (.loop st pend env' ps' a' b') =>
    if st = LSt.busy then none else
    let h := h.put l (.loop .exhausted pend env' ps' a' b')
    match pend with
    | none => some (.nor, env, h)
    | some j => some (.jmp j, env, h)
   | _ => none
  | none => none
 | .exit id, env, h => some (.jmp (.exit id), env, h)
 | .ret, env, h => some (.jmp .ret, env, h)
def resV (rs : List IRes) (env : List CV) (h : H) : Option (List CV) :=
 match rs with
 | [] => some []
 | .tmp t :: rs => match resV rs env h with
  | some vs => some (aM env t :: vs)
  | none => none
 | .cell t g :: rs => match ldV g (aM env t) h, resV rs env h with
  | some v, some vs => some (v :: vs)
  | _, _ => none
def one? : List CV → CV
 | [v] => v
 | vs => .tup vs
def bM : Nat → List CV
 | 0 => []
 | n + 1 => undef :: bM n
def ez : List CV → List Nat → List CV → Option (List CV)
 | env, [], [] => some env
 | env, p :: ps, v :: vs => ez (aH env p v) ps vs
 | _, _, _ => none
def bodyR (ex : List CV → H → Option (Ex × List CV × H)) (F : IF) (args : List CV) (h : H) : Option (CV × H) :=
 match ex (args ++ bM (F.ntmps - args.length)) h with
 | some (.nor, env, h) | some (.jmp .ret, env, h) => match resV F.res env h with
  | some vs => some (one? vs, h)
  | none => none
 | _ => none
def run (tbl : Nat → Option IF) : Nat → Tgt → List CV → H → Option (CV × H)
 | 0, _, _, _ => none
 | n + 1, .fn f, args, h => match tbl f with
  | some F =>
   if F.mode = 2 then
    match frzL (frz 20) args h with
    | some (args, h) => if fG args = false then none else
     match bodyR (exec (run tbl n) n F.body) F args H.empty with
     | some (v, hs) => match xp 20 v (hs, h) with
      | some (v, _, h) => some (v, h)
      | none => none
     | none => none
    | none => none
   else
    match bodyR (exec (run tbl n) n F.body) F args h with
    | some (v, h) => if F.mode = 1 then frz 20 v h else some (v, h)
    | none => none
  | none => none
 | n + 1, .yl l, args, h => match h.get l with
  | some (.loop .ready _ env ps a b) => match ez env ps args with
   | some env' => match exec (run tbl n) n a env' h with
    | some (.nor, env', h) => match h.get l with
     | some (.loop .ready pend' env0 ps' a' b') =>
      match exec (run tbl n) n b env' (h.put l (.loop .busy pend' env0 ps' a' b')) with
      | some (e, _, h) => match h.get l with
       | some (.loop _ _ env0 ps' a' b') => match e with
        | .nor => some (.bool true, h.put l (.loop .ready none env0 ps' a' b'))
        | .jmp j => some (.bool false, h.put l (.loop .done (some j) env0 ps' a' b'))
       | _ => none
      | none => none
     | _ => none
    | _ => none
   | none => none
  | _ => none
end
end Ce
namespace Ce
open Go
structure Cx where
 β : Nat → Nat
 Im : Nat → Prop
inductive VR (c : Cx) (n : Nat) (w : World) : CV → Value → Prop where
 | bool (b : Bool) : VR c n w (.bool b) (.bool b)
 | int (k : IntKind) (m : Int) : VR c n w (.int k m) (.int k m)
 | str (s : ByteArray) : VR c n w (.str s) (.string s)
 | nilp : VR c n w .nilp (.pointer none)
 | ptr (r off : Nat) (hr : r < n) : VR c n w (.ptr r off) (.pointer (some ⟨c.β r, off, none⟩))
 | rptr (cells : List CV) (b off : Nat) (vs : Nat → Value) (him : c.Im b)
   (hc : ∀ (i : Nat) (x : CV), cells[i]? = some x → w.cell? ⟨b, off + i, none⟩ = some (vs i))
   (hv : ∀ (i : Nat) (x : CV), cells[i]? = some x → VR c n w x (vs i)) : VR c n w (.rptr cells) (.pointer (some ⟨b, off, none⟩))
 | nils : VR c n w .nils (.slice none 0 0)
 | slc (k r off len : Nat) (cap : Option Nat) (cap' : Nat) (hr : r < n) (hcap : ∀ m, cap = some m → cap' = m) (hle : len ≤ cap')
   (hsz : ∃ e s, w.shape? (c.β r) = some (e, s) ∧ off + cap' * k ≤ s) : VR c n w (.slc k r off len cap) (.slice (some ⟨c.β r, off, none⟩) len cap')
 | lst (rows : List (List CV)) (ex : Bool) (k b off cap' : Nat) (vs : Nat → Nat → Value) (hle : rows.length ≤ cap') (hex : ex = true → cap' = rows.length)
   (him : rows ≠ [] → c.Im b) (hk : ∀ (i : Nat) (row : List CV), rows[i]? = some row → row.length = k)
   (hc : ∀ (i : Nat) (row : List CV) (j : Nat) (x : CV), rows[i]? = some row → row[j]? = some x → w.cell? ⟨b, off + i * k + j, none⟩ = some (vs i j))
   (hv : ∀ (i : Nat) (row : List CV) (j : Nat) (x : CV), rows[i]? = some row → row[j]? = some x → VR c n w x (vs i j)) :
   VR c n w (.lst rows ex) (.slice (some ⟨b, off, none⟩) rows.length cap')
 | nilm : VR c n w .nilm (.map none)
 | map (r : Nat) (hr : r < n) : VR c n w (.map r) (.map (some (c.β r)))
 | nilf : VR c n w .nilf .nilFunc
 | clo (f : Nat) (xs ys : List CV) (vs us : Array Value) (hx : xs.length = vs.size) (hy : ys.length = us.size)
   (hvx : ∀ (i : Nat) (x : CV) (v : Value), xs[i]? = some x → vs[i]? = some v → VR c n w x v)
   (hvy : ∀ (i : Nat) (x : CV) (v : Value), ys[i]? = some x → us[i]? = some v → VR c n w x v) : VR c n w (.clo f xs ys) (.func (.func f) vs us)
 | yld (r : Nat) (hr : r < n) : VR c n w (.yld r) (.func (.yield (c.β r)) #[] #[])
 | nili : VR c n w .nili .nilIface
 | ifc (t : Nat) (x : CV) (v : Value) (h : VR c n w x v) : VR c n w (.ifc t x) (.iface t v)
 | agg (xs : List CV) (vs : Array Value) (hx : xs.length = vs.size) (hv : ∀ (i : Nat) (x : CV) (v : Value), xs[i]? = some x → vs[i]? = some v → VR c n w x v) : VR c n w (.agg xs) (.agg vs)
 | tup (xs : List CV) (vs : Array Value) (hx : xs.length = vs.size) (hv : ∀ (i : Nat) (x : CV) (v : Value), xs[i]? = some x → vs[i]? = some v → VR c n w x v) : VR c n w (.tup xs) (.tuple vs)
 | undp (a : Addr) : VR c n w (.tup []) (.pointer (some a))
 | unds (a : Addr) (len cap : Nat) : VR c n w (.tup []) (.slice (some a) len cap)
def VRs (c : Cx) (n : Nat) (w : World) (xs : List CV) (vs : List Value) : Prop :=
 xs.length = vs.length ∧ ∀ (i : Nat) (x : CV) (v : Value), xs[i]? = some x → vs[i]? = some v → VR c n w x v
def oS : Obj → Bool
 | .loop _ => true
 | _ => false
structure Evo (c : Cx) (n : Nat) (w : World) (c' : Cx) (n' : Nat) (w' : World) : Prop where
 le : n ≤ n'
 beta : ∀ i, i < n → c'.β i = c.β i
 im : ∀ b, c.Im b → c'.Im b
 imh : ∀ b, c.Im b → w'.heap[b]? = w.heap[b]?
 shape : ∀ b e s, w.shape? b = some (e, s) → w'.shape? b = some (e, s)
 lp : ∀ b : Nat, (w.heap[b]?).map oS = some true → (w'.heap[b]?).map oS = some true
theorem Evo.refl (c : Cx) (n : Nat) (w : World) : Evo c n w c n w := ⟨Nat.le_refl _, fun _ _ => rfl, fun _ h => h, fun _ _ => rfl, fun _ _ _ h => h, fun _ h => h⟩
theorem Evo.trans {c c' c'' : Cx} {n n' n'' : Nat} {w w' w'' : World} (h : Evo c n w c' n' w') (k : Evo c' n' w' c'' n'' w'') : Evo c n w c'' n'' w'' :=
 ⟨Nat.le_trans h.le k.le, fun i hi => (k.beta i (Nat.lt_of_lt_of_le hi h.le)).trans (h.beta i hi), fun b hb => k.im b (h.im b hb),
  fun b hb => (k.imh b (h.im b hb)).trans (h.imh b hb), fun b e s hs => k.shape b e s (h.shape b e s hs), fun b hb => k.lp b (h.lp b hb)⟩
theorem Evo.cell {c c' : Cx} {n n' : Nat} {w w' : World} (h : Evo c n w c' n' w') {a : Addr} (hi : c.Im a.block) : w'.cell? a = w.cell? a := by
 unfold World.cell?; rw [h.imh _ hi]
theorem VR.evo {c c' : Cx} {n n' : Nat} {w w' : World} (h : Evo c n w c' n' w') {x : CV} {v : Value} (hv : VR c n w x v) : VR c' n' w' x v := by
 induction hv with
 | bool b => exact .bool b
 | int k m => exact .int k m
 | str s => exact .str s
 | nilp => exact .nilp
 | ptr r off hr => rw [← h.beta r hr]; exact .ptr r off (Nat.lt_of_lt_of_le hr h.le)
 | rptr cells b off vs him hc hv ih => exact .rptr cells b off vs (h.im _ him) (fun i x hx => by rw [h.cell (a := ⟨b, off + i, none⟩) him]; exact hc i x hx) ih
 | nils => exact .nils
 | slc k r off len cap cap' hr hcap hle hsz =>
  obtain ⟨e, s, hs, hb⟩ := hsz
  have := VR.slc (c := c') (w := w') k r off len cap cap' (Nat.lt_of_lt_of_le hr h.le) hcap hle ⟨e, s, by rw [h.beta r hr]; exact h.shape _ _ _ hs, hb⟩
  rw [h.beta r hr] at this; exact this
 | lst rows ex k b off cap' vs hle hex him hk hc hv ih =>
  refine .lst rows ex k b off cap' vs hle hex (fun hne => h.im _ (him hne)) hk (fun i row j x hr hx => ?_) ih
  have hne : rows ≠ [] := by rintro rfl; simp at hr
  rw [h.cell (a := ⟨b, off + i * k + j, none⟩) (him hne)]; exact hc i row j x hr hx
 | nilm => exact .nilm
 | map r hr => rw [← h.beta r hr]; exact .map r (Nat.lt_of_lt_of_le hr h.le)
 | nilf => exact .nilf
 | clo f xs ys vs us hx hy _ _ ih1 ih2 => exact .clo f xs ys vs us hx hy ih1 ih2
 | yld r hr => rw [← h.beta r hr]; exact .yld r (Nat.lt_of_lt_of_le hr h.le)
 | nili => exact .nili
 | ifc t x v _ ih => exact .ifc t x v ih
 | agg xs vs hx _ ih => exact .agg xs vs hx ih
 | tup xs vs hx _ ih => exact .tup xs vs hx ih
 | undp a => exact .undp a
 | unds a len cap => exact .unds a len cap
theorem VRs.evo {c c' : Cx} {n n' : Nat} {w w' : World} (h : Evo c n w c' n' w') {xs : List CV} {vs : List Value} (hv : VRs c n w xs vs) : VRs c' n' w' xs vs :=
 ⟨hv.1, fun i x v hx hu => (hv.2 i x v hx hu).evo h⟩
def Blk.live : Blk → Bool
 | .cells _ ro => !ro
 | .map _ _ | .loop .. | .sit .. => true
 | .dead => false
def bC (h : H) (i : Nat) : Prop := ∃ b, h.f i = some b ∧ b.live = true
def stR : LSt → LoopState → Prop
 | .ready, .ready | .busy, .busy | .done, .done | .exhausted, .exhausted => True
 | _, _ => False
def ry : Jump → Code
 | .ret => .ret
 | .exit i => .exit i
inductive BR (P : Program) (c : Cx) (n : Nat) (w : World) : Blk → Obj → Prop where
 | cells (cs : List CV) (ro : Bool) (arr : Array Value) (e : TypeId) (hsz : cs.length ≤ arr.size)
   (hv : ∀ (j : Nat) (x : CV) (v : Value), cs[j]? = some x → arr[j]? = some v → VR c n w x v) : BR P c n w (.cells cs ro) (.cells arr e (0, 0))
 | map (es : List (CV × CV × Nat)) (es' : Array MapEntry) (cl : Nat) (hsz : es.length = es'.size)
   (hv : ∀ (j : Nat) (k v : CV) (b : Nat) (m : MapEntry), es[j]? = some (k, v, b) → es'[j]? = some m → VR c n w k m.key ∧ VR c n w v m.val ∧ m.born = b) : BR P c n w (.map es cl) (.map es' cl)
 | loop (st : LSt) (pend : Option Jump) (env : List CV) (ps : List Nat) (a b : IC) (l : Loop) (hst : stR st l.state) (hp : l.pending = pend.map ry) (he : VRs c n w env l.tmps.toList)
   (hps : l.params.toList = ps) (ha : bh P l.assign = some a) (hb : bh P l.body = some b) : BR P c n w (.loop st pend env ps a b) (.loop l)
 | sit (s : ByteArray) (pos : Nat) : BR P c n w (.sit s pos) (.stringIter s pos)
theorem BR.evo {P : Program} {c c' : Cx} {n n' : Nat} {w w' : World} (h : Evo c n w c' n' w') {b : Blk} {o : Obj} (hb : BR P c n w b o) : BR P c' n' w' b o := by
 cases hb with
 | cells cs ro arr e hsz hv => exact .cells cs ro arr e hsz fun j x v hx hu => (hv j x v hx hu).evo h
 | map es es' cl hsz hv => exact .map es es' cl hsz fun j k v b m hk hm => let ⟨h1, h2, h3⟩ := hv j k v b m hk hm; ⟨h1.evo h, h2.evo h, h3⟩
 | loop st pend env ps a b l hst hp he hps ha hb => exact .loop st pend env ps a b l hst hp (he.evo h) hps ha hb
 | sit s pos => exact .sit s pos
structure Rel (P : Program) (c : Cx) (h : H) (w : World) : Prop where
 bound : ∀ i b, h.f i = some b → i < h.n
 blk : ∀ i b, h.f i = some b → b = .dead ∨ ∃ o, w.heap[c.β i]? = some o ∧ BR P c h.n w b o
 inj : ∀ i j, bC h i → bC h j → c.β i = c.β j → i = j
 notIm : ∀ i, bC h i → ¬ c.Im (c.β i)
 ro : ∀ i cs, h.f i = some (.cells cs true) → c.Im (c.β i)
 imlt : ∀ b, c.Im b → b < w.heap.size
def wq : Obj → Nat × Nat
 | .cells _ _ fr => fr
 | _ => (0, 0)
def ky (w : World) (b : Nat) : Nat × Nat := ((w.heap[b]?).map wq).getD (0, 0)
theorem pH (w : World) (a : Addr) : w.frozen? a = (decide ((ky w a.block).1 ≤ a.off) && decide (a.off < (ky w a.block).2)) := by
 unfold World.frozen? ky
 cases w.heap[a.block]? with
 | none => simp
 | some o =>
  cases o with
  | cells cs e fr => obtain ⟨lo, hi⟩ := fr; rfl
  | _ => simp [wq]
theorem BR.fz {P : Program} {c : Cx} {n : Nat} {w : World} {b : Blk} {o : Obj} (h : BR P c n w b o) : wq o = (0, 0) := by cases h <;> rfl
theorem eP {w : World} {b : Nat} {o : Obj} (h : w.heap[b]? = some o) : ky w b = wq o := by unfold ky; rw [h]; rfl
theorem cU {w w' : World} {b : Nat} (h : w'.heap[b]? = w.heap[b]?) : ky w' b = ky w b := by unfold ky; rw [h]
structure Fr (c : Cx) (h : H) (w : World) (c' : Cx) (h' : H) (w' : World) : Prop where
 size : w.heap.size ≤ w'.heap.size
 old : ∀ b, b < w.heap.size → (∀ i, bC h i → c.β i ≠ b) → w'.heap[b]? = w.heap[b]?
 live : ∀ i, bC h' i → (∃ j, bC h j ∧ c.β j = c'.β i) ∨ w.heap.size ≤ c'.β i
 im : ∀ b, c'.Im b → c.Im b ∨ w.heap.size ≤ b ∨ ∃ j, bC h j ∧ c.β j = b
 fz : ∀ b, ky w' b = ky w b
 outs : w'.os = w.os ∧ w'.output = w.output
theorem Fr.refl (c : Cx) (h : H) (w : World) : Fr c h w c h w := ⟨Nat.le_refl _, fun _ _ _ => rfl, fun i hi => .inl ⟨i, hi, rfl⟩, fun _ hb => .inl hb, fun _ => rfl, rfl, rfl⟩
theorem Fr.trans {c c' c'' : Cx} {h h' h'' : H} {w w' w'' : World} (f : Fr c h w c' h' w') (g : Fr c' h' w' c'' h'' w'') : Fr c h w c'' h'' w'' := by
 refine ⟨Nat.le_trans f.size g.size, fun b hb hn => ?_, fun i hi => ?_, fun b hb => ?_, fun b => (g.fz b).trans (f.fz b), g.outs.1.trans f.outs.1, g.outs.2.trans f.outs.2⟩
 ·rw [g.old b (Nat.lt_of_lt_of_le hb f.size) ?_]
  ·exact f.old b hb hn
  ·intro i hi e
   rcases f.live i hi with ⟨j, hj, ej⟩ | hge
   ·exact hn j hj (ej.trans e)
   ·omega
 ·rcases g.live i hi with ⟨j, hj, ej⟩ | hge
  ·rcases f.live j hj with ⟨k, hk, ek⟩ | hge
   ·exact .inl ⟨k, hk, ek.trans ej⟩
   ·exact .inr (ej ▸ hge)
  ·exact .inr (Nat.le_trans f.size hge)
 ·rcases g.im b hb with hb | hb | ⟨j, hj, ej⟩
  ·exact f.im b hb
  ·exact .inr (.inl (Nat.le_trans f.size hb))
  ·rcases f.live j hj with ⟨k, hk, ek⟩ | hge
   ·exact .inr (.inr ⟨k, hk, ek.trans ej⟩)
   ·exact .inr (.inl (ej ▸ hge))
structure Stp (P : Program) (c : Cx) (h : H) (w : World) (c' : Cx) (h' : H) (w' : World) : Prop where
 rel : Rel P c' h' w'
 evo : Evo c h.n w c' h'.n w'
 fr : Fr c h w c' h' w'
theorem Stp.refl {P : Program} {c : Cx} {h : H} {w : World} (r : Rel P c h w) : Stp P c h w c h w := ⟨r, .refl _ _ _, .refl _ _ _⟩
theorem Stp.trans {P : Program} {c c' c'' : Cx} {h h' h'' : H} {w w' w'' : World} (f : Stp P c h w c' h' w') (g : Stp P c' h' w' c'' h'' w'') : Stp P c h w c'' h'' w'' :=
 ⟨g.rel, f.evo.trans g.evo, f.fr.trans g.fr⟩
end Ce
namespace Ce
open Go
variable {P : Program} {c : Cx} {h : H} {w : World}
theorem H.f_put (h : H) (i j : Nat) (b : Blk) : (h.put i b).f j = if j = i then some b else h.f j := rfl
theorem H.f_push (h : H) (j : Nat) (b : Blk) : (h.push b).f j = if j = h.n then some b else h.f j := rfl
theorem H.n_put (h : H) (i : Nat) (b : Blk) : (h.put i b).n = h.n := rfl
theorem bC.put {i j : Nat} {b : Blk} (_ : b.live = true) (hi : bC h i) (hj : bC (h.put i b) j) : bC h j := by
 by_cases e : j = i
 ·exact e ▸ hi
 ·obtain ⟨x, hx, hl⟩ := hj; rw [H.f_put, if_neg e] at hx; exact ⟨x, hx, hl⟩
theorem bf {w w' : World} {b : Nat} (h : w'.heap[b]? = w.heap[b]?) : w'.shape? b = w.shape? b := by unfold World.shape?; rw [h]
theorem kA {w w' : World} {a : Addr} (h : w'.heap[a.block]? = w.heap[a.block]?) : w'.cell? a = w.cell? a := by unfold World.cell?; rw [h]
theorem Stp.same {w' : World} (r : Rel P c h w) (e : w'.heap = w.heap) (ho : w'.os = w.os ∧ w'.output = w.output := by exact ⟨rfl, rfl⟩) : Stp P c h w c h w' := by
 have hE : Evo c h.n w c h.n w' := ⟨Nat.le_refl _, fun _ _ => rfl, fun _ hb => hb, fun _ _ => by rw [e], fun b x s hs => by rw [bf (w := w) (by rw [e])]; exact hs, fun b hb => by rw [e]; exact hb⟩
 refine ⟨⟨r.bound, fun i b hb => ?_, r.inj, r.notIm, r.ro, fun b hb => by rw [e]; exact r.imlt b hb⟩, hE, ⟨by rw [e]; exact Nat.le_refl _, fun _ _ _ => by rw [e], fun i hi => .inl ⟨i, hi, rfl⟩, fun _ hb => .inl hb, fun b => cU (by rw [e]), ho⟩⟩
 rcases r.blk i b hb with hd | ⟨o, ho, hr⟩
 ·exact .inl hd
 ·exact .inr ⟨o, by rw [e]; exact ho, hr.evo hE⟩
theorem Rel.obj (r : Rel P c h w) {i : Nat} {b : Blk} (hb : h.f i = some b) (hd : b ≠ .dead) : ∃ o, w.heap[c.β i]? = some o ∧ BR P c h.n w b o := (r.blk i b hb).resolve_left hd
theorem Rel.lt (r : Rel P c h w) {i : Nat} {b : Blk} (hb : h.f i = some b) (hd : b ≠ .dead) : c.β i < w.heap.size := by
 obtain ⟨o, ho, _⟩ := r.obj hb hd
 exact (Array.getElem?_eq_some_iff.1 ho).1
def dF : Obj → Option (TypeId × Nat)
 | .cells cs e _ => some (e, cs.size)
 | _ => none
theorem shape?_eq (w : World) (b : Nat) : w.shape? b = (w.heap[b]?).bind dF := by
 unfold World.shape?
 cases w.heap[b]? with
 | none => rfl
 | some o => cases o <;> rfl
def Cx.set (c : Cx) (i b : Nat) : Cx := { c with β := fun j => if j = i then b else c.β j }
theorem Cx.set_same (c : Cx) (i b : Nat) : (c.set i b).β i = b := by simp [Cx.set]
theorem Cx.set_lt (c : Cx) {i b j : Nat} (h : j < i) : (c.set i b).β j = c.β j := by simp [Cx.set]; omega
theorem Stp.push (r : Rel P c h w) {b : Blk} {o : Obj} (hb : BR P c h.n w b o) (hnro : ∀ cs, b ≠ .cells cs true) : Stp P c h w (c.set h.n w.heap.size) (h.push b) (w.alloc o) := by
 have hold : ∀ k, k < w.heap.size → (w.alloc o).heap[k]? = w.heap[k]? := fun k hk => by
  simp only [World.alloc, Array.getElem?_push]; rw [if_neg (by omega)]
 have hE : Evo c h.n w (c.set h.n w.heap.size) (h.n + 1) (w.alloc o) := by
  refine ⟨by omega, fun i hi => Cx.set_lt c hi, fun _ hb => hb, fun k hk => hold k (r.imlt k hk), fun k e s hs => ?_, fun k hk => by
   have hk2 : k < w.heap.size := by
    rcases Nat.lt_or_ge k w.heap.size with h | h
    ·exact h
    ·rw [Array.getElem?_eq_none h] at hk; cases hk
   rw [hold k hk2]; exact hk⟩
  have hk : k < w.heap.size := by
   rw [shape?_eq] at hs
   rcases Nat.lt_or_ge k w.heap.size with hk | hk
   ·exact hk
   ·rw [Array.getElem?_eq_none hk] at hs; cases hs
  rw [bf (hold k hk)]; exact hs
 have hlive : ∀ i, bC (h.push b) i → i = h.n ∨ (i < h.n ∧ bC h i) := by
  rintro i ⟨x, hx, hl⟩
  rw [H.f_push] at hx
  by_cases e : i = h.n
  ·exact .inl e
  ·rw [if_neg e] at hx; exact .inr ⟨r.bound i x hx, x, hx, hl⟩
 have hltL : ∀ i, bC h i → c.β i < w.heap.size := by
  rintro i ⟨x, hx, hl⟩; exact r.lt hx (by rintro rfl; cases hl)
 refine ⟨⟨?_, ?_, ?_, ?_, ?_, ?_⟩, hE, ⟨by simp, fun k hk _ => hold k hk, ?_, fun _ hb => .inl hb, fun k => by
  rcases Nat.lt_trichotomy k w.heap.size with hk | hk | hk
  ·exact cU (hold k hk)
  ·subst hk
   have e1 : (w.alloc o).heap[w.heap.size]? = some o := by show (w.heap.push o)[w.heap.size]? = some o; simp
   rw [eP e1, hb.fz]; unfold ky; rw [Array.getElem?_eq_none (Nat.le_refl _)]; rfl
  ·apply cU
   show (w.heap.push o)[k]? = w.heap[k]?
   rw [Array.getElem?_push, if_neg (by omega)], rfl, rfl⟩⟩
 ·intro i x hx
  rw [H.f_push] at hx
  show i < h.n + 1
  by_cases e : i = h.n
  ·omega
  ·rw [if_neg e] at hx; have := r.bound i x hx; omega
 ·intro i x hx
  rw [H.f_push] at hx
  by_cases e : i = h.n
  ·rw [if_pos e] at hx
   injection hx with hx
   subst hx
   right
   refine ⟨o, ?_, hb.evo hE⟩
   rw [e, Cx.set_same]
   show (w.heap.push o)[w.heap.size]? = some o
   simp
  ·rw [if_neg e] at hx
   have hi := r.bound i x hx
   rcases r.blk i x hx with hd | ⟨o', ho, hr⟩
   ·exact .inl hd
   ·right
    refine ⟨o', ?_, hr.evo hE⟩
    rw [Cx.set_lt c hi, hold _ (Array.getElem?_eq_some_iff.1 ho).1]
    exact ho
 ·intro i j hi hj e
  rcases hlive i hi with rfl | ⟨hi, li⟩ <;> rcases hlive j hj with rfl | ⟨hj, lj⟩
  ·rfl
  ·rw [Cx.set_same, Cx.set_lt c hj] at e; have := hltL j lj; omega
  ·rw [Cx.set_same, Cx.set_lt c hi] at e; have := hltL i li; omega
  ·rw [Cx.set_lt c hi, Cx.set_lt c hj] at e; exact r.inj i j li lj e
 ·intro i hi him
  rcases hlive i hi with rfl | ⟨hi, li⟩
  ·rw [Cx.set_same] at him; have := r.imlt _ him; omega
  ·rw [Cx.set_lt c hi] at him; exact r.notIm i li him
 ·intro i cs hx
  rw [H.f_push] at hx
  by_cases e : i = h.n
  ·rw [if_pos e] at hx; injection hx with hx; exact absurd hx (hnro cs)
  ·rw [if_neg e] at hx; rw [Cx.set_lt c (r.bound i _ hx)]; exact r.ro i cs hx
 ·intro k hk; have := r.imlt k hk; simp; omega
 ·intro i hi
  rcases hlive i hi with rfl | ⟨hi, li⟩
  ·right; rw [Cx.set_same]; exact Nat.le_refl _
  ·left; exact ⟨i, li, by rw [Cx.set_lt c hi]⟩
theorem Stp.put (r : Rel P c h w) {i : Nat} {b₀ b : Blk} {o₀ o : Obj} {w' : World} (hb₀ : h.f i = some b₀) (hl₀ : b₀.live = true) (ho₀ : w.heap[c.β i]? = some o₀)
  (hsz : w'.heap.size = w.heap.size) (hat : w'.heap[c.β i]? = some o) (hoff : ∀ k, k ≠ c.β i → w'.heap[k]? = w.heap[k]?) (hsh : dF o = dF o₀)
  (hl : b.live = true) (hb : BR P c h.n w b o) (hlp : oS o₀ = true → oS o = true := by intro h; first | exact h | (simp [oS] at h)) (hos : w'.os = w.os ∧ w'.output = w.output := by exact ⟨rfl, rfl⟩) : Stp P c h w c (h.put i b) w' := by
 have li : bC h i := ⟨b₀, hb₀, hl₀⟩
 have hE : Evo c h.n w c h.n w' := by
  refine ⟨Nat.le_refl _, fun _ _ => rfl, fun _ hb => hb, fun k hk => hoff k ?_, fun k e s hs => ?_, fun k hk => ?_⟩
  ·rintro rfl; exact r.notIm i li hk
  ·by_cases e' : k = c.β i
   ·subst e'; rw [shape?_eq] at hs ⊢; rw [hat]; rw [ho₀] at hs; show dF o = _; rw [hsh]; exact hs
   ·rw [bf (hoff k e')]; exact hs
  ·by_cases e' : k = c.β i
   ·subst e'; rw [hat]; rw [ho₀] at hk; simp at hk ⊢; exact hlp hk
   ·rw [hoff k e']; exact hk
 refine ⟨⟨?_, ?_, ?_, ?_, ?_, ?_⟩, hE, ⟨by omega, fun k _ hn => hoff k fun e => hn i li e.symm, ?_, fun _ hb => .inl hb, fun k => by
  by_cases e' : k = c.β i
  ·obtain ⟨o', ho', hbr'⟩ := r.obj hb₀ (by rintro rfl; cases hl₀)
   rw [ho₀] at ho'; injection ho' with ho'; subst ho'; subst e'
   rw [eP hat, eP ho₀, hb.fz, hbr'.fz]
  ·exact cU (hoff k e'), hos⟩⟩
 ·intro j x hx
  rw [H.f_put] at hx
  show j < h.n
  by_cases e : j = i
  ·exact e ▸ r.bound i b₀ hb₀
  ·rw [if_neg e] at hx; exact r.bound j x hx
 ·intro j x hx
  rw [H.f_put] at hx
  by_cases e : j = i
  ·rw [if_pos e] at hx; injection hx with hx; subst hx; subst e
   exact .inr ⟨o, hat, hb.evo hE⟩
  ·rw [if_neg e] at hx
   rcases r.blk j x hx with hd | ⟨o', ho, hr⟩
   ·exact .inl hd
   ·right
    refine ⟨o', ?_, hr.evo hE⟩
    rw [hoff]
    ·exact ho
    ·intro e2
     cases hlx : x.live with
     | true => exact e (r.inj j i ⟨x, hx, hlx⟩ li e2)
     | false =>
      cases x with
      | cells cs ro =>
       cases ro with
       | true => exact r.notIm i li (e2 ▸ r.ro j cs hx)
       | false => cases hlx
      | dead => cases hr
      | _ => cases hlx
 ·intro a b' ha hb' e; exact r.inj a b' (bC.put hl li ha) (bC.put hl li hb') e
 ·intro a ha; exact r.notIm a (bC.put hl li ha)
 ·intro j cs hx
  rw [H.f_put] at hx
  by_cases e : j = i
  ·rw [if_pos e] at hx; injection hx with hx; subst hx; cases hl
  ·rw [if_neg e] at hx; exact r.ro j cs hx
 ·intro k hk; rw [hsz]; exact r.imlt k hk
 ·intro j hj; exact .inl ⟨j, bC.put hl li hj, rfl⟩
theorem Stp.freeze (r : Rel P c h w) {i : Nat} {cs : List CV} {ro : Bool} (hb : h.f i = some (.cells cs ro)) :
  Stp P c h w { c with Im := fun b => c.Im b ∨ b = c.β i } (h.put i (.cells cs true)) w := by
 have hlt := r.lt hb (by simp)
 have hE : Evo c h.n w { c with Im := fun b => c.Im b ∨ b = c.β i } h.n w := ⟨Nat.le_refl _, fun _ _ => rfl, fun _ hb => .inl hb, fun _ _ => rfl, fun _ _ _ hs => hs, fun _ hb => hb⟩
 have hlive : ∀ j, bC (h.put i (.cells cs true)) j → bC h j ∧ j ≠ i := by
  rintro j ⟨x, hx, hl⟩
  rw [H.f_put] at hx
  by_cases e : j = i
  ·rw [if_pos e] at hx; injection hx with hx; subst hx; cases hl
  ·rw [if_neg e] at hx; exact ⟨⟨x, hx, hl⟩, e⟩
 refine ⟨⟨?_, ?_, fun a b ha hb e => r.inj a b (hlive a ha).1 (hlive b hb).1 e, ?_, ?_, ?_⟩, hE, ⟨Nat.le_refl _, fun _ _ _ => rfl, fun j hj => .inl ⟨j, (hlive j hj).1, rfl⟩, ?_, fun _ => rfl, rfl, rfl⟩⟩
 ·intro j x hx
  rw [H.f_put] at hx
  show j < h.n
  by_cases e : j = i
  ·exact e ▸ r.bound i _ hb
  ·rw [if_neg e] at hx; exact r.bound j x hx
 ·intro j x hx
  rw [H.f_put] at hx
  by_cases e : j = i
  ·rw [if_pos e] at hx; injection hx with hx; subst hx; subst e
   obtain ⟨o, ho, hr⟩ := r.obj hb (by simp)
   refine .inr ⟨o, ho, ?_⟩
   cases hr with
   | cells _ _ arr e hsz hv => exact BR.evo hE (.cells cs true arr e hsz hv)
  ·rw [if_neg e] at hx
   rcases r.blk j x hx with hd | ⟨o', ho, hr⟩
   ·exact .inl hd
   ·exact .inr ⟨o', ho, hr.evo hE⟩
 ·intro j hj him
  obtain ⟨lj, hne⟩ := hlive j hj
  rcases him with him | e
  ·exact r.notIm j lj him
  ·cases ro with
   | true => exact r.notIm j lj (e ▸ r.ro i cs hb)
   | false => exact hne (r.inj j i lj ⟨_, hb, rfl⟩ e)
 ·intro j cs' hx
  rw [H.f_put] at hx
  by_cases e : j = i
  ·exact .inr (by rw [e])
  ·rw [if_neg e] at hx; exact .inl (r.ro j cs' hx)
 ·rintro b (hb | rfl)
  ·exact r.imlt b hb
  ·exact hlt
 ·rintro b (hb' | rfl)
  ·exact .inl hb'
  ·cases ro with
   | true => exact .inl (r.ro i cs hb)
   | false => exact .inr (.inr ⟨i, ⟨_, hb, rfl⟩, rfl⟩)
theorem Stp.grow (r : Rel P c h w) {i : Nat} {cs cs' : List CV} {arr arr' : Array Value} {e : TypeId} {w' : World} (hb₀ : h.f i = some (.cells cs false)) (ho₀ : w.heap[c.β i]? = some (.cells arr e (0, 0)))
  (hsz : w'.heap.size = w.heap.size) (hat : w'.heap[c.β i]? = some (.cells arr' e (0, 0))) (hoff : ∀ k, k ≠ c.β i → w'.heap[k]? = w.heap[k]?) (hlen : arr'.size = arr.size)
  (hb : BR P c h.n w (.cells cs' false) (.cells arr' e (0, 0))) (hos : w'.os = w.os ∧ w'.output = w.output := by exact ⟨rfl, rfl⟩) : Stp P c h w (c.set h.n (c.β i)) ((h.put i .dead).push (.cells cs' false)) w' := by
 have li : bC h i := ⟨_, hb₀, rfl⟩
 have hin : i < h.n := r.bound i _ hb₀
 have hE : Evo c h.n w (c.set h.n (c.β i)) (h.n + 1) w' := by
  refine ⟨by omega, fun j hj => Cx.set_lt c hj, fun _ hb => hb, fun k hk => hoff k ?_, fun k e' s hs => ?_, fun k hk => ?_⟩
  ·rintro rfl; exact r.notIm i li hk
  ·by_cases e'' : k = c.β i
   ·subst e''; rw [shape?_eq] at hs ⊢; rw [hat]; rw [ho₀] at hs; simpa [dF, hlen] using hs
   ·rw [bf (hoff k e'')]; exact hs
  ·by_cases e'' : k = c.β i
   ·subst e''; rw [ho₀] at hk; simp [oS] at hk
   ·rw [hoff k e'']; exact hk
 have hf : ∀ j x, ((h.put i .dead).push (.cells cs' false)).f j = some x → (j = h.n ∧ x = .cells cs' false) ∨ (j = i ∧ x = .dead) ∨ (j ≠ i ∧ j < h.n ∧ h.f j = some x) := by
  intro j x hx
  rw [H.f_push, H.n_put, H.f_put] at hx
  by_cases e1 : j = h.n
  ·rw [if_pos e1] at hx; injection hx with hx; exact .inl ⟨e1, hx.symm⟩
  ·rw [if_neg e1] at hx
   by_cases e2 : j = i
   ·rw [if_pos e2] at hx; injection hx with hx; exact .inr (.inl ⟨e2, hx.symm⟩)
   ·rw [if_neg e2] at hx; exact .inr (.inr ⟨e2, r.bound j x hx, hx⟩)
 have hlive : ∀ j, bC ((h.put i .dead).push (.cells cs' false)) j → j = h.n ∨ (j ≠ i ∧ j < h.n ∧ bC h j) := by
  rintro j ⟨x, hx, hl⟩
  rcases hf j x hx with ⟨e1, _⟩ | ⟨_, rfl⟩ | ⟨h1, h2, h3⟩
  ·exact .inl e1
  ·cases hl
  ·exact .inr ⟨h1, h2, x, h3, hl⟩
 refine ⟨⟨?_, ?_, ?_, ?_, ?_, ?_⟩, hE, ⟨by omega, fun k _ hn => hoff k fun e => hn i li e.symm, ?_, fun _ hb => .inl hb, fun k => by
  by_cases e' : k = c.β i
  ·subst e'; rw [eP hat, eP ho₀]; rfl
  ·exact cU (hoff k e'), hos⟩⟩
 ·intro j x hx
  show j < h.n + 1
  rcases hf j x hx with ⟨e1, _⟩ | ⟨e1, _⟩ | ⟨_, h2, _⟩ <;> omega
 ·intro j x hx
  rcases hf j x hx with ⟨rfl, rfl⟩ | ⟨_, rfl⟩ | ⟨h1, h2, h3⟩
  ·right; exact ⟨_, by rw [Cx.set_same]; exact hat, hb.evo hE⟩
  ·exact .inl rfl
  ·rcases r.blk j x h3 with hd | ⟨o', ho, hr⟩
   ·exact .inl hd
   ·right
    refine ⟨o', ?_, hr.evo hE⟩
    rw [Cx.set_lt c h2, hoff]
    ·exact ho
    ·intro e2
     cases hlx : x.live with
     | true => exact h1 (r.inj j i ⟨x, h3, hlx⟩ li e2)
     | false =>
      cases x with
      | cells cs ro =>
       cases ro with
       | true => exact r.notIm i li (e2 ▸ r.ro j cs h3)
       | false => cases hlx
      | dead => cases hr
      | _ => cases hlx
 ·intro a b ha hb' e
  rcases hlive a ha with rfl | ⟨a1, a2, a3⟩ <;> rcases hlive b hb' with rfl | ⟨b1, b2, b3⟩
  ·rfl
  ·rw [Cx.set_same, Cx.set_lt c b2] at e; exact absurd (r.inj b i b3 li e.symm) b1
  ·rw [Cx.set_same, Cx.set_lt c a2] at e; exact absurd (r.inj a i a3 li e) a1
  ·rw [Cx.set_lt c a2, Cx.set_lt c b2] at e; exact r.inj a b a3 b3 e
 ·intro a ha him
  rcases hlive a ha with rfl | ⟨a1, a2, a3⟩
  ·rw [Cx.set_same] at him; exact r.notIm i li him
  ·rw [Cx.set_lt c a2] at him; exact r.notIm a a3 him
 ·intro j cs'' hx
  rcases hf j _ hx with ⟨_, e⟩ | ⟨_, e⟩ | ⟨h1, h2, h3⟩
  ·cases e
  ·cases e
  ·rw [Cx.set_lt c h2]; exact r.ro j cs'' h3
 ·intro k hk; rw [hsz]; exact r.imlt k hk
 ·intro j hj
  left
  rcases hlive j hj with rfl | ⟨a1, a2, a3⟩
  ·exact ⟨i, li, by rw [Cx.set_same]⟩
  ·exact ⟨j, a3, by rw [Cx.set_lt c a2]⟩
end Ce
namespace Ce
open Go
variable {P : Program} {c : Cx} {h : H} {w : World} {n : Nat}
theorem VRs.nil : VRs c n w [] [] := ⟨rfl, fun i x v hx => by simp at hx⟩
theorem VRs.cons {x : CV} {v : Value} {xs : List CV} {vs : List Value} (h1 : VR c n w x v) (h2 : VRs c n w xs vs) : VRs c n w (x :: xs) (v :: vs) := by
 refine ⟨by simp [h2.1], fun i y u hy hu => ?_⟩
 cases i with
 | zero => simp at hy hu; subst hy; subst hu; exact h1
 | succ i => simp at hy hu; exact h2.2 i y u hy hu
theorem VRs.append {xs ys : List CV} {vs us : List Value} (h1 : VRs c n w xs vs) (h2 : VRs c n w ys us) : VRs c n w (xs ++ ys) (vs ++ us) := by
 refine ⟨by simp [h1.1, h2.1], fun i y u hy hu => ?_⟩
 rcases Nat.lt_or_ge i xs.length with hi | hi
 ·rw [List.getElem?_append_left hi] at hy
  rw [List.getElem?_append_left (by rw [← h1.1]; exact hi)] at hu
  exact h1.2 i y u hy hu
 ·rw [List.getElem?_append_right hi] at hy
  rw [List.getElem?_append_right (by rw [← h1.1]; exact hi), ← h1.1] at hu
  exact h2.2 _ y u hy hu
theorem VRs.take {xs : List CV} {vs : List Value} (h1 : VRs c n w xs vs) (k : Nat) : VRs c n w (xs.take k) (vs.take k) := by
 refine ⟨by simp [h1.1], fun i y u hy hu => ?_⟩
 rw [List.getElem?_take] at hy hu
 split at hy
 ·rename_i hi; rw [if_pos hi] at hu; exact h1.2 i y u hy hu
 ·cases hy
theorem VRs.drop {xs : List CV} {vs : List Value} (h1 : VRs c n w xs vs) (k : Nat) : VRs c n w (xs.drop k) (vs.drop k) := by
 refine ⟨by simp [h1.1], fun i y u hy hu => ?_⟩
 rw [List.getElem?_drop] at hy hu
 exact h1.2 _ y u hy hu
theorem VRs.at {xs : List CV} {vs : List Value} (h1 : VRs c n w xs vs) {i : Nat} {x : CV} (hx : xs[i]? = some x) : ∃ v, vs[i]? = some v ∧ VR c n w x v := by
 have hi : i < vs.length := by rw [← h1.1]; exact (List.getElem?_eq_some_iff.1 hx).1
 exact ⟨vs[i], by simp [hi], h1.2 i x _ hx (by simp [hi])⟩
theorem VRs.agg {xs : List CV} {vs : List Value} (h1 : VRs c n w xs vs) : VR c n w (.agg xs) (.agg vs.toArray) :=
 .agg xs vs.toArray (by simp [h1.1]) fun i x v hx hv => h1.2 i x v hx (by simpa using hv)
theorem VRs.tup {xs : List CV} {vs : List Value} (h1 : VRs c n w xs vs) : VR c n w (.tup xs) (.tuple vs.toArray) :=
 .tup xs vs.toArray (by simp [h1.1]) fun i x v hx hv => h1.2 i x v hx (by simpa using hv)
theorem VR.agg_inv {xs : List CV} {v : Value} (hv : VR c n w (.agg xs) v) : ∃ vs : List Value, v = .agg vs.toArray ∧ VRs c n w xs vs := by
 cases hv with
 | agg _ vs hx hv => exact ⟨vs.toList, by simp, by simp [hx], fun i x v h1 h2 => hv i x v h1 (by simpa using h2)⟩
theorem VR.tup_inv {xs : List CV} {v : Value} (hv : VR c n w (.tup xs) v) (hne : xs ≠ []) : ∃ vs : List Value, v = .tuple vs.toArray ∧ VRs c n w xs vs := by
 cases hv with
 | tup _ vs hx hv => exact ⟨vs.toList, by simp, by simp [hx], fun i x v h1 h2 => hv i x v h1 (by simpa using h2)⟩
 | undp a => exact absurd rfl hne
 | unds a len cap => exact absurd rfl hne
theorem VR.undef : VR c n w Ce.undef Go.undef := .tup [] #[] rfl fun i x v hx => by simp at hx
theorem VR.cells {x : CV} {v : Value} (hv : VR c n w x v) : VRs c n w x.cells v.cells.toList := by
 have hs : ∀ {x : CV} {v : Value}, VR c n w x v → VRs c n w [x] [v] := fun h => .cons h .nil
 cases hv with
 | agg xs vs hx hv => exact ⟨by simpa [CV.cells, Value.cells] using hx, fun i x v h1 h2 => hv i x v h1 (by simpa [Value.cells] using h2)⟩
 | ptr r off hr => exact hs (.ptr r off hr)
 | rptr cells b off vs him hc hv => exact hs (.rptr cells b off vs him hc hv)
 | slc k r off len cap cap' hr hcap hle hsz => exact hs (.slc k r off len cap cap' hr hcap hle hsz)
 | lst rows ex k b off cap' vs hle hex him hk hc hv => exact hs (.lst rows ex k b off cap' vs hle hex him hk hc hv)
 | map r hr => exact hs (.map r hr)
 | clo f xs ys vs us hx hy h1 h2 => exact hs (.clo f xs ys vs us hx hy h1 h2)
 | yld r hr => exact hs (.yld r hr)
 | ifc t x v h => exact hs (.ifc t x v h)
 | tup xs vs hx hv => exact hs (.tup xs vs hx hv)
 | bool b => exact hs (.bool b)
 | int k m => exact hs (.int k m)
 | str s => exact hs (.str s)
 | nilp => exact hs .nilp
 | nils => exact hs .nils
 | nilm => exact hs .nilm
 | nilf => exact hs .nilf
 | nili => exact hs .nili
 | undp a => exact hs (.undp a)
 | unds a len cap => exact hs (.unds a len cap)
theorem VR.one {x : CV} {v : Value} (hv : VR c n w x v) (h1 : x.one = true) : v.oneCell' = true := by
 cases hv <;> first | rfl | cases h1
theorem oD {xs : List CV} : aJ xs = true ↔ ∀ x ∈ xs, x.one = true := by
 induction xs with
 | nil => simp [aJ]
 | cons x xs ih => simp [aJ, ih]
theorem VRs.one {xs : List CV} {vs : List Value} (h1 : VRs c n w xs vs) (ha : aJ xs = true) : ∀ v ∈ vs, v.oneCell' = true := by
 intro v hv
 obtain ⟨i, hi, rfl⟩ := List.mem_iff_getElem.1 hv
 have hx : xs[i]? = some (xs[i]'(by rw [h1.1]; exact hi)) := by simp [h1.1, hi]
 exact (h1.2 i _ _ hx (by simp [hi])).one (oD.1 ha _ (by simp))
theorem nth?_eq {α : Type} (l : List α) (i : Nat) : nth? l i = l[i]? := by
 induction l generalizing i with
 | nil => cases i <;> rfl
 | cons a l ih => cases i with
  | zero => rfl
  | succ i => simpa [nth?] using ih i
theorem qEV (l : List CV) (i : Nat) : aM l i = l.getD i undef := by
 induction l generalizing i with
 | nil => cases i <;> rfl
 | cons a l ih => cases i with
  | zero => rfl
  | succ i => simpa [au] using ih i
theorem qCX (l : List CV) (i : Nat) (v : CV) : aH l i v = l.set i v := by
 induction l generalizing i with
 | nil => cases i <;> rfl
 | cons a l ih => cases i with
  | zero => rfl
  | succ i => simpa [bz] using ih i
theorem eU : ∀ (l : List CV) (i : Nat) (vs : List CV), i + vs.length ≤ l.length → splice l i vs = l.take i ++ vs ++ l.drop (i + vs.length)
 | l, 0, [], _ => by cases l <;> simp [splice]
 | [], 0, _ :: _, h => by simp at h
 | a :: l, 0, x :: xs, h => by
  have := eU l 0 xs (by simp at h ⊢; omega)
  simp only [splice, this]; simp
 | [], i + 1, vs, h => by simp at h
 | a :: l, i + 1, vs, h => by
  have := eU l i vs (by simp at h; omega)
  simp only [splice, this]
  simp [show i + 1 + vs.length = (i + vs.length) + 1 from by omega]
theorem VRs.set {xs : List CV} {vs : List Value} (h1 : VRs c n w xs vs) {x : CV} {v : Value} (hv : VR c n w x v) (i : Nat) : VRs c n w (xs.set i x) (vs.set i v) := by
 refine ⟨by simp [h1.1], fun j y u hy hu => ?_⟩
 rw [List.getElem?_set] at hy hu
 by_cases e : i = j
 ·subst e
  simp only [if_true] at hy hu
  split at hy
  ·rw [if_pos (by rw [← h1.1]; assumption)] at hu
   injection hy with hy; injection hu with hu
   subst hy; subst hu; exact hv
  ·cases hy
 ·rw [if_neg e] at hy hu; exact h1.2 j y u hy hu
theorem VRs.splice {xs ys : List CV} {vs us : List Value} (h1 : VRs c n w xs vs) (h2 : VRs c n w ys us) {i : Nat} (hi : i + ys.length ≤ xs.length) : VRs c n w (splice xs i ys) (vs.take i ++ us ++ vs.drop (i + us.length)) := by
 rw [eU xs i ys hi, ← h2.1]
 exact ((h1.take i).append h2).append (h1.drop _)
mutual
theorem dj (c : Cx) (n : Nat) (w : World) : ∀ (v : Value) (x : CV), fO v = some x → VR c n w x v
 | .bool b, x, h => by simp only [fO, sI] at h; subst h; exact .bool b
 | .int k m, x, h => by simp only [fO, sI] at h; subst h; exact .int k m
 | .string s, x, h => by simp only [fO, sI] at h; subst h; exact .str s
 | .pointer none, x, h => by simp only [fO, sI] at h; subst h; exact .nilp
 | .pointer (some a), x, h => by simp [fO] at h
 | .slice a l cp, x, h => by
  unfold fO at h
  split at h <;> simp_all
  subst h; exact .nils
 | .map none, x, h => by simp only [fO, sI] at h; subst h; exact .nilm
 | .map (some a), x, h => by simp [fO] at h
 | .nilFunc, x, h => by simp only [fO, sI] at h; subst h; exact .nilf
 | .nilIface, x, h => by simp only [fO, sI] at h; subst h; exact .nili
 | .agg ⟨cs⟩, x, h => by
  simp only [fO] at h
  split at h
  ·rename_i l hl
   simp only [sI] at h; subst h
   exact (s8 c n w cs l hl).agg
  ·cases h
 | .float _ _, x, h => by simp [fO] at h
 | .complex _ _ _, x, h => by simp [fO] at h
 | .chan _, x, h => by simp [fO] at h
 | .func _ _ _, x, h => by simp [fO] at h
 | .iface _ _, x, h => by simp [fO] at h
 | .tuple _, x, h => by simp [fO] at h
theorem s8 (c : Cx) (n : Nat) (w : World) : ∀ (vs : List Value) (xs : List CV), s9 vs = some xs → VRs c n w xs vs
 | [], xs, h => by simp only [s9, sI] at h; subst h; exact .nil
 | v :: vs, xs, h => by
  simp only [s9] at h
  split at h
  ·rename_i x hx
   split at h
   ·rename_i ys hy
    simp only [sI] at h; subst h
    exact .cons (dj c n w v x hx) (s8 c n w vs ys hy)
   ·cases h
  ·cases h
end
abbrev bp (c : Cx) (n : Nat) (w : World) (env : List CV) (tmps : Array Value) : Prop := VRs c n w env tmps.toList
theorem bp.get {env : List CV} {tmps : Array Value} (he : bp c n w env tmps) (i : Nat) : VR c n w (aM env i) (tmps.getD i Go.undef) := by
 rw [qEV]
 rcases Nat.lt_or_ge i tmps.size with hi | hi
 ·have hl : i < env.length := by rw [he.1]; simpa using hi
  have h1 : env[i]? = some env[i] := by simp [hl]
  have h2 : tmps.toList[i]? = some tmps[i] := by simp [hi]
  have := he.2 i _ _ h1 h2
  simpa [List.getD, Array.getD, h1, hi] using this
 ·have hl : env.length ≤ i := by rw [he.1]; simpa using hi
  rw [List.getD, List.getElem?_eq_none hl]
  have : tmps.getD i Go.undef = Go.undef := by simp [Array.getD, Nat.not_lt.2 hi]
  rw [this]; exact VR.undef
theorem bp.put {env : List CV} {tmps : Array Value} (he : bp c n w env tmps) {x : CV} {v : Value} (hv : VR c n w x v) (i : Nat) : bp c n w (aH env i x) (tmps.setIfInBounds i v) := by
 rw [qCX]
 have := VRs.set he hv i
 simpa [bp] using this
theorem aS {env : List CV} {a : Act} (he : bp c n w env a.tmps) {o : Operand} {x : Opd} (hx : bO o = some x) : VR c n w (x.ev env) (a.eval o) := by
 cases o with
 | tmp t => simp only [bO, sI] at hx; subst hx; exact he.get t
 | const v =>
  simp only [bO, Option.map_eq_some_iff] at hx
  obtain ⟨y, hy, rfl⟩ := hx
  exact dj c n w v y hy
 | global g => cases hx
 | func f => simp only [bO, sI] at hx; subst hx; exact .clo f [] [] #[] #[] rfl rfl (fun i x v h => by simp at h) (fun i x v h => by simp at h)
theorem gM {env : List CV} {a : Act} (he : bp c n w env a.tmps) : ∀ {os : List Operand} {xs : List Opd}, iy os = some xs → VRs c n w (evs env xs) (os.map a.eval)
 | [], xs, h => by simp only [iy, sI] at h; subst h; exact .nil
 | o :: os, xs, h => by
  simp only [iy] at h
  split at h
  ·rename_i y ys hy hys
   simp only [sI] at h; subst h
   exact .cons (aS he hy) (gM he hys)
  ·cases h
theorem aL {t : TypeId} {d : TypeDesc} (h : P.underlying t = some d) : (underlying t).run P w = .ok d w := by
 simp [underlying, h]
theorem bW {t : TypeId} {k : Nat} (h : dJ P t = some k) : (Go.sizeOf t).run P w = .ok k w := by
 unfold dJ at h
 split at h
 ·rename_i i hi; simp only [sI] at h; subst h; simp [Go.sizeOf, typeInfo, hi]
 ·cases h
theorem eY {t : TypeId} {b : Bool} (h : bc P t = some b) : (isAgg t).run P w = .ok b w := by
 unfold bc at h
 split at h <;> first | (rename_i e; simp only [sI] at h; subst h; simp [isAgg, aL e]) | cases h | skip
 all_goals (rename_i d hd e; simp only [sI] at h; subst h; simp only [isAgg, Sem.run_bind, aL e, Result.andThen_ok])
 all_goals (cases d <;> first | rfl | simp_all)
theorem sy {t : TypeId} {k : Nat} (h : agT P t = some (some k)) : bc P t = some true ∧ dJ P t = some k := by
 unfold agT at h
 split at h
 ·rename_i e1 e2; simp only [sI] at h; exact ⟨e1, by unfold dJ; rw [e2]; simp [h]⟩
 ·simp at h
 ·cases h
theorem tA {t : TypeId} (h : agT P t = some none) : bc P t = some false := by
 unfold agT at h
 split at h
 ·simp at h
 ·assumption
 ·cases h
theorem d9 {t : TypeId} {x : CV} (h : jW P t = some x) : ∃ i v, P.info? t = some i ∧ i.zero = some v ∧ fO v = some x ∧ ∀ w, (zeroValue t).run P w = .ok v w := by
 unfold jW at h
 split at h
 ·rename_i i hi
  split at h
  ·rename_i v hv; exact ⟨i, v, hi, hv, h, fun w => by simp [zeroValue, typeInfo, hi, hv]⟩
  ·cases h
 ·cases h
end Ce
namespace Ce
open Go
variable {P : Program} {c : Cx} {h : H} {w : World} {n : Nat}
theorem jz (r : Rel P c h w) {i off : Nat} {cs : List CV} {ro : Bool} (hb : h.f i = some (.cells cs ro)) {j : Nat} {x : CV} (hx : cs[off + j]? = some x) :
  ∃ v, w.cell? ⟨c.β i, off + j, none⟩ = some v ∧ VR c h.n w x v := by
 obtain ⟨o, ho, hr⟩ := r.obj hb (by simp)
 cases hr with
 | cells _ _ arr e hsz hv =>
  have hj : off + j < arr.size := Nat.lt_of_lt_of_le (List.getElem?_eq_some_iff.1 hx).1 hsz
  have ha : arr[off + j]? = some arr[off + j] := by simp [hj]
  exact ⟨arr[off + j], by simp [World.cell?, ho, hj], hv _ _ _ hx ha⟩
theorem gX {a : Addr} {xs : List CV} (hc : ∀ (j : Nat) (x : CV), xs[j]? = some x → ∃ v, w.cell? (a.add j) = some v ∧ VR c n w x v) :
  ∃ vs, VRs c n w xs vs ∧ ∀ j v, vs[j]? = some v → w.cell? (a.add j) = some v := by
 refine ⟨xs.mapIdx fun j _ => (w.cell? (a.add j)).getD Go.undef, ⟨by simp, fun i x v hx hv => ?_⟩, fun j v hv => ?_⟩
 ·simp only [List.getElem?_mapIdx, hx, Option.map_some, sI] at hv
  obtain ⟨v', h1, h2⟩ := hc i x hx
  rw [h1] at hv; simp at hv; subst hv; exact h2
 ·simp only [List.getElem?_mapIdx, Option.map_eq_some_iff] at hv
  obtain ⟨x, hx, rfl⟩ := hv
  obtain ⟨v', h1, h2⟩ := hc j x hx
  rw [h1]; simp
theorem ay (b off j : Nat) : (⟨b, off, none⟩ : Addr).add j = ⟨b, off + j, none⟩ := by
 unfold Addr.add; split
 ·rename_i e; simp [e]
 ·rfl
theorem vD {ag : Option Nat} {cs : List CV} {off : Nat} {x : CV} (hx : bX ag cs off = some x) :
  (ag = none ∧ cs[off]? = some x ∧ x.one = true) ∨ ∃ k, ag = some k ∧ off + k ≤ cs.length ∧ x = .agg ((cs.drop off).take k) := by
 unfold bX at hx
 split at hx
 ·rw [nth?_eq] at hx
  split at hx
  ·rename_i v hv
   split at hx
   ·rename_i h1; simp only [sI] at hx; subst hx; exact .inl ⟨rfl, hv, h1⟩
   ·cases hx
  ·cases hx
 ·rename_i k
  unfold cut? at hx
  split at hx
  ·rename_i hk; simp only [Option.map_some, sI] at hx; exact .inr ⟨k, rfl, hk, hx.symm⟩
  ·cases hx
theorem gN {t : TypeId} {g : Option Nat} (hg : agT P t = some g) {a : Addr} {cs : List CV} {off : Nat} {x : CV} (hx : bX g cs off = some x)
  (hc : ∀ (j : Nat) (y : CV), cs[off + j]? = some y → ∃ v, w.cell? (a.add j) = some v ∧ VR c n w y v) : ∃ v, (loadVar t a).run P w = .ok v w ∧ VR c n w x v := by
 rcases vD hx with ⟨rfl, h1, h2⟩ | ⟨k, rfl, hk, rfl⟩
 ·obtain ⟨v, hv, hr⟩ := hc 0 x h1
  have ha : a.add 0 = a := by simp [Addr.add]
  rw [ha] at hv
  refine ⟨v, ?_, hr⟩
  simp [loadVar, eY (tA hg), hv]
 ·obtain ⟨h1, h2⟩ := sy hg
  obtain ⟨vs, hvs, hl⟩ := gX (a := a) (xs := (cs.drop off).take k) (c := c) (n := n) (w := w) (by
   intro j y hy
   rw [List.getElem?_take] at hy
   split at hy
   ·rw [List.getElem?_drop] at hy; exact hc j y hy
   ·cases hy)
  have hlen : vs.length = k := by rw [← hvs.1]; simp; omega
  refine ⟨.agg vs.toArray, ?_, hvs.agg⟩
  have := run_loadCells_list (P := P) w a vs hl
  rw [hlen] at this
  simp [loadVar, eY h1, bW h2, this]
theorem ldV_ok (r : Rel P c h w) {t : TypeId} {g : Option Nat} (hg : agT P t = some g) {a : CV} {a' : Value} (ha : VR c h.n w a a') {x : CV} (hx : ldV g a h = some x) :
  ∃ v, (Instr.loadAt t a').run P w = .ok v w ∧ VR c h.n w x v := by
 unfold ldV at hx
 split at hx
 ·rename_i i off
  split at hx
  ·rename_i cs ro hb
   cases ha with
   | ptr _ _ hr =>
    obtain ⟨v, h1, h2⟩ := gN (P := P) (w := w) (c := c) (n := h.n) hg (a := ⟨c.β i, off, none⟩) hx (fun j y hy => by rw [ay]; exact jz r hb hy)
    exact ⟨v, by simp [Instr.loadAt, Instr.sureAddr, h1], h2⟩
  ·cases hx
 ·rename_i cs
  cases ha with
  | rptr _ b off vs him hc hv =>
   obtain ⟨v, h1, h2⟩ := gN (P := P) (w := w) (c := c) (n := h.n) hg (a := ⟨b, off, none⟩) hx (fun j y hy => by
    rw [Nat.zero_add] at hy
    rw [ay]
    exact ⟨vs j, hc j y hy, hv j y hy⟩)
   exact ⟨v, by simp [Instr.loadAt, Instr.sureAddr, h1], h2⟩
 ·cases hx
theorem Stp.splice (r : Rel P c h w) {i off : Nat} {cs ys : List CV} (hb : h.f i = some (.cells cs false)) {us : List Value} (hy : VRs c h.n w ys us) (hl : off + ys.length ≤ cs.length) (h1 : ∀ v ∈ us, v.oneCell' = true) :
  ∃ w', (storeCells ⟨c.β i, off, none⟩ us).run P w = .ok () w' ∧ Stp P c h w c (h.put i (.cells (splice cs off ys) false)) w' := by
 obtain ⟨o, ho, hr⟩ := r.obj hb (by simp)
 cases hr with
 | cells _ _ arr e hsz hv =>
  have hfit : off + 0 + us.length ≤ arr.size := by rw [← hy.1]; omega
  refine ⟨_, run_storeCells_at P (c.β i) off e us 0 arr w ho hfit h1, ?_⟩
  refine Stp.put (o := .cells (arr.toList.take (off + 0) ++ us ++ arr.toList.drop (off + 0 + us.length)).toArray e (0, 0)) r hb rfl ho (by simp) (setRow_heap w _ _ _ _ _ ho) (fun k hk => setRow_other w _ k _ hk) ?_ rfl ?_
  ·simp [dF]; omega
  ·have hA : VRs c h.n w cs (arr.toList.take cs.length) := by
    refine ⟨by simp; omega, fun j x v hx hv' => ?_⟩
    rw [List.getElem?_take] at hv'
    split at hv'
    ·exact hv j x v hx (by simpa using hv')
    ·cases hv'
   have hS := hA.splice hy hl
   refine .cells _ false _ e ?_ fun j x v hx hv' => ?_
   ·rw [hS.1]; simp; omega
   ·refine hS.2 j x v hx ?_
    have hjl : j < cs.length := by
     have hlen : (Ce.splice cs off ys).length = cs.length := by rw [eU _ _ _ hl]; simp; omega
     rw [← hlen]; exact (List.getElem?_eq_some_iff.1 hx).1
    rw [List.getElem?_toArray, Nat.add_zero] at hv'
    have htake : (arr.toList.take cs.length).take off = arr.toList.take off := by rw [List.take_take, Nat.min_eq_left (by omega)]
    rw [htake]
    by_cases hj : j < off + us.length
    ·rw [List.getElem?_append_left (by simp; omega)] at hv' ⊢; exact hv'
    ·rw [List.getElem?_append_right (by simp; omega)] at hv' ⊢
     rw [List.getElem?_drop] at hv' ⊢
     rw [List.getElem?_take, if_pos]
     ·exact hv'
     ·simp; omega
theorem stV_ok (r : Rel P c h w) {t : TypeId} {k : Nat} (hk : dJ P t = some k) {a x : CV} {a' x' : Value} (ha : VR c h.n w a a') (hx : VR c h.n w x x') {h' : H} (hs : stV k a x h = some h') :
  ∃ w', (Instr.storeAt t a' x').run P w = .ok () w' ∧ Stp P c h w c h' w' := by
 unfold stV at hs
 split at hs
 ·rename_i i off
  split at hs
  ·rename_i cs hb
   split at hs
   ·rename_i hcond
    simp only [sI] at hs; subst hs
    simp only [aT, dT] at hcond
    obtain ⟨⟨h1, h2⟩, h3⟩ := hcond
    cases ha with
    | ptr _ _ hr =>
     have hc := hx.cells
     obtain ⟨w', hw, hst⟩ := Stp.splice r hb hc (off := off) (by omega) (hc.one h3)
     refine ⟨w', ?_, hst⟩
     have hsz : x'.cells.size = k := by have := hc.1; simp at this; omega
     simp [Instr.storeAt, Instr.sureAddr, storeVar, bW hk, hsz, hw]
   ·cases hs
  ·cases hs
 ·cases hs
theorem Stp.newRow (r : Rel P c h w) {xs : List CV} {vs : List Value} (hv : VRs c h.n w xs vs) (e : TypeId) (extra : List Value := []) :
  Stp P c h w (c.set h.n w.heap.size) (h.push (.cells xs false)) (w.alloc (.cells (vs ++ extra).toArray e)) := by
 refine Stp.push r (.cells xs false _ e ?_ fun j x v hx hu => ?_) (by simp)
 ·simp; have := hv.1; omega
 ·refine hv.2 j x v hx ?_
  have hj : j < vs.length := by rw [← hv.1]; exact (List.getElem?_eq_some_iff.1 hx).1
  rw [List.getElem?_toArray, List.getElem?_append_left hj] at hu; exact hu
theorem VR.new (c : Cx) (m : Nat) (w w' : World) : VR (c.set m w.heap.size) (m + 1) w' (.ptr m 0) (.pointer (some ⟨w.heap.size, 0, none⟩)) := by
 have := VR.ptr (c := c.set m w.heap.size) (w := w') m 0 (Nat.lt_succ_self m)
 rw [Cx.set_same] at this; exact this
end Ce
namespace Ce
open Go
variable {P : Program} {c : Cx} {h : H} {w : World} {env : List CV} {a : Act}
def OpRes (r : Result Next) (v : Value) (w' : World) : Prop := r = .ok (.value v) w' ∨ (r = .ok .skip w' ∧ v = Go.undef)
def OpOK (P : Program) (c : Cx) (h : H) (w : World) (r : Result Next) (x : CV) (h' : H) : Prop :=
 ∃ c' w' v, OpRes r v w' ∧ Stp P c h w c' h' w' ∧ VR c' h'.n w' x v
theorem OpOK.pure (r : Rel P c h w) {x : CV} {v : Value} {res : Result Next} (hr : res = .ok (.value v) w) (hv : VR c h.n w x v) : OpOK P c h w res x h :=
 ⟨c, w, v, .inl hr, .refl r, hv⟩
def OpS (P : Program) (op : Op) : Prop :=
 ∀ (io : Ins), cOp P op = some io → isCall io = false → ∀ (c : Cx) (h : H) (w : World) (env : List CV) (a : Act) (o : Oper) (x : CV) (h' : H), o.op = op → Rel P c h w → bp c h.n w env a.tmps →
  stepO noC io env h = some (x, h') → OpOK P c h w ((execOp a.eval o).run P w) x h'
theorem aP {α β : Type} {x : Option α} {f : α → Option β} {b : β} (h : (x >>= f) = some b) : ∃ a, x = some a ∧ f a = some b := by
 cases x with
 | none => cases h
 | some a => exact ⟨a, rfl, h⟩
theorem zN (x : Operand) : OpS P (.move x) := by
 intro io hc _ c h w env a o y h' ho r he hs
 obtain ⟨x', hx, hc⟩ := aP hc
 injection hc with hc; subst hc
 simp only [stepO, sI, pI] at hs
 obtain ⟨rfl, rfl⟩ := hs
 exact .pure r (by simp [execOp, ho]) (aS he hx)
theorem tj (x : Operand) : OpS P (.assign x) := by
 intro io hc _ c h w env a o y h' ho r he hs
 obtain ⟨x', hx, hc⟩ := aP hc
 injection hc with hc; subst hc
 simp only [stepO, sI, pI] at hs
 obtain ⟨rfl, rfl⟩ := hs
 exact .pure r (by simp [execOp, ho]) (aS he hx)
theorem zL (p q s : Operand) : OpS P (.pick p q s) := by
 intro io hc _ c h w env a o y h' ho r he hs
 obtain ⟨p', hp, hc⟩ := aP hc
 obtain ⟨q', hq, hc⟩ := aP hc
 obtain ⟨s', hs', hc⟩ := aP hc
 injection hc with hc; subst hc
 have h1 := aS he hp
 have h2 := aS he hq
 have h3 := aS he hs'
 simp only [stepO] at hs
 generalize p'.ev env = pv at hs h1
 split at hs
 ·simp only [sI, pI] at hs
  obtain ⟨rfl, rfl⟩ := hs
  generalize hpe : a.eval p = pe at h1
  cases h1
  exact .pure r (by simp [execOp, ho, hpe, asBool]) h2
 ·simp only [sI, pI] at hs
  obtain ⟨rfl, rfl⟩ := hs
  generalize hpe : a.eval p = pe at h1
  cases h1
  exact .pure r (by simp [execOp, ho, hpe, asBool]) h3
 ·cases hs
theorem wp (t : TypeId) : OpS P (.alloc t) := by
 intro io hc _ c h w env a o y h' ho r he hs
 obtain ⟨z, hz, hc⟩ := aP hc
 injection hc with hc; subst hc
 simp only [stepO, newC, sI, pI] at hs
 obtain ⟨rfl, rfl⟩ := hs
 obtain ⟨i, v, _, _, hcv, hrun⟩ := d9 hz
 have hv := (dj c h.n w v z hcv).cells
 refine ⟨_, _, _, .inl ?_, by have := Stp.newRow r hv t; rw [List.append_nil] at this; exact this, VR.new c h.n w _⟩
 simp only [execOp, ho, Instr.alloc, Sem.run_bind, hrun, Result.andThen_ok, newVar, newRow, run_newObj, Sem.run_pure]
 rfl
theorem qDY (t : TypeId) (x : Operand) : OpS P (.box t x) := by
 intro io hc _ c h w env a o y h' ho r he hs
 obtain ⟨x', hx, hc⟩ := aP hc
 injection hc with hc; subst hc
 simp only [stepO, newC] at hs
 split at hs
 ·simp only [sI, pI] at hs
  obtain ⟨rfl, rfl⟩ := hs
  have hv := (aS he hx).cells
  refine ⟨_, _, _, .inl ?_, by have := Stp.newRow r hv t; rw [List.append_nil] at this; exact this, VR.new c h.n w _⟩
  simp only [execOp, ho, Instr.box, Sem.run_bind, Result.andThen_ok, newVar, newRow, run_newObj, Sem.run_pure]
  rfl
 ·cases hs
theorem zO (t : TypeId) (x : Operand) : OpS P (.load t x) := by
 intro io hc _ c h w env a o y h' ho r he hs
 obtain ⟨g, hg, hc⟩ := aP hc
 obtain ⟨x', hx, hc⟩ := aP hc
 injection hc with hc; subst hc
 simp only [stepO] at hs
 split at hs
 ·rename_i v hv
  simp only [sI, pI] at hs
  obtain ⟨rfl, rfl⟩ := hs
  obtain ⟨v', h1, h2⟩ := ldV_ok r hg (aS he hx) hv
  exact .pure r (by simp only [execOp, ho, Sem.run_bind, h1, Result.andThen_ok, Sem.run_pure]) h2
 ·cases hs
theorem wg (t : TypeId) (x y : Operand) : OpS P (.store t x y) := by
 intro io hc _ c h w env a o v h' ho r he hs
 obtain ⟨k, hk, hc⟩ := aP hc
 obtain ⟨x', hx, hc⟩ := aP hc
 obtain ⟨y', hy, hc⟩ := aP hc
 injection hc with hc; subst hc
 simp only [stepO] at hs
 split at hs
 ·rename_i h2 hv
  simp only [sI, pI] at hs
  obtain ⟨rfl, rfl⟩ := hs
  obtain ⟨w', h1, hst⟩ := stV_ok r hk (aS he hx) (aS he hy) hv
  exact ⟨c, w', Go.undef, .inr ⟨by simp only [execOp, ho, Sem.run_bind, h1, Result.andThen_ok, Sem.run_pure], rfl⟩, hst, VR.undef⟩
 ·cases hs
theorem qF (x : Operand) : OpS P (.nilCheck x) := by
 intro io hc _ c h w env a o y h' ho r he hs
 obtain ⟨x', hx, hc⟩ := aP hc
 injection hc with hc; subst hc
 have h1 := aS he hx
 simp only [stepO] at hs
 generalize x'.ev env = xv at hs h1
 generalize hpe : a.eval x = pe at h1
 split at hs
 ·cases hs
 ·cases hs
 ·cases hs
 ·rename_i n1 n2 n3
  simp only [sI, pI] at hs
  obtain ⟨rfl, rfl⟩ := hs
  refine .pure r (v := pe) ?_ h1
  cases h1 <;> first | exact absurd rfl n1 | exact absurd rfl n2 | exact absurd rfl n3 | (simp only [execOp, ho, hpe]; rfl)
theorem rZ (x : Operand) (i : Nat) : OpS P (.extract x i) := by
 intro io hc _ c h w env a o y h' ho r he hs
 obtain ⟨x', hx, hc⟩ := aP hc
 injection hc with hc; subst hc
 have h1 := aS he hx
 simp only [stepO] at hs
 generalize x'.ev env = xv at hs h1
 generalize hpe : a.eval x = pe at h1
 split at hs
 ·rename_i vs
  split at hs
  ·rename_i v hv
   simp only [sI, pI] at hs
   obtain ⟨rfl, rfl⟩ := hs
   obtain ⟨us, rfl, hu⟩ := h1.tup_inv (by rintro rfl; cases hv)
   rw [nth?_eq] at hv
   obtain ⟨u, hu1, hu2⟩ := hu.at hv
   exact .pure r (by simp [execOp, ho, hpe, Instr.extract, hu1]) hu2
  ·cases hs
 ·cases hs
theorem qH (f : Fn) (xs ys : Array Operand) : OpS P (.makeFunc f xs ys) := by
 intro io hc _ c h w env a o y h' ho r he hs
 cases f with
 | func f' =>
  obtain ⟨xs', hx, hc⟩ := aP hc
  obtain ⟨ys', hy, hc⟩ := aP hc
  injection hc with hc; subst hc
  simp only [stepO, sI, pI] at hs
  obtain ⟨rfl, rfl⟩ := hs
  have h1 := gM he hx
  have h2 := gM he hy
  refine .pure r (v := .func (.func f') (xs.map a.eval) (ys.map a.eval)) (by simp [execOp, ho, Instr.makeFunc]) ?_
  refine .clo f' _ _ _ _ (by simpa using h1.1) (by simpa using h2.1) (fun i x v hx hv => h1.2 i x v hx ?_) (fun i x v hx hv => h2.2 i x v hx ?_)
  ·rw [← Array.toList_map, Array.getElem?_toList]; exact hv
  ·rw [← Array.toList_map, Array.getElem?_toList]; exact hv
 | _ => cases hc
theorem qFH {op : BinOp} {k : IntKind} {m n : Int} {x : CV} (hb : iV op k m n = some x) (hne : op ≠ .shl) (hne' : op ≠ .shr) (t : TypeId) : ∃ v, (binOp op t (.int k m) (.int k n)).run P w = .ok v w ∧ VR c h.n w x v := by
  cases op <;> simp only [iV, sI] at hb
  all_goals first
    | (subst hb; exact ⟨_, by simp [binOp, Op.intArith, Op.intBits, Op.intCmp], .int _ _⟩)
    | (subst hb; exact ⟨_, by simp [binOp, Op.intArith, Op.intBits, Op.intCmp], .bool _⟩)
    | (split at hb
       · cases hb
       · rename_i hz
         simp only [sI] at hb
         subst hb
         exact ⟨_, by simp [binOp, Op.intDiv, hz], .int _ _⟩)
    | exact absurd rfl hne
    | exact absurd rfl hne'
    | cases hb
theorem od {op : BinOp} {k k' : IntKind} {m n : Int} {x : CV} (hb : kS op k m n = some x) (t : TypeId) : ∃ v, (binOp op t (.int k m) (.int k' n)).run P w = .ok v w ∧ VR c h.n w x v := by
 unfold kS at hb
 split at hb
 ·cases hb
 ·rename_i hn
  cases op <;> simp only [sI] at hb <;> first | (subst hb; exact ⟨_, by simp [binOp, Op.shift, hn], .int _ _⟩) | cases hb
theorem qFF {op : BinOp} {s u : ByteArray} {x : CV} (hb : binT op s u = some x) (t : TypeId) : ∃ v, (binOp op t (.string s) (.string u)).run P w = .ok v w ∧ VR c h.n w x v := by
  cases op <;> simp only [binT, sI] at hb
  all_goals first
    | (subst hb; exact ⟨_, by simp [binOp, Op.stringOp], .bool _⟩)
    | (split at hb
       · rename_i hz
         simp only [sI] at hb
         subst hb
         refine ⟨_, ?_, .str _⟩
         have : ¬ (9223372036854775807 < (s.size : Int) + (u.size : Int)) := by omega
         simp [binOp, Op.stringOp, this, IntKind.max, IntKind.signed, IntKind.bits]
       · cases hb)
    | cases hb
theorem oW {op : BinOp} (h1 : op ≠ .eql) (h2 : op ≠ .neq) (t : TypeId) (x y : Operand) (u v : Value) : eqGuard op t x y u v = Pure.pure () := by
 cases op <;> first | rfl | exact absurd rfl h1 | exact absurd rfl h2
theorem bin_ok {op : BinOp} {x y z : CV} {u v : Value} (hx : VR c h.n w x u) (hy : VR c h.n w y v) (hb : bin op x y = some z) (t : TypeId) : ∃ v', (binOp op t u v).run P w = .ok v' w ∧ VR c h.n w z v' := by
 unfold bin at hb
 split at hb
 ·cases hx; cases hy
  split at hb
  ·exact od hb t
  ·exact od hb t
  ·rename_i h1 h2
   split at hb
   ·rename_i hk; subst hk
    exact qFH hb h1 h2 t
   ·cases hb
 ·cases hx; cases hy
  exact qFF hb t
 ·cases hb
theorem tf {t : TypeId} {b : Bool} (h1 : bc P t = some b) (cs : Array Value) (off : Nat) {k : Nat} (hk : P.cellsOf t = k) (hi : (P.info? t).isSome) (hfit : off + k ≤ cs.size) (h0 : b = false → k = 1) :
  (part t cs off).run P w = .ok (if b then .agg (cs.extract off (off + k)) else cs.getD off Go.undef) w := by
 have hsz : (Go.sizeOf t).run P w = .ok k w := by
  obtain ⟨i, hi⟩ := Option.isSome_iff_exists.1 hi
  simp only [Program.cellsOf, hi, Option.map_some, Option.getD_some] at hk
  simp [Go.sizeOf, typeInfo, hi, hk]
 cases b with
 | true => simp [part, eY h1, hsz]
 | false =>
  have := h0 rfl
  have hlt : off < cs.size := by omega
  simp [part, eY h1, hlt, Array.getD]
end Ce
namespace Ce
open Go
variable {P : Program} {c : Cx} {h : H} {w : World} {env : List CV} {a : Act} {n : Nat}
theorem lV : ∀ (a c b d : List CV), a.length = c.length → bj (a ++ b) (c ++ d) = match bj a c with
  | some true => bj b d
  | r => r
 | [], [], b, d, _ => by simp [bj]
 | x :: a, y :: c, b, d, h => by
  have ih := lV a c b d (by simpa using h)
  simp only [List.cons_append, bj]
  cases eqv x y with
  | none => rfl
  | some r => cases r with
   | true => exact ih
   | false => rfl
 | [], y :: c, b, d, h => by simp at h
 | x :: a, [], b, d, h => by simp at h
theorem nX {xs ys : List CV} {k : Nat} (hl : xs.length = ys.length) : bj xs ys = match bj (xs.take k) (ys.take k) with
  | some true => bj (xs.drop k) (ys.drop k)
  | r => r := by
 have := lV (xs.take k) (ys.take k) (xs.drop k) (ys.drop k) (by simp [hl])
 rwa [List.take_append_drop, List.take_append_drop] at this
theorem bK : ∀ {ls : List Lf} {xs : List CV}, dG ls xs = true → xs.length = ls.length
 | [], [], _ => rfl
 | .b :: ls, .bool _ :: xs, h => by simp [bK (ls := ls) (xs := xs) h]
 | .i :: ls, .int _ _ :: xs, h => by simp [bK (ls := ls) (xs := xs) h]
 | .s :: ls, .str _ :: xs, h => by simp [bK (ls := ls) (xs := xs) h]
theorem cw : ∀ {l1 l2 : List Lf} {xs : List CV}, dG (l1 ++ l2) xs = true → dG l1 (xs.take l1.length) = true ∧ dG l2 (xs.drop l1.length) = true
 | [], l2, xs, h => by simpa [dG] using h
 | .b :: l1, l2, .bool _ :: xs, h => by simpa [dG] using cw (l1 := l1) (l2 := l2) (xs := xs) h
 | .i :: l1, l2, .int _ _ :: xs, h => by simpa [dG] using cw (l1 := l1) (l2 := l2) (xs := xs) h
 | .s :: l1, l2, .str _ :: xs, h => by simpa [dG] using cw (l1 := l1) (l2 := l2) (xs := xs) h
def mkV (P : Program) (t : TypeId) (vs : List Value) : Value := if bc P t = some true then .agg vs.toArray else vs.headD Go.undef
theorem bR {t : TypeId} {d : TypeDesc} (h : P.underlying t = some d) : bc P t = some (gp d) := by
 unfold bc; rw [h]; cases d <;> rfl
theorem i7 {t : TypeId} (hi : (P.info? t).isSome) (hu : (P.underlying t).isSome) {vs : Array Value} {off : Nat} (hfit : off + P.cellsOf t ≤ vs.size) (h1 : bc P t = some false → P.cellsOf t = 1) :
  (part t vs off).run P w = .ok (mkV P t ((vs.toList.drop off).take (P.cellsOf t))) w := by
 obtain ⟨d, hd⟩ := Option.isSome_iff_exists.1 hu
 have ha := bR hd
 rw [tf ha vs off rfl hi hfit (fun e => h1 (by rw [ha, e]))]
 unfold mkV
 rw [ha]
 cases hb : gp d with
 | true =>
  simp only [if_true]
  congr 2
  apply Array.ext'
  simp [List.extract_eq_take_drop]
 | false =>
  have hk := h1 (by rw [ha, hb])
  rw [hk] at hfit ⊢
  have hlt : off < vs.size := by omega
  have : vs.toList.drop off = vs.toList[off] :: vs.toList.drop (off + 1) := by rw [List.drop_eq_getElem_cons (by simpa using hlt)]
  rw [this]
  simp [Array.getD, hlt]
def EqC (P : Program) (d : Nat) (t : TypeId) (ls : List Lf) : Prop :=
 ∀ (c : Cx) (n : Nat) (w : World) (xs ys : List CV) (vs us : List Value) (b : Bool), dG ls xs = true → VRs c n w xs vs → VRs c n w ys us → ys.length = ls.length → bj xs ys = some b →
  ∀ D, (Op.equalIn (D + d) t (mkV P t vs) (mkV P t us)).run P w = .ok b w
theorem nL {xs ys : List CV} {vs us : List Value} (hx : xs.length = 1) (hv : VRs c n w xs vs) (hu : VRs c n w ys us) (hy : ys.length = 1) {b : Bool} (he : bj xs ys = some b) :
  ∃ x y v u, xs = [x] ∧ ys = [y] ∧ vs = [v] ∧ us = [u] ∧ VR c n w x v ∧ VR c n w y u ∧ eqv x y = some b := by
 match xs, ys, vs, us, hx, hy, hv, hu with
 | [x], [y], [v], [u], _, _, hv, hu =>
  refine ⟨x, y, v, u, rfl, rfl, rfl, rfl, hv.2 0 x v rfl rfl, hu.2 0 y u rfl rfl, ?_⟩
  simp only [bj] at he
  cases hxy : eqv x y with
  | none => rw [hxy] at he; cases he
  | some r => rw [hxy] at he; cases r <;> simpa using he
 | [x], [y], [], _, _, _, hv, _ => have := hv.1; simp at this
 | [x], [y], _ :: _ :: _, _, _, _, hv, _ => have := hv.1; simp at this
 | [x], [y], _, [], _, _, _, hu => have := hu.1; simp at this
 | [x], [y], _, _ :: _ :: _, _, _, _, hu => have := hu.1; simp at this
theorem lW {d : Nat} {rec : TypeId → Option (List Lf)} (hrec : ∀ t k, rec t = some k → (P.info? t).isSome ∧ (P.underlying t).isSome ∧ (bc P t = some false → k.length = 1) ∧ EqC P d t k) :
  ∀ (fs : List Field) (off : Nat) (ls : List Lf), jM P rec fs off = some ls → ∀ (c : Cx) (n : Nat) (w : World) (xs ys : List CV) (vs us : List Value) (b : Bool), dG ls (xs.drop off) = true → off ≤ xs.length → VRs c n w xs vs → VRs c n w ys us → ys.length = xs.length →
   bj (xs.drop off) (ys.drop off) = some b → ∀ D, (Op.eqFields (D + d) vs.toArray us.toArray fs).run P w = .ok b w
 | [], off, ls, hl, c, n, w, xs, ys, vs, us, b, hx, ho, hv, hu, hy, he, D => by
  simp only [jM, sI] at hl
  subst hl
  have hlen := bK hx
  simp at hlen
  rw [List.drop_of_length_le (by omega), List.drop_of_length_le (by omega)] at he
  simp only [bj, sI] at he
  subst he
  simp [Op.eqFields]
 | f :: fs, off, ls, hl, c, n, w, xs, ys, vs, us, b, hx, ho, hv, hu, hy, he, D => by
  simp only [jM] at hl
  split at hl
  ·cases hl
  ·rename_i hname
   split at hl
   ·rename_i hoff
    split at hl
    ·rename_i k hk
     split at hl
     ·rename_i hcells
      split at hl
      ·rename_i ks hks
       simp only [sI] at hl
       subst hl
       obtain ⟨h1, h2, h3, h4⟩ := hrec _ _ hk
       have hlen := bK hx
       simp at hlen
       obtain ⟨hx1, hx2⟩ := cw hx
       rw [List.drop_drop] at hx2
       have hp1 := i7 (P := P) (w := w) h1 h2 (vs := vs.toArray) (off := f.offset) (by rw [hcells]; simp; have := hv.1; omega) (fun e => by rw [hcells]; exact h3 e)
       have hp2 := i7 (P := P) (w := w) h1 h2 (vs := us.toArray) (off := f.offset) (by rw [hcells]; simp; have := hu.1; omega) (fun e => by rw [hcells]; exact h3 e)
       rw [nX (k := k.length) (by simp; omega)] at he
       simp only [Op.eqFields, if_pos (show f.name ≠ "_" from hname), Sem.run_bind, hp1, hp2, Result.andThen_ok]
       rw [hcells, hoff]
       have hx' := (hv.drop off).take k.length
       have hy' := (hu.drop off).take k.length
       cases hq : bj ((xs.drop off).take k.length) ((ys.drop off).take k.length) with
       | none => rw [hq] at he; cases he
       | some q =>
        have hr := h4 c n w _ _ _ _ q hx1 hx' hy' (by simp; omega) hq D
        simp only [hr, Result.andThen_ok, Sem.run_ite, Sem.run_pure]
        cases q with
        | false => rw [hq] at he; simp only [sI] at he; subst he; simp
        | true =>
         rw [hq] at he
         simp only [List.drop_drop] at he
         simp only [Bool.not_true, Bool.false_eq_true, if_false]
         exact lW hrec fs (off + k.length) ks hks c n w xs ys vs us b hx2 (by omega) hv hu hy he D
      ·cases hl
     ·cases hl
    ·cases hl
   ·cases hl
theorem nY {d : Nat} {e : TypeId} {k : List Lf} (h1 : (P.info? e).isSome) (h2 : (P.underlying e).isSome) (h3 : bc P e = some false → k.length = 1) (h4 : EqC P d e k) (hcells : P.cellsOf e = k.length) {vs us : List Value} {xs ys : List CV}
  (hv : VRs c n w xs vs) (hu : VRs c n w ys us) (hy : ys.length = xs.length) (D : Nat) (kk : Bool → Sem Bool) : ∀ (m i : Nat), dG (ft k m) (xs.drop (i * k.length)) = true → i * k.length ≤ xs.length → ∀ b, bj (xs.drop (i * k.length)) (ys.drop (i * k.length)) = some b →
   (forIn (m := Sem) (List.range' i m 1) (none, PUnit.unit) (fun i (_ : Option Bool × PUnit) => do
    let r ← Op.equalIn (D + d) e (← part e vs.toArray (i * k.length)) (← part e us.toArray (i * k.length))
    if (!r) = true then Pure.pure (ForInStep.done (some false, PUnit.unit)) else Pure.pure (ForInStep.yield (none, PUnit.unit)))).run P w = .ok ((if b then none else some false), PUnit.unit) w
 | 0, i, hx, ho, b, he => by
  have hlen := bK hx
  simp [ft] at hlen
  rw [List.drop_of_length_le (by omega), List.drop_of_length_le (by omega)] at he
  simp only [bj, sI] at he
  subst he
  simp
 | m + 1, i, hx, ho, b, he => by
  have hlen := bK hx
  simp only [ft] at hx
  obtain ⟨hx1, hx2⟩ := cw hx
  have hl : ∀ m, (ft k m).length = m * k.length := by
   intro m; induction m with
   | zero => simp [ft]
   | succ m ih => simp [ft, ih, Nat.succ_mul]; omega
  have hlen2 := bK hx1
  rw [hl] at hlen
  simp at hlen hlen2
  have hmul : (m + 1) * k.length = m * k.length + k.length := Nat.succ_mul _ _
  rw [List.drop_drop] at hx2
  have hp1 := i7 (P := P) (w := w) h1 h2 (vs := vs.toArray) (off := i * k.length) (by rw [hcells]; simp; have := hv.1; omega) (fun e => by rw [hcells]; exact h3 e)
  have hp2 := i7 (P := P) (w := w) h1 h2 (vs := us.toArray) (off := i * k.length) (by rw [hcells]; simp; have := hu.1; omega) (fun e => by rw [hcells]; exact h3 e)
  rw [nX (k := k.length) (by simp; omega)] at he
  have hx' := (hv.drop (i * k.length)).take k.length
  have hy' := (hu.drop (i * k.length)).take k.length
  simp only [List.range'_succ, List.forIn_cons, Sem.run_bind, hp1, hp2, Result.andThen_ok, hcells]
  cases hq : bj ((xs.drop (i * k.length)).take k.length) ((ys.drop (i * k.length)).take k.length) with
  | none => rw [hq] at he; cases he
  | some q =>
   have hr := h4 c n w _ _ _ _ q hx1 hx' hy' (by simp; omega) hq D
   simp only [hr, Result.andThen_ok, Sem.run_ite, Sem.run_pure]
   cases q with
   | false => rw [hq] at he; simp only [sI] at he; subst he; simp
   | true =>
    rw [hq] at he
    simp only [List.drop_drop] at he
    simp only [Bool.not_true, Bool.false_eq_true, if_false, Sem.run_pure, Result.andThen_ok]
    have := nY h1 h2 h3 h4 hcells hv hu hy D kk m (i + 1) (by rw [Nat.succ_mul]; exact hx2) (by rw [Nat.succ_mul]; omega) b (by rw [Nat.succ_mul]; exact he)
    exact this
end Ce
namespace Ce
open Go
variable {P : Program} {c : Cx} {h : H} {w : World} {env : List CV} {a : Act} {n : Nat}
theorem nJ : ∀ (d : Nat) (t : TypeId) (ls : List Lf), nK P d t = some ls → (P.info? t).isSome ∧ (P.underlying t).isSome ∧ (bc P t = some false → ls.length = 1) ∧ EqC P d t ls
 | 0, t, k, h => by cases h
 | d + 1, t, k, h => by
  have IH := fun t k => nJ d t k
  simp only [nK] at h
  split at h
  ·cases h
  ·rename_i hinfo
   have hi : (P.info? t).isSome := by cases hh : P.info? t with
    | none => rw [hh] at hinfo; simp at hinfo
    | some _ => rfl
   refine ⟨hi, ?_⟩
   split at h
   ·rename_i hu
    simp only [sI] at h; subst h
    refine ⟨by rw [hu]; rfl, fun _ => rfl, ?_⟩
    intro c n w xs ys vs us b hx hv hw hy he D
    obtain ⟨x, y, v, u, rfl, rfl, rfl, rfl, h1, h2, h3⟩ := nL (bK hx) hv hw hy he
    have hm : bc P t ≠ some true := by rw [bR hu]; simp [gp]
    simp only [mkV, if_neg hm, List.headD]
    cases x <;> simp only [dG, Bool.false_eq_true] at hx
    cases y <;> simp only [eqv, sI, reduceCtorEq] at h3
    cases h1; cases h2; subst h3
    exact run_equalIn_bool' w _ t _ _ hu
   ·rename_i hu
    simp only [sI] at h; subst h
    refine ⟨by rw [hu]; rfl, fun _ => rfl, ?_⟩
    intro c n w xs ys vs us b hx hv hw hy he D
    obtain ⟨x, y, v, u, rfl, rfl, rfl, rfl, h1, h2, h3⟩ := nL (bK hx) hv hw hy he
    have hm : bc P t ≠ some true := by rw [bR hu]; simp [gp]
    simp only [mkV, if_neg hm, List.headD]
    cases x <;> simp only [dG, Bool.false_eq_true] at hx
    cases y <;> simp only [eqv, sI, reduceCtorEq] at h3
    split at h3
    ·rename_i hk
     subst hk
     cases h1; cases h2; simp only [sI] at h3; subst h3
     exact run_equalIn_int w _ t _ _ _ _ hu
    ·cases h3
   ·rename_i hu
    simp only [sI] at h; subst h
    refine ⟨by rw [hu]; rfl, fun _ => rfl, ?_⟩
    intro c n w xs ys vs us b hx hv hw hy he D
    obtain ⟨x, y, v, u, rfl, rfl, rfl, rfl, h1, h2, h3⟩ := nL (bK hx) hv hw hy he
    have hm : bc P t ≠ some true := by rw [bR hu]; simp [gp]
    simp only [mkV, if_neg hm, List.headD]
    cases x <;> simp only [dG, Bool.false_eq_true] at hx
    cases y <;> simp only [eqv, sI, reduceCtorEq] at h3
    cases h1; cases h2; subst h3
    exact run_equalIn_string w _ t _ _ hu
   ·rename_i m e hu
    refine ⟨by rw [hu]; rfl, fun hf => by rw [bR hu] at hf; simp [gp] at hf, ?_⟩
    split at h
    ·rename_i k' hk'
     split at h
     ·rename_i hcells
      simp only [sI] at h; subst h
      obtain ⟨h1, h2, h3, h4⟩ := IH _ _ hk'
      intro c n w xs ys vs us b hx hv hw hy he D
      have hm : bc P t = some true := by rw [bR hu]; simp [gp]
      simp only [mkV, if_pos hm]
      have hlen := bK hx
      have hE := nY h1 h2 h3 h4 hcells hv hw (by rw [hy, hlen]) D (fun b => Pure.pure b) m 0 (by simpa using hx) (by simp) b (by simpa using he)
      have hsz : (Go.sizeOf e).run P w = .ok k'.length w := by
       obtain ⟨i, hi⟩ := Option.isSome_iff_exists.1 h1
       simp only [Program.cellsOf, hi, Option.map_some, Option.getD_some] at hcells
       simp [Go.sizeOf, typeInfo, hi, hcells]
      rw [show D + (d + 1) = (D + d) + 1 from by omega]
      simp only [Op.equalIn, Sem.run_bind, aL hu, Result.andThen_ok, hsz, Std.Legacy.Range.forIn_eq_forIn_range', Std.Legacy.Range.size]
      simp only [Nat.sub_zero, Nat.add_sub_cancel, Nat.div_one]
      refine (congrArg (fun r => Result.andThen r _) hE).trans ?_
      cases b <;> rfl
     ·cases h
    ·cases h
   ·rename_i fs hu
    refine ⟨by rw [hu]; rfl, fun hf => by rw [bR hu] at hf; simp [gp] at hf, ?_⟩
    split at h
    ·cases h
    ·rename_i hst
     intro c n w xs ys vs us b hx hv hw hy he D
     have hm : bc P t = some true := by rw [bR hu]; simp [gp]
     simp only [mkV, if_pos hm]
     have hfo : P.fieldsOf t = fs := by unfold Program.fieldsOf; rw [hu]
     rw [show D + (d + 1) = (D + d) + 1 from by omega, run_equalIn_struct w (D + d) t _ _ (by rw [hfo]; exact hu) (by simpa using hst), hfo]
     exact lW IH fs.toList 0 k h c n w xs ys vs us b (by simpa using hx) (by omega) hv hw (by rw [hy, bK hx]) (by simpa using he) D
   ·cases h
theorem mL {t : TypeId} {ag : Bool} {ls : List Lf} (hf : flatT P t = some (ag, ls)) {x y : CV} {u v : Value} (hx : VR c n w x u) (hy : VR c n w y v) (hk : kOk ag ls x = true) {b : Bool} (he : eqF x y = some b) :
  (Op.equal t u v).run P w = .ok b w := by
 unfold flatT at hf
 split at hf
 ·rename_i l d hl hd
  split at hf
  ·cases hf
  ·simp only [sI, pI] at hf
   obtain ⟨rfl, rfl⟩ := hf
   obtain ⟨_, _, _, h4⟩ := nJ _ _ _ hl
   simp only [kOk, aT, beq_iff_eq] at hk
   have hcx := hx.cells
   have hcy := hy.cells
   unfold eqF at he
   split at he
   case isFalse => cases he
   rename_i hsh
   simp only [aT, beq_iff_eq] at hsh
   have hya : bU y = gp d := by rw [← hsh.1]; exact hk.1
   have hlen : y.cells.length = l.length := by rw [← hsh.2]; exact bK hk.2
   have h5 := h4 c n w _ _ _ _ b hk.2 hcx hcy hlen he (10000 - 40)
   have hmx : mkV P t u.cells.toList = u := by
    unfold mkV
    rw [bR hd]
    cases hag : gp d with
    | true =>
     rw [hag] at hk
     cases x <;> simp [bU] at hk
     cases hx; simp [Value.cells]
    | false =>
     rw [hag] at hk
     cases hx <;> simp [bU] at hk <;> simp [Value.cells]
   have hmy : mkV P t v.cells.toList = v := by
    unfold mkV
    rw [bR hd]
    cases hag : gp d with
    | true =>
     rw [hag] at hya
     cases y <;> simp [bU] at hya
     cases hy; simp [Value.cells]
    | false =>
     rw [hag] at hya
     cases hy <;> simp [bU] at hya <;> simp [Value.cells]
   rw [hmx, hmy] at h5
   exact h5
 ·cases hf
end Ce
namespace Ce
open Go
variable {P : Program} {c : Cx} {h : H} {w : World} {env : List CV} {a : Act} {n : Nat}
theorem qAO {op : BinOp} (hop : op = .eql ∨ op = .neq) {t : TypeId} {u v : Value} {b : Bool} (hns : ∀ s s', u = .string s → v ≠ .string s') (hni : ∀ k m k' m', u = .int k m → v ≠ .int k' m') (hnf : ∀ k m k' m', u = .float k m → v ≠ .float k' m') (hnc : ∀ k m l k' m' l', u = .complex k m l → v ≠ .complex k' m' l')
  (he : (Op.equal t u v).run P w = .ok b w) : (binOp op t u v).run P w = .ok (.bool (if op = .neq then !b else b)) w := by
 rcases hop with rfl | rfl
 ·cases u <;> cases v <;> first
   | (simp [binOp, he]; done)
   | exact absurd rfl (hns _ _ rfl)
   | exact absurd rfl (hni _ _ _ _ rfl)
   | exact absurd rfl (hnf _ _ _ _ rfl)
   | exact absurd rfl (hnc _ _ _ _ _ _ rfl)
 ·cases u <;> cases v <;> first
   | (simp [binOp, he]; done)
   | exact absurd rfl (hns _ _ rfl)
   | exact absurd rfl (hni _ _ _ _ rfl)
   | exact absurd rfl (hnf _ _ _ _ rfl)
   | exact absurd rfl (hnc _ _ _ _ _ _ rfl)
theorem iJ {op : BinOp} {t : TypeId} {x y : Operand} {u v : Value} (h1 : u ≠ .nilIface) (h2 : ∀ as bs, u = .agg as → v = .agg bs → P.eqGuardType P.depth t = false) : (eqGuard op t x y u v).run P w = .ok () w := by
 cases u with
 | agg as =>
  cases v with
  | agg bs => exact run_eqGuard_agg w op t x y as bs (h2 as bs rfl rfl)
  | _ => cases op <;> rfl
 | nilIface => exact absurd rfl h1
 | _ => cases op <;> cases v <;> rfl
theorem wb {t e : TypeId} (hu : P.underlying t = some (.pointer e)) {x y : CV} {u v : Value} (hx : VR c n w x u) (hy : VR c n w y v) {b : Bool} (he : eqK .ptr x y = some b) (d : Nat) : (Op.equalIn (d + 1) t u v).run P w = .ok b w := by
 simp only [eqK] at he
 split at he <;> first | (cases he; done) | skip
 all_goals (simp only [sI] at he; subst he; cases hx; cases hy; simp [Op.equalIn, aL hu])
theorem wS {t e : TypeId} (hu : P.underlying t = some (.slice e)) {x y : CV} {u v : Value} (hx : VR c n w x u) (hy : VR c n w y v) {b : Bool} (he : eqK .slc x y = some b) (d : Nat) : (Op.equalIn (d + 1) t u v).run P w = .ok b w := by
 simp only [eqK] at he
 split at he <;> first | (cases he; done) | skip
 all_goals (simp only [sI] at he; subst he; cases hx; cases hy; simp [Op.equalIn, aL hu])
theorem qAI {t : TypeId} {ps rs : Array TypeId} {vr : Bool} (hu : P.underlying t = some (.func ps rs vr)) {x y : CV} {u v : Value} (hx : VR c n w x u) (hy : VR c n w y v) {b : Bool} (he : eqK .fn x y = some b) (d : Nat) : (Op.equalIn (d + 1) t u v).run P w = .ok b w := by
 simp only [eqK] at he
 split at he <;> first | (cases he; done) | skip
 all_goals (simp only [sI] at he; subst he; cases hx; cases hy; simp [Op.equalIn, aL hu])
theorem ww {t k e : TypeId} (hu : P.underlying t = some (.map k e)) {x y : CV} {u v : Value} (hx : VR c n w x u) (hy : VR c n w y v) {b : Bool} (he : eqK .map x y = some b) (d : Nat) : (Op.equalIn (d + 1) t u v).run P w = .ok b w := by
 simp only [eqK] at he
 split at he <;> first | (cases he; done) | skip
 all_goals (simp only [sI] at he; subst he; cases hx; cases hy; simp [Op.equalIn, aL hu])
theorem eg {op : BinOp} (hop : op = .eql ∨ op = .neq) {t : TypeId} {x y : Operand} {u v : Value} {b : Bool} (h1 : u ≠ .nilIface) (h2 : ∀ as bs, u = .agg as → v = .agg bs → P.eqGuardType P.depth t = false)
  (hns : ∀ s s', u = .string s → v ≠ .string s') (hni : ∀ k m k' m', u = .int k m → v ≠ .int k' m') (hnf : ∀ k m k' m', u = .float k m → v ≠ .float k' m') (hnc : ∀ k m l k' m' l', u = .complex k m l → v ≠ .complex k' m' l')
  (he : (Op.equal t u v).run P w = .ok b w) : (do eqGuard op t x y u v; binOp op t u v : Sem Value).run P w = .ok (.bool (if (op == .neq) then !b else b)) w := by
 rw [Sem.run_bind, iJ h1 h2, Result.andThen_ok, qAO hop hns hni hnf hnc he]
 rcases hop with rfl | rfl <;> rfl
theorem tz {t : TypeId} {ag : Bool} {ls : List Lf} (hf : flatT P t = some (ag, ls)) : P.eqGuardType P.depth t = false := by
 unfold flatT at hf
 split at hf
 ·split at hf
  ·cases hf
  ·rename_i hg; simpa using hg
 ·cases hf
theorem eqo_ok {op : BinOp} (hop : op = .eql ∨ op = .neq) {t : TypeId} {x y : Operand} {u v : Value} {xv yv : CV} (hx : VR c n w xv u) (hy : VR c n w yv v) {io : Ins} {x' y' : Opd}
  (hc : (match P.underlying t with
   | some (.pointer _) => some (Ins.eqo (op == .neq) .ptr x' y')
   | some (.slice _) => some (Ins.eqo (op == .neq) .slc x' y')
   | some (.func _ _ _) => some (Ins.eqo (op == .neq) .fn x' y')
   | some (.map _ _) => some (Ins.eqo (op == .neq) .map x' y')
   | _ => match flatT P t with
    | some (ag, ls) => some (Ins.eqo (op == .neq) (.leaf ag ls) x' y')
    | none => none) = some io) :
  ∃ k, io = .eqo (op == .neq) k x' y' ∧ ∀ b, eqK k xv yv = some b → (do eqGuard op t x y u v; binOp op t u v : Sem Value).run P w = .ok (.bool (if (op == .neq) then !b else b)) w := by
 split at hc
 ·rename_i e hu
  simp only [sI] at hc; subst hc
  refine ⟨.ptr, rfl, fun b he => ?_⟩
  have hr : (Op.equal t u v).run P w = .ok b w := wb hu hx hy he 9999
  simp only [eqK] at he
  split at he <;> first | (cases he; done) | skip
  all_goals
   cases hx; cases hy
   exact eg hop (by simp) (by simp) (by simp) (by simp) (by simp) (by simp) hr
 ·rename_i e hu
  simp only [sI] at hc; subst hc
  refine ⟨.slc, rfl, fun b he => ?_⟩
  have hr : (Op.equal t u v).run P w = .ok b w := wS hu hx hy he 9999
  simp only [eqK] at he
  split at he <;> first | (cases he; done) | skip
  all_goals
   cases hx; cases hy
   exact eg hop (by simp) (by simp) (by simp) (by simp) (by simp) (by simp) hr
 ·rename_i e hu
  simp only [sI] at hc; subst hc
  refine ⟨.fn, rfl, fun b he => ?_⟩
  have hr : (Op.equal t u v).run P w = .ok b w := qAI hu hx hy he 9999
  simp only [eqK] at he
  split at he <;> first | (cases he; done) | skip
  all_goals
   cases hx; cases hy
   exact eg hop (by simp) (by simp) (by simp) (by simp) (by simp) (by simp) hr
 ·rename_i e hu
  simp only [sI] at hc; subst hc
  refine ⟨.map, rfl, fun b he => ?_⟩
  have hr : (Op.equal t u v).run P w = .ok b w := ww hu hx hy he 9999
  simp only [eqK] at he
  split at he <;> first | (cases he; done) | skip
  all_goals
   cases hx; cases hy
   exact eg hop (by simp) (by simp) (by simp) (by simp) (by simp) (by simp) hr
 ·split at hc
  ·rename_i ag ls hf
   simp only [sI] at hc; subst hc
   refine ⟨.leaf ag ls, rfl, fun b he => ?_⟩
   simp only [eqK] at he
   split at he
   ·rename_i hk
    have hr := mL hf hx hy hk he
    have hg := tz hf
    simp only [kOk, aT, beq_iff_eq] at hk
    unfold eqF at he
    split at he
    case isFalse => cases he
    rename_i hsh
    simp only [aT, beq_iff_eq] at hsh
    cases hx with
    | agg xs vs hxl hxv => exact eg hop (by simp) (fun _ _ _ _ => hg) (by simp) (by simp) (by simp) (by simp) hr
    | int k m =>
     have hgr : (eqGuard op t x y (.int k m) v).run P w = .ok () w := iJ (by simp) (by simp)
     rw [Sem.run_bind, hgr, Result.andThen_ok]
     cases hy <;> simp only [CV.cells, bj, eqv] at he
     all_goals try (cases he; done)
     ·split at he
      ·rename_i hb
       split at hb
       ·rename_i hk2
        subst hk2
        simp only [sI, beq_iff_eq] at hb he
        subst he
        rcases hop with rfl | rfl <;> simp [binOp, Op.intCmp, hb]
       ·cases hb
      ·rename_i hb
       split at hb
       ·rename_i hk2
        subst hk2
        simp only [sI] at hb he
        subst he
        rcases hop with rfl | rfl <;> simp_all [binOp, Op.intCmp]
       ·cases hb
      ·cases he
     all_goals (simp [bU] at hsh)
    | str s =>
     have hgr : (eqGuard op t x y (.string s) v).run P w = .ok () w := iJ (by simp) (by simp)
     rw [Sem.run_bind, hgr, Result.andThen_ok]
     cases hy <;> simp only [CV.cells, bj, eqv] at he
     all_goals try (cases he; done)
     ·split at he
      ·rename_i hb
       simp only [sI] at hb he
       subst he
       rcases hop with rfl | rfl <;> simp [binOp, Op.stringOp, hb]
      ·rename_i hb
       simp only [sI] at hb he
       subst he
       rcases hop with rfl | rfl <;> simp [binOp, Op.stringOp, hb]
      ·cases he
     all_goals (simp [bU] at hsh)
    | bool q => exact eg hop (by simp) (by simp) (by simp) (by simp) (by simp) (by simp) hr
    | _ => simp [CV.cells, dG] at hk
   ·cases he
  ·cases hc
theorem wn (op : BinOp) (t : TypeId) (x y : Operand) (yt : TypeId) : OpS P (.binOp op t x y yt) := by
 intro io hc _ c h w env a o z h' ho r he hs
 obtain ⟨x', hx, hc⟩ := aP hc
 obtain ⟨y', hy, hc⟩ := aP hc
 have h1 := aS he hx
 have h2 := aS he hy
 by_cases hop : op = .eql ∨ op = .neq
 ·have hc' : (match P.underlying t with
   | some (.pointer _) => some (Ins.eqo (op == .neq) .ptr x' y')
   | some (.slice _) => some (Ins.eqo (op == .neq) .slc x' y')
   | some (.func _ _ _) => some (Ins.eqo (op == .neq) .fn x' y')
   | some (.map _ _) => some (Ins.eqo (op == .neq) .map x' y')
   | _ => match flatT P t with
    | some (ag, ls) => some (Ins.eqo (op == .neq) (.leaf ag ls) x' y')
    | none => none) = some io := by
   rcases hop with rfl | rfl <;> exact hc
  obtain ⟨k, rfl, hk⟩ := eqo_ok (x := x) (y := y) hop h1 h2 hc'
  simp only [stepO] at hs
  split at hs
  ·rename_i b hb
   simp only [sI, pI] at hs
   obtain ⟨rfl, rfl⟩ := hs
   refine .pure r ?_ (.bool _)
   simp only [execOp, ho]
   rw [Sem.run_bind, hk b hb]
   rfl
  ·cases hs
 ·have hc' : io = .bin op x' y' := by
   cases op <;> simp at hop <;> (injection hc with hc; exact hc.symm)
  subst hc'
  simp only [stepO] at hs
  split at hs
  ·rename_i v hv
   simp only [sI, pI] at hs
   obtain ⟨rfl, rfl⟩ := hs
   obtain ⟨v', hr, hvr⟩ := bin_ok h1 h2 hv t (P := P)
   refine .pure r ?_ hvr
   simp only [execOp, ho, oW (fun e => hop (.inl e)) (fun e => hop (.inr e)), Sem.run_bind, Sem.run_pure, Result.andThen_ok, hr]
  ·cases hs
theorem zK (op : UnOp) (t : TypeId) (x : Operand) : OpS P (.unOp op t x) := by
 intro io hc _ c h w env a o z h' ho r he hs
 obtain ⟨x', hx, hc⟩ := aP hc
 injection hc with hc; subst hc
 have h1 := aS he hx
 simp only [stepO] at hs
 generalize x'.ev env = xv at hs h1
 generalize hpe : a.eval x = pe at h1
 split at hs
 ·rename_i v hv
  simp only [sI, pI] at hs
  obtain ⟨rfl, rfl⟩ := hs
  unfold un at hv
  split at hv
  ·cases h1; simp only [sI] at hv; subst hv
   exact .pure r (by simp [execOp, ho, hpe, Op.unary, Op.intArith]) (.int _ _)
  ·cases h1; simp only [sI] at hv; subst hv
   exact .pure r (by simp [execOp, ho, hpe, Op.unary, Op.intBits]) (.int _ _)
  ·cases h1; simp only [sI] at hv; subst hv
   exact .pure r (by simp [execOp, ho, hpe, Op.unary]) (.bool _)
  ·cases hv
 ·cases hs
theorem r5 (s d : TypeId) (x : Operand) : OpS P (.convert s d x) := by
 intro io hc _ c h w env a o z h' ho r he hs
 obtain ⟨x', hx, hc⟩ := aP hc
 have h1 := aS he hx
 split at hc
 ·rename_i k1 k2 hu1 hu2
  injection hc with hc; subst hc
  simp only [stepO] at hs
  generalize x'.ev env = xv at hs h1
  generalize hpe : a.eval x = pe at h1
  split at hs
  ·cases h1
   simp only [sI, pI] at hs
   obtain ⟨rfl, rfl⟩ := hs
   exact .pure r (by simp [execOp, ho, hpe, convert, aL hu1, aL hu2, Conv.intToInt]) (.int _ _)
  ·cases hs
 ·rename_i hu1 hu2
  injection hc with hc; subst hc
  simp only [stepO] at hs
  generalize x'.ev env = xv at hs h1
  generalize hpe : a.eval x = pe at h1
  split at hs
  ·cases h1
   simp only [sI, pI] at hs
   obtain ⟨rfl, rfl⟩ := hs
   exact .pure r (by simp [execOp, ho, hpe, convert, aL hu1, aL hu2]) (.str _)
  ·cases hs
 ·cases hc
end Ce
namespace Ce
open Go
variable {P : Program} {c : Cx} {h : H} {w : World} {env : List CV} {a : Act} {n : Nat}
theorem xH (xs : List Value) : ∀ (off : Nat) (i : Nat) (cs : Array Value), ((xs.zipIdx i).foldl (fun (cs : Array Value) (p : Value × Nat) => cs.setIfInBounds (off + p.2) p.1) cs).toList = cs.toList.mapIdx fun j v => if off + i ≤ j ∧ j < off + i + xs.length then xs.getD (j - (off + i)) v else v := by
 induction xs with
 | nil =>
  intro off i cs
  apply List.ext_getElem?
  intro j
  simp only [List.zipIdx_nil, List.foldl_nil, List.getElem?_mapIdx, List.length_nil]
  cases cs.toList[j]? with
  | none => rfl
  | some v => simp only [Option.map_some, sI]; rw [if_neg (by omega)]
 | cons x xs ih =>
  intro off i cs
  rw [List.zipIdx_cons, List.foldl_cons, ih off (i + 1)]
  apply List.ext_getElem?
  intro j
  simp only [List.getElem?_mapIdx, Array.toList_setIfInBounds, List.getElem?_set]
  by_cases hj : off + i = j
  ·subst hj
   simp only [if_true]
   by_cases hl : off + i < cs.toList.length
   ·rw [if_pos hl, List.getElem?_eq_getElem hl]
    simp only [Option.map_some, sI, List.length_cons]
    rw [if_neg (by omega), if_pos (by omega), Nat.sub_self]
    rfl
   ·rw [if_neg hl, List.getElem?_eq_none (Nat.not_lt.1 hl)]
    rfl
  ·rw [if_neg hj]
   cases cs.toList[j]? with
   | none => rfl
   | some v =>
    simp only [Option.map_some, sI, List.length_cons]
    by_cases h1 : off + i ≤ j ∧ j < off + i + (xs.length + 1)
    ·rw [if_pos h1]
     have : j - (off + i) = (j - (off + (i + 1))) + 1 := by omega
     rw [if_pos (by omega), this]
     simp
    ·rw [if_neg h1, if_neg (by omega)]
theorem sS (cells : Array Value) (off : Nat) (xs : List Value) (hfit : off + xs.length ≤ cells.size) :
  (xs.toArray.zipIdx.foldl (fun (cs : Array Value) (p : Value × Nat) => cs.setIfInBounds (off + p.2) p.1) cells) = (cells.toList.take off ++ xs ++ cells.toList.drop (off + xs.length)).toArray := by
 apply Array.ext'
 rw [← Array.foldl_toList, Array.toList_zipIdx, xH xs off 0 cells]
 apply List.ext_getElem?
 intro j
 simp only [List.getElem?_mapIdx, Nat.add_zero]
 by_cases h1 : j < off
 ·rw [List.append_assoc, List.getElem?_append_left (by simp; omega), List.getElem?_take, if_pos h1]
  cases cells.toList[j]? with
  | none => rfl
  | some v => simp; intro h2; omega
 ·by_cases h2 : j < off + xs.length
  ·rw [List.getElem?_append_left (by simp; omega), List.getElem?_append_right (by simp; omega)]
   have hj : j < cells.toList.length := by simp; omega
   rw [List.getElem?_eq_getElem hj]
   simp only [Option.map_some, List.length_take, Array.length_toList]
   rw [if_pos (by omega), Nat.min_eq_left (by omega)]
   rw [List.getElem?_eq_getElem (show j - off < xs.length from by omega)]
   simp [List.getD, List.getElem?_eq_getElem (show j - off < xs.length from by omega)]
  ·rw [List.getElem?_append_right (by simp; omega), List.getElem?_drop]
   simp only [List.length_append, List.length_take, Array.length_toList]
   rw [Nat.min_eq_left (by omega), show off + xs.length + (j - (off + xs.length)) = j from by omega]
   cases cells.toList[j]? with
   | none => rfl
   | some v => simp; intro h3 h4; omega
theorem vm (place : Nat → Option (Nat × Nat)) {env : List CV} {a : Act} (he : bp c n w env a.tmps) : ∀ (ps : List (Nat × Operand)) (qs : List (Nat × Nat × Opd)) (zs : List CV) (vs : List Value) (cs : List CV),
  jP place ps = some qs → VRs c n w zs vs → bS zs env qs = some cs → ∃ us : List Value, Instr.fill place vs.toArray (ps.map fun p => (p.1, a.eval p.2)) = some us.toArray ∧ VRs c n w cs us
 | [], qs, zs, vs, cs, hp, hz, hf => by
  simp only [jP, sI] at hp; subst hp
  simp only [bS, sI] at hf; subst hf
  exact ⟨vs, rfl, hz⟩
 | (i, o) :: ps, qs, zs, vs, cs, hp, hz, hf => by
  simp only [jP] at hp
  split at hp
  ·rename_i off k o' qs' e1 e2 e3
   simp only [sI] at hp; subst hp
   simp only [bS] at hf
   split at hf
   ·rename_i hcond
    simp only [aT, dT] at hcond
    obtain ⟨⟨h1, h2⟩, h3⟩ := hcond
    have hv := (aS he e2).cells
    have hs := hz.splice hv (i := off) (by omega)
    have hsz : (a.eval o).cells.size = k := by have := hv.1; simp at this; omega
    have hvl : vs.length = zs.length := hz.1.symm
    obtain ⟨us, hu1, hu2⟩ := vm place he ps qs' _ _ cs e3 hs hf
    refine ⟨us, ?_, hu2⟩
    simp only [List.map_cons, Instr.fill, e1]
    have hc : ¬ ((a.eval o).cells.size ≠ k || off + (a.eval o).cells.size > vs.toArray.size) = true := by
     simp [hsz]; omega
    rw [if_neg hc]
    have hfo := sS vs.toArray off (a.eval o).cells.toList (by simp; omega)
    simp only [Array.toArray_toList] at hfo
    rw [hfo]
    simpa [hsz] using hu1
   ·cases hf
  ·cases hp
theorem wm (t : TypeId) (ps : Array (Nat × Operand)) : OpS P (.build t ps) := by
 intro io hc _ c h w env a o z h' ho r he hs
 obtain ⟨zv, hz, hc⟩ := aP hc
 obtain ⟨it, v0, hi, hiz, hcv, hrun⟩ := d9 hz
 have hzr := (dj c h.n w v0 zv hcv).cells
 have key : ∀ (place : Nat → Option (Nat × Nat)) (qs : List (Nat × Nat × Opd)), jP place ps.toList = some qs → (∀ cells, Instr.fill place v0.cells (ps.toList.map fun p => (p.1, a.eval p.2)) = some cells → P.built t (ps.map fun (i, x) => (i, a.eval x)).toList = some cells) →
   stepO noC (.build zv.cells qs) env h = some (z, h') → OpOK P c h w ((execOp a.eval o).run P w) z h' := by
  intro place qs hq hb hs
  simp only [stepO] at hs
  split at hs
  ·rename_i cs hcs
   simp only [sI, pI] at hs
   obtain ⟨rfl, rfl⟩ := hs
   obtain ⟨us, h1, h2⟩ := vm place he ps.toList qs _ _ cs hq hzr hcs
   rw [Array.toArray_toList] at h1
   refine .pure r ?_ h2.agg
   simp only [execOp, ho, Sem.run_bind]
   rw [run_build w t _ _ (hb _ h1)]
   rfl
  ·cases hs
 have hlist : (ps.map fun (x : Nat × Operand) => (x.1, a.eval x.2)).toList = ps.toList.map fun p => (p.1, a.eval p.2) := by simp
 split at hc
 ·rename_i fs hu
  split at hc
  ·rename_i pl hpl
   obtain ⟨qs, hq, hc⟩ := aP hc
   injection hc with hc; subst hc
   refine key _ qs hq (fun cells hf => ?_) hs
   unfold Program.built
   rw [hi, hu]
   simp only [hiz, hpl]
   rw [hlist]; exact hf
  ·cases hc
 ·rename_i m e hu
  obtain ⟨k, hk, hc⟩ := aP hc
  obtain ⟨qs, hq, hc⟩ := aP hc
  injection hc with hc; subst hc
  refine key _ qs hq (fun cells hf => ?_) hs
  unfold dJ at hk
  split at hk
  ·rename_i ie hie
   simp only [sI] at hk
   unfold Program.built
   rw [hi, hu]
   simp only [hiz, hie]
   rw [hlist]; subst hk; exact hf
  ·cases hk
 ·cases hc
end Ce
namespace Ce
open Go
variable {P : Program} {c : Cx} {h : H} {w : World} {env : List CV} {a : Act} {n : Nat}
theorem ml (zs : List CV) : ∀ (m i : Nat), i < m * zs.length → (da zs m)[i]? = zs[i % zs.length]?
 | 0, i, h => by omega
 | m + 1, i, h => by
  simp only [da]
  by_cases hi : i < zs.length
  ·rw [List.getElem?_append_left hi, Nat.mod_eq_of_lt hi]
  ·have e : (m + 1) * zs.length = m * zs.length + zs.length := Nat.succ_mul _ _
   rw [List.getElem?_append_right (by omega), ml zs m (i - zs.length) (by omega)]
   congr 1
   exact (Nat.mod_eq_sub_mod (by omega)).symm
theorem repl_len (zs : List CV) : ∀ m, (da zs m).length = m * zs.length
 | 0 => by simp [da]
 | m + 1 => by simp [da, repl_len zs m, Nat.succ_mul]; omega
theorem jV {zs : List CV} {z : Array Value} (hz : VRs c n w zs z.toList) (hp : 0 < zs.length) (m : Nat) : VRs c n w (da zs m) ((Array.range (m * z.size)).map (z[· % z.size]!)).toList := by
 have hl : z.size = zs.length := by have := hz.1; simpa using this.symm
 refine ⟨by simp [repl_len, hl], fun i x v hx hv => ?_⟩
 have hi : i < m * zs.length := by rw [← repl_len]; exact (List.getElem?_eq_some_iff.1 hx).1
 rw [ml zs m i hi] at hx
 have hm : i % zs.length < zs.length := Nat.mod_lt _ hp
 simp only [Array.getElem?_toList, Array.getElem?_map, Option.map_eq_some_iff] at hv
 obtain ⟨j, hj, rfl⟩ := hv
 have hj' : j = i := by
  rw [Array.getElem?_eq_some_iff] at hj
  obtain ⟨h1, h2⟩ := hj
  simpa using h2.symm
 subst hj'
 refine hz.2 _ x _ hx ?_
 rw [hl]
 simp [hl, hm]
theorem qf (k : Nat) {env : List CV} {a : Act} (he : bp c n w env a.tmps) : ∀ (ps : List (Nat × Operand)) (qs : List (Nat × Opd)) (zs : List CV) (vs : List Value) (cs : List CV),
  kB ps = some qs → VRs c n w zs vs → eR k zs env qs = some cs → ∃ us : List Value, Instr.fill (fun i => some (i * k, k)) vs.toArray (ps.map fun p => (p.1, a.eval p.2)) = some us.toArray ∧ VRs c n w cs us
 | [], qs, zs, vs, cs, hp, hz, hf => by
  simp only [kB, sI] at hp; subst hp
  simp only [eR, sI] at hf; subst hf
  exact ⟨vs, rfl, hz⟩
 | (i, o) :: ps, qs, zs, vs, cs, hp, hz, hf => by
  simp only [kB] at hp
  split at hp
  ·rename_i o' qs' e2 e3
   simp only [sI] at hp; subst hp
   simp only [eR] at hf
   split at hf
   ·rename_i hcond
    simp only [aT, dT] at hcond
    obtain ⟨⟨h1, h2⟩, h3⟩ := hcond
    have hv := (aS he e2).cells
    have hs := hz.splice hv (i := i * k) (by omega)
    have hsz : (a.eval o).cells.size = k := by have := hv.1; simp at this; omega
    have hvl : vs.length = zs.length := hz.1.symm
    obtain ⟨us, hu1, hu2⟩ := qf k he ps qs' _ _ cs e3 hs hf
    refine ⟨us, ?_, hu2⟩
    simp only [List.map_cons, Instr.fill]
    have hc : ¬ ((a.eval o).cells.size ≠ k || i * k + (a.eval o).cells.size > vs.toArray.size) = true := by
     simp [hsz]; omega
    rw [if_neg hc]
    have hfo := sS vs.toArray (i * k) (a.eval o).cells.toList (by simp; omega)
    simp only [Array.toArray_toList] at hfo
    rw [hfo]
    simpa [hsz] using hu1
   ·cases hf
  ·cases hp
theorem mz (t : TypeId) (len : Nat) (ps : Array (Nat × Operand)) : OpS P (.buildSlice t len ps) := by
 intro io hc _ c h w env a o x h' ho r he hs
 unfold cOp at hc
 simp only at hc
 split at hc
 ·rename_i e hu
  obtain ⟨k, hk, hc⟩ := aP hc
  obtain ⟨z, hz, hc⟩ := aP hc
  obtain ⟨qs, hq, hc⟩ := aP hc
  split at hc
  ·cases hc
  ·rename_i hcond
   injection hc with hc; subst hc
   simp only [Bool.or_eq_true, dT, not_or, Bool.not_eq_true, decide_eq_false_iff_not, ne_eq, Decidable.not_not] at hcond
   obtain ⟨⟨h1, h2⟩, h3⟩ := hcond
   obtain ⟨it, v0, hi, hiz, hcv, hrun⟩ := d9 hz
   have hzr := (dj c h.n w v0 z hcv).cells
   have hzl : v0.cells.size = k := by have := hzr.1; simp at this; omega
   simp only [stepO] at hs
   split at hs
   ·rename_i cs hcs
    simp only [sI, pI] at hs
    obtain ⟨rfl, rfl⟩ := hs
    have hr0 := jV hzr (by omega) len
    obtain ⟨us, hu1, hu2⟩ := qf k he ps.toList qs _ _ cs hq hr0 hcs
    rw [Array.toArray_toList] at hu1
    have hlist : (ps.map fun (x : Nat × Operand) => (x.1, a.eval x.2)).toList = ps.toList.map fun p => (p.1, a.eval p.2) := by simp
    have hst := Stp.newRow r hu2 e
    rw [List.append_nil] at hst
    refine ⟨_, _, .slice (some ⟨w.heap.size, 0, none⟩) len len, .inl ?_, hst, ?_⟩
    ·have h24 : ¬ (len * k > 2 ^ 24) := by omega
     have hzero : (if len * k = 0 then (Pure.pure #[] : Sem (Array Value)) else do Pure.pure (← zeroValue e).cells).run P w = .ok (if len * k = 0 then #[] else v0.cells) w := by
      split
      ·rfl
      ·simp [hrun]
     simp only [execOp, ho, Instr.buildSlice, Sem.run_bind, aL hu, Result.andThen_ok, bW hk, Sem.run_ite, if_neg h24, Sem.run_pure]
     by_cases hz0 : len * k = 0
     ·have hl0 : len = 0 := by rcases Nat.mul_eq_zero.1 hz0 with h | h <;> omega
      subst hl0
      simp only [Nat.zero_mul, if_true, Result.andThen_ok]
      simp only [Nat.zero_mul] at hu1
      rw [hlist]
      have : (Array.map (fun (x : Nat) => (#[] : Array Value)[x % (#[] : Array Value).size]!) (Array.range 0)) = (Array.map (fun x => v0.cells[x % v0.cells.size]!) (Array.range 0)) := by simp
      rw [this, hu1]
      simp [newRow]
     ·simp only [if_neg hz0, hrun, Result.andThen_ok, hlist]
      rw [hzl] at hu1
      simp only [hzl]
      rw [hu1]
      simp [newRow]
    ·have hlen : us.length = len * k := by
      rw [← hu2.1]
      have : ∀ (qs : List (Nat × Opd)) (zs cs : List CV), eR k zs env qs = some cs → cs.length = zs.length := by
       intro qs
       induction qs with
       | nil => intro zs cs h; simp only [eR, sI] at h; rw [h]
       | cons q qs ih =>
        intro zs cs h
        obtain ⟨i, o⟩ := q
        simp only [eR] at h
        split at h
        ·rename_i hcond
         simp only [aT, dT] at hcond
         rw [ih _ _ h, eU _ _ _ (by omega)]
         simp; omega
        ·cases h
      rw [this _ _ _ hcs, repl_len, h2]
     have := VR.slc (c := c.set h.n w.heap.size) (n := h.n + 1) (w := w.alloc (.cells us.toArray e)) k h.n 0 len (some len) len (Nat.lt_succ_self _) (fun m hm => by injection hm) (Nat.le_refl _) ⟨e, us.length, by
      rw [Cx.set_same, shape?_eq]
      show ((w.heap.push _)[w.heap.size]?).bind dF = _
      simp [dF], by omega⟩
     rw [Cx.set_same] at this
     exact this
   ·cases hs
 ·cases hc
theorem rY (t : TypeId) (r : Option Operand) : OpS P (.makeMap t r) := by
 intro io hc _ c h w env a o x h' ho rl he hs
 cases r with
 | some q => cases hc
 | none =>
  injection hc with hc; subst hc
  simp only [stepO, sI, pI] at hs
  obtain ⟨rfl, rfl⟩ := hs
  refine ⟨_, _, .map (some w.heap.size), .inl ?_, Stp.push rl (.map [] #[] 0 rfl fun j k v b m hk => by simp at hk) (by simp), ?_⟩
  ·simp only [execOp, ho, Option.map_none, Instr.makeMap, Sem.run_bind, Sem.run_pure, Result.andThen_ok, run_newObj]
   rfl
  ·have := VR.map (c := c.set h.n w.heap.size) (n := h.n + 1) (w := w.alloc (.map #[] 0)) h.n (Nat.lt_succ_self _)
   rw [Cx.set_same] at this; exact this
end Ce
namespace Ce
open Go
variable {P : Program} {c : Cx} {h : H} {w : World} {env : List CV} {a : Act} {n : Nat}
theorem el (m : Int) (h0 : -9223372036854775808 ≤ m) (h1 : m ≤ 9223372036854775807) : IntKind.i64.wrap m = m := by
 show (if (true && decide (m % (2 ^ 64 : Int) ≥ (2 ^ (64 - 1) : Int))) = true then m % (2 ^ 64 : Int) - 2 ^ 64 else m % (2 ^ 64 : Int)) = m
 simp only [Bool.true_and, dT]
 split <;> omega
theorem oP (t : TypeId) (l cp : Operand) : OpS P (.makeSlice t l cp) := by
 intro io hc _ c h w env a o x h' ho r he hs
 obtain ⟨l', hl, hc⟩ := aP hc
 obtain ⟨c', hcp, hc⟩ := aP hc
 have h1 := aS he hl
 have h2 := aS he hcp
 split at hc
 ·rename_i e hu
  split at hc
  ·rename_i it hi
   obtain ⟨z, hz, hc⟩ := aP hc
   split at hc
   ·cases hc
   ·rename_i hcond
    injection hc with hc; subst hc
    simp only [Bool.or_eq_true, dT, not_or, Bool.not_eq_true, decide_eq_false_iff_not, ne_eq, Decidable.not_not] at hcond
    obtain ⟨⟨hk, hby⟩, hzl⟩ := hcond
    obtain ⟨it', v0, hi', hiz, hcv, hrun⟩ := d9 hz
    have hzr := (dj c h.n w v0 z hcv).cells
    have hzl' : v0.cells.size = it.size := by have := hzr.1; simp at this; omega
    simp only [stepO, mkslV] at hs
    generalize l'.ev env = lv at hs h1
    generalize c'.ev env = cv at hs h2
    generalize hle : a.eval l = le at h1
    generalize hce : a.eval cp = ce at h2
    split at hs
    ·rename_i kl lv' kc cv'
     cases h1; cases h2
     split at hs
     ·rename_i hb
      obtain ⟨b1, b2, b3⟩ := hb
      simp only [sI, pI] at hs
      obtain ⟨rfl, rfl⟩ := hs
      obtain ⟨cn, rfl⟩ := Int.eq_ofNat_of_zero_le (Int.le_trans b1 b2)
      obtain ⟨ln, rfl⟩ := Int.eq_ofNat_of_zero_le b1
      have hb3 : (it.bytes : Int) * cn ≤ 1099511627776 := by
       have : (cn : Int) * ((it.bytes : Int) + 1) = it.bytes * cn + cn := by rw [Int.mul_add, Int.mul_comm]; omega
       omega
      have hcn : (cn : Int) ≤ 1099511627776 := by
       have h0 : (0 : Int) ≤ (it.bytes : Int) * cn := Int.mul_nonneg (by omega) (by omega)
       have : (cn : Int) * ((it.bytes : Int) + 1) = it.bytes * cn + cn := by rw [Int.mul_add, Int.mul_comm]; omega
       omega
      have hw : ∀ m : Nat, (m : Int) ≤ 1099511627776 → IntKind.i64.wrap (m : Int) = m := fun m hm => el m (by omega) (by omega)
      have hr0 := jV hzr (by omega) cn
      have hst := Stp.newRow r hr0 e
      rw [List.append_nil, Array.toArray_toList] at hst
      refine ⟨c.set h.n w.heap.size, w.alloc (.cells ((Array.range (cn * v0.cells.size)).map (v0.cells[· % v0.cells.size]!)) e), .slice (some ⟨w.heap.size, 0, none⟩) ln cn, .inl ?_, ?_, ?_⟩
      ·have hsz : (Go.sizeOf e).run P w = .ok it.size w := by simp [Go.sizeOf, typeInfo, hi]
       have ht : (typeInfo e).run P w = .ok it w := by simp [typeInfo, hi]
       have hlarge : ∀ m : Nat, (m : Int) ≤ cn → ((decide ((m : Int) < 0) || decide ((it.bytes : Int) * m > 2 ^ 48)) = false) := by
        intro m hm
        have : (it.bytes : Int) * m ≤ it.bytes * cn := Int.mul_le_mul_of_nonneg_left hm (by omega)
        simp; omega
       have hl2 : (ln : Int) ≤ cn := b2
       simp only [execOp, ho, hle, hce, Instr.makeSlice, Sem.run_bind, aL hu, Result.andThen_ok, asInt, asIntOf, Sem.run_pure, ht, hw cn hcn, hw ln (by omega)]
       have c1 : (decide ((cn : Int) < 0) || decide ((it.bytes : Int) * cn > 2 ^ 48)) = false := hlarge cn (Int.le_refl _)
       have hln : ¬ ((ln : Int) < 0) := by omega
       have hlc : ¬ ((ln : Int) > cn) := by omega
       simp only [Sem.run_ite, c1, hln, hlc, decide_false, Bool.or_false, Bool.false_eq_true, if_false, Int.toNat_natCast, run_askRoom, Result.andThen_ok, hsz, Sem.run_bind]
       by_cases hz0 : cn * it.size = 0
       ·have hc0 : cn = 0 := by rcases Nat.mul_eq_zero.1 hz0 with h | h <;> omega
        subst hc0
        have e0 : (Array.map (fun (x : Nat) => v0.cells[x % v0.cells.size]!) (Array.range (0 * v0.cells.size))) = #[] := by simp
        rw [e0]
        simp [newRow]
        rw [show Array.range 0 = #[] from rfl]
        simp
       ·rw [← hzl'] at hz0 ⊢
        simp only [if_neg hz0, Sem.run_bind, hrun, Result.andThen_ok, Sem.run_pure, newRow, run_newObj]
        rfl
      ·exact hst
      ·have := VR.slc (c := c.set h.n w.heap.size) (n := h.n + 1) (w := w.alloc (.cells ((Array.range (cn * v0.cells.size)).map (v0.cells[· % v0.cells.size]!)) e)) it.size h.n 0 ln (some cn) cn (Nat.lt_succ_self _) (fun m hm => by injection hm) (by omega) ⟨e, cn * v0.cells.size, by
        rw [Cx.set_same, shape?_eq]
        show ((w.heap.push _)[w.heap.size]?).bind dF = _
        simp [dF], by rw [hzl']; omega⟩
       rw [Cx.set_same] at this
       simp only [Int.toNat_natCast]
       exact this
     ·cases hs
    ·cases hs
  ·cases hc
 ·cases hc
theorem iI {b off : Nat} {f : Field} {k : Nat} (hk : dJ P f.type = some k) (h0 : k ≠ 0) : (fieldPlace ⟨b, off, none⟩ f).run P w = .ok ⟨b, off + f.offset, none⟩ w := by
 simp [fieldPlace, bW hk, h0, ay]
theorem oR (s : TypeId) (x : Operand) (f : Nat) : OpS P (.fieldAddr s x f) := by
 intro io hc _ c h w env a o y h' ho r he hs
 obtain ⟨x', hx, hc⟩ := aP hc
 have h1 := aS he hx
 split at hc
 ·rename_i fs hu
  split at hc
  ·rename_i fd hfd
   obtain ⟨k, hk, hc⟩ := aP hc
   split at hc
   ·cases hc
   ·rename_i h0
    injection hc with hc; subst hc
    simp only [stepO] at hs
    generalize x'.ev env = xv at hs h1
    generalize hpe : a.eval x = pe at h1
    split at hs
    ·rename_i i off
     simp only [sI, pI] at hs
     obtain ⟨rfl, rfl⟩ := hs
     cases h1 with
     | ptr _ _ hr =>
      refine .pure r ?_ (.ptr i (off + fd.offset) hr)
      simp only [execOp, ho, hpe, Instr.fieldAt, Sem.run_bind, aL hu, Result.andThen_ok, hfd, Instr.sureAddr, Sem.run_pure, iI hk h0]
    ·rename_i cs
     simp only [sI, pI] at hs
     obtain ⟨rfl, rfl⟩ := hs
     cases h1 with
     | rptr _ b off vs him hcl hv =>
      refine .pure r (v := .pointer (some ⟨b, off + fd.offset, none⟩)) ?_ (.rptr _ b (off + fd.offset) (fun i => vs (fd.offset + i)) him (fun i z hz => ?_) (fun i z hz => ?_))
      ·simp only [execOp, ho, hpe, Instr.fieldAt, Sem.run_bind, aL hu, Result.andThen_ok, hfd, Instr.sureAddr, Sem.run_pure, iI hk h0]
      ·rw [List.getElem?_drop] at hz
       rw [Nat.add_assoc]; exact hcl _ z hz
      ·rw [List.getElem?_drop] at hz
       exact hv _ z hz
    ·cases hs
  ·cases hc
 ·cases hc
theorem ol {t : TypeId} {g : Option Nat} (hg : agT P t = some g) {xs : List CV} {vs : List Value} (hv : VRs c n w xs vs) {off : Nat} {x : CV} (hx : bX g xs off = some x) : ∃ v, (part t vs.toArray off).run P w = .ok v w ∧ VR c n w x v := by
 rcases vD hx with ⟨rfl, h1, h2⟩ | ⟨k, rfl, hk, rfl⟩
 ·obtain ⟨v, hv1, hv2⟩ := hv.at h1
  refine ⟨v, ?_, hv2⟩
  simp [part, eY (tA hg), hv1]
 ·obtain ⟨h1, h2⟩ := sy hg
  refine ⟨.agg ((vs.drop off).take k).toArray, ?_, ((hv.drop off).take k).agg⟩
  simp [part, eY h1, bW h2, List.extract_eq_take_drop]
theorem wl (t : TypeId) (x : Operand) (f : Nat) : OpS P (.field t x f) := by
 intro io hc _ c h w env a o y h' ho r he hs
 obtain ⟨x', hx, hc⟩ := aP hc
 have h1 := aS he hx
 split at hc
 ·rename_i fs hu
  split at hc
  ·rename_i fd hfd
   obtain ⟨g, hg, hc⟩ := aP hc
   injection hc with hc; subst hc
   simp only [stepO] at hs
   generalize x'.ev env = xv at hs h1
   generalize hpe : a.eval x = pe at h1
   split at hs
   ·split at hs
    ·rename_i v hv
     simp only [sI, pI] at hs
     obtain ⟨rfl, rfl⟩ := hs
     obtain ⟨vs, rfl, hvs⟩ := h1.agg_inv
     obtain ⟨v', hp, hvr⟩ := ol hg hvs hv
     refine .pure r ?_ hvr
     simp only [execOp, ho, hpe, Instr.field, Sem.run_bind, aL hu, Result.andThen_ok, hfd, asAgg, Sem.run_pure, hp]
    ·cases hs
   ·cases hs
  ·cases hc
 ·cases hc
theorem fL {x : CV} {i : Nat} (h : bG? x = some i) : ∃ k, x = .int k i := by
 unfold bG? at h
 split at h
 ·rename_i k m
  split at h
  ·rename_i h0
   simp only [sI] at h
   exact ⟨k, by rw [← h, Int.toNat_of_nonneg h0]⟩
  ·cases h
 ·cases h
theorem oQ (t : TypeId) (x i : Operand) : OpS P (.indexAddr t x i) := by
 intro io hc _ c h w env a o y h' ho r he hs
 obtain ⟨x', hx, hc⟩ := aP hc
 obtain ⟨i', hi, hc⟩ := aP hc
 have h1 := aS he hx
 have h2 := aS he hi
 split at hc
 ·rename_i m e hu
  obtain ⟨k, hk, hc⟩ := aP hc
  injection hc with hc; subst hc
  simp only [stepO] at hs
  generalize x'.ev env = xv at hs h1
  generalize i'.ev env = iv at hs h2
  generalize hpe : a.eval x = pe at h1
  generalize hie : a.eval i = ie at h2
  split at hs
  ·rename_i b off j hj
   obtain ⟨kk, rfl⟩ := fL hj
   cases h2
   split at hs
   ·rename_i hlt
    simp only [sI, pI] at hs
    obtain ⟨rfl, rfl⟩ := hs
    cases h1 with
    | ptr _ _ hr =>
     refine .pure r ?_ (.ptr b (off + j * k) hr)
     have : (0 : Int) ≤ (j : Int) ∧ (j : Int) < (m : Int) := by omega
     simp [execOp, ho, hpe, hie, Instr.indexAt, aL hu, asIntOf, Instr.sureAddr, bW hk, hlt, ay]
   ·cases hs
  ·rename_i cs j hj
   obtain ⟨kk, rfl⟩ := fL hj
   cases h2
   split at hs
   ·rename_i hlt
    simp only [sI, pI] at hs
    obtain ⟨rfl, rfl⟩ := hs
    cases h1 with
    | rptr _ b off vs him hcl hv =>
     refine .pure r (v := .pointer (some ⟨b, off + j * k, none⟩)) ?_ (.rptr _ b (off + j * k) (fun i => vs (j * k + i)) him (fun i z hz => ?_) (fun i z hz => ?_))
     ·simp [execOp, ho, hpe, hie, Instr.indexAt, aL hu, asIntOf, Instr.sureAddr, bW hk, hlt, ay]
     ·rw [List.getElem?_drop] at hz
      rw [Nat.add_assoc]; exact hcl _ z hz
     ·rw [List.getElem?_drop] at hz
      exact hv _ z hz
   ·cases hs
  ·cases hs
 ·rename_i e hu
  obtain ⟨k, hk, hc⟩ := aP hc
  split at hc
  ·cases hc
  ·injection hc with hc; subst hc
   simp only [stepO] at hs
   generalize x'.ev env = xv at hs h1
   generalize i'.ev env = iv at hs h2
   generalize hpe : a.eval x = pe at h1
   generalize hie : a.eval i = ie at h2
   split at hs
   ·rename_i k' b off len cap j hj
    obtain ⟨kk, rfl⟩ := fL hj
    cases h2
    split at hs
    ·rename_i hlt
     simp only [sI, pI] at hs
     obtain ⟨rfl, rfl⟩ := hs
     cases h1 with
     | slc _ _ _ _ _ cap' hr hcap hle hsz =>
      refine .pure r ?_ (.ptr b (off + j * k) hr)
      simp [execOp, ho, hpe, hie, Instr.indexAt, aL hu, asIntOf, bW hk, hlt, ay]
    ·cases hs
   ·rename_i rows ex j hj
    obtain ⟨kk, rfl⟩ := fL hj
    cases h2
    split at hs
    ·rename_i row hrow
     rw [nth?_eq] at hrow
     split at hs
     ·rename_i hrl
      simp only [sI, pI] at hs
      obtain ⟨rfl, rfl⟩ := hs
      cases h1 with
      | lst _ _ k2 b off cap' vs hle hex him hkk hcl hv =>
       have hk2 : k2 = k := by rw [← hkk j row hrow, hrl]
       subst hk2
       have hlt : j < rows.length := (List.getElem?_eq_some_iff.1 hrow).1
       refine .pure r (v := .pointer (some ⟨b, off + j * k2, none⟩)) ?_ (.rptr row b (off + j * k2) (vs j) (him (by rintro rfl; simp at hrow)) (fun i z hz => hcl j row i z hrow hz) (fun i z hz => hv j row i z hrow hz))
       simp [execOp, ho, hpe, hie, Instr.indexAt, aL hu, asIntOf, bW hk, hlt, ay]
     ·cases hs
    ·cases hs
   ·cases hs
 ·cases hc
theorem wj (t : TypeId) (x i : Operand) : OpS P (.index t x i) := by
 intro io hc _ c h w env a o y h' ho r he hs
 obtain ⟨x', hx, hc⟩ := aP hc
 obtain ⟨i', hi, hc⟩ := aP hc
 have h1 := aS he hx
 have h2 := aS he hi
 split at hc
 ·rename_i m e hu
  obtain ⟨k, hk, hc⟩ := aP hc
  obtain ⟨g, hg, hc⟩ := aP hc
  injection hc with hc; subst hc
  simp only [stepO] at hs
  generalize x'.ev env = xv at hs h1
  generalize i'.ev env = iv at hs h2
  generalize hpe : a.eval x = pe at h1
  generalize hie : a.eval i = ie at h2
  split at hs
  ·rename_i cs j hj
   obtain ⟨kk, rfl⟩ := fL hj
   cases h2
   split at hs
   ·rename_i hlt
    split at hs
    ·rename_i v hv
     simp only [sI, pI] at hs
     obtain ⟨rfl, rfl⟩ := hs
     obtain ⟨vs, rfl, hvs⟩ := h1.agg_inv
     obtain ⟨v', hp, hvr⟩ := ol hg hvs hv
     refine .pure r ?_ hvr
     simp [execOp, ho, hpe, hie, Instr.index, aL hu, asIntOf, bW hk, hlt, hp]
    ·cases hs
   ·cases hs
  ·cases hs
 ·rename_i hu
  injection hc with hc; subst hc
  simp only [stepO] at hs
  generalize x'.ev env = xv at hs h1
  generalize i'.ev env = iv at hs h2
  generalize hpe : a.eval x = pe at h1
  generalize hie : a.eval i = ie at h2
  split at hs
  ·rename_i s j hj
   obtain ⟨kk, rfl⟩ := fL hj
   cases h2
   cases h1
   split at hs
   ·rename_i b hb
    simp only [sI, pI] at hs
    obtain ⟨rfl, rfl⟩ := hs
    have hlt : j < s.size := by
     have := (List.getElem?_eq_some_iff.1 hb).1
     simpa using this
    have hb' : s[j]? = some b := by
     rw [getElem?_pos s j hlt]
     rw [List.getElem?_eq_some_iff] at hb
     obtain ⟨_, hb⟩ := hb
     rw [← hb]; rfl
    refine .pure r ?_ (.int _ _)
    simp [execOp, ho, hpe, hie, Instr.index, aL hu, asIntOf, hb']
   ·cases hs
  ·cases hs
 ·cases hc
end Ce
namespace Ce
open Go
variable {P : Program} {c : Cx} {h : H} {w : World} {env : List CV} {a : Act} {n : Nat}
def OR (c : Cx) (n : Nat) (w : World) : Option CV → Option Value → Prop
 | none, none => True
 | some x, some v => VR c n w x v
 | _, _ => False
theorem qE (he : bp c n w env a.tmps) {o : Option Operand} {x : Option Opd} (hx : nk o = some x) : OR c n w (Opd.evo env x) (o.map a.eval) := by
 cases o with
 | none => simp only [nk, sI] at hx; subst hx; trivial
 | some o =>
  simp only [nk, Option.map_eq_some_iff] at hx
  obtain ⟨y, hy, rfl⟩ := hx
  exact aS he hy
theorem fJ {x : CV} {els y m : Nat} (h : bnd (some x) els y = some m) : bG? x = some m ∧ m ≤ y := by
 simp only [bnd] at h
 split at h
 ·rename_i k hk
  split at h
  ·simp only [sI] at h; subst h; exact ⟨hk, by assumption⟩
  ·cases h
 ·cases h
theorem eh {x : CV} {v : Value} (hv : VR c n w x v) {m y : Nat} (hx : bG? x = some m) (hy : m ≤ y) (code : BoundsCode) : (Instr.sliceBound v y code).run P w = .ok m w := by
 obtain ⟨k, rfl⟩ := fL hx
 cases hv
 have := run_sliceBound (P := P) (w := w) k (m : Int) y code (by omega) (by omega)
 simpa using this
def IsB (o : Option CV) (els m y : Nat) : Prop := match o with
 | none => m = els
 | some x => bG? x = some m ∧ m ≤ y
theorem dB {isSlice : Bool} {len C M hh l : Nat} {lo hi mx : Option CV} {lo' hi' mx' : Option Value} (h1 : OR c n w lo lo') (h2 : OR c n w hi hi') (h3 : OR c n w mx mx') (hmh : mx.isSome = true → hi.isSome = true)
  (hM : IsB mx C M C) (hH : IsB hi len hh M) (hL : IsB lo 0 l hh) : (Instr.sliceBounds isSlice len C lo' hi' mx').run P w = .ok (l, hh, M) w := by
 unfold Instr.sliceBounds
 unfold IsB at hM hH hL
 cases mx with
 | none =>
  cases mx' with
  | some _ => exact h3.elim
  | none =>
   subst hM
   cases hi with
   | none =>
    cases hi' with
    | some _ => exact h2.elim
    | none =>
     subst hH
     cases lo with
     | none =>
      cases lo' with
      | some _ => exact h1.elim
      | none => subst hL; simp
     | some x =>
      cases lo' with
      | none => exact h1.elim
      | some v => simp [eh h1 hL.1 hL.2]
   | some y =>
    cases hi' with
    | none => exact h2.elim
    | some v2 =>
     have hb2 := fun code => eh (P := P) h2 hH.1 hH.2 code
     cases lo with
     | none =>
      cases lo' with
      | some _ => exact h1.elim
      | none => subst hL; cases isSlice <;> simp [hb2]
     | some x =>
      cases lo' with
      | none => exact h1.elim
      | some v => cases isSlice <;> simp [hb2, eh h1 hL.1 hL.2]
 | some z =>
  cases mx' with
  | none => exact h3.elim
  | some v3 =>
   have hb3 := fun code => eh (P := P) h3 hM.1 hM.2 code
   cases hi with
   | none => cases hmh rfl
   | some y =>
    cases hi' with
    | none => exact h2.elim
    | some v2 =>
     have hb2 := fun code => eh (P := P) h2 hH.1 hH.2 code
     cases lo with
     | none =>
      cases lo' with
      | some _ => exact h1.elim
      | none => subst hL; cases isSlice <;> simp [hb2, hb3]
     | some x =>
      cases lo' with
      | none => exact h1.elim
      | some v => cases isSlice <;> simp [hb2, hb3, eh h1 hL.1 hL.2]
theorem qBF {mx : Option CV} {cp m : Nat} (h : bnd mx cp cp = some m) : IsB mx cp m cp := by
 cases mx with
 | none => simp only [bnd, sI] at h; exact h.symm
 | some x => exact fJ h
theorem eN {hi : Option CV} {len M hh : Nat} (h : bnd hi len M = some hh) : IsB hi len hh M := by
 cases hi with
 | none => simp only [bnd, sI] at h; exact h.symm
 | some x => exact fJ h
theorem IsB.mono {o : Option CV} {els m y y' : Nat} (h : IsB o els m y) (hy : y ≤ y') : IsB o els m y' := by
 cases o with
 | none => exact h
 | some x => exact ⟨h.1, Nat.le_trans h.2 hy⟩
theorem eA {lo : Option CV} {els y l : Nat} (h : bnd lo els y = some l) (he : els ≤ y) : l ≤ y := by
 cases lo with
 | none => simp only [bnd, sI] at h; omega
 | some x => exact (fJ h).2
theorem eV {t e : TypeId} (hu : P.underlying t = some (.slice e)) {k : Nat} (hk : dJ P e = some k) {b : Option Addr} {len cap : Nat} {lo hi mx : Option Value} {l hh m : Nat} (hb : (Instr.sliceBounds true len cap lo hi mx).run P w = .ok (l, hh, m) w) :
  (Instr.sliceAt t (.slice b len cap) lo hi mx).run P w = .ok (.slice (if m = l then b else b.map (·.add (l * k))) (hh - l) (m - l)) w := by
 simp [Instr.sliceAt, Instr.slice, aL hu, hb, bW hk]
theorem il {k : Nat} : ∀ {rows : List (List CV)}, dD k rows = true → ∀ (i : Nat) (row : List CV), rows[i]? = some row → row.length = k
 | [], _, i, row, h => by simp at h
 | r :: rs, h, i, row, hr => by
  simp only [dD, aT, beq_iff_eq] at h
  cases i with
  | zero => simp at hr; subst hr; exact h.1
  | succ i => simp at hr; exact il h.2 i row hr
theorem vO {rows : List (List CV)} {ex : Bool} {v : Value} (hv : VR c n w (.lst rows ex) v) {k : Nat} (hal : dD k rows = true) {l hh M : Nat} {ex' : Bool} (hl : l ≤ hh) (hhl : hh ≤ rows.length) (hM : hh ≤ M)
  (hex : ∀ b cap', v = .slice b rows.length cap' → ex' = true → M - l = hh - l) : ∀ b cap', v = .slice b rows.length cap' → VR c n w (.lst ((rows.drop l).take (hh - l)) ex') (.slice (if M = l then b else b.map (·.add (l * k))) (hh - l) (M - l)) := by
 intro b cap' hveq
 have hxx := hex b cap' hveq
 cases hv with
 | lst _ _ k2 bb off cap2 vs hle hex2 him hkk hcl hvv =>
  injection hveq with e1 e2 e3
  subst e1
  have hlen : ((rows.drop l).take (hh - l)).length = hh - l := by simp; omega
  by_cases hml : M = l
  ·have hz : hh - l = 0 := by omega
   have := VR.lst (c := c) (n := n) (w := w) ((rows.drop l).take (hh - l)) ex' k bb off (M - l) (fun _ _ => Go.undef) (by rw [hlen]; omega) (fun hx => by rw [hlen]; exact hxx hx) (fun hne => by rw [hz] at hne; simp at hne)
    (fun i row h => by rw [hz] at h; simp at h) (fun i row j x h => by rw [hz] at h; simp at h) (fun i row j x h => by rw [hz] at h; simp at h)
   rw [hlen] at this
   rw [if_pos hml]; exact this
  ·have hget : ∀ (i : Nat) (row : List CV), ((rows.drop l).take (hh - l))[i]? = some row → rows[l + i]? = some row := by
    intro i row h
    rw [List.getElem?_take] at h
    split at h
    ·rw [List.getElem?_drop] at h; exact h
    ·cases h
   have hk2 : ∀ (i : Nat) (row : List CV), rows[i]? = some row → k2 = k := fun i row h => by rw [← hkk i row h, il hal i row h]
   have := VR.lst (c := c) (n := n) (w := w) ((rows.drop l).take (hh - l)) ex' k bb (off + l * k) (M - l) (fun i j => vs (l + i) j) (by rw [hlen]; omega) (fun hx => by rw [hlen]; exact hxx hx)
    (fun hne => him (by rintro rfl; simp at hne))
    (fun i row h => il hal _ row (hget i row h))
    (fun i row j x h hx => by
     have hr := hget i row h
     have := hcl (l + i) row j x hr hx
     rw [hk2 _ _ hr] at this
     rw [show off + l * k + i * k + j = off + (l + i) * k + j from by rw [Nat.add_mul]; omega]
     exact this)
    (fun i row j x h hx => hvv (l + i) row j x (hget i row h) hx)
   rw [hlen] at this
   rw [if_neg hml]
   simp only [Option.map_some, ay]
   exact this
end Ce
namespace Ce
open Go
variable {P : Program} {c : Cx} {h : H} {w : World} {env : List CV} {a : Act} {n : Nat}
theorem nV {env : List CV} {o : Option Opd} : (Opd.evo env o).isSome = o.isSome := by cases o <;> rfl
theorem slS_ok (r : Rel P c h w) {t e : TypeId} (hu : P.underlying t = some (.slice e)) {k : Nat} (hk : dJ P e = some k) (hk0 : k ≠ 0) {x : CV} {v : Value} (hx : VR c h.n w x v) {lo hi mx : Option CV} {lo' hi' mx' : Option Value}
  (h1 : OR c h.n w lo lo') (h2 : OR c h.n w hi hi') (h3 : OR c h.n w mx mx') (hmh : mx.isSome = true → hi.isSome = true) {z : CV} (hs : slS x k lo hi mx = some z) :
  ∃ v', (Instr.sliceAt t v lo' hi' mx').run P w = .ok v' w ∧ VR c h.n w z v' := by
 unfold slS at hs
 split at hs
 ·
  split at hs
  ·rename_i m hh l e1 e2 e3
   simp only [sI] at hs; subst hs
   cases hx
   have hm : m = 0 := by have := eA e1 (Nat.le_refl _); omega
   have hh0 : hh = 0 := by have := eA e2 (Nat.le_refl _); omega
   have hl : l = 0 := by have := eA e3 (Nat.le_refl _); omega
   subst hm; subst hh0; subst hl
   have hb := dB (P := P) (isSlice := true) (len := 0) (C := 0) h1 h2 h3 hmh (qBF e1) (eN e2) (eN e3)
   exact ⟨_, eV hu hk hb, by simpa using VR.nils⟩
  ·cases hs
 ·rename_i k' i off len cap
  split at hs
  ·cases hs
  ·rename_i hkk
   have hkk : k' = k := Classical.byContradiction hkk
   subst hkk
   cases hx with
   | slc _ _ _ _ _ cap' hr hcap hle hsz =>
    obtain ⟨et, s, hsh, hbd⟩ := hsz
    split at hs
    ·rename_i cc
     have hcc := hcap cc rfl
     subst hcc
     split at hs
     ·cases hs
     ·rename_i m e1
      split at hs
      ·cases hs
      ·rename_i hh e2
       split at hs
       ·cases hs
       ·rename_i l e3
        split at hs
        ·rename_i hhm
         simp only [sI] at hs; subst hs
         have hmc := eA e1 (Nat.le_refl _)
         have hlh := eA e3 (Nat.zero_le _)
         have hb := dB (P := P) (isSlice := true) (len := len) (C := cap') h1 h2 h3 hmh (qBF e1) (eN e2) (eN e3)
         refine ⟨_, eV hu hk hb, ?_⟩
         have := VR.slc (c := c) (n := h.n) (w := w) k' i (if m = l then off else off + l * k') (hh - l) (some (m - l)) (m - l) hr (fun q hq => by injection hq) (by omega) ⟨et, s, hsh, by
          split
          ·rename_i hml; rw [hml, Nat.sub_self]; omega
          ·have : l * k' + (m - l) * k' = m * k' := by rw [← Nat.add_mul]; congr 1; omega
           have : m * k' ≤ cap' * k' := Nat.mul_le_mul_right _ hmc
           omega⟩
         split
         ·rename_i hml; rw [if_pos hml] at this; exact this
         ·rename_i hml; rw [if_neg hml] at this; simpa [ay] using this
        ·cases hs
    ·split at hs
     ·cases hs
     ·rename_i hh e2
      split at hs
      ·cases hs
      ·rename_i l e3
       split at hs
       ·rename_i hcond
        simp only [sI] at hs; subst hs
        simp only [Bool.or_eq_true, dT] at hcond
        have hhl := eA e2 (Nat.le_refl _)
        have hlh := eA e3 (Nat.zero_le _)
        have hH : IsB hi len hh cap' := (eN e2).mono (by omega)
        have hb := dB (P := P) (isSlice := true) (len := len) (C := cap') (M := cap') h1 h2 h3 hmh rfl hH (eN e3)
        refine ⟨_, eV hu hk hb, ?_⟩
        have := VR.slc (c := c) (n := h.n) (w := w) k' i (off + l * k') (hh - l) none (cap' - l) hr (fun q hq => by cases hq) (by omega) ⟨et, s, hsh, by
         have : l * k' + (cap' - l) * k' = cap' * k' := by rw [← Nat.add_mul]; congr 1; omega
         omega⟩
        split
        ·rename_i hml
         have hl0 : l = 0 := by omega
         subst hl0
         simpa using this
        ·simpa [ay] using this
       ·cases hs
    ·rename_i mm
     split at hs
     ·cases hs
     ·rename_i m e1
      split at hs
      ·cases hs
      ·rename_i hh e2
       split at hs
       ·cases hs
       ·rename_i l e3
        split at hs
        ·rename_i hhm
         simp only [sI] at hs; subst hs
         have hmc := (fJ e1).2
         have hlh := eA e3 (Nat.zero_le _)
         have hb := dB (P := P) (isSlice := true) (len := len) (C := cap') (M := m) h1 h2 h3 hmh ⟨(fJ e1).1, by omega⟩ (eN e2) (eN e3)
         refine ⟨_, eV hu hk hb, ?_⟩
         have := VR.slc (c := c) (n := h.n) (w := w) k' i (if m = l then off else off + l * k') (hh - l) (some (m - l)) (m - l) hr (fun q hq => by injection hq) (by omega) ⟨et, s, hsh, by
          split
          ·rename_i hml; rw [hml, Nat.sub_self]; omega
          ·have : l * k' + (m - l) * k' = m * k' := by rw [← Nat.add_mul]; congr 1; omega
           have : m * k' ≤ cap' * k' := Nat.mul_le_mul_right _ (by omega)
           omega⟩
         split
         ·rename_i hml; rw [if_pos hml] at this; exact this
         ·rename_i hml; rw [if_neg hml] at this; simpa [ay] using this
        ·cases hs
 ·rename_i rows ex
  split at hs
  ·cases hs
  ·rename_i hal
   simp only [Bool.not_eq_true, Bool.not_eq_false] at hal
   have hal : dD k rows = true := by simpa using hal
   have hx0 := hx
   cases hx with
   | lst _ _ k2 bb off cap' vs hle hex him hkk hcl hvv =>
    split at hs
    ·split at hs
     ·cases hs
     ·rename_i hh e2
      split at hs
      ·cases hs
      ·rename_i l e3
       simp only [sI] at hs; subst hs
       have hhl := eA e2 (Nat.le_refl _)
       have hlh := eA e3 (Nat.zero_le _)
       have hH : IsB hi rows.length hh cap' := (eN e2).mono (by omega)
       have hb := dB (P := P) (isSlice := true) (len := rows.length) (C := cap') (M := cap') h1 h2 h3 hmh rfl hH (eN e3)
       refine ⟨_, eV hu hk hb, ?_⟩
       refine vO hx0 hal (M := cap') hlh hhl (by omega) (fun b cap2 he hx => ?_) _ cap' rfl
       simp only [aT, beq_iff_eq] at hx
       rw [hex hx.1, hx.2]
    ·rename_i mm
     split at hs
     ·cases hs
     ·rename_i m e1
      split at hs
      ·cases hs
      ·rename_i hh e2
       split at hs
       ·cases hs
       ·rename_i l e3
        split at hs
        ·rename_i hhm
         simp only [sI] at hs; subst hs
         have hmc := (fJ e1).2
         have hlh := eA e3 (Nat.zero_le _)
         have hb := dB (P := P) (isSlice := true) (len := rows.length) (C := cap') (M := m) h1 h2 h3 hmh ⟨(fJ e1).1, by omega⟩ (eN e2) (eN e3)
         refine ⟨_, eV hu hk hb, ?_⟩
         refine vO hx0 hal (M := m) hlh (by omega) hhm (fun b cap2 he hx => ?_) _ cap' rfl
         simp only [beq_iff_eq] at hx
         rw [hx]
        ·cases hs
 ·cases hs
theorem wh (t : TypeId) (x : Operand) (lo hi mx : Option Operand) : OpS P (.slice t x lo hi mx) := by
 intro io hc _ c h w env a o z h' ho r he hs
 obtain ⟨x', hx, hc⟩ := aP hc
 obtain ⟨lo', hlo, hc⟩ := aP hc
 obtain ⟨hi', hhi, hc⟩ := aP hc
 obtain ⟨mx', hmx, hc⟩ := aP hc
 have hX := aS he hx
 have hL := qE he hlo
 have hH := qE he hhi
 have hM := qE he hmx
 split at hc
 ·cases hc
 ·rename_i hmh0
  have hmh : (Opd.evo env mx').isSome = true → (Opd.evo env hi').isSome = true := by
   rw [nV, nV]
   intro e
   cases hh : hi'.isSome with
   | true => rfl
   | false => simp [e, Option.isNone_iff_eq_none, hh] at hmh0; cases hi' <;> simp_all
  split at hc
  ·rename_i m e hu
   obtain ⟨k, hk, hc⟩ := aP hc
   injection hc with hc; subst hc
   simp only [stepO] at hs
   split at hs
   ·rename_i v hv
    simp only [sI, pI] at hs
    obtain ⟨rfl, rfl⟩ := hs
    unfold slA at hv
    split at hv
    ·rename_i i off hxe
     rw [hxe] at hX
     split at hv
     ·rename_i cs ro hb
      split at hv
      ·rename_i hfit
       split at hv
       ·cases hv
       ·rename_i mm e1
        split at hv
        ·cases hv
        ·rename_i hh e2
         split at hv
         ·cases hv
         ·rename_i l e3
          split at hv
          ·rename_i hhm
           simp only [sI] at hv; subst hv
           have hmc := eA e1 (Nat.le_refl _)
           have hlh := eA e3 (Nat.zero_le _)
           have hb2 := dB (P := P) (isSlice := false) (len := m) (C := m) hL hH hM hmh (qBF e1) (eN e2) (eN e3)
           generalize hpe : a.eval x = pe at hX
           cases hX with
           | ptr _ _ hr =>
            obtain ⟨ob, hob, hbr⟩ := r.obj hb (by simp)
            cases hbr with
            | cells _ _ arr et hsz hvv =>
             have hsh : w.shape? (c.β i) = some (et, arr.size) := by rw [shape?_eq, hob]; rfl
             refine .pure r (v := .slice (some (if mm = l then ⟨c.β i, off, none⟩ else ⟨c.β i, off + l * k, none⟩)) (hh - l) (mm - l)) ?_ ?_
             ·simp only [execOp, ho, hpe, Instr.sliceAt, Sem.run_bind, aL hu, Result.andThen_ok, Instr.sureAddr, Sem.run_pure, hb2, bW hk, ay]
             ·have := VR.slc (c := c) (n := h.n) (w := w) k i (if mm = l then off else off + l * k) (hh - l) (some (mm - l)) (mm - l) hr (fun q hq => by injection hq) (by omega) ⟨et, _, hsh, by
               split
               ·rename_i hml; rw [hml, Nat.sub_self]; have : m * k ≥ 0 := Nat.zero_le _; omega
               ·have h1 : l * k + (mm - l) * k = mm * k := by rw [← Nat.add_mul]; congr 1; omega
                have h2 : mm * k ≤ m * k := Nat.mul_le_mul_right _ hmc
                omega⟩
              split
              ·rename_i hml; rw [if_pos hml] at this; exact this
              ·rename_i hml; rw [if_neg hml] at this; exact this
          ·cases hv
      ·cases hv
     ·cases hv
    ·cases hv
   ·cases hs
  ·rename_i e hu
   obtain ⟨k, hk, hc⟩ := aP hc
   split at hc
   ·cases hc
   ·rename_i hk0
    injection hc with hc; subst hc
    simp only [stepO] at hs
    split at hs
    ·rename_i v hv
     simp only [sI, pI] at hs
     obtain ⟨rfl, rfl⟩ := hs
     obtain ⟨v', h1, h2⟩ := slS_ok r hu hk hk0 hX hL hH hM hmh hv
     exact .pure r (by simp only [execOp, ho, Sem.run_bind, h1, Result.andThen_ok, Sem.run_pure]) h2
    ·cases hs
  ·rename_i hu
   split at hc
   ·injection hc with hc; subst hc
    simp only [stepO] at hs
    have hmn : mx = none := by cases mx with
     | none => rfl
     | some q => simp only [nk, Option.map_eq_some_iff] at hmx; obtain ⟨y, _, hy⟩ := hmx; cases hy
    subst hmn
    generalize hpe : a.eval x = pe at hX
    split at hs
    ·rename_i s hxe
     rw [hxe] at hX
     cases hX
     split at hs
     ·rename_i hh e2
      split at hs
      ·rename_i l e3
       simp only [sI, pI] at hs
       obtain ⟨rfl, rfl⟩ := hs
       have hb2 := dB (P := P) (isSlice := false) (len := s.size) (C := s.size) (M := s.size) hL hH (mx := none) (mx' := none) trivial (fun h => by cases h) rfl (eN e2) (eN e3)
       refine .pure r ?_ (.str _)
       simp only [execOp, ho, hpe, Instr.sliceAt, Instr.slice, Sem.run_bind, aL hu, Result.andThen_ok, Option.map_none, Option.isSome_none, Bool.false_eq_true, if_false, hb2, Sem.run_pure]
      ·cases hs
     ·cases hs
    ·cases hs
   ·cases hc
  ·cases hc
end Ce
namespace Ce
open Go
variable {P : Program} {c : Cx} {h : H} {w : World} {env : List CV} {a : Act} {n : Nat}
theorem pR (k : Nat) : ∀ (m : Nat) (cs : List CV) (i : Nat) (row : List CV), (bY k m cs)[i]? = some row → i < m ∧ row = (cs.drop (i * k)).take k
 | 0, cs, i, row, h => by simp [bY] at h
 | m + 1, cs, 0, row, h => by simp [bY] at h; exact ⟨by omega, by simpa using h.symm⟩
 | m + 1, cs, i + 1, row, h => by
  simp only [bY, List.getElem?_cons_succ] at h
  obtain ⟨h1, h2⟩ := pR k m (cs.drop k) i row h
  refine ⟨by omega, ?_⟩
  rw [h2, List.drop_drop, Nat.succ_mul, Nat.add_comm k]
theorem lE (k : Nat) : ∀ (m : Nat) (cs : List CV), (bY k m cs).length = m
 | 0, _ => rfl
 | m + 1, cs => by simp [bY, lE k m]
theorem tw : ∀ (fuel : Nat), (∀ (v v' : CV) (h h' : H) (c : Cx) (u : Value), frz fuel v h = some (v', h') → Rel P c h w → VR c h.n w v u → ∃ c', Stp P c h w c' h' w ∧ VR c' h'.n w v' u) ∧
  (∀ (vs vs' : List CV) (h h' : H) (c : Cx) (us : List Value), frzL (frz fuel) vs h = some (vs', h') → Rel P c h w → VRs c h.n w vs us → ∃ c', Stp P c h w c' h' w ∧ VRs c' h'.n w vs' us) := by
 have listOf : ∀ fuel, (∀ (v v' : CV) (h h' : H) (c : Cx) (u : Value), frz fuel v h = some (v', h') → Rel P c h w → VR c h.n w v u → ∃ c', Stp P c h w c' h' w ∧ VR c' h'.n w v' u) →
   (∀ (vs vs' : List CV) (h h' : H) (c : Cx) (us : List Value), frzL (frz fuel) vs h = some (vs', h') → Rel P c h w → VRs c h.n w vs us → ∃ c', Stp P c h w c' h' w ∧ VRs c' h'.n w vs' us) := by
  intro fuel hf vs
  induction vs with
  | nil =>
   intro vs' h h' c us hs r hv
   simp only [frzL, sI, pI] at hs
   obtain ⟨rfl, rfl⟩ := hs
   exact ⟨c, .refl r, hv⟩
  | cons v vs ih =>
   intro vs' h h' c us hs r hv
   cases us with
   | nil => have := hv.1; simp at this
   | cons u us =>
    have hv1 : VR c h.n w v u := hv.2 0 v u rfl rfl
    have hv2 : VRs c h.n w vs us := ⟨by simpa using hv.1, fun i x y hx hy => hv.2 (i + 1) x y (by simpa using hx) (by simpa using hy)⟩
    simp only [frzL] at hs
    split at hs
    ·rename_i v1 h1 e1
     split at hs
     ·rename_i vs2 h2 e2
      simp only [sI, pI] at hs
      obtain ⟨rfl, rfl⟩ := hs
      obtain ⟨c1, s1, r1⟩ := hf v v1 h h1 c u e1 r hv1
      obtain ⟨c2, s2, r2⟩ := ih vs2 h1 h2 c1 us e2 s1.rel (hv2.evo s1.evo)
      exact ⟨c2, s1.trans s2, .cons (r1.evo s2.evo) r2⟩
     ·cases hs
    ·cases hs
 intro fuel
 induction fuel with
 | zero => exact ⟨fun v v' h h' c u hs => by simp [frz] at hs, listOf 0 fun v v' h h' c u hs => by simp [frz] at hs⟩
 | succ fuel ih =>
  have hone : ∀ (v v' : CV) (h h' : H) (c : Cx) (u : Value), frz (fuel + 1) v h = some (v', h') → Rel P c h w → VR c h.n w v u → ∃ c', Stp P c h w c' h' w ∧ VR c' h'.n w v' u := by
   intro v v' h h' c u hs r hv
   simp only [frz] at hs
   split at hs
   ·rename_i k i off len cap
    split at hs
    ·rename_i cs0 ro hb
     split at hs
     ·rename_i cs hcut
      split at hs
      ·rename_i cs' h1 e1
       simp only [sI, pI] at hs
       obtain ⟨rfl, rfl⟩ := hs
       have hf := Stp.freeze r hb
       unfold cut? at hcut
       split at hcut
       ·rename_i hfit
        simp only [sI] at hcut
        subst hcut
        cases hv with
        | slc _ _ _ _ _ cap' hr hcap hle hsz =>
         obtain ⟨us, hus, hcell⟩ := gX (a := ⟨c.β i, off, none⟩) (xs := (cs0.drop off).take (len * k)) (c := c) (n := h.n) (w := w) (by
          intro j y hy
          rw [List.getElem?_take] at hy
          split at hy
          ·rw [List.getElem?_drop] at hy
           rw [ay]
           exact jz r hb hy
          ·cases hy)
         obtain ⟨c2, s2, r2⟩ := ih.2 _ _ _ _ _ us e1 hf.rel (hus.evo hf.evo)
         refine ⟨c2, hf.trans s2, ?_⟩
         have hlen : cs'.length = len * k := by rw [r2.1, ← hus.1]; simp; omega
         have him : c2.Im (c2.β i) := by
          have h0 : i < h.n := hr
          rw [(hf.trans s2).evo.beta i h0]
          exact s2.evo.im _ (.inr rfl)
         have hbeta : c2.β i = c.β i := (hf.trans s2).evo.beta i hr
         have key : ∀ (q : Nat) (row : List CV), (bY k len cs')[q]? = some row → q < len ∧ row = (cs'.drop (q * k)).take k := fun q row hq => pR k len cs' q row hq
         have hin : ∀ (q : Nat) (row : List CV) (j : Nat) (x : CV), (bY k len cs')[q]? = some row → row[j]? = some x → ∃ v, us[q * k + j]? = some v ∧ cs'[q * k + j]? = some x := by
          intro q row j x hq hx
          obtain ⟨h1, rfl⟩ := key q row hq
          rw [List.getElem?_take] at hx
          split at hx
          ·rw [List.getElem?_drop] at hx
           obtain ⟨v, hv, _⟩ := r2.at hx
           exact ⟨v, hv, hx⟩
          ·cases hx
         have := VR.lst (c := c2) (n := h1.n) (w := w) (bY k len cs') false k (c.β i) off cap' (fun q j => (us[q * k + j]?).getD Go.undef) (by rw [lE]; exact hle) (by simp)
          (fun _ => by rw [← hbeta]; exact him)
          (fun q row hq => by
           obtain ⟨hq1, rfl⟩ := key q row hq
           have : (q + 1) * k ≤ len * k := Nat.mul_le_mul_right _ (by omega)
           rw [Nat.succ_mul] at this
           simp; omega)
          (fun q row j x hq hx => by
           obtain ⟨v, hv1, hv2⟩ := hin q row j x hq hx
           have := hcell _ _ hv1
           rw [ay] at this
           rw [hv1, Nat.add_assoc]; exact this)
          (fun q row j x hq hx => by
           obtain ⟨v, hv1, hv2⟩ := hin q row j x hq hx
           rw [hv1]
           exact r2.2 _ x v hv2 hv1)
         rw [lE] at this
         exact this
       ·cases hcut
      ·cases hs
     ·cases hs
    ·cases hs
   ·rename_i cs
    split at hs
    ·rename_i cs' h1 e1
     simp only [sI, pI] at hs
     obtain ⟨rfl, rfl⟩ := hs
     obtain ⟨us, rfl, hus⟩ := hv.agg_inv
     obtain ⟨c2, s2, r2⟩ := ih.2 _ _ _ _ _ us e1 r hus
     exact ⟨c2, s2, r2.agg⟩
    ·cases hs
   ·rename_i cs
    split at hs
    ·rename_i cs' h1 e1
     simp only [sI, pI] at hs
     obtain ⟨rfl, rfl⟩ := hs
     by_cases hne : cs = []
     ·subst hne
      simp only [frzL, sI, pI] at e1
      obtain ⟨rfl, rfl⟩ := e1
      exact ⟨c, .refl r, hv⟩
     obtain ⟨us, rfl, hus⟩ := hv.tup_inv hne
     obtain ⟨c2, s2, r2⟩ := ih.2 _ _ _ _ _ us e1 r hus
     exact ⟨c2, s2, r2.tup⟩
    ·cases hs
   ·simp only [sI, pI] at hs
    obtain ⟨rfl, rfl⟩ := hs
    exact ⟨c, .refl r, hv⟩
  exact ⟨hone, listOf (fuel + 1) hone⟩
theorem qBJ {s t : ByteArray} (h : (s.toList == t.toList) = true) : s = t := by
 rw [beq_iff_eq] at h
 rw [ByteArray.toList_eq, ByteArray.toList_eq] at h
 cases s; cases t; simp at h; rw [h]
theorem qAM {x y : CV} (h : eqv x y = some true) : x = y := by
 unfold eqv at h
 split at h
 ·split at h
  ·rename_i hk; simp only [sI, beq_iff_eq] at h; rw [hk, h]
  ·cases h
 ·simp only [sI, beq_iff_eq] at h; rw [h]
 ·simp only [sI] at h; rw [qBJ h]
 ·cases h
theorem pM : ∀ {xs ys : List CV}, bj xs ys = some true → xs = ys
 | [], [], _ => rfl
 | x :: xs, y :: ys, h => by
  simp only [bj] at h
  split at h
  ·rename_i e; rw [qAM e, pM h]
  ·cases h
  ·cases h
 | [], _ :: _, h => by simp [bj] at h
 | _ :: _, [], h => by simp [bj] at h
theorem s5 {x y : CV} (h : eqF x y = some true) : x = y := by
 unfold eqF at h
 split at h
 ·rename_i hc
  simp only [aT, beq_iff_eq] at hc
  have := pM h
  cases x <;> cases y <;> simp_all [CV.cells, bU]
 ·cases h
end Ce
namespace Ce
open Go
variable {P : Program} {c : Cx} {h : H} {w : World} {env : List CV} {a : Act} {n : Nat}
def CkC (P : Program) (d : Nat) (t : TypeId) (ls : List Lf) : Prop :=
 ∀ (c : Cx) (n : Nat) (w : World) (xs : List CV) (vs : List Value) (em : Bool), dG ls xs = true → VRs c n w xs vs → ∀ D, (Instr.checkKey em (D + d) t (mkV P t vs)).run P w = .ok () w
theorem lY {d : Nat} {rec : TypeId → Option (List Lf)} (hrec : ∀ t k, rec t = some k → (P.info? t).isSome ∧ (P.underlying t).isSome ∧ (bc P t = some false → k.length = 1) ∧ CkC P d t k) :
  ∀ (fs : List Field) (off : Nat) (ls : List Lf), jM P rec fs off = some ls → ∀ (c : Cx) (n : Nat) (w : World) (xs : List CV) (vs : List Value) (em : Bool), dG ls (xs.drop off) = true → off ≤ xs.length → VRs c n w xs vs → ∀ D,
   (forIn (m := Sem) fs PUnit.unit (fun f (_ : PUnit) => do
    if f.name ≠ "_" then do
     Instr.checkKey em (D + d) f.type (← part f.type vs.toArray f.offset)
     Pure.pure (ForInStep.yield PUnit.unit)
    else Pure.pure (ForInStep.yield PUnit.unit))).run P w = .ok PUnit.unit w
 | [], off, ls, hl, c, n, w, xs, vs, em, hx, ho, hv, D => by simp
 | f :: fs, off, ls, hl, c, n, w, xs, vs, em, hx, ho, hv, D => by
  simp only [jM] at hl
  split at hl
  ·cases hl
  ·rename_i hname
   split at hl
   ·rename_i hoff
    split at hl
    ·rename_i k hk
     split at hl
     ·rename_i hcells
      split at hl
      ·rename_i ks hks
       simp only [sI] at hl
       subst hl
       obtain ⟨h1, h2, h3, h4⟩ := hrec _ _ hk
       have hlen := bK hx
       simp at hlen
       obtain ⟨hx1, hx2⟩ := cw hx
       rw [List.drop_drop] at hx2
       have hp1 := i7 (P := P) (w := w) h1 h2 (vs := vs.toArray) (off := f.offset) (by rw [hcells]; simp; have := hv.1; omega) (fun e => by rw [hcells]; exact h3 e)
       have hr := h4 c n w _ _ em hx1 ((hv.drop off).take k.length) D
       rw [hcells, hoff] at hp1
       simp only [List.forIn_cons, Sem.run_bind, Sem.run_ite, if_pos (show f.name ≠ "_" from hname), hoff, hp1, Result.andThen_ok, hr, Sem.run_pure]
       exact lY hrec fs (off + k.length) ks hks c n w xs vs em hx2 (by omega) hv D
      ·cases hl
     ·cases hl
    ·cases hl
   ·cases hl
theorem nh {d : Nat} {e : TypeId} {k : List Lf} (h1 : (P.info? e).isSome) (h2 : (P.underlying e).isSome) (h3 : bc P e = some false → k.length = 1) (h4 : CkC P d e k) (hcells : P.cellsOf e = k.length) {vs : List Value} {xs : List CV}
  (hv : VRs c n w xs vs) (D : Nat) (em : Bool) : ∀ (m i : Nat), dG (ft k m) (xs.drop (i * k.length)) = true → i * k.length ≤ xs.length →
   (forIn (m := Sem) (List.range' i m 1) PUnit.unit (fun i (_ : PUnit) => do
    let s ← Go.sizeOf e
    Instr.checkKey em (D + d) e (← part e vs.toArray (i * s))
    Pure.pure (ForInStep.yield PUnit.unit))).run P w = .ok PUnit.unit w
 | 0, i, hx, ho => by simp
 | m + 1, i, hx, ho => by
  have hlen := bK hx
  simp only [ft] at hx
  obtain ⟨hx1, hx2⟩ := cw hx
  have hl : ∀ m, (ft k m).length = m * k.length := by
   intro m; induction m with
   | zero => simp [ft]
   | succ m ih => simp [ft, ih, Nat.succ_mul]; omega
  have hlen2 := bK hx1
  rw [hl] at hlen
  simp at hlen hlen2
  have hmul : (m + 1) * k.length = m * k.length + k.length := Nat.succ_mul _ _
  rw [List.drop_drop] at hx2
  have hp1 := i7 (P := P) (w := w) h1 h2 (vs := vs.toArray) (off := i * k.length) (by rw [hcells]; simp; have := hv.1; omega) (fun e => by rw [hcells]; exact h3 e)
  rw [hcells] at hp1
  have hsz : (Go.sizeOf e).run P w = .ok k.length w := by
   obtain ⟨i, hi⟩ := Option.isSome_iff_exists.1 h1
   simp only [Program.cellsOf, hi, Option.map_some, Option.getD_some] at hcells
   simp [Go.sizeOf, typeInfo, hi, hcells]
  have hr := h4 c n w _ _ em hx1 ((hv.drop (i * k.length)).take k.length) D
  simp only [List.range'_succ, List.forIn_cons, Sem.run_bind, hsz, hp1, Result.andThen_ok, hr, Sem.run_pure]
  have := nh h1 h2 h3 h4 hcells hv D em m (i + 1) (by rw [Nat.succ_mul]; exact hx2) (by rw [Nat.succ_mul]; omega)
  simpa only [Sem.run_bind] using this
theorem ru : ∀ (d : Nat) (t : TypeId) (ls : List Lf), nK P d t = some ls → (P.info? t).isSome ∧ (P.underlying t).isSome ∧ (bc P t = some false → ls.length = 1) ∧ CkC P d t ls
 | 0, t, k, h => by cases h
 | d + 1, t, k, h => by
  have IH := fun t k => ru d t k
  obtain ⟨q1, q2, q3, _⟩ := nJ _ _ _ h
  refine ⟨q1, q2, q3, ?_⟩
  simp only [nK] at h
  split at h
  ·cases h
  ·split at h
   ·rename_i hu
    simp only [sI] at h; subst h
    intro c n w xs vs em hx hv D
    have hm : bc P t ≠ some true := by rw [bR hu]; simp [gp]
    rw [show D + (d + 1) = (D + d) + 1 from by omega]
    simp [Instr.checkKey, aL hu]
   ·rename_i hu
    simp only [sI] at h; subst h
    intro c n w xs vs em hx hv D
    rw [show D + (d + 1) = (D + d) + 1 from by omega]
    simp [Instr.checkKey, aL hu]
   ·rename_i hu
    simp only [sI] at h; subst h
    intro c n w xs vs em hx hv D
    rw [show D + (d + 1) = (D + d) + 1 from by omega]
    simp [Instr.checkKey, aL hu]
   ·rename_i m e hu
    split at h
    ·rename_i k' hk'
     split at h
     ·rename_i hcells
      simp only [sI] at h; subst h
      obtain ⟨h1, h2, h3, h4⟩ := IH _ _ hk'
      intro c n w xs vs em hx hv D
      have hm : bc P t = some true := by rw [bR hu]; simp [gp]
      simp only [mkV, if_pos hm]
      have hE := nh h1 h2 h3 h4 hcells hv D em m 0 (by simpa using hx) (by simp)
      rw [show D + (d + 1) = (D + d) + 1 from by omega]
      simp only [Instr.checkKey, Sem.run_bind, aL hu, Result.andThen_ok, Std.Legacy.Range.forIn_eq_forIn_range', Std.Legacy.Range.size]
      simp only [Nat.sub_zero, Nat.add_sub_cancel, Nat.div_one]
      refine (congrArg (fun r => Result.andThen r _) hE).trans ?_
      rfl
     ·cases h
    ·cases h
   ·rename_i fs hu
    split at h
    ·cases h
    ·intro c n w xs vs em hx hv D
     have hm : bc P t = some true := by rw [bR hu]; simp [gp]
     simp only [mkV, if_pos hm]
     have hE := lY IH fs.toList 0 k h c n w xs vs em (by simpa using hx) (by omega) hv D
     rw [show D + (d + 1) = (D + d) + 1 from by omega]
     simp only [Instr.checkKey, Sem.run_bind, aL hu, Result.andThen_ok]
     rw [← Array.forIn_toList]
     refine (congrArg (fun r => Result.andThen r _) hE).trans ?_
     rfl
   ·cases h
theorem wu {t : TypeId} {d : TypeDesc} (hd : P.underlying t = some d) {x : CV} {u : Value} (hx : VR c n w x u) (hk : bU x = gp d) : mkV P t u.cells.toList = u := by
 unfold mkV
 rw [bR hd]
 cases hag : gp d with
 | true =>
  rw [hag] at hk
  cases x <;> simp [bU] at hk
  cases hx; simp [Value.cells]
 | false =>
  rw [hag] at hk
  cases hx <;> simp [bU] at hk <;> simp [Value.cells]
theorem iS {t : TypeId} {ag : Bool} {ls : List Lf} (hf : flatT P t = some (ag, ls)) {x : CV} {u : Value} (hx : VR c n w x u) (hk : kOk ag ls x = true) (em : Bool) : (Instr.checkKey em 10000 t u).run P w = .ok () w := by
 unfold flatT at hf
 split at hf
 ·rename_i l d hl hd
  split at hf
  ·cases hf
  ·simp only [sI, pI] at hf
   obtain ⟨rfl, rfl⟩ := hf
   obtain ⟨_, _, _, h4⟩ := ru _ _ _ hl
   simp only [kOk, aT, beq_iff_eq] at hk
   have := h4 c n w _ _ em hk.2 hx.cells (10000 - 40)
   rw [wu hd hx hk.1] at this
   exact this
 ·cases hf
end Ce
namespace Ce
open Go
variable {P : Program} {c : Cx} {h : H} {w : World} {env : List CV} {a : Act} {n : Nat}
def EsR (c : Cx) (n : Nat) (w : World) (es : List (CV × CV × Nat)) (ms : List MapEntry) : Prop :=
 es.length = ms.length ∧ ∀ (j : Nat) (k v : CV) (b : Nat) (m : MapEntry), es[j]? = some (k, v, b) → ms[j]? = some m → VR c n w k m.key ∧ VR c n w v m.val ∧ m.born = b
theorem EsR.tail {e : CV × CV × Nat} {es : List (CV × CV × Nat)} {m : MapEntry} {ms : List MapEntry} (h : EsR c n w (e :: es) (m :: ms)) : EsR c n w es ms :=
 ⟨by simpa using h.1, fun j k v b m' h1 h2 => h.2 (j + 1) k v b m' (by simpa using h1) (by simpa using h2)⟩
def pg (es : List (CV × CV × Nat)) (k : CV) (i : Nat) (v : CV) (b : Nat) : Prop :=
 es[i]? = some (k, v, b) ∧ ∀ (j : Nat) (e : CV × CV × Nat), j < i → es[j]? = some e → eqF k e.1 = some false
theorem nG : ∀ {es : List (CV × CV × Nat)} {k v : CV} {b : Nat}, bJ es k = some (some (v, b)) → ∃ i, pg es k i v b
 | (k', v', b') :: es, k, v, b, h => by
  simp only [bJ] at h
  split at h
  ·rename_i e
   simp only [sI, pI] at h
   obtain ⟨rfl, rfl⟩ := h
   refine ⟨0, ?_, fun j e hj => by omega⟩
   rw [s5 e]; rfl
  ·rename_i e
   obtain ⟨i, h1, h2⟩ := nG h
   refine ⟨i + 1, by simpa using h1, fun j e' hj he => ?_⟩
   cases j with
   | zero => simp at he; subst he; exact e
   | succ j => exact h2 j e' (by omega) (by simpa using he)
  ·cases h
 | [], k, v, b, h => by simp [bJ] at h
theorem iK {es : List (CV × CV × Nat)} {k v : CV} {b : Nat} (h : bJ es k = some (some (v, b))) : eqF k k = some true := by
 induction es with
 | nil => simp [bJ] at h
 | cons e es ih =>
  obtain ⟨k', v', b'⟩ := e
  simp only [bJ] at h
  split at h
  ·rename_i e; have := s5 e; subst this; exact e
  ·exact ih h
  ·cases h
theorem pX {t : TypeId} {ag : Bool} {ls : List Lf} (hf : flatT P t = some (ag, ls)) {k : CV} {u : Value} (hk : VR c n w k u) (hkk : kOk ag ls k = true) : ∀ (es : List (CV × CV × Nat)) (ms : List MapEntry) (i0 : Nat), EsR c n w es ms →
  (bJ es k = some none → (Instr.findAsking t u ms i0).run P w = .ok none w) ∧
  (∀ v b i, bJ es k = some (some (v, b)) → pg es k i v b → ∃ m, ms[i]? = some m ∧ (Instr.findAsking t u ms i0).run P w = .ok (some (i0 + i, m.val)) w)
 | [], [], i0, _ => ⟨fun _ => by simp [Instr.findAsking], fun v b i hl => by simp [bJ] at hl⟩
 | [], _ :: _, _, h => by have := h.1; simp at this
 | _ :: _, [], _, h => by have := h.1; simp at this
 | (k', v', b') :: es, m :: ms, i0, h => by
  obtain ⟨h1, h2, h3⟩ := h.2 0 k' v' b' m rfl rfl
  obtain ⟨ih1, ih2⟩ := pX hf hk hkk es ms (i0 + 1) h.tail
  constructor
  ·intro hl
   simp only [bJ] at hl
   split at hl
   ·cases hl
   ·rename_i e
    have := mL hf hk h1 hkk e
    simp [Instr.findAsking, this, ih1 hl]
   ·cases hl
  ·intro v b i hl hfd
   simp only [bJ] at hl
   split at hl
   ·rename_i e
    have hi : i = 0 := by
     cases i with
     | zero => rfl
     | succ i => have := hfd.2 0 (k', v', b') (by omega) rfl; rw [e] at this; cases this
    subst hi
    have := mL hf hk h1 hkk e
    exact ⟨m, rfl, by simp [Instr.findAsking, this]⟩
   ·rename_i e
    cases i with
    | zero =>
     have h0 := hfd.1
     simp at h0
     obtain ⟨rfl, _, _⟩ := h0
     have := iK hl
     rw [this] at e; cases e
    | succ i =>
     obtain ⟨m', hm, hr⟩ := ih2 v b i hl ⟨by simpa using hfd.1, fun j e' hj he => hfd.2 (j + 1) e' (by omega) (by simpa using he)⟩
     have := mL hf hk h1 hkk e
     refine ⟨m', by simpa using hm, ?_⟩
     simp [Instr.findAsking, this, hr]; omega
   ·cases hl
theorem oN {d : TypeDesc} {k k' : CV} {u m : Value} (hk : VR c n w k u) (h1 : VR c n w k' m) {b q : Bool} (hb : Instr.sameNow d u m = some b) (hq : eqF k k' = some q) : b = q := by
 unfold eqF at hq
 split at hq
 ·unfold Instr.sameNow at hb
  cases hk <;> cases h1 <;> (try simp_all [CV.cells, bj, eqv, beq_toListBytes]; done)
  ·rename_i b1 b2 _
   cases d <;> simp [CV.cells, bj, eqv] at hb hq
   cases hbb : (b1 == b2 : Bool) <;> (simp only [hbb] at hq hb; simp at hq; rw [← hb, ← hq])
  ·rename_i k2 m2 k1 m1 _
   by_cases hkk : k2 = k1
   ·subst hkk
    cases d <;> simp [CV.cells, bj, eqv] at hb hq
    cases hbb : (m2 == m1 : Bool) <;> (simp only [hbb] at hq hb; simp at hq; rw [← hb, ← hq])
   ·cases d <;> simp [CV.cells, bj, eqv, hkk] at hb hq
  ·rename_i b1 b2 _
   cases d <;> simp [CV.cells, bj, eqv] at hb hq
   rw [beq_toListBytes] at hb; cases hbb : (b1.toList == b2.toList : Bool) <;> (simp only [hbb] at hq hb; simp at hq; rw [← hb, ← hq])
 ·cases hq
theorem tk {d : TypeDesc} {k : CV} {u : Value} (hk : VR c n w k u) : ∀ (es : List (CV × CV × Nat)) (ms : List MapEntry) (i0 : Nat) (r : Option (Nat × Value)), EsR c n w es ms → Instr.findNow d u ms i0 = some r →
  (bJ es k = some none → r = none) ∧ (∀ v b i, bJ es k = some (some (v, b)) → pg es k i v b → ∃ m, ms[i]? = some m ∧ r = some (i0 + i, m.val))
 | [], [], i0, r, _, hr => by simp only [Instr.findNow, sI] at hr; exact ⟨fun _ => hr.symm, fun v b i hl => by simp [bJ] at hl⟩
 | [], _ :: _, _, _, h, _ => by have := h.1; simp at this
 | _ :: _, [], _, _, h, _ => by have := h.1; simp at this
 | (k', v', b') :: es, m :: ms, i0, r, h, hr => by
  obtain ⟨h1, h2, h3⟩ := h.2 0 k' v' b' m rfl rfl
  have agree : ∀ b q, Instr.sameNow d u m.key = some b → eqF k k' = some q → b = q := fun b q hb hq => oN hk h1 hb hq
  simp only [Instr.findNow] at hr
  constructor
  ·intro hl
   simp only [bJ] at hl
   split at hl
   ·cases hl
   ·rename_i e
    split at hr
    ·rename_i hs; have := agree _ _ hs e; cases this
    ·exact (tk hk es ms (i0 + 1) r h.tail hr).1 hl
    ·cases hr
   ·cases hl
  ·intro v b i hl hfd
   simp only [bJ] at hl
   split at hl
   ·rename_i e
    have hi : i = 0 := by
     cases i with
     | zero => rfl
     | succ i => have := hfd.2 0 (k', v', b') (by omega) rfl; rw [e] at this; cases this
    subst hi
    split at hr
    ·simp only [sI] at hr; exact ⟨m, rfl, hr.symm⟩
    ·rename_i hs; have := agree _ _ hs e; cases this
    ·cases hr
   ·rename_i e
    split at hr
    ·rename_i hs; have := agree _ _ hs e; cases this
    ·cases i with
     | zero =>
      have h0 := hfd.1
      simp at h0
      obtain ⟨rfl, _, _⟩ := h0
      have := iK hl
      rw [this] at e; cases e
     | succ i =>
      obtain ⟨m', hm, hr'⟩ := (tk hk es ms (i0 + 1) r h.tail hr).2 v b i hl ⟨by simpa using hfd.1, fun j e' hj he => hfd.2 (j + 1) e' (by omega) (by simpa using he)⟩
      exact ⟨m', by simpa using hm, by rw [hr', Nat.add_assoc, Nat.add_comm 1]⟩
    ·cases hr
   ·cases hl
theorem uA {t : TypeId} {ag : Bool} {ls : List Lf} (hf : flatT P t = some (ag, ls)) {k : CV} {u : Value} (hk : VR c n w k u) (hkk : kOk ag ls k = true) {es : List (CV × CV × Nat)} {ms : List MapEntry} (he : EsR c n w es ms) :
  (bJ es k = some none → (Instr.findKey t u ms).run P w = .ok none w) ∧
  (∀ v b i, bJ es k = some (some (v, b)) → pg es k i v b → ∃ m, ms[i]? = some m ∧ (Instr.findKey t u ms).run P w = .ok (some (i, m.val)) w) := by
 have hd : ∃ d, P.underlying t = some d := by
  unfold flatT at hf
  split at hf
  ·rename_i l d hl hd; exact ⟨d, hd⟩
  ·cases hf
 obtain ⟨d, hd⟩ := hd
 obtain ⟨a1, a2⟩ := pX (P := P) hf hk hkk es ms 0 he
 cases hr : Instr.findNow d u ms 0 with
 | none =>
  refine ⟨fun hl => by simp [Instr.findKey, aL hd, hr, a1 hl], fun v b i hl hfd => ?_⟩
  obtain ⟨m, h1, h2⟩ := a2 v b i hl hfd
  exact ⟨m, h1, by simp [Instr.findKey, aL hd, hr, h2]⟩
 | some r =>
  obtain ⟨b1, b2⟩ := tk hk es ms 0 r he hr
  refine ⟨fun hl => by simp [Instr.findKey, aL hd, hr, b1 hl], fun v b i hl hfd => ?_⟩
  obtain ⟨m, h1, h2⟩ := b2 v b i hl hfd
  exact ⟨m, h1, by simp [Instr.findKey, aL hd, hr, h2]⟩
end Ce
namespace Ce
open Go
variable {P : Program} {c : Cx} {h : H} {w : World} {env : List CV} {a : Act} {n : Nat}
theorem zg : ∀ {ls : List Lf} {xs : List CV} {us vs : List Value}, dG ls xs = true → VRs c n w xs us → VRs c n w xs vs → us = vs ∧ ∀ u ∈ us, ∀ d, Instr.sameBits d u u = true
 | [], [], us, vs, _, h1, h2 => by
  have e1 := h1.1; have e2 := h2.1
  simp at e1 e2
  have : us = [] := List.eq_nil_of_length_eq_zero e1.symm
  have : vs = [] := List.eq_nil_of_length_eq_zero e2.symm
  subst us; subst vs; exact ⟨rfl, by simp⟩
 | l :: ls, x :: xs, us, vs, hl, h1, h2 => by
  cases us with
  | nil => have := h1.1; simp at this
  | cons u us =>
   cases vs with
   | nil => have := h2.1; simp at this
   | cons v vs =>
    have a1 := h1.2 0 x u rfl rfl
    have a2 := h2.2 0 x v rfl rfl
    have t1 : VRs c n w xs us := ⟨by simpa using h1.1, fun i x y hx hy => h1.2 (i + 1) x y (by simpa using hx) (by simpa using hy)⟩
    have t2 : VRs c n w xs vs := ⟨by simpa using h2.1, fun i x y hx hy => h2.2 (i + 1) x y (by simpa using hx) (by simpa using hy)⟩
    have hd : dG ls xs = true ∧ u = v ∧ ∀ d, Instr.sameBits d u u = true := by
     cases l <;> cases x <;> simp [dG] at hl <;> cases a1 <;> cases a2 <;> exact ⟨hl, rfl, fun d => by cases d <;> simp [Instr.sameBits, beq_toListBytes]⟩
    obtain ⟨i1, i2⟩ := zg hd.1 t1 t2
    refine ⟨by rw [hd.2.1, i1], fun z hz => ?_⟩
    rcases List.mem_cons.1 hz with rfl | hz
    ·exact hd.2.2
    ·exact i2 z hz
 | [], _ :: _, _, _, hl, _, _ => by simp [dG] at hl
 | l :: _, [], _, _, hl, _, _ => by cases l <;> simp [dG] at hl
theorem vW {ag : Bool} {ls : List Lf} {x : CV} (hk : kOk ag ls x = true) {u v : Value} (hu : VR c n w x u) (hv : VR c n w x v) : u = v ∧ ∀ d, Instr.sameBits (d + 1) u u = true := by
 simp only [kOk, aT, beq_iff_eq] at hk
 obtain ⟨e, hs⟩ := zg hk.2 hu.cells hv.cells
 by_cases hx : bU x = true
 ·cases x <;> simp [bU] at hx
  cases hu with
  | agg xs vs hx1 hv1 => cases hv with
   | agg _ us hx2 hv2 =>
    simp only [Value.cells] at e hs
    have : vs = us := by cases vs; cases us; simp at e; rw [e]
    subst this
    refine ⟨rfl, fun d => ?_⟩
    simp only [Instr.sameBits, beq_self_eq_true, Bool.true_and, List.all_eq_true]
    intro p hp
    have : p.1 = p.2 ∧ p.1 ∈ vs.toList := by
     rw [List.zip_eq_zipWith] at hp
     obtain ⟨i, hi, he⟩ := List.mem_iff_getElem.1 hp
     simp at he
     subst he; simp at hi; simp
    rw [← this.1]
    exact hs _ this.2 d
 ·have hc : ∀ (y : Value), VR c n w x y → y.cells.toList = [y] := by
   intro y hy
   cases hy <;> simp [Value.cells] <;> simp [bU] at hx
  rw [hc u hu, hc v hv] at e
  injection e with e _
  exact ⟨e, fun d => hs u (by rw [hc u hu]; simp) _⟩
theorem kg (r : Rel P c h w) {i : Nat} {es : List (CV × CV × Nat)} {cl : Nat} (hb : h.f i = some (.map es cl)) :
  ∃ es' : Array MapEntry, w.heap[c.β i]? = some (.map es' cl) ∧ EsR c h.n w es es'.toList := by
 obtain ⟨o, ho, hr⟩ := r.obj hb (by simp)
 cases hr with
 | map _ es' _ hsz hv => exact ⟨es', ho, by simpa using hsz, fun j k v b m h1 h2 => hv j k v b m h1 (by simpa using h2)⟩
theorem mH {t : TypeId} {ag : Bool} {ls : List Lf} (hf : flatT P t = some (ag, ls)) {k : CV} {u : Value} (hk : VR c n w k u) (hkk : kOk ag ls k = true) {es : List (CV × CV × Nat)} {ms : List MapEntry} (he : EsR c n w es ms) :
  (bJ es k = some none → (Instr.findKey t u ms).run P w = .ok none w) ∧
  (∀ v b, bJ es k = some (some (v, b)) → ∃ i m, pg es k i v b ∧ ms[i]? = some m ∧ m.key = u ∧ m.born = b ∧ VR c n w v m.val ∧ (Instr.findKey t u ms).run P w = .ok (some (i, m.val)) w) := by
 obtain ⟨h1, h2⟩ := uA (P := P) hf hk hkk he
 refine ⟨h1, fun v b hl => ?_⟩
 obtain ⟨i, hi⟩ := nG hl
 obtain ⟨m, hm, hr⟩ := h2 v b i hl hi
 obtain ⟨q1, q2, q3⟩ := he.2 i k v b m hi.1 hm
 exact ⟨i, m, hi, hm, (vW hkk q1 hk).1, q3, q2, hr⟩
theorem th (t : TypeId) (x i : Operand) (ok : Bool) : OpS P (.lookup t x i ok) := by
 intro io hc _ c h w env a o y h' ho r he hs
 obtain ⟨x', hx, hc⟩ := aP hc
 obtain ⟨i', hi, hc⟩ := aP hc
 split at hc
 ·rename_i k e hu
  split at hc
  ·rename_i ag ls z hfl hz
   injection hc with hc; subst hc
   have h1 := aS he hx
   have h2 := aS he hi
   obtain ⟨zi, zv, _, _, hcv, hrun⟩ := d9 hz
   have hzv := dj c h.n w _ _ hcv
   simp only [stepO] at hs
   have hs2 : h = h' ∧ lkuV ag ls z (x'.ev env) (i'.ev env) ok h = some y := by
    split at hs
    ·rename_i v hv
     simp only [sI, pI] at hs
     exact ⟨hs.2, by rw [hv, hs.1]⟩
    ·cases hs
   clear hs
   obtain ⟨rfl, hs⟩ := hs2
   simp only [lkuV] at hs
   split at hs
   ·rename_i hkk
    have hck : ∀ em, (Instr.checkKey em 10000 k (a.eval i)).run P w = .ok () w := iS hfl h2 hkk
    generalize x'.ev env = xv at hs h1
    generalize hxe : a.eval x = xe at h1
    split at hs
    ·simp only [sI] at hs
     subst hs
     cases h1
     have hfk : (Instr.findKey k (a.eval i) []).run P w = .ok none w := by
      obtain ⟨q, _⟩ := mH (P := P) hfl h2 hkk (es := []) (ms := []) ⟨rfl, by simp⟩
      exact q rfl
     cases ok
     ·refine .pure r (v := zv) ?_ hzv
      simp [execOp, ho, Instr.lookup, aL hu, hxe, hck, hfk, hrun]
     ·refine .pure r (v := .tuple #[zv, .bool false]) ?_ ?_
      ·simp [execOp, ho, Instr.lookup, aL hu, hxe, hck, hfk, hrun]
      ·exact (VRs.cons hzv (VRs.cons (.bool _) .nil)).tup
    ·rename_i rr
     split at hs
     ·rename_i es cl hb
      obtain ⟨es', hob, hes⟩ := kg r hb
      have hgo := MapKept.run_getObj_map (P := P) hob
      obtain ⟨q1, q2⟩ := mH (P := P) hfl h2 hkk hes
      cases h1
      split at hs
      ·rename_i v b hl
       simp only [sI] at hs
       subst hs
       obtain ⟨j, m, _, _, _, _, hv, hfk⟩ := q2 v b hl
       cases ok
       ·refine .pure r (v := m.val) ?_ hv
        simp [execOp, ho, Instr.lookup, aL hu, hxe, hck, hfk, hrun, hgo]
       ·refine .pure r (v := .tuple #[m.val, .bool true]) ?_ ?_
        ·simp [execOp, ho, Instr.lookup, aL hu, hxe, hck, hfk, hrun, hgo]
        ·exact (VRs.cons hv (VRs.cons (.bool _) .nil)).tup
      ·rename_i hl
       simp only [sI] at hs
       subst hs
       have hfk := q1 hl
       cases ok
       ·refine .pure r (v := zv) ?_ hzv
        simp [execOp, ho, Instr.lookup, aL hu, hxe, hck, hfk, hrun, hgo]
       ·refine .pure r (v := .tuple #[zv, .bool false]) ?_ ?_
        ·simp [execOp, ho, Instr.lookup, aL hu, hxe, hck, hfk, hrun, hgo]
        ·exact (VRs.cons hzv (VRs.cons (.bool _) .nil)).tup
      ·cases hs
     ·cases hs
    ·cases hs
   ·cases hs
  ·cases hc
 ·cases hc
theorem m8 : ∀ {es : List (CV × CV × Nat)} {k v : CV} {b i : Nat} (v' : CV), pg es k i v b → eqF k k = some true → oM es k v' = es.set i (k, v', b)
 | [], k, v, b, i, v', hf, _ => by have := hf.1; simp at this
 | (k', v0, b0) :: es, k, v, b, 0, v', hf, hr => by
  have := hf.1
  simp at this
  obtain ⟨rfl, rfl, rfl⟩ := this
  simp [oM, hr]
 | (k', v0, b0) :: es, k, v, b, i + 1, v', hf, hr => by
  have h0 := hf.2 0 _ (by omega) rfl
  simp only [oM, h0, List.set_cons_succ]
  rw [m8 v' ⟨by simpa using hf.1, fun j e hj he => hf.2 (j + 1) e (by omega) (by simpa using he)⟩ hr]
theorem Stp.putMap (r : Rel P c h w) {i : Nat} {es es1 : List (CV × CV × Nat)} {cl cl1 : Nat} (hb : h.f i = some (.map es cl)) {ms ms1 : Array MapEntry} (hob : w.heap[c.β i]? = some (.map ms cl)) (hes : EsR c h.n w es1 ms1.toList) :
  (setObj (c.β i) (.map ms1 cl1)).run P w = .ok () { w with heap := w.heap.setIfInBounds (c.β i) (.map ms1 cl1) } ∧
  Stp P c h w c (h.put i (.map es1 cl1)) { w with heap := w.heap.setIfInBounds (c.β i) (.map ms1 cl1) } := by
 have hlt := (Array.getElem?_eq_some_iff.1 hob).1
 refine ⟨MapKept.run_setObj_map _ hob, Stp.put (o := .map ms1 cl1) r hb rfl hob (by simp) (by simp [hlt]) (fun k hk => ?_) rfl rfl (.map es1 ms1 cl1 ?_ fun j k v b m h1 h2 => ?_)⟩
 ·simp [Array.getElem?_setIfInBounds, Ne.symm hk]
 ·simpa using hes.1
 ·exact hes.2 j k v b m h1 (by simpa using h2)
theorem EsR.evo {c' : Cx} {n' : Nat} {w' : World} (e : Evo c n w c' n' w') {es : List (CV × CV × Nat)} {ms : List MapEntry} (h : EsR c n w es ms) : EsR c' n' w' es ms :=
 ⟨h.1, fun j k v b m h1 h2 => let ⟨a1, a2, a3⟩ := h.2 j k v b m h1 h2; ⟨a1.evo e, a2.evo e, a3⟩⟩
theorem EsR.push {es : List (CV × CV × Nat)} {ms : Array MapEntry} (h : EsR c n w es ms.toList) {k v : CV} {u x : Value} (hk : VR c n w k u) (hv : VR c n w v x) (b : Nat) :
  EsR c n w (es ++ [(k, v, b)]) (ms.push ⟨u, x, b⟩).toList := by
 have hl := h.1
 refine ⟨by simp at hl ⊢; omega, fun j k' v' b' m h1 h2 => ?_⟩
 rw [Array.toList_push] at h2
 by_cases hj : j < es.length
 ·rw [List.getElem?_append_left hj] at h1
  rw [List.getElem?_append_left (by omega)] at h2
  exact h.2 j k' v' b' m h1 h2
 ·rw [List.getElem?_append_right (by omega)] at h1 h2
  rw [← hl] at h2
  have : j - es.length = 0 := by
   rcases Nat.eq_zero_or_pos (j - es.length) with e | e
   ·exact e
   ·rw [List.getElem?_eq_none (by simp; omega)] at h1; cases h1
  rw [this] at h1 h2
  simp at h1 h2
  obtain ⟨rfl, rfl, rfl⟩ := h1
  subst h2
  exact ⟨hk, hv, rfl⟩
theorem EsR.set {es : List (CV × CV × Nat)} {ms : Array MapEntry} (h : EsR c n w es ms.toList) {i : Nat} {k v : CV} {b : Nat} (f : MapEntry → MapEntry) (hf : ∀ m, ms[i]? = some m → VR c n w k (f m).key ∧ VR c n w v (f m).val ∧ (f m).born = b) :
  EsR c n w (es.set i (k, v, b)) (ms.modify i f).toList := by
 refine ⟨by simpa using h.1, fun j k' v' b' m h1 h2 => ?_⟩
 rw [Array.getElem?_toList, Array.getElem?_modify] at h2
 rw [List.getElem?_set] at h1
 by_cases hij : i = j
 ·subst hij
  rw [if_pos rfl] at h1 h2
  split at h1
  ·simp only [sI, pI] at h1
   obtain ⟨rfl, rfl, rfl⟩ := h1
   cases hm : ms[i]? with
   | none => rw [hm] at h2; cases h2
   | some m0 =>
    rw [hm] at h2
    simp only [Option.map_some, sI] at h2
    subst h2
    exact hf m0 hm
  ·cases h1
 ·rw [if_neg hij] at h1 h2
  exact h.2 j k' v' b' m h1 (by simpa using h2)
theorem rI {ag : Bool} {ls : List Lf} {x : CV} (hk : kOk ag ls x = true) {u : Value} (hu : VR c n w x u) : (Instr.keyThatStays u u).run P w = .ok u w := by
 simp [Instr.keyThatStays, (vW hk hu hu).2 9999]
theorem jk {t : TypeId} {m k v : Operand} {io : Ins} (hc : cOp P (.mapUpdate t m k v) = some io) (r : Rel P c h w) (he : bp c h.n w env a.tmps) {y : CV} {h' : H}
  (hs : stepO noC io env h = some (y, h')) : ∃ c' w', (Instr.mapUpdate t (a.eval m) (a.eval k) (a.eval v)).run P w = .ok () w' ∧ Stp P c h w c' h' w' ∧ y = undef := by
 obtain ⟨m', hm, hc⟩ := aP hc
 obtain ⟨k', hk, hc⟩ := aP hc
 obtain ⟨v', hv, hc⟩ := aP hc
 split at hc
 ·rename_i kt _ hu
  split at hc
  ·rename_i ag ls hfl
   injection hc with hc; subst hc
   have h1 := aS he hm
   have h2 := aS he hk
   have h3 := aS he hv
   simp only [stepO] at hs
   split at hs
   ·rename_i hkk
    have hck : ∀ em, (Instr.checkKey em 10000 kt (a.eval k)).run P w = .ok () w := iS hfl h2 hkk
    generalize m'.ev env = mv at hs h1
    generalize hme : a.eval m = me at h1
    split at hs
    ·rename_i rr
     split at hs
     ·rename_i v1 h1' hfr
      cases h1
      obtain ⟨c1, s1, hv1⟩ := (tw (P := P) (w := w) 20).1 _ _ _ _ _ _ hfr r h3
      have h2' := h2.evo s1.evo
      rename_i hrn
      split at hs
      ·rename_i es cl hb
       have hbeta := s1.evo.beta rr hrn
       obtain ⟨es', hob, hes⟩ := kg s1.rel hb
       have hgo := MapKept.run_getObj_map (P := P) hob
       obtain ⟨q1, q2⟩ := mH (P := P) hfl h2' hkk hes
       rw [hbeta] at hgo
       split at hs
       ·rename_i x hl
        simp only [sI, pI] at hs
        obtain ⟨rfl, rfl⟩ := hs
        obtain ⟨vx, bx⟩ := x
        obtain ⟨i, mm, hfd, hmm, hkey, hborn, _, hfk⟩ := q2 vx bx hl
        rw [m8 _ hfd (iK hl)]
        have hE := hes.set (i := i) (k := k'.ev env) (v := v1) (b := bx) (fun e => { e with key := a.eval k, val := a.eval v }) (fun m0 hm0 => ⟨h2', hv1, by
         have : m0 = mm := by rw [← Array.getElem?_toList, hmm] at hm0; exact (Option.some.inj hm0).symm
         rw [this]; exact hborn⟩)
        obtain ⟨w1, w2⟩ := Stp.putMap (cl1 := cl) s1.rel hb hob hE
        rw [hbeta] at w1 w2
        refine ⟨c1, _, ?_, s1.trans w2, rfl⟩
        rw [Array.getElem?_toList] at hmm
        simp [Instr.mapUpdate, aL hu, hck, hgo, hfk, hmm, hkey, rI hkk h2', w1]
       ·rename_i hl
        simp only [sI, pI] at hs
        obtain ⟨rfl, rfl⟩ := hs
        have hfk := q1 hl
        obtain ⟨w1, w2⟩ := Stp.putMap (cl1 := cl + 1) s1.rel hb hob (hes.push h2' hv1 cl)
        rw [hbeta] at w1 w2
        refine ⟨c1, _, ?_, s1.trans w2, rfl⟩
        simp [Instr.mapUpdate, aL hu, hck, hgo, hfk, w1]
       ·cases hs
      ·cases hs
     ·cases hs
    ·cases hs
   ·cases hs
  ·cases hc
 ·cases hc
theorem oO (t : TypeId) (m k v : Operand) : OpS P (.mapUpdate t m k v) := by
 intro io hc _ c h w env a o y h' ho r he hs
 obtain ⟨c', w', h1, h2, rfl⟩ := jk hc r he hs
 exact ⟨c', w', Go.undef, .inr ⟨by simp only [execOp, ho, Sem.run_bind, h1, Result.andThen_ok, Sem.run_pure], rfl⟩, h2, VR.undef⟩
theorem ti (t : TypeId) (m k v : Operand) : OpS P (.insert t m k v) := by
 intro io hc _ c h w env a o y h' ho r he hs
 obtain ⟨c', w', h1, h2, rfl⟩ := jk (t := t) (m := m) (k := k) (v := v) hc r he hs
 exact ⟨c', w', Go.undef, .inr ⟨by simp only [execOp, ho, Sem.run_bind, h1, Result.andThen_ok, Sem.run_pure], rfl⟩, h2, VR.undef⟩
end Ce
namespace Ce
open Go
variable {P : Program} {c : Cx} {h : H} {w : World} {env : List CV} {a : Act} {n : Nat}
theorem qG (t : TypeId) (m k : Operand) : OpS P (.mapEntry t m k) := by
 intro io hc _ c h w env a o y h' ho r he hs
 obtain ⟨m', hm, hc⟩ := aP hc
 obtain ⟨k', hk, hc⟩ := aP hc
 split at hc
 ·rename_i kt et hu
  split at hc
  ·rename_i ag ls z hfl hz
   injection hc with hc; subst hc
   have h1 := aS he hm
   have h2 := aS he hk
   obtain ⟨zi, zv, _, _, hcv, hrun⟩ := d9 hz
   have hzv := dj c h.n w _ _ hcv
   simp only [stepO] at hs
   split at hs
   ·rename_i hkk
    have hck : ∀ em, (Instr.checkKey em 10000 kt (a.eval k)).run P w = .ok () w := iS hfl h2 hkk
    generalize m'.ev env = mv at hs h1
    generalize hme : a.eval m = me at h1
    split at hs
    ·rename_i rr
     cases h1
     split at hs
     ·rename_i es cl hb
      obtain ⟨es', hob, hes⟩ := kg r hb
      have hgo := MapKept.run_getObj_map (P := P) hob
      obtain ⟨q1, q2⟩ := mH (P := P) hfl h2 hkk hes
      split at hs
      ·rename_i v b hl
       simp only [sI, pI] at hs
       obtain ⟨rfl, rfl⟩ := hs
       obtain ⟨i, mm, hfd, hmm, hkey, hborn, hval, hfk⟩ := q2 v b hl
       have hsame : h.put rr (.map es cl) = h := by
        unfold H.put
        congr 1
        funext j
        split
        ·rename_i e; rw [e]; exact hb.symm
        ·rfl
       have hE : EsR c h.n w es (es'.modify i fun e => { e with key := a.eval k }).toList := by
        have := hes.set (i := i) (k := k'.ev env) (v := v) (b := b) (fun e => { e with key := a.eval k }) (fun m0 hm0 => by
         have : m0 = mm := by rw [← Array.getElem?_toList, hmm] at hm0; exact (Option.some.inj hm0).symm
         rw [this]
         exact ⟨h2, hval, hborn⟩)
        rw [show es.set i (k'.ev env, v, b) = es from by
         apply List.ext_getElem?
         intro j
         rw [List.getElem?_set]
         split
         ·rename_i e; subst e; rw [hfd.1]; simp; exact (List.getElem?_eq_some_iff.1 hfd.1).1
         ·rfl] at this
        exact this
       obtain ⟨w1, w2⟩ := Stp.putMap (P := P) (cl1 := cl) r hb hob hE
       rw [hsame] at w2
       rw [Array.getElem?_toList] at hmm
       refine ⟨c, _, .tuple #[mm.val, .int .i64 b], .inl ?_, w2, (VRs.cons (hval.evo w2.evo) (VRs.cons (.int _ _) .nil)).tup⟩
       simp [execOp, ho, Instr.mapEntry, aL hu, hme, hck, hgo, hfk, hmm, hkey, rI hkk h2, w1, goInt, hborn]
      ·rename_i hl
       simp only [sI, pI] at hs
       obtain ⟨rfl, rfl⟩ := hs
       have hfk := q1 hl
       obtain ⟨w1, w2⟩ := Stp.putMap (P := P) (cl1 := cl + 1) r hb hob (hes.push h2 hzv cl)
       refine ⟨c, _, .tuple #[zv, .int .i64 cl], .inl ?_, w2, (VRs.cons (hzv.evo w2.evo) (VRs.cons (.int _ _) .nil)).tup⟩
       simp [execOp, ho, Instr.mapEntry, aL hu, hme, hck, hgo, hfk, w1, goInt, hrun]
      ·cases hs
     ·cases hs
    ·cases hs
   ·cases hs
  ·cases hc
 ·cases hc
theorem ug : ∀ {es es1 : List (CV × CV × Nat)} {b : Int} {v : CV} {ms : List MapEntry}, wT es b v = some es1 → EsR c n w es ms →
  ∃ i k v0 b0, ms.findIdx? (fun e => (e.born : Int) == b) = some i ∧ es[i]? = some (k, v0, b0) ∧ es1 = es.set i (k, v, b0)
 | [], _, _, _, _, h, _ => by cases h
 | (k', v', b') :: es, es1, b, v, ms, h, he => by
  cases ms with
  | nil => have := he.1; simp at this
  | cons m ms =>
   obtain ⟨_, _, h3⟩ := he.2 0 k' v' b' m rfl rfl
   simp only [wT] at h
   split at h
   ·rename_i e
    simp only [sI] at h; subst h
    exact ⟨0, k', v', b', by rw [List.findIdx?_cons, if_pos]; rw [h3]; exact beq_iff_eq.2 e, rfl, rfl⟩
   ·rename_i e
    split at h
    ·rename_i rr hrr
     simp only [sI] at h; subst h
     obtain ⟨i, k, v0, b0, h1, h2, h4⟩ := ug hrr he.tail
     refine ⟨i + 1, k, v0, b0, ?_, by simpa using h2, by rw [h4]; rfl⟩
     simp [List.findIdx?_cons, h3, e, h1]
    ·cases h
theorem my (t : TypeId) (m s v : Operand) : OpS P (.entryStore t m s v) := by
 intro io hc _ c h w env a o y h' ho r he hs
 obtain ⟨m', hm, hc⟩ := aP hc
 obtain ⟨s', hs', hc⟩ := aP hc
 obtain ⟨v', hv, hc⟩ := aP hc
 injection hc with hc; subst hc
 have h1 := aS he hm
 have h2 := aS he hs'
 have h3 := aS he hv
 simp only [stepO] at hs
 generalize m'.ev env = mv at hs h1
 generalize s'.ev env = sv at hs h2
 generalize hme : a.eval m = me at h1
 generalize hse : a.eval s = se at h2
 split at hs
 ·rename_i rr k b
  cases h1; cases h2
  split at hs
  ·rename_i es cl hb
   obtain ⟨es', hob, hes⟩ := kg r hb
   have hgo := MapKept.run_getObj_map (P := P) hob
   split at hs
   ·rename_i es1 hsb
    simp only [sI, pI] at hs
    obtain ⟨rfl, rfl⟩ := hs
    obtain ⟨i, k0, v0, b0, q1, q2, rfl⟩ := ug hsb hes
    have hE := hes.set (i := i) (k := k0) (v := v'.ev env) (b := b0) (fun e => { e with val := a.eval v }) (fun m0 hm0 => by
     obtain ⟨z1, z2, z3⟩ := hes.2 i k0 v0 b0 m0 q2 (by simpa using hm0)
     exact ⟨z1, h3, z3⟩)
    obtain ⟨w1, w2⟩ := Stp.putMap (P := P) (cl1 := cl) r hb hob hE
    refine ⟨c, _, Go.undef, .inr ⟨?_, rfl⟩, w2, VR.undef⟩
    have q1' : es'.findIdx? (fun e => (e.born : Int) == b) = some i := by rw [← q1]; cases es' with | mk l => rw [List.findIdx?_toArray]
    simp [execOp, ho, Instr.entryStore, hme, hse, hgo, q1', w1, asInt, asIntOf]
   ·cases hs
  ·cases hs
 ·cases hs
theorem wi (t : TypeId) (x : Operand) : OpS P (.range t x) := by
 intro io hc _ c h w env a o y h' ho r he hs
 obtain ⟨x', hx, hc⟩ := aP hc
 split at hc
 ·rename_i hu
  injection hc with hc; subst hc
  have h1 := aS he hx
  simp only [stepO] at hs
  generalize x'.ev env = xv at hs h1
  generalize hxe : a.eval x = xe at h1
  split at hs
  ·rename_i s
   simp only [sI, pI] at hs
   obtain ⟨rfl, rfl⟩ := hs
   cases h1
   refine ⟨_, _, _, .inl ?_, Stp.push r (.sit s 0) (by simp), VR.new c h.n w _⟩
   simp [execOp, ho, Instr.range, aL hu, hxe]
  ·cases hs
 ·cases hc
theorem zM (it : Operand) (b : Bool) : OpS P (.next it b) := by
 intro io hc _ c h w env a o y h' ho r he hs
 cases b with
 | false => cases hc
 | true =>
  obtain ⟨x', hx, hc⟩ := aP hc
  injection hc with hc; subst hc
  have h1 := aS he hx
  simp only [stepO] at hs
  generalize x'.ev env = xv at hs h1
  generalize hxe : a.eval it = xe at h1
  split at hs
  ·rename_i rr
   cases h1
   split at hs
   ·rename_i s pos hb
    obtain ⟨o', hob, hbr⟩ := r.obj hb (by simp)
    cases hbr
    have hgo : (getObj (c.β rr)).run P w = .ok (.stringIter s pos) w := by simp [getObj, Sem.run, hob]
    split at hs
    ·rename_i hlt
     simp only [sI, pI] at hs
     obtain ⟨rfl, rfl⟩ := hs
     have hbl := (Array.getElem?_eq_some_iff.1 hob).1
     have hst : Stp P c h w c (h.put rr (.sit s (pos + (Utf8.decode s pos).2))) { w with heap := w.heap.setIfInBounds (c.β rr) (.stringIter s (pos + (Utf8.decode s pos).2)) } := by
      refine Stp.put (o := .stringIter s (pos + (Utf8.decode s pos).2)) r hb rfl hob (by simp) (by simp [hbl]) (fun k hk => ?_) rfl rfl (.sit _ _)
      simp [Array.getElem?_setIfInBounds, Ne.symm hk]
     refine ⟨c, _, .tuple #[.bool true, .int .i64 pos, .int .i32 (Utf8.decode s pos).1], .inl ?_, hst, ?_⟩
     ·simp [execOp, ho, Instr.next, hxe, hgo, hlt, goInt, setObj, Sem.run, hob]
     ·exact (VRs.cons (.bool _) (VRs.cons (.int _ _) (VRs.cons (.int _ _) .nil))).tup
    ·rename_i hlt
     simp only [sI, pI] at hs
     obtain ⟨rfl, rfl⟩ := hs
     refine .pure r (v := .tuple #[.bool false]) ?_ (VRs.cons (.bool _) .nil).tup
     simp [execOp, ho, Instr.next, hxe, hgo, hlt]
   ·cases hs
  ·cases hs
end Ce
namespace Ce
open Go
variable {P : Program} {c : Cx} {h : H} {w : World} {env : List CV} {a : Act} {n : Nat}
theorem j8 {k : Nat} : ∀ {rows : List (List CV)} {q : Nat} {x : CV}, dD k rows = true → (bI rows)[q]? = some x → ∃ i row j, rows[i]? = some row ∧ row[j]? = some x ∧ q = i * k + j
 | [], q, x, _, h => by simp [bI] at h
 | r :: rs, q, x, hl, h => by
  simp only [dD, aT, beq_iff_eq] at hl
  simp only [bI] at h
  by_cases hq : q < r.length
  ·rw [List.getElem?_append_left hq] at h
   exact ⟨0, r, q, rfl, h, by omega⟩
  ·rw [List.getElem?_append_right (by omega)] at h
   obtain ⟨i, row, j, h1, h2, h3⟩ := j8 hl.2 h
   refine ⟨i + 1, row, j, by simpa using h1, h2, ?_⟩
   rw [Nat.succ_mul]; omega
theorem j7 {k : Nat} : ∀ {rows : List (List CV)}, dD k rows = true → (bI rows).length = rows.length * k
 | [], _ => by simp [bI]
 | r :: rs, h => by
  simp only [dD, aT, beq_iff_eq] at h
  simp [bI, j7 h.2, h.1, Nat.succ_mul]; omega
theorem fH (r : Rel P c h w) {k m : Nat} {x : CV} {v : Value} (hv : VR c h.n w x v) {new : List CV} (hc : cellsOf k m h x = some new) :
  ∃ us : List Value, us.length = m * k ∧ VRs c h.n w new us ∧ ∀ w' : World, w'.heap = w.heap → (Builtin.firstCells k m v).run P w' = .ok us.toArray w' := by
 unfold cellsOf at hc
 split at hc
 ·split at hc
  ·rename_i e
   simp only [sI] at hc; subst hc; subst e
   cases hv
   exact ⟨[], by simp, .nil, fun w' _ => by simp [Builtin.firstCells]⟩
  ·cases hc
 ·rename_i k' rr off len cap
  split at hc
  ·split at hc
   ·rename_i cs ro hb
    unfold cut? at hc
    split at hc
    ·rename_i hfit
     simp only [sI] at hc; subst hc
     cases hv with
     | slc _ _ _ _ _ cap' hr hcap hle hsz =>
      obtain ⟨us, hus, hcell⟩ := gX (a := ⟨c.β rr, off, none⟩) (xs := (cs.drop off).take (m * k)) (c := c) (n := h.n) (w := w) (by
       intro j y hy
       rw [List.getElem?_take] at hy
       split at hy
       ·rw [List.getElem?_drop] at hy
        rw [ay]
        exact jz r hb hy
       ·cases hy)
      have hl : us.length = m * k := by rw [← hus.1]; simp; omega
      exact ⟨us, hl, hus, fun w' hw => run_firstCells_some w' k m _ _ _ us hl fun j u hj => by rw [kA (w := w) (by rw [hw])]; exact hcell j u hj⟩
    ·cases hc
   ·cases hc
  ·cases hc
 ·rename_i rows ex
  split at hc
  ·rename_i hcond
   simp only [aT, dT] at hcond
   obtain ⟨hm, hal⟩ := hcond
   simp only [sI] at hc; subst hc
   have hlen : (bI (rows.take m)).length = m * k := by rw [j7 hal]; simp; rw [Nat.min_eq_left hm]
   cases hv with
   | lst _ _ k2 b off cap' vs hle hex him hk2 hcl hvv =>
    have hget : ∀ (i : Nat) (row : List CV), (rows.take m)[i]? = some row → rows[i]? = some row := fun i row h => by
     rw [List.getElem?_take] at h
     split at h
     ·exact h
     ·cases h
    obtain ⟨us, hus, hcell⟩ := gX (a := ⟨b, off, none⟩) (xs := bI (rows.take m)) (c := c) (n := h.n) (w := w) (by
     intro q y hy
     obtain ⟨i, row, j, h1, h2, h3⟩ := j8 hal hy
     have h4 := hget i row h1
     have hkk : k2 = k := by rw [← hk2 i row h4, il hal i row h1]
     subst hkk
     refine ⟨vs i j, ?_, hvv i row j y h4 h2⟩
     rw [ay, h3, ← Nat.add_assoc]
     exact hcl i row j y h4 h2)
    have hl : us.length = m * k := by rw [← hus.1, hlen]
    exact ⟨us, hl, hus, fun w' hw => run_firstCells_some w' k m _ _ _ us hl fun j u hj => by rw [kA (w := w) (by rw [hw])]; exact hcell j u hj⟩
  ·cases hc
 ·cases hc
theorem iD {x : CV} {v : Value} (hv : VR c n w x v) {m : Nat} (hm : lenOf x = some m) : ∃ b cap, v = .slice b m cap := by
 unfold lenOf at hm
 split at hm <;> simp only [sI, reduceCtorEq] at hm <;> subst hm <;> cases hv <;> exact ⟨_, _, rfl⟩
theorem uO {st xt e e' ty : TypeId} {i : TypeInfo} (ht : P.underlying st = some (.slice e)) (hx : P.underlying xt = some (.slice e')) (hi : P.info? e = some i) {b xb : Option Addr} {sl sc m xc : Nat} (hn : sl + m ≤ sc)
  {us : List Value} (hf : (Builtin.firstCells i.size m (.slice xb m xc)).run P w = .ok us.toArray w) {w' : World} (hst : ∀ a, b = some a → (storeCells (a.add (sl * i.size)) us).run P w = .ok () w') (hno : b = none → w' = w) :
  (Builtin.append_ #[st, xt] ty #[.slice b sl sc, .slice xb m xc]).run P w = .ok (.slice b (sl + m) sc) w' := by
 cases b with
 | none => simp [Builtin.append_, aL ht, aL hx, Go.sizeOf, typeInfo, hi, Builtin.lenOf, hn, hf, hno rfl]
 | some a => simp [Builtin.append_, aL ht, aL hx, Go.sizeOf, typeInfo, hi, Builtin.lenOf, hn, hf, hst a rfl]
theorem mR {st xt e e' ty : TypeId} {i : TypeInfo} {z : Value} (ht : P.underlying st = some (.slice e)) (hx : P.underlying xt = some (.slice e')) (hi : P.info? e = some i) (hz : i.zero = some z) {b xb : Option Addr} {sl sc m xc : Nat} (hn : sc < sl + m)
  (hroom : (sl + m) * (i.bytes + 1) ≤ 2 ^ 40) {os us : List Value} (ho : ∀ w' : World, w'.heap = w.heap → (Builtin.firstCells i.size sl (.slice b sl sc)).run P w' = .ok os.toArray w')
  (hf : ∀ w' : World, w'.heap = w.heap → (Builtin.firstCells i.size m (.slice xb m xc)).run P w' = .ok us.toArray w') :
  (Builtin.append_ #[st, xt] ty #[.slice b sl sc, .slice xb m xc]).run P w = .ok (.slice (some ⟨w.heap.size, 0, none⟩) (sl + m) (grownCap w (sl + m) sc e)) (w.drew.alloc (.cells (os ++ us ++ (Builtin.zeroCells z.cells (grownCap w (sl + m) sc e - (sl + m))).toList).toArray e)) := by
 have hn' : ¬ (sl + m ≤ sc) := by omega
 have h0 : (sl + m) * (i.bytes + 1) = (sl + m) * i.bytes + (sl + m) := by rw [Nat.mul_add, Nat.mul_one]
 have h63' : ¬ (9223372036854775807 < ((sl : Int) + (m : Int))) := by omega
 have hfit := growslice_fits (bytes := i.bytes) hn (by omega)
 have h48' : ¬ (281474976710656 < Builtin.nextslicecap (sl + m) sc * i.bytes) := by omega
 have hfo := ho w.drew rfl
 have hfn := hf w.drew rfl
 simp [Builtin.append_, aL ht, aL hx, Go.sizeOf, typeInfo, zeroValue, hi, hz, Builtin.lenOf, hn', h63', h48', Question.forced, hfo, hfn, newRow, grownCap]
 congr 2
 apply Array.ext'
 simp
theorem Stp.kill (r : Rel P c h w) {i : Nat} {b : Blk} (hb : h.f i = some b) : Stp P c h w c (h.put i .dead) w := by
 have hlive : ∀ j, bC (h.put i .dead) j → bC h j := by
  rintro j ⟨x, hx, hl⟩
  rw [H.f_put] at hx
  by_cases e : j = i
  ·rw [if_pos e] at hx; injection hx with hx; subst hx; cases hl
  ·rw [if_neg e] at hx; exact ⟨x, hx, hl⟩
 refine ⟨⟨?_, ?_, fun a b ha hb e => r.inj a b (hlive a ha) (hlive b hb) e, fun j hj => r.notIm j (hlive j hj), ?_, r.imlt⟩, ⟨Nat.le_refl _, fun _ _ => rfl, fun _ h => h, fun _ _ => rfl, fun _ _ _ h => h, fun _ h => h⟩, ⟨Nat.le_refl _, fun _ _ _ => rfl, fun j hj => .inl ⟨j, hlive j hj, rfl⟩, fun _ hb => .inl hb, fun _ => rfl, rfl, rfl⟩⟩
 ·intro j x hx
  rw [H.f_put] at hx
  show j < h.n
  by_cases e : j = i
  ·exact e ▸ r.bound i _ hb
  ·rw [if_neg e] at hx; exact r.bound j x hx
 ·intro j x hx
  rw [H.f_put] at hx
  by_cases e : j = i
  ·rw [if_pos e] at hx; injection hx with hx; subst hx; exact .inl rfl
  ·rw [if_neg e] at hx; exact r.blk j x hx
 ·intro j cs hx
  rw [H.f_put] at hx
  by_cases e : j = i
  ·rw [if_pos e] at hx; injection hx with hx; cases hx
  ·rw [if_neg e] at hx; exact r.ro j cs hx
theorem jn {e : TypeId} {i : TypeInfo} {z : Value} (hzs : z.cells.size = i.size) (r : Rel P c h w) {old new : List CV} {os us : List Value} (ho : VRs c h.n w old os) (hu : VRs c h.n w new us) {sl m sc : Nat} (hlo : os.length = sl * i.size) (hlu : us.length = m * i.size) :
  Stp P c h w (c.set h.n w.drew.heap.size) (h.push (.cells (old ++ new) false)) (w.drew.alloc (.cells (os ++ us ++ (Builtin.zeroCells z.cells (grownCap w (sl + m) sc e - (sl + m))).toList).toArray e)) ∧
  VR (c.set h.n w.drew.heap.size) (h.n + 1) (w.drew.alloc (.cells (os ++ us ++ (Builtin.zeroCells z.cells (grownCap w (sl + m) sc e - (sl + m))).toList).toArray e)) (.slc i.size h.n 0 (sl + m) none) (.slice (some ⟨w.heap.size, 0, none⟩) (sl + m) (grownCap w (sl + m) sc e)) := by
 have h1 : Stp P c h w c h w.drew := Stp.same r rfl
 have h2 := Stp.newRow h1.rel ((ho.append hu).evo h1.evo) e (Builtin.zeroCells z.cells (grownCap w (sl + m) sc e - (sl + m))).toList
 refine ⟨h1.trans h2, ?_⟩
 have hge := grownCap_ge w (sl + m) sc e
 have := VR.slc (c := c.set h.n w.drew.heap.size) (n := h.n + 1) (w := w.drew.alloc (.cells (os ++ us ++ (Builtin.zeroCells z.cells (grownCap w (sl + m) sc e - (sl + m))).toList).toArray e)) i.size h.n 0 (sl + m) none (grownCap w (sl + m) sc e) (Nat.lt_succ_self _) (fun m hm => by cases hm) hge ⟨e, (os ++ us ++ (Builtin.zeroCells z.cells (grownCap w (sl + m) sc e - (sl + m))).toList).length, by
  rw [Cx.set_same, shape?_eq]
  show ((w.drew.heap.push _)[w.drew.heap.size]?).bind dF = _
  rw [Array.getElem?_push_size]; simp [dF], by
  simp only [List.length_append, hlo, hlu, Array.length_toList, size_zeroCells, hzs, ← Nat.add_mul, Nat.zero_add]
  exact Nat.mul_le_mul_right _ (by omega)⟩
 rw [Cx.set_same] at this
 exact this
end Ce
namespace Ce
open Go
variable {P : Program} {c : Cx} {h : H} {w : World} {env : List CV} {a : Act} {n : Nat}
theorem VRs.inl {xs ys : List CV} {vs : List Value} (h1 : VRs c n w (xs ++ ys) vs) : VRs c n w xs (vs.take xs.length) := by
 have := h1.take xs.length
 simpa using this
theorem qFJ {st xt e e' ty : TypeId} {i : TypeInfo} {z : Value} (ht : P.underlying st = some (.slice e)) (hx : P.underlying xt = some (.slice e')) (hi : P.info? e = some i) (hz : i.zero = some z) (hzs : z.cells.size = i.size)
  (r : Rel P c h w) {s x : CV} {sv xv : Value} (hs : VR c h.n w s sv) (hxv : VR c h.n w x xv) {y : CV} {h' : H} (ha : appV i.size i.bytes s x h = some (y, h')) :
  ∃ c' w' v, (Builtin.append_ #[st, xt] ty #[sv, xv]).run P w = .ok v w' ∧ Stp P c h w c' h' w' ∧ VR c' h'.n w' y v := by
 unfold appV at ha
 split at ha
 ·rename_i sl m hsl hxl
  obtain ⟨b, sc, rfl⟩ := iD hs hsl
  obtain ⟨xb, xc, rfl⟩ := iD hxv hxl
  split at ha
  ·rename_i hm
   subst hm
   simp only [sI, pI] at ha
   obtain ⟨rfl, rfl⟩ := ha
   have hle : sl ≤ sc := by
    unfold lenOf at hsl
    split at hsl <;> simp only [sI, reduceCtorEq] at hsl <;> subst hsl
    ·cases hs; exact Nat.le_refl _
    ·cases hs; assumption
    ·cases hs; assumption
   have hf : (Builtin.firstCells i.size 0 (.slice xb 0 xc)).run P w = .ok ([] : List Value).toArray w := by
    cases xb with
    | none => simp [Builtin.firstCells]
    | some a => exact run_firstCells_some w i.size 0 a 0 xc [] (by simp) (by simp)
   refine ⟨c, w, .slice b sl sc, ?_, .refl r, hs⟩
   have := uO (P := P) (ty := ty) (w' := w) (b := b) (sl := sl) (sc := sc) ht hx hi (m := 0) (by omega) hf (fun a _ => by simp [storeCells]) (fun _ => rfl)
   simpa using this
  ·rename_i hm
   split at ha
   ·cases ha
   ·rename_i hroom
    have hroom' : (sl + m) * (i.bytes + 1) ≤ 2 ^ 40 := by omega
    split at ha
    ·cases ha
    ·rename_i new hnew
     obtain ⟨us, hlu, hus, hfu⟩ := fH (P := P) r hxv hnew
     split at ha
     ·cases ha
     ·rename_i hone
      have hone' : ∀ v ∈ us, v.oneCell' = true := hus.one (by simpa using hone)
      split at ha
      ·
       simp only [sI, pI] at ha
       obtain ⟨rfl, rfl⟩ := ha
       simp only [lenOf, sI] at hsl; subst hsl
       cases hs
       have hr := mR (P := P) (ty := ty) (os := []) (us := us) (b := none) (sl := 0) (sc := 0) ht hx hi hz (m := m) (by omega) hroom' (fun w' _ => by simp [Builtin.firstCells]) hfu
       obtain ⟨g1, g2⟩ := jn (e := e) (sc := 0) hzs r (VRs.nil (c := c) (n := h.n) (w := w)) hus (sl := 0) (by simp) hlu
       rw [List.nil_append] at g1
       simp only [Nat.zero_add] at g1 g2 hr
       exact ⟨_, _, _, hr, g1, g2⟩
      ·
       split at ha
       ·rename_i rows hal
        simp only [sI, pI] at ha
        obtain ⟨rfl, rfl⟩ := ha
        simp only [lenOf, sI] at hsl; subst hsl
        obtain ⟨os, hlo, hos, hfo⟩ := fH (P := P) (k := i.size) (m := rows.length) (new := bI rows) r hs (by simp [cellsOf, hal])
        have hsc : sc = rows.length := by
         cases hs with
         | lst _ _ _ _ _ _ _ _ hex => exact hex rfl
        have hr := mR (P := P) (ty := ty) ht hx hi hz (m := m) (b := b) (sl := rows.length) (sc := sc) (by omega) hroom' hfo hfu
        obtain ⟨g1, g2⟩ := jn (e := e) (sc := sc) hzs r hos hus hlo hlu
        exact ⟨_, _, _, hr, g1, g2⟩
       ·cases ha
      ·
       rename_i k' rr off len cc
       simp only [lenOf, sI] at hsl; subst hsl
       split at ha
       ·cases ha
       ·rename_i hkk
        have hkk : k' = i.size := by simpa using hkk
        subst hkk
        split at ha
        ·rename_i cs ro hb
         split at ha
         ·rename_i hin
          split at ha
          ·cases ha
          ·rename_i hro
           split at ha
           ·rename_i hfit
            simp only [sI, pI] at ha
            obtain ⟨rfl, rfl⟩ := ha
            have hro : ro = false := by simpa using hro
            subst hro
            cases hs with
            | slc _ _ _ _ _ _ hr hcap hle hsz =>
             have hcc := hcap cc rfl
             subst hcc
             have hmul : (len + m) * i.size = len * i.size + m * i.size := Nat.add_mul _ _ _
             have hln : new.length = m * i.size := by rw [hus.1, hlu]
             obtain ⟨w', hw, hst⟩ := Stp.splice (off := off + len * i.size) r hb hus (by omega) hone'
             refine ⟨c, w', .slice (some ⟨c.β rr, off, none⟩) (len + m) sc, uO ht hx hi hin (hfu w rfl) (fun a ha => ?_) (fun e => by cases e), hst, ?_⟩
             ·injection ha with ha; subst ha; rw [ay]; exact hw
             ·obtain ⟨e1, s1, hs1, hb1⟩ := hsz
              exact .slc _ rr off (len + m) _ sc hr (fun q hq => by injection hq) hin ⟨e1, s1, hst.evo.shape _ _ _ hs1, hb1⟩
           ·cases ha
         ·rename_i hin
          split at ha
          ·rename_i old hcut
           simp only [sI, pI] at ha
           obtain ⟨rfl, rfl⟩ := ha
           have hco : cellsOf i.size len h (.slc i.size rr off len (some cc)) = some old := by
            simp only [cellsOf, Nat.le_refl, if_true]
            rw [hb]
            exact hcut
           obtain ⟨os, hlo, hos, hfo⟩ := fH (P := P) r hs hco
           have hsc : sc = cc := by
            cases hs with
            | slc _ _ _ _ _ _ _ hcap => exact hcap cc rfl
           have hr := mR (P := P) (ty := ty) ht hx hi hz (m := m) (b := b) (sl := len) (sc := sc) (by omega) hroom' hfo hfu
           obtain ⟨g1, g2⟩ := jn (e := e) (sc := sc) hzs r hos hus hlo hlu
           exact ⟨_, _, _, hr, g1, g2⟩
          ·cases ha
        ·cases ha
      ·
       rename_i k' rr off len
       simp only [lenOf, sI] at hsl; subst hsl
       split at ha
       ·cases ha
       ·rename_i hkk
        have hkk : k' = i.size := by simpa using hkk
        subst hkk
        split at ha
        ·rename_i cs hb
         split at ha
         ·rename_i hcond
          simp only [aT, dT, beq_iff_eq] at hcond
          obtain ⟨hoff, hlen⟩ := hcond
          simp only [sI, pI] at ha
          obtain ⟨rfl, rfl⟩ := ha
          subst hoff
          have hln : new.length = m * i.size := by rw [hus.1, hlu]
          by_cases hin : len + m ≤ sc
          ·cases hs with
           | slc _ _ _ _ _ _ hr hcap hle hsz =>
            obtain ⟨e1, s1, hs1, hb1⟩ := hsz
            obtain ⟨o, hob, hbr⟩ := r.obj hb (by simp)
            cases hbr with
            | cells _ _ arr et hsz hv =>
             have hs1' : s1 = arr.size := by rw [shape?_eq, hob] at hs1; simp [dF] at hs1; exact hs1.2.symm
             subst hs1'
             have hmul : (len + m) * i.size = len * i.size + m * i.size := Nat.add_mul _ _ _
             have hmul2 : (len + m) * i.size ≤ sc * i.size := Nat.mul_le_mul_right _ hin
             have hfit : len * i.size + 0 + us.length ≤ arr.size := by omega
             have hw := run_storeCells_at P (c.β rr) (len * i.size) et us 0 arr w hob hfit hone'
             have hE : ∀ w', w'.heap = w.heap → VRs c h.n w' new us := fun w' hw => hus.evo ⟨Nat.le_refl _, fun _ _ => rfl, fun _ h => h, fun _ _ => by rw [hw], fun b e s hs => by rw [bf (w := w) (by rw [hw])]; exact hs, fun b hb => by rw [hw]; exact hb⟩
             have hst := Stp.grow (w' := w.setRow (c.β rr) (arr.toList.take (len * i.size + 0) ++ us ++ arr.toList.drop (len * i.size + 0 + us.length)).toArray) (cs' := cs ++ new) r hb hob (by simp [World.setRow]) (setRow_heap w _ _ _ _ _ hob) (fun k hk => setRow_other w _ k _ hk) (by simp; omega) (by
              refine .cells _ false _ et (by simp; omega) fun j x v hx hv' => ?_
              rw [List.getElem?_toArray, Nat.add_zero, List.append_assoc] at hv'
              by_cases hj : j < cs.length
              ·rw [List.getElem?_append_left hj] at hx
               rw [List.getElem?_append_left (by simp; omega), List.getElem?_take, if_pos (by omega)] at hv'
               exact hv j x v hx (by simpa using hv')
              ·rw [List.getElem?_append_right (by omega)] at hx
               have hjn := (List.getElem?_eq_some_iff.1 hx).1
               rw [List.getElem?_append_right (by simp; omega), List.getElem?_append_left (by simp; omega)] at hv'
               refine hus.2 (j - cs.length) x v hx ?_
               rw [← hv']
               congr 1
               simp
               omega)
             refine ⟨_, _, .slice (some ⟨c.β rr, 0, none⟩) (len + m) sc, uO ht hx hi hin (hfu w rfl) (fun a ha => ?_) (fun e => by cases e), hst, ?_⟩
             ·injection ha with ha; subst ha; rw [ay, Nat.zero_add]; exact hw
             ·have := VR.slc (c := c.set h.n (c.β rr)) (n := h.n + 1) (w := w.setRow (c.β rr) (arr.toList.take (len * i.size + 0) ++ us ++ arr.toList.drop (len * i.size + 0 + us.length)).toArray) i.size h.n 0 (len + m) none sc (Nat.lt_succ_self _) (fun q hq => by cases hq) hin ⟨e1, arr.size, by rw [Cx.set_same]; have := hst.evo.shape _ _ _ hs1; exact this, hb1⟩
              rw [Cx.set_same] at this
              exact this
          ·have hco : cellsOf i.size len h (.slc i.size rr 0 len none) = some cs := by
            simp only [cellsOf, Nat.le_refl, if_true]
            rw [show h.get rr = _ from hb]
            simp [cut?, hlen]
           obtain ⟨os, hlo, hos, hfo⟩ := fH (P := P) r hs hco
           have hr := mR (P := P) (ty := ty) ht hx hi hz (m := m) (b := b) (sl := len) (sc := sc) (by omega) hroom' hfo hfu
           have hk := Stp.kill r hb
           obtain ⟨g1, g2⟩ := jn (h := h.put rr .dead) (e := e) (sc := sc) hzs hk.rel hos hus hlo hlu
           exact ⟨_, _, _, hr, hk.trans g1, g2⟩
         ·cases ha
        ·cases ha
      ·cases ha
 ·cases ha
end Ce
namespace Ce
open Go
variable {P : Program} {c : Cx} {h : H} {w : World} {env : List CV} {a : Act} {n : Nat}
theorem zY (xs : List CV) : xs.foldl mnS none = none := by
 induction xs with
 | nil => rfl
 | cons x xs ih => rw [List.foldl_cons]; cases x <;> exact ih
theorem qGE : ∀ (xs : List CV) (vs : List Value) (k : IntKind) (m : Int) (y : CV), VRs c n w xs vs → xs.foldl mnS (some (.int k m)) = some y → ∃ v, (vs.foldlM Builtin.min2 (.int k m)).run P w = .ok v w ∧ VR c n w y v
 | [], [], k, m, y, _, hy => by
  simp at hy; subst hy
  exact ⟨.int k m, by simp, .int k m⟩
 | [], _ :: _, _, _, _, h, _ => by have := h.1; simp at this
 | _ :: _, [], _, _, _, h, _ => by have := h.1; simp at this
 | x :: xs, v :: vs, k, m, y, h, hy => by
  have h1 := h.2 0 x v rfl rfl
  have h2 : VRs c n w xs vs := ⟨by simpa using h.1, fun i x y hx hy => h.2 (i + 1) x y (by simpa using hx) (by simpa using hy)⟩
  rw [List.foldl_cons] at hy
  have hno : mnS (some (.int k m)) x = none → False := fun e => by rw [e, zY] at hy; cases hy
  cases h1 with
  | int k' m' =>
   obtain ⟨v, hv, hr⟩ := qGE xs vs k _ y h2 hy
   refine ⟨v, ?_, hr⟩
   simp [List.foldlM_cons, Builtin.min2, hv]
  | _ => exact (hno rfl).elim
theorem zX (xs : List CV) : xs.foldl mxS none = none := by
 induction xs with
 | nil => rfl
 | cons x xs ih => rw [List.foldl_cons]; cases x <;> exact ih
theorem qGD : ∀ (xs : List CV) (vs : List Value) (k : IntKind) (m : Int) (y : CV), VRs c n w xs vs → xs.foldl mxS (some (.int k m)) = some y → ∃ v, (vs.foldlM Builtin.max2 (.int k m)).run P w = .ok v w ∧ VR c n w y v
 | [], [], k, m, y, _, hy => by
  simp at hy; subst hy
  exact ⟨.int k m, by simp, .int k m⟩
 | [], _ :: _, _, _, _, h, _ => by have := h.1; simp at this
 | _ :: _, [], _, _, _, h, _ => by have := h.1; simp at this
 | x :: xs, v :: vs, k, m, y, h, hy => by
  have h1 := h.2 0 x v rfl rfl
  have h2 : VRs c n w xs vs := ⟨by simpa using h.1, fun i x y hx hy => h.2 (i + 1) x y (by simpa using hx) (by simpa using hy)⟩
  rw [List.foldl_cons] at hy
  have hno : mxS (some (.int k m)) x = none → False := fun e => by rw [e, zX] at hy; cases hy
  cases h1 with
  | int k' m' =>
   obtain ⟨v, hv, hr⟩ := qGD xs vs k _ y h2 hy
   refine ⟨v, ?_, hr⟩
   simp [List.foldlM_cons, Builtin.max2, hv]
  | _ => exact (hno rfl).elim
theorem qF7 {dt st e e' ty : TypeId} {k : Nat} (hd : P.underlying dt = some (.slice e)) (hk : dJ P e = some k) (_ : P.underlying st = some (.slice e'))
  (r : Rel P c h w) {d s : CV} {dv sv : Value} (hdv : VR c h.n w d dv) (hsv : VR c h.n w s sv) {y : CV} {h' : H} (ha : cpyV k d s h = some (y, h')) :
  ∃ w' v, (Builtin.copy_ #[dt, st] ty #[dv, sv]).run P w = .ok v w' ∧ Stp P c h w c h' w' ∧ VR c h'.n w' y v := by
 unfold cpyV at ha
 split at ha
 ·rename_i dl sl hdl hsl
  obtain ⟨b, dc, rfl⟩ := iD hdv hdl
  obtain ⟨sb, sc, rfl⟩ := iD hsv hsl
  dsimp only at ha
  split at ha
  ·rename_i hz
   simp only [sI, pI] at ha
   obtain ⟨rfl, rfl⟩ := ha
   have hz' : Nat.min sl dl = 0 := hz
   have hf : (Builtin.firstCells k 0 (.slice sb sl sc)).run P w = .ok ([] : List Value).toArray w := by
    cases sb with
    | none => simp [Builtin.firstCells]
    | some a => exact run_firstCells_some w k 0 a sl sc [] (by simp) (by simp)
   refine ⟨w, .int .i64 0, ?_, .refl r, .int _ _⟩
   cases b with
   | none => simp [Builtin.copy_, aL hd, Builtin.lenOf, hz', bW hk, hf, goInt]
   | some a => simp [Builtin.copy_, aL hd, Builtin.lenOf, hz', bW hk, hf, goInt, storeCells]
  ·rename_i hz
   split at ha
   ·rename_i new k' rr off len cap hnew
    split at ha
    ·rename_i cs hb
     split at ha
     ·rename_i hcond
      simp only [aT, dT] at hcond
      obtain ⟨hfit, hone⟩ := hcond
      simp only [sI, pI] at ha
      obtain ⟨rfl, rfl⟩ := ha
      obtain ⟨us, hlu, hus, hfu⟩ := fH (P := P) r hsv hnew
      cases hdv with
      | slc _ _ _ _ _ _ hr hcap hle hsz =>
       have hln : new.length = min sl dl * k := by rw [hus.1, hlu]
       obtain ⟨w', hw, hst⟩ := Stp.splice (off := off) r hb hus (by omega) (hus.one hone)
       have hfc : (Builtin.firstCells k (Nat.min sl dl) (.slice sb sl sc)).run P w = .ok us.toArray w := by
        have := hfu w rfl
        unfold Builtin.firstCells at this ⊢
        cases sb <;> exact this
       refine ⟨w', .int .i64 (min sl dl : Nat), ?_, hst, .int _ _⟩
       have hmin : Nat.min sl dl = min sl dl := rfl
       simp [Builtin.copy_, aL hd, Builtin.lenOf, bW hk, hfc, hw, goInt, hmin]
     ·cases ha
    ·cases ha
   ·cases ha
 ·cases ha
theorem eH {α : Type} {xs : Array α} {l : List α} (h : xs.toList = l) : xs = l.toArray := by cases xs; simp at h; rw [h]
theorem r6 (cl : Call) (b : Builtin) (hb : cl.callee = .builtin b) : OpS P (.call cl) := by
 intro io hc _ c h w env a o y h' ho r he hs
 simp only [cOp, hb] at hc
 have hrun : ∀ (f : Array TypeId → TypeId → Array Value → Sem Value) , (∀ cs, builtin b cl.argTypes o.type cs (cl.args.map a.eval) = (do pure (.value (← f cl.argTypes o.type (cl.args.map a.eval))))) →
   (execOp a.eval o).run P w = ((f cl.argTypes o.type (cl.args.map a.eval)).run P w).andThen fun v w => .ok (.value v) w := by
  intro f hf
  simp only [execOp, ho, resolve, hb, Sem.run_bind, Sem.run_pure, Result.andThen_ok, invoke, hf]
 have hmap : ∀ l, cl.args.toList = l → cl.args.map a.eval = (l.map a.eval).toArray := by
  intro l hl
  rw [eH hl]; simp
 unfold gC at hc
 split at hc
 ·
  rename_i x0 t0 hargs htys
  obtain ⟨x', hx, hc⟩ := aP hc
  have h1 := aS he hx
  have hr := hrun Builtin.len_ (fun _ => rfl)
  rw [hmap _ hargs, eH htys] at hr
  simp only [List.map_cons, List.map_nil] at hr
  generalize a.eval x0 = xv at h1 hr
  split at hc
  ·rename_i e hu
   injection hc with hc; subst hc
   simp only [stepO] at hs
   split at hs
   ·rename_i m hm
    simp only [sI, pI] at hs
    obtain ⟨rfl, rfl⟩ := hs
    obtain ⟨bb, cc, rfl⟩ := iD h1 hm
    exact .pure r (v := .int .i64 m) (by rw [hr]; simp [Builtin.len_, aL hu, goInt]) (.int _ _)
   ·cases hs
  ·rename_i hu
   injection hc with hc; subst hc
   simp only [stepO] at hs
   split at hs
   ·rename_i s hm
    rw [hm] at h1
    simp only [sI, pI] at hs
    obtain ⟨rfl, rfl⟩ := hs
    cases h1
    exact .pure r (v := .int .i64 s.size) (by rw [hr]; simp [Builtin.len_, aL hu, goInt]) (.int _ _)
   ·cases hs
  ·rename_i m e hu
   injection hc with hc; subst hc
   simp only [stepO, sI, pI] at hs
   obtain ⟨rfl, rfl⟩ := hs
   exact .pure r (v := .int .i64 m) (by rw [hr]; simp [Builtin.len_, aL hu, goInt]) (.int _ _)
  ·rename_i k e hu
   injection hc with hc; subst hc
   simp only [stepO] at hs
   split at hs
   ·rename_i hm
    rw [hm] at h1
    simp only [sI, pI] at hs
    obtain ⟨rfl, rfl⟩ := hs
    cases h1
    exact .pure r (v := .int .i64 0) (by rw [hr]; simp [Builtin.len_, aL hu, goInt]) (.int _ _)
   ·rename_i rr hm
    rw [hm] at h1
    split at hs
    ·rename_i es cl hb
     simp only [sI, pI] at hs
     obtain ⟨rfl, rfl⟩ := hs
     obtain ⟨es', hob, hes⟩ := kg r hb
     have hgo := MapKept.run_getObj_map (P := P) hob
     cases h1
     have hsz : es'.size = es.length := by have := hes.1; simpa using this.symm
     exact .pure r (v := .int .i64 es.length) (by rw [hr]; simp [Builtin.len_, aL hu, goInt, hgo, hsz]) (.int _ _)
    ·cases hs
   ·cases hs
  ·cases hc
 ·
  rename_i s0 x0 st xt hargs htys
  obtain ⟨s', hs', hc⟩ := aP hc
  obtain ⟨x', hx, hc⟩ := aP hc
  have h1 := aS he hs'
  have h2 := aS he hx
  have hr := hrun Builtin.append_ (fun _ => rfl)
  rw [hmap _ hargs, eH htys] at hr
  split at hc
  ·rename_i e e' hu hu2
   split at hc
   ·rename_i i hi
    cases hiz : i.zero with
    | none => simp [hiz] at hc
    | some z =>
     simp only [hiz] at hc
     split at hc
     ·cases hc
     ·rename_i hcond
      injection hc with hc; subst hc
      have hzs : z.cells.size = i.size := by
       simp only [Bool.or_eq_true, not_or, bne_iff_ne, ne_eq, Decidable.not_not] at hcond
       exact hcond.2
      simp only [stepO] at hs
      obtain ⟨c', w', v, g1, g2, g3⟩ := qFJ (P := P) (ty := o.type) hu hu2 hi hiz hzs r h1 h2 hs
      refine ⟨c', w', v, .inl ?_, g2, g3⟩
      rw [hr]
      simp only [List.map_cons, List.map_nil]
      rw [g1]; rfl
   ·cases hc
  ·cases hc
 ·
  rename_i d0 s0 dt st hargs htys
  obtain ⟨d', hd, hc⟩ := aP hc
  obtain ⟨s', hs', hc⟩ := aP hc
  have h1 := aS he hd
  have h2 := aS he hs'
  have hr := hrun Builtin.copy_ (fun _ => rfl)
  rw [hmap _ hargs, eH htys] at hr
  split at hc
  ·rename_i e e' hu hu2
   obtain ⟨k, hk, hc⟩ := aP hc
   split at hc
   ·cases hc
   ·injection hc with hc; subst hc
    simp only [stepO] at hs
    obtain ⟨w', v, g1, g2, g3⟩ := qF7 (P := P) (ty := o.type) hu hk hu2 r h1 h2 hs
    refine ⟨c, w', v, .inl ?_, g2, g3⟩
    rw [hr]
    simp only [List.map_cons, List.map_nil]
    rw [g1]; rfl
  ·cases hc
 ·
  rename_i x0 t0 hargs htys
  obtain ⟨x', hx, hc⟩ := aP hc
  have h1 := aS he hx
  have hr := hrun Builtin.clear_ (fun _ => rfl)
  rw [hmap _ hargs, eH htys] at hr
  simp only [List.map_cons, List.map_nil] at hr
  generalize a.eval x0 = xv at h1 hr
  have key : ∀ (k : Nat) (z : List CV), io = .clr k z x' → (∃ d, P.underlying t0 = some d) → (k ≠ 0 → ∃ e zv, P.underlying t0 = some (.slice e) ∧ VRs c h.n w z zv.cells.toList ∧ z.length = k ∧ ∀ w, (zeroValue e).run P w = .ok zv w) → OpOK P c h w ((execOp a.eval o).run P w) y h' := by
   rintro k z rfl ⟨d, hd⟩ hsl
   simp only [stepO] at hs
   generalize x'.ev env = x at hs h1
   split at hs
   ·simp only [sI, pI] at hs
    obtain ⟨rfl, rfl⟩ := hs
    cases h1
    exact .pure r (v := .tuple #[]) (by rw [hr]; cases d <;> simp [Builtin.clear_, aL hd]) VR.undef
   ·simp only [sI, pI] at hs
    obtain ⟨rfl, rfl⟩ := hs
    cases h1
    exact .pure r (v := .tuple #[]) (by rw [hr]; cases d <;> simp [Builtin.clear_, aL hd]) VR.undef
   ·rename_i rr
    split at hs
    ·rename_i es cl0 hb
     simp only [sI, pI] at hs
     obtain ⟨rfl, rfl⟩ := hs
     cases h1
     obtain ⟨es', hob, hes⟩ := kg r hb
     have hgo := MapKept.run_getObj_map (P := P) hob
     obtain ⟨w1, w2⟩ := Stp.putMap (P := P) (es1 := []) (ms1 := #[]) (cl1 := cl0) r hb hob ⟨rfl, by simp⟩
     exact ⟨c, _, .tuple #[], .inl (by rw [hr]; cases d <;> simp [Builtin.clear_, aL hd, hgo, w1]), w2, VR.undef⟩
    ·cases hs
   ·rename_i k' rr off len cap
    split at hs
    ·rename_i hz
     simp only [sI, pI] at hs
     obtain ⟨rfl, rfl⟩ := hs
     subst hz
     cases h1
     exact .pure r (v := .tuple #[]) (by rw [hr]; cases d <;> simp [Builtin.clear_, aL hd]) VR.undef
    ·rename_i hz
     split at hs
     ·cases hs
     ·rename_i hk0
      obtain ⟨e, zv, hu, hzr, hzl, hrun0⟩ := hsl hk0
      split at hs
      ·rename_i cs hb
       split at hs
       ·rename_i hcond
        simp only [aT, dT] at hcond
        obtain ⟨hfit, hone⟩ := hcond
        simp only [sI, pI] at hs
        obtain ⟨rfl, rfl⟩ := hs
        cases h1 with
        | slc _ _ _ _ _ _ hrn hcap hle hsz =>
         have hR := jV hzr (by omega) len
         have h1' : aJ (da z len) = true := by
          rw [oD] at hone ⊢
          intro x hx
          obtain ⟨i, hi, hx⟩ := List.mem_iff_getElem.1 hx
          have hx' : (da z len)[i]? = some x := by rw [List.getElem?_eq_getElem hi, hx]
          rw [ml z len i (by rw [repl_len] at hi; exact hi)] at hx'
          exact hone x (List.mem_of_getElem? hx')
         obtain ⟨w', hw, hst⟩ := Stp.splice (off := off) r hb hR (by rw [repl_len]; rw [hzl]; omega) (hR.one h1')
         refine ⟨c, w', .tuple #[], .inl ?_, hst, VR.undef⟩
         rw [hr]
         obtain ⟨len, rfl⟩ : ∃ q, len = q + 1 := ⟨len - 1, by omega⟩
         have hw2 : (storeCells ⟨c.β rr, off, none⟩ (Builtin.zeroCells zv.cells (len + 1)).toList).run P w = .ok () w' := hw
         simp [Builtin.clear_, aL hu, hrun0, hw2]
       ·cases hs
      ·cases hs
   ·simp only [sI, pI] at hs
    obtain ⟨rfl, rfl⟩ := hs
    cases h1
    exact .pure r (v := .tuple #[]) (by rw [hr]; cases d <;> simp [Builtin.clear_, aL hd]) VR.undef
   ·cases hs
  split at hc
  ·rename_i k e hu
   injection hc with hc
   exact key 0 [] hc.symm ⟨_, hu⟩ (fun h => absurd rfl h)
  ·rename_i e hu
   obtain ⟨k, hk, hc⟩ := aP hc
   obtain ⟨z, hz, hc⟩ := aP hc
   split at hc
   ·cases hc
   ·rename_i hcond
    simp only [Bool.or_eq_true, dT, not_or, ne_eq, Decidable.not_not, Bool.not_eq_true] at hcond
    injection hc with hc
    obtain ⟨zi, zv, _, _, hcv, hrun0⟩ := d9 hz
    exact key k z.cells hc.symm ⟨_, hu⟩ (fun _ => ⟨e, zv, hu, (dj c h.n w _ _ hcv).cells, by simpa using hcond.1, hrun0⟩)
  ·cases hc
 ·
  rename_i xs _
  obtain ⟨xs', hx, hc⟩ := aP hc
  injection hc with hc; subst hc
  have h1 := gM he hx
  have hr := hrun Builtin.min_ (fun _ => rfl)
  simp only [stepO] at hs
  split at hs
  ·rename_i v hv
   simp only [sI, pI] at hs
   obtain ⟨rfl, rfl⟩ := hs
   unfold mnL at hv
   split at hv
   ·rename_i k m ys hev
    rw [hev] at h1
    generalize hvs : List.map a.eval cl.args.toList = vs at h1
    cases vs with
    | nil => have := h1.1; simp at this
    | cons v0 vs =>
     have hv0 := h1.2 0 _ v0 rfl rfl
     cases hv0
     have h2 : VRs c h.n w ys vs := ⟨by simpa using h1.1, fun i x y hx hy => h1.2 (i + 1) x y (by simpa using hx) (by simpa using hy)⟩
     obtain ⟨v', g1, g2⟩ := qGE (P := P) ys vs k m _ h2 hv
     refine .pure r (v := v') ?_ g2
     rw [hr]
     simp only [Builtin.min_, Array.toList_map, hvs, g1]
     rfl
   ·cases hv
  ·cases hs
 ·rename_i xs _
  obtain ⟨xs', hx, hc⟩ := aP hc
  injection hc with hc; subst hc
  have h1 := gM he hx
  have hr := hrun Builtin.max_ (fun _ => rfl)
  simp only [stepO] at hs
  split at hs
  ·rename_i v hv
   simp only [sI, pI] at hs
   obtain ⟨rfl, rfl⟩ := hs
   unfold mxL at hv
   split at hv
   ·rename_i k m ys hev
    rw [hev] at h1
    generalize hvs : List.map a.eval cl.args.toList = vs at h1
    cases vs with
    | nil => have := h1.1; simp at this
    | cons v0 vs =>
     have hv0 := h1.2 0 _ v0 rfl rfl
     cases hv0
     have h2 : VRs c h.n w ys vs := ⟨by simpa using h1.1, fun i x y hx hy => h1.2 (i + 1) x y (by simpa using hx) (by simpa using hy)⟩
     obtain ⟨v', g1, g2⟩ := qGD (P := P) ys vs k m _ h2 hv
     refine .pure r (v := v') ?_ g2
     rw [hr]
     simp only [Builtin.max_, Array.toList_map, hvs, g1]
     rfl
   ·cases hv
  ·cases hs
 ·cases hc
end Ce
namespace Ce
open Go
variable {P : Program} {c : Cx} {h : H} {w : World} {env : List CV} {a : Act} {n : Nat}
theorem qDZ (op : Op) : OpS P op := by
 cases op with
 | move x => exact zN x
 | assign x => exact tj x
 | pick p q s => exact zL p q s
 | alloc t => exact wp t
 | box t x => exact qDY t x
 | build t ps => exact wm t ps
 | buildSlice t l ps => exact mz t l ps
 | insert t m k v => exact ti t m k v
 | load t x => exact zO t x
 | store t x y => exact wg t x y
 | nilCheck x => exact qF x
 | binOp op t x y yt => exact wn op t x y yt
 | unOp op t x => exact zK op t x
 | convert s d x => exact r5 s d x
 | makeFunc f xs ys => exact qH f xs ys
 | makeMap t r => exact rY t r
 | makeSlice t l cp => exact oP t l cp
 | slice t x lo hi mx => exact wh t x lo hi mx
 | fieldAddr s x f => exact oR s x f
 | field t x f => exact wl t x f
 | indexAddr t x i => exact oQ t x i
 | index t x i => exact wj t x i
 | lookup t x i ok => exact th t x i ok
 | mapUpdate t m k v => exact oO t m k v
 | mapEntry t m k => exact qG t m k
 | entryStore t m s v => exact my t m s v
 | range t x => exact wi t x
 | next it b => exact zM it b
 | extract x i => exact rZ x i
 | call cl =>
  cases hcl : cl.callee with
  | builtin b => exact r6 cl b hcl
  | value x =>
   intro io hc hi
   simp only [cOp, hcl] at hc
   exfalso
   split at hc
   ·rename_i e; cases e
    obtain ⟨as, _, hc⟩ := aP hc
    split at hc
    ·split at hc
     ·injection hc with hc; subst hc; cases hi
     ·cases hc
    ·cases hc
   ·obtain ⟨x', _, hc⟩ := aP hc
    obtain ⟨as, _, hc⟩ := aP hc
    injection hc with hc; subst hc; cases hi
   ·rename_i e; cases e
   ·cases hc
  | invoke r m => intro io hc; simp only [cOp, hcl] at hc; cases hc
 | _ => intro io hc; cases hc
def NC (m : Option Ins) : Prop := ∀ i, m = some i → isCall i = false
theorem NC.none : NC none := fun i h => by cases h
theorem NC.some {i : Ins} (h : isCall i = false) : NC (some i) := fun j e => by injection e with e; rw [← e]; exact h
theorem NC.bind {α : Type} {m : Option α} {f : α → Option Ins} (h : ∀ a, NC (f a)) : NC (m >>= f) := fun i e => by
 obtain ⟨a, _, e⟩ := aP e
 exact h a i e
theorem NC.ite {c : Prop} [Decidable c] {x y : Option Ins} (h1 : NC x) (h2 : NC y) : NC (if c then x else y) := by split <;> assumption
theorem l7 (b : Builtin) (as : List Operand) (ts : List TypeId) : NC (gC P b as ts) := by
 unfold gC
 split
 all_goals (repeat' (first | exact NC.none | exact NC.some rfl | (apply NC.bind; intro _) | apply NC.ite | split))
theorem cOp_nc (op : Op) (hop : ∀ cl f, op = .call cl → cl.callee ≠ .value f) : NC (cOp P op) := by
 unfold cOp
 split
 all_goals (try (repeat' (first | exact NC.none | exact NC.some rfl | (apply NC.bind; intro _) | apply NC.ite | split)))
 ·rename_i hcl _ _ _ _; exact absurd hcl (hop _ _ rfl)
 ·rename_i hcl _ _; exact absurd hcl (hop _ _ rfl)
 ·exact l7 _ _ _
def qC3 (P : Program) (c : Cx) (h : H) (w : World) (x : CV) (h' : H) : Ending → World → Prop
 | .returned v, w' => ∃ c', Stp P c h w c' h' w' ∧ VR c' h'.n w' x v
 | _, _ => False
def qj (lp : Loop) (vs : Array Value) : Array Value := (lp.params.zip vs).foldl (fun tmps (t, a) => tmps.setIfInBounds t a) lp.tmps
def iZ (P : Program) (call : Tgt → List CV → H → Option (CV × H)) : Prop :=
 ∀ (t : Tgt) (args : List CV) (h : H) (x : CV) (h' : H), call t args h = some (x, h') → ∀ (c : Cx) (w : World) (vs : List Value), Rel P c h w → VRs c h.n w args vs →
  match t with
  | .fn f => (∃ fn, P.funcs[f]? = some fn ∧ fn.body.isNone = false ∧ (fn.name == "runtime.NumGoroutine") = false) ∧ CallsIn Fence.wide 0 P f vs.toArray w (qC3 P c h w x h')
  | .yl l => ∃ lp, w.heap[c.β l]? = some (.loop lp) ∧ vs.length = lp.params.size ∧ RoundIn Fence.wide 0 P (c.β l) lp.fn (qj lp vs.toArray) lp.assign lp.body w (qC3 P c h w x h')
def fP (F : Fence) : Prop := F = Fence.wide ∨ ∃ l, F = Fence.wide.inRound l
theorem fP.fn {F : Fence} (h : fP F) (f : FuncId) : F.fn f := by rcases h with rfl | ⟨l, rfl⟩ <;> trivial
theorem fP.depth {F : Fence} (h : fP F) : F.depth = none := by rcases h with rfl | ⟨l, rfl⟩ <;> rfl
theorem fP.room {F : Fence} (h : fP F) (k : Nat) : F.room k := by intro d hd; rw [h.depth] at hd; cases hd
theorem fP.calls {F : Fence} (h : fP F) {m k : Nat} {f : FuncId} {args : Array Value} {w : World} {R : Ending → World → Prop} (hc : CallsIn Fence.wide m P f args w R) : CallsIn F k P f args w R := by
 have h1 : CallsIn Fence.wide k P f args w R := ⟨trivial, fun cs _ => hc.2 cs (fP.room (.inl rfl) _)⟩
 rcases h with rfl | ⟨l, rfl⟩
 ·exact h1
 ·exact h1
theorem fP.rounds {F : Fence} (h : fP F) {m k l : Nat} {f : FuncId} {tmps : Array Value} {x y : Code} {w : World} {R : Ending → World → Prop} (hc : RoundIn Fence.wide m P l f tmps x y w R) : RoundIn F k P l f tmps x y w R := by
 have h1 : RoundIn Fence.wide k P l f tmps x y w R := ⟨trivial, fun cc cs _ => hc.2 cc cs (fP.room (.inl rfl) _)⟩
 rcases h with rfl | ⟨l, rfl⟩
 ·exact h1
 ·exact h1
theorem pD {α : Type} {x : Option α} (h : x.isNone = false) : ¬ x = none := by rintro rfl; cases h
theorem m3 {call : Tgt → List CV → H → Option (CV × H)} (hcall : iZ P call) {F : Fence} (hF : fP F) {m : Nat} {o : Oper} (r : Rel P c h w) (he : bp c h.n w env a.tmps) {x : CV} {h' : H}
  (hs : stepO call ((cOp P o.op).getD .bad) env h = some (x, h')) {K : Act → World → Prop} {Q : Exit → Act → World → Prop}
  (hK : ∀ c' w' v, Stp P c h w c' h' w' → VR c' h'.n w' x v → K (a.put o.dst v) w') : o.wpIn F m P a w K Q := by
 refine ⟨fun f _ => hF.fn f, ?_⟩
 cases hc : cOp P o.op with
 | none => rw [hc] at hs; cases hs
 | some io =>
  rw [hc] at hs
  simp only [Option.getD_some] at hs
  have hnd : ∀ cl, o.op ≠ .defer cl := by intro cl e; rw [e] at hc; cases hc
  rw [Oper.semAt_eq _ _ _ hnd]
  cases hi : isCall io with
  | false =>
   have hs' : stepO noC io env h = some (x, h') := by
    cases io <;> first | exact hs | cases hi
   obtain ⟨c', w', v, hres, hst, hv⟩ := qDZ o.op io hc hi c h w env a o x h' rfl r he hs'
   rcases hres with hres | ⟨hres, rfl⟩
   ·rw [hres]; exact hK c' w' v hst hv
   ·rw [hres]; exact hK c' w' _ hst hv
  | true =>
   cases hop : o.op with
   | call cl =>
    rw [hop] at hc
    cases hcl : cl.callee with
    | builtin b =>
     simp only [cOp, hcl] at hc
     rw [l7 _ _ _ _ hc] at hi; cases hi
    | invoke rr mm => simp only [cOp, hcl] at hc; cases hc
    | value f0 =>
     simp only [cOp, hcl] at hc
     have hargs : cl.args.map a.eval = (cl.args.toList.map a.eval).toArray := by
      apply Array.ext'; simp
     split at hc
     ·rename_i f e
      obtain ⟨as, has, hc⟩ := aP hc
      cases e
      split at hc
      ·split at hc
       ·injection hc with hc; subst hc
        simp only [stepO] at hs
        obtain ⟨⟨fn, g1, g2, g3⟩, hcl'⟩ := hcall _ _ _ _ _ hs c w _ r (gM he has)
        have : (execOp a.eval o).run P w = .ok (.enter f (cl.args.toList.map a.eval).toArray) w := by
         rw [← hargs]
         simp [execOp, hop, resolve, hcl, Act.eval, Deferred.ofValue, invoke, callFunc, Sem.run_bind, g1, pD g2, beq_eq_false_iff_ne.1 g3]
        rw [this]
        refine ⟨fun hd => (by rw [hF.depth] at hd; cases hd), hF.calls (hcl'.mono ?_)⟩
        rintro (v | _ | _) w' hR
        ·obtain ⟨c', h1, h2⟩ := hR; exact hK c' w' v h1 h2
        ·exact hR.elim
        ·exact hR.elim
       ·cases hc
      ·cases hc
     ·rename_i f0' hne e
      obtain ⟨f', hf, hc⟩ := aP hc
      obtain ⟨as, has, hc⟩ := aP hc
      injection hc with hc; subst hc
      cases e
      have hfv := aS he hf
      have hav := gM he has
      simp only [stepO] at hs
      generalize f'.ev env = fv at hs hfv
      generalize hfe : a.eval f0 = fe at hfv
      split at hs
      ·rename_i f xs ys
       cases hfv with
       | clo _ _ _ vs us hx hy hvx hvy =>
        have hall : VRs c h.n w (xs ++ evs env as ++ ys) (vs.toList ++ cl.args.toList.map a.eval ++ us.toList) :=
         VRs.append (VRs.append ⟨by simpa using hx, fun i x v h1 h2 => hvx i x v h1 (by simpa using h2)⟩ hav) ⟨by simpa using hy, fun i x v h1 h2 => hvy i x v h1 (by simpa using h2)⟩
        obtain ⟨⟨fn, g1, g2, g3⟩, hcl'⟩ := hcall _ _ _ _ _ hs c w _ r hall
        have harr : (vs ++ cl.args.map a.eval) ++ us = (vs.toList ++ cl.args.toList.map a.eval ++ us.toList).toArray := by apply Array.ext'; simp
        have : (execOp a.eval o).run P w = .ok (.enter f (vs.toList ++ cl.args.toList.map a.eval ++ us.toList).toArray) w := by
         rw [← harr]
         simp [execOp, hop, resolve, hcl, hfe, Deferred.ofValue, invoke, callFunc, Sem.run_bind, g1, pD g2, beq_eq_false_iff_ne.1 g3]
        rw [this]
        refine ⟨fun hd => (by rw [hF.depth] at hd; cases hd), hF.calls (hcl'.mono ?_)⟩
        rintro (v | _ | _) w' hR
        ·obtain ⟨c', h1, h2⟩ := hR; exact hK c' w' v h1 h2
        ·exact hR.elim
        ·exact hR.elim
      ·rename_i l
       cases hfv with
       | yld _ hr =>
        obtain ⟨lp, g1, g2, hrd⟩ := hcall _ _ _ _ _ hs c w _ r hav
        have hgo : (getObj (c.β l)).run P w = .ok (.loop lp) w := by simp [getObj, Sem.run, g1]
        have hsz : (cl.args.map a.eval).size = lp.params.size := by rw [← g2]; simp
        have : (execOp a.eval o).run P w = .ok (.round (c.β l) lp.fn (qj lp (cl.args.toList.map a.eval).toArray) lp.assign lp.body) w := by
         rw [← hargs]
         simp [execOp, hop, resolve, hcl, hfe, Deferred.ofValue, invoke, Instr.yield, Instr.getLoop, hgo, hsz, qj]
        rw [this]
        refine ⟨fun hd => (by rw [hF.depth] at hd; cases hd), hF.rounds (hrd.mono ?_)⟩
        rintro (v | _ | _) w' hR
        ·obtain ⟨c', h1, h2⟩ := hR; exact hK c' w' v h1 h2
        ·exact hR.elim
        ·exact hR.elim
      ·cases hs
     ·rename_i e; cases e
     ·cases hc
   | _ => rw [cOp_nc _ (by intro cl f e; rw [hop] at e; cases e) _ hc] at hi; cases hi
end Ce
namespace Ce
open Go
variable {P : Program} {c : Cx} {h : H} {w : World} {env : List CV} {a : Act} {n : Nat}
theorem lL (he : bp c n w env a.tmps) {ops : Array Oper} {j d : Nat} {q : Oper} (hq : ops[j]? = some q) (hd : q.dst = some d) (want : Bool) : (yielded ops a.tmps j == some want) = cy want (aM env d) := by
 have h1 := he.get d
 unfold yielded
 simp only [hq, Option.bind_some, hd]
 cases hv : a.tmps[d]? with
 | none =>
  have hu : a.tmps.getD d Go.undef = Go.undef := by simp [Array.getD_eq_getD_getElem?, hv]
  rw [hu] at h1
  generalize aM env d = x at h1
  cases h1 <;> simp [cy]
 | some v =>
  have hu : a.tmps.getD d Go.undef = v := by simp [Array.getD_eq_getD_getElem?, hv]
  rw [hu] at h1
  generalize aM env d = x at h1
  cases h1 <;> simp [cy]
  all_goals (rename_i b; cases b <;> cases want <;> rfl)
theorem kW (he : bp c n w env a.tmps) (d : Option Nat) {x : CV} {v : Value} (hv : VR c n w x v) : bp c n w (put? env d x) (a.put d v).tmps := by
 cases d with
 | none => exact he
 | some d => exact he.put hv d
theorem gJ (d : Option Nat) (v : Value) : (a.put d v).defers = a.defers := by cases d <;> rfl
theorem mw {call : Tgt → List CV → H → Option (CV × H)} (hcall : iZ P call) {F : Fence} (hF : fP F) {m : Nat} {ops : Array Oper} {i : Nat} {o : Oper} (ho : ops[i]? = some o) {q : IOp} (hq : lZ P ops o = some q) (r : Rel P c h w) (he : bp c h.n w env a.tmps)
  {env' : List CV} {h' : H} (hs : opsR call [q] env h = some (env', h')) {K : Act → World → Prop} {Q : Exit → Act → World → Prop}
  (hK : ∀ c' w' a', Stp P c h w c' h' w' → bp c' h'.n w' env' a'.tmps → a'.defers = a.defers → K a' w') : wpOpIn F m P ops Q i K a w := by
 unfold wpOpIn
 simp only [ho]
 unfold lZ at hq
 have key : ∀ (g : Option (Nat × Bool)), Region.wanted o (yielded ops a.tmps) = grd g env → opsR call [⟨o.dst, (cOp P o.op).getD .bad, g⟩] env h = some (env', h') →
   (if Region.wanted o (yielded ops a.tmps) = true then o.wpIn F m P a w K Q else (∀ f, o.about P w a.eval = some f → F.fn f) ∧ K (a.put o.dst Go.undef) w) := by
  intro g hw hs
  rw [hw]
  simp only [opsR] at hs
  cases hg : grd g env with
  | true =>
   rw [hg] at hs
   simp only [if_true]
   dsimp only at hs
   split at hs
   ·rename_i x h1 hst
    simp only [sI, pI] at hs
    obtain ⟨rfl, rfl⟩ := hs
    exact m3 hcall hF r he hst fun c' w' v h1 h2 => hK c' w' _ h1 (kW (he.evo h1.evo) _ h2) (gJ _ _)
   ·cases hs
  | false =>
   rw [hg] at hs
   simp only [sI, pI] at hs
   obtain ⟨rfl, rfl⟩ := hs
   simp only [Bool.false_eq_true, if_false]
   exact ⟨fun f _ => hF.fn f, hK c w _ (.refl r) (kW he _ VR.undef) (gJ _ _)⟩
 split at hq
 ·rename_i hgd
  injection hq with hq; subst hq
  exact key none (by simp [Region.wanted, hgd, grd]) hs
 ·rename_i j want hgd
  split at hq
  ·rename_i qq hqq
   split at hq
   ·rename_i d hd
    injection hq with hq; subst hq
    exact key (some (d, want)) (by simp only [Region.wanted, hgd, grd]; exact lL he hqq hd want) hs
   ·cases hq
  ·cases hq
theorem we {call : Tgt → List CV → H → Option (CV × H)} {q : IOp} {l : List IOp} {env env' : List CV} {h h' : H} (hs : opsR call (q :: l) env h = some (env', h')) : ∃ e1 h1, opsR call [q] env h = some (e1, h1) ∧ opsR call l e1 h1 = some (env', h') := by
 simp only [opsR] at hs ⊢
 split at hs
 ·rename_i hg
  split at hs
  ·rename_i v h1 hv; exact ⟨_, _, rfl, hs⟩
  ·cases hs
 ·rename_i hg
  exact ⟨_, _, rfl, hs⟩
theorem wd {call : Tgt → List CV → H → Option (CV × H)} (hcall : iZ P call) {F : Fence} (hF : fP F) {m : Nat} {ops : Array Oper} {Q : Exit → Act → World → Prop} : ∀ (l : List IOp) (i : Nat) (env : List CV) (h : H) (c : Cx) (w : World) (a : Act) (env' : List CV) (h' : H),
  dz P ops (ops.toList.drop i) = some l → Rel P c h w → bp c h.n w env a.tmps → opsR call l env h = some (env', h') →
  (∀ c' w' a', Stp P c h w c' h' w' → bp c' h'.n w' env' a'.tmps → a'.defers = a.defers → Q .normal a' w') →
  wpOpsIn F m P ops Q (List.range' i (ops.size - i)) a w := by
 intro l
 induction l with
 | nil =>
  intro i env h c w a env' h' hl r he hs hK
  have : ops.size - i = 0 := by
   cases hd : ops.toList.drop i with
   | nil => have := List.drop_eq_nil_iff.1 hd; simp at this; omega
   | cons x xs =>
    rw [hd] at hl
    simp only [dz] at hl
    split at hl <;> cases hl
  rw [this]
  simp only [opsR, sI, pI] at hs
  obtain ⟨rfl, rfl⟩ := hs
  exact hK c w a (.refl r) he rfl
 | cons q l ih =>
  intro i env h c w a env' h' hl r he hs hK
  cases hd : ops.toList.drop i with
  | nil => rw [hd] at hl; cases hl
  | cons o os =>
   rw [hd] at hl
   simp only [dz] at hl
   split at hl
   ·rename_i q' l' hq hl'
    injection hl with hl; injection hl with e1 e2; subst e1; subst e2
    have ho : ops[i]? = some o := by
     have : (ops.toList.drop i)[0]? = some o := by rw [hd]; rfl
     rw [List.getElem?_drop] at this
     simpa using this
    have hlt : i < ops.size := (Array.getElem?_eq_some_iff.1 ho).1
    have hos : ops.toList.drop (i + 1) = os := by
     have := congrArg (List.drop 1) hd
     rw [List.drop_drop] at this
     simpa using this
    obtain ⟨e1, h1, hs1, hs2⟩ := we hs
    have hr : List.range' i (ops.size - i) = i :: List.range' (i + 1) (ops.size - (i + 1)) := by
     rw [show ops.size - i = (ops.size - (i + 1)) + 1 from by omega, List.range'_succ]
    rw [hr, wpOpsIn_cons]
    refine mw hcall hF ho hq r he hs1 fun c1 w1 a1 s1 he1 hd1 => ?_
    refine ih (i + 1) e1 h1 c1 w1 a1 env' h' (by rw [hos]; exact hl') s1.rel he1 hs2 fun c2 w2 a2 s2 he2 hd2 => ?_
    exact hK c2 w2 a2 (s1.trans s2) he2 (hd2.trans hd1)
   ·cases hl
end Ce
