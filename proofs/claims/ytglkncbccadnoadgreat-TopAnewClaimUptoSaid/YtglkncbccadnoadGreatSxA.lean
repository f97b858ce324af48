/- A part of a proof. -/
import Derived.Test.YtglkncbccadnoadGreatCeA
set_option linter.unusedVariables false
set_option linter.unusedSimpArgs false
set_option maxRecDepth 1000000
namespace Ce.S
open Go
structure LC where
 env:List CV
 ps:List Nat
 a:IC
 b:IC
structure V where
 i:Nat→Int
 c:Nat→CV
 b:Nat→Nat
 l:Nat→LC
def Agr(n:Nat)(v w:V):Prop:=∀s,s < n→v.i s=w.i s∧v.c s=w.c s∧v.b s=w.b s∧v.l s=w.l s
theorem Agr.refl(n:Nat)(v:V):Agr n v v:=fun _ _=>⟨rfl,rfl,rfl,rfl⟩
theorem Agr.trans{n m:Nat}{u v w:V}(h:Agr n u v)(h':Agr m v w)(hm:n≤m):Agr n u w:=fun s hs=>by
 obtain ⟨a,b,c,d⟩:=h s hs;obtain ⟨a',b',c',d'⟩:=h' s (by omega);exact ⟨a.trans a',b.trans b',c.trans c',d.trans d'⟩
theorem Agr.symm{n:Nat}{u v:V}(h:Agr n u v):Agr n v u:=fun s hs=>by
 obtain ⟨a,b,c,d⟩:=h s hs;exact ⟨a.symm,b.symm,c.symm,d.symm⟩
theorem Agr.mono{n m:Nat}{u v:V}(h:Agr m u v)(hm:n≤m):Agr n u v:=fun s hs=>h s (by omega)
structure Lin where
 s:Nat
 c:Int
 deriving DecidableEq,Inhabited
def Lin.ev(v:V)(l:Lin):Int:=v.i l.s+l.c
inductive AV where
 | bool (b:Bool)
 | cmp (x y:Nat) (c:Int)
 | eqc (neg:Bool) (x y:Nat) (c:Int)
 | int (k:IntKind) (s:Nat) (c:Int)
 | sym (s:Nat)
 | str (s:ByteArray)
 | nilp | nils | nilm | nilf | nili
 | ptr (b off:Nat)
 | iptr (b off k:Nat) (i:Lin)
 | rptr (cs:List AV)
 | slc (k b off:Nat) (i len cap:Lin)
 | vec (k b:Nat) (len:Lin)
 | slv (k b:Nat) (i len:Lin)
 | lrows (rows:List (List AV)) (ex:Bool)
 | map (b:Nat)
 | clo (f:Nat) (a b:List AV)
 | yld (b:Nat)
 | agg (l:List AV)
 | tup (l:List AV)
 deriving Inhabited
mutual
def den (v:V):AV→CV
 | .bool b=>.bool b
 | .cmp x y c=>.bool (decide (v.i x - v.i y≤c))
 | .eqc neg x y c=>.bool (decide (v.i x - v.i y=c) != neg)
 | .int k s c=>.int k (v.i s+c)
 | .sym s=>v.c s
 | .str s=>.str s
 | .nilp=>.nilp
 | .nils=>.nils
 | .nilm=>.nilm
 | .nilf=>.nilf
 | .nili=>.nili
 | .ptr b off=>.ptr (v.b b) off
 | .iptr b off k i=>.ptr (v.b b) (off+(i.ev v).toNat*k)
 | .rptr cs=>.rptr (aF v cs)
 | .slc k b off i len cap=>.slc k (v.b b) (off+(i.ev v).toNat*k) (len.ev v).toNat (some (cap.ev v).toNat)
 | .vec k b len=>if len.ev v=0 then .nils else .slc k (v.b b) 0 (len.ev v).toNat none
 | .slv k b i len=>.slc k (v.b b) ((i.ev v).toNat*k) (len.ev v).toNat none
 | .lrows rows ex=>.lst (jJ v rows) ex
 | .map b=>.map (v.b b)
 | .clo f a b=>.clo f (aF v a) (aF v b)
 | .yld b=>.yld (v.b b)
 | .agg l=>.agg (aF v l)
 | .tup l=>.tup (aF v l)
def aF (v:V):List AV→List CV
 | []=>[]
 | a::l=>den v a::aF v l
def jJ (v:V):List (List AV)→List (List CV)
 | []=>[]
 | r::l=>aF v r::jJ v l
end
inductive Ty where
 | int (k:IntKind) (lo hi:Lin)
 | bool
 | str
 | lst (row:List Ty) (lo hi:Lin)
 | agg (l:List Ty)
 deriving Inhabited
mutual
def av (v:V):Ty→CV→Prop
 | .int k lo hi,c=>∃n,c=.int k n∧lo.ev v≤n∧n≤hi.ev v
 | .bool,c=>∃b,c=.bool b
 | .str,c=>∃s,c=.str s
 | .lst R lo hi,c=>(c=.nils∧lo.ev v≤0∧0≤hi.ev v)∨∃rows ex,c=.lst rows ex∧lo.ev v≤rows.length∧(rows.length:Int)≤hi.ev v∧∀r,r∈rows→a8 v R r
 | .agg l,c=>∃cs,c=.agg cs∧a8 v l cs
def a8 (v:V):List Ty→List CV→Prop
 | [],cs=>cs=[]
 | T::Ts,cs=>∃c cs',cs=c::cs'∧av v T c∧a8 v Ts cs'
end
def cV:CV→Option Nat
 | .nils=>some 0
 | .lst rows _=>some rows.length
 | _=>none
inductive Fact where
 | dc (x y:Nat) (c:Int)
 | ty (s:Nat) (T:Ty)
 | len (s t:Nat)
 | row (s:Nat) (i:Lin) (cs:List AV)
 | pre (s:Nat) (i:Lin) (R:List Ty)
 | ixd (fw bw:Tr (List (Nat × Int)))
 | sum (a b t:Nat) (c:Int)
 | csum (t:Nat) (up dn:List Lin)
 | ln (x y z k:Nat) (c:Int)
 | prm (xs ys:List Lin)
 | pimp (s:Nat) (i:Lin) (k1:Nat) (c:Int) (k2:Nat) (lo hi:Lin)
 | cnd (a:Lin) (c:Int) (b lo hi:Lin)
 | lc (s:Nat) (env:List AV) (ps:List Nat) (a b:IC)
def fG(v:V):List Lin→Int
 | []=>0
 | l::ls=>l.ev v+fG v ls
noncomputable def edg(t:Tr (List (Nat × Int))):Nat→List (Nat × Int):=Tr.rec (motive:=fun _=>Nat→List (Nat × Int)) (fun _=>[]) (fun _ v _ l r x=>Bool.rec (motive:=fun _=>List (Nat × Int)) (Bool.rec (motive:=fun _=>List (Nat × Int)) (r (Nat.sub (Nat.div x 2) 1)) (l (Nat.div x 2)) (Nat.beq (Nat.mod x 2) 1)) (Option.rec (motive:=fun _=>List (Nat × Int)) [] (fun e=>e) v) (Nat.beq x 0)) t
theorem edg_eq(t:Tr (List (Nat × Int))):∀x:Nat,edg t x=match t.get x with
 | some l=>l
 | none=>[]:=by
 induction t with
 | nil=>intro x; rfl
 | node l v r ihl ihr =>
  intro x
  show Bool.rec (motive:=fun _=>List (Nat × Int)) (Bool.rec (motive:=fun _=>List (Nat × Int)) (edg r (x / 2 - 1)) (edg l (x / 2)) (Nat.beq (x % 2) 1)) (Option.rec (motive:=fun _=>List (Nat × Int)) [] (fun e=>e) v) (Nat.beq x 0)=_
  have hb:∀a b:Nat,Nat.beq a b=decide (a=b):=fun a b=>by
   by_cases h:a=b
   ·subst h; simp
   ·cases hb:Nat.beq a b with
    | false=>simp [h]
    | true=>exact absurd (nQ hb) h
  simp only [Tr.get];by_cases h0:x=0
  ·subst h0; rw [aH rfl]; cases v<;>rfl
  ·rw [aC h0,hb x 0];simp only [h0,decide_false];by_cases h1:x % 2=1
   ·rw [aH h1,hb,←ihl]; simp only [h1,lI]
   ·rw [aC h1,hb,←ihr]; simp only [h1,decide_false]
def FOK(v:V):Fact→Prop
 | .dc x y c=>v.i x - v.i y≤c
 | .ty s T=>av v T (v.c s)
 | .len s t=>∃n,cV (v.c s)=some n∧v.i t=n
 | .row s i cs=>0≤i.ev v∧∃rows ex,v.c s=.lst rows ex∧nth? rows (i.ev v).toNat=some (aF v cs)
 | .pre s i R=>∀rows ex,v.c s=.lst rows ex→∀j r,nth? rows j=some r→(j:Int) < i.ev v→a8 v R r
 | .sum a b t c=>v.i a+v.i b=v.i t+c
 | .csum t up dn=>v.i t=fG v up - fG v dn
 | .ln x y z k c=>v.i x≤v.i y+(k:Int)*v.i z+c
 | .prm xs ys=>(xs.map (Lin.ev v)).Perm (ys.map (Lin.ev v))
 | .pimp s i k1 c k2 lo hi=>∀rows ex,v.c s=.lst rows ex→∀j r,nth? rows j=some r→(j:Int) < i.ev v→∀ka a kb b,nth? r k1=some (.int ka a)→nth? r k2=some (.int kb b)→c≤a→lo.ev v≤b∧b≤hi.ev v
 | .cnd a c b lo hi=>c≤a.ev v→lo.ev v≤b.ev v∧b.ev v≤hi.ev v
 | .lc s env ps a b=>v.l s=⟨aF v env,ps,a,b⟩
 | .ixd fw bw=>(∀x y c,(y,c)∈edg fw x→v.i x - v.i y≤c)∧(∀y x c,(x,c)∈edg bw y→v.i x - v.i y≤c)
inductive LK where
 | b
 | i (k:IntKind)
 | s
 deriving DecidableEq
def LK.lf:LK→Lf
 | .b=>.b
 | .i _=>.i
 | .s=>.s
def zAI:LK→CV→Prop
 | .b,c=>∃b,c=.bool b
 | .i k,c=>∃n,c=.int k n
 | .s,c=>∃s,c=.str s
def yM:List LK→List CV→Prop
 | [],cs=>cs=[]
 | k::ks,cs=>∃c cs',cs=c::cs'∧zAI k c∧yM ks cs'
def ji(ag:Bool)(ks:List LK)(c:CV):Prop:=cK c=ag∧yM ks c.cells
inductive Ct where
 | cells (l:List AV)
 | rows (k:Nat) (R:List Ty) (n:Lin)
inductive BE where
 | blk (b:Nat) (ct:Ct) (ro:Bool)
 | vec (b k:Nat) (R:List Ty) (len:Lin) (ro:Bool)
 | map (b:Nat) (ag:Bool) (ks:List LK) (T:Ty) (memo:Option (AV × CV × Bool × AV))
 | emap (b:Nat)
 | loop (b st s:Nat) (J:List Jump)
def aQ(v:V)(k:Nat)(R:List Ty)(cs:List CV):Nat→Prop
 | 0=>cs=[]
 | n+1=>k≤cs.length∧a8 v R (cs.take k)∧aQ v k R (cs.drop k) n
def cR(v:V)(cs:List CV):Ct→Prop
 | .cells l=>cs=aF v l
 | .rows k R n=>0 < k∧R.length=k∧0≤n.ev v∧aQ v k R cs (n.ev v).toNat
def lst?:Nat→LSt
 | 0=>.ready
 | 1=>.done
 | 2=>.busy
 | _=>.exhausted
def kC(v:V)(h:H)(b:Nat)(ag:Bool)(ks:List LK):Option (AV × CV × Bool × AV)→Prop
 | none=>True
 | some (k,z,ok,r)=>lkuV ag (ks.map LK.lf) z (.map b) (den v k) ok h=some (den v r)
def BOK(v:V)(h:H):BE→Prop
 | .blk b ct ro=>∃cs,h.get (v.b b)=some (.cells cs ro)∧cR v cs ct
 | .vec b k R len ro=>len.ev v=0∨∃cs,h.get (v.b b)=some (.cells cs ro)∧cR v cs (.rows k R len)
 | .map b ag ks T memo=>∃es cl,h.get (v.b b)=some (.map es cl)∧(∀e,e∈es→ji ag ks e.1∧av v T e.2.1)∧kC v h (v.b b) ag ks memo
 | .emap b=>∃cl,h.get (v.b b)=some (.map [] cl)
 | .loop b st s J=>∃pend,h.get (v.b b)=some (.loop (lst? st) pend (v.l s).env (v.l s).ps (v.l s).a (v.l s).b)∧(st=0→pend=none)∧(st=1→pend≠none)∧(∀j,pend=some j→j∈J)
def adr(v:V):BE→List Nat
 | .blk b _ _=>[v.b b]
 | .vec b _ _ len _=>if len.ev v=0 then [] else [v.b b]
 | .map b _ _ _ _=>[v.b b]
 | .emap b=>[v.b b]
 | .loop b _ _ _=>[v.b b]
structure St where
 n:Nat
 env:List AV
 fa:List Fact
 bl:List BE
structure Cx where
 h0:H
 F:List Nat
structure Sat0 (X:Cx) (v:V) (st:St) (env:List CV) (h:H):Prop where
 z:v.i 0=0
 env:env=aF v st.env
 fa:∀f,f∈st.fa→FOK v f
 bl:∀p,p∈st.bl→BOK v h p
 nd:(st.bl.flatMap (adr v)).Nodup
 lt:∀p,p∈st.bl→∀a,a∈adr v p→a < h.n∧(a∈X.F∨X.h0.n≤a)
 hn:X.h0.n≤h.n
 fr:∀j,j < X.h0.n→j∉X.F→h.get j=X.h0.get j
structure Sat (X:Cx) (v:V) (st:St) (env:List CV) (h:H):Prop where
 pos:0 < st.n
 all:∀w,Agr st.n v w→Sat0 X w st env h
theorem Sat.now{X:Cx}{v:V}{st:St}{env:List CV}{h:H}(s:Sat X v st env h):Sat0 X v st env h:=s.all v (Agr.refl _ _)
theorem Sat.agr{X:Cx}{v w:V}{st:St}{env:List CV}{h:H}(s:Sat X v st env h)(a:Agr st.n v w):Sat X w st env h:=⟨s.pos,fun u hu=>s.all u (a.trans hu (aV _))⟩
theorem fD(v:V)(l:List AV):aF v l=l.map (den v):=by
 induction l with
 | nil=>rfl
 | cons a l ih=>simp only [aF,ih,List.map]
theorem gC(v:V)(l:List (List AV)):jJ v l=l.map (aF v):=by
 induction l with
 | nil=>rfl
 | cons a l ih=>simp only [jJ,ih,List.map]
theorem aq(v:V)(l:List AV):(aF v l).length=l.length:=by rw [fD]; simp
theorem cX(v:V)(a b:List AV):aF v (a++b)=aF v a++aF v b:=by simp [fD]
theorem oF(v:V)(n:Nat)(l:List AV):aF v (l.take n)=(aF v l).take n:=by simp [fD,List.map_take]
theorem jK(v:V)(n:Nat)(l:List AV):aF v (l.drop n)=(aF v l).drop n:=by simp [fD,List.map_drop]
def dE:AV:=.tup []
theorem qFU(v:V):den v dE=undef:=rfl
noncomputable def j6(l:List AV)(n:Nat):AV:=List.rec (motive:=fun _=>Nat→AV) (fun _=>dE) (fun a _ ih n=>Nat.rec (motive:=fun _=>AV) a (fun m _=>ih m) n) l n
theorem gB(v:V)(l:List AV)(n:Nat):aR (aF v l) n=den v (j6 l n):=by
 induction l generalizing n with
 | nil=>rfl
 | cons a l ih=>cases n with
  | zero=>rfl
  | succ n=>exact ih n
noncomputable def po(l:List AV)(n:Nat)(v:AV):List AV:=List.rec (motive:=fun _=>Nat→List AV) (fun _=>[]) (fun a l ih n=>Nat.rec (motive:=fun _=>List AV) (v::l) (fun m _=>a::ih m) n) l n
theorem jw(v:V)(l:List AV)(n:Nat)(a:AV):aL (aF v l) n (den v a)=aF v (po l n a):=by
 induction l generalizing n with
 | nil=>rfl
 | cons b l ih=>cases n with
  | zero=>rfl
  | succ n=>show aL (den v b::aF v l) (n+1) (den v a)=den v b::aF v (po l n a); rw [←ih n]; rfl
noncomputable def putA(l:List AV)(d:Option Nat)(a:AV):List AV:=match d with
 | none=>l
 | some d=>po l d a
theorem qIA(v:V)(l:List AV)(d:Option Nat)(a:AV):put? (aF v l) d (den v a)=aF v (putA l d a):=by
 cases d with
 | none=>rfl
 | some d=>exact jw v l d a
def qHV:Nat→List AV
 | 0=>[]
 | n+1=>dE::qHV n
theorem qHU(v:V)(n:Nat):aF v (qHV n)=cB n:=by
 induction n with
 | zero=>rfl
 | succ n ih=>simp only [qHV,aF,cB,ih,qFU]
def lV{α:Type}:List α→Nat→Option α
 | [],_=>none
 | a::_,0=>some a
 | _::l,n+1=>lV l n
theorem jH{v:V}{l:List AV}{n:Nat}{a:AV}(h:lV l n=some a):nth? (aF v l) n=some (den v a):=by
 induction l generalizing n with
 | nil=>cases h
 | cons b l ih=>cases n with
  | zero=>simp only [lV,sI] at h; subst h; rfl
  | succ n=>exact ih h
mutual
def gy:CV→Option AV
 | .bool b=>some (.bool b)
 | .int k n=>some (.int k 0 n)
 | .str s=>some (.str s)
 | .nilp=>some .nilp
 | .nils=>some .nils
 | .nilm=>some .nilm
 | .nilf=>some .nilf
 | .nili=>some .nili
 | .clo f a b=>match jF a,jF b with
  | some a,some b=>some (.clo f a b)
  | _,_=>none
 | .agg l=>match jF l with
  | some l=>some (.agg l)
  | none=>none
 | .tup l=>match jF l with
  | some l=>some (.tup l)
  | none=>none
 | _=>none
def jF:List CV→Option (List AV)
 | []=>some []
 | c::cs=>match gy c,jF cs with
  | some a,some l=>some (a::l)
  | _,_=>none
end
mutual
theorem mU {v:V} (z:v.i 0=0):∀(c:CV) (a:AV),gy c=some a→den v a=c
 | .bool b,a,h=>by simp only [gy,sI] at h; subst h; rfl
 | .int k n,a,h=>by simp only [gy,sI] at h; subst h; simp only [den,z,Int.zero_add]
 | .str s,a,h=>by simp only [gy,sI] at h; subst h; rfl
 | .nilp,a,h=>by simp only [gy,sI] at h; subst h; rfl
 | .nils,a,h=>by simp only [gy,sI] at h; subst h; rfl
 | .nilm,a,h=>by simp only [gy,sI] at h; subst h; rfl
 | .nilf,a,h=>by simp only [gy,sI] at h; subst h; rfl
 | .nili,a,h=>by simp only [gy,sI] at h; subst h; rfl
 | .clo f x y,a,h=>by
  simp only [gy] at h;split at h
  ·rename_i x' y' hx hy;simp only [sI] at h; subst h;simp only [den,dR z x x' hx,dR z y y' hy]
  ·cases h
 | .agg l,a,h=>by
  simp only [gy] at h;split at h
  ·rename_i x' hx;simp only [sI] at h; subst h;simp only [den,dR z l x' hx]
  ·cases h
 | .tup l,a,h=>by
  simp only [gy] at h;split at h
  ·rename_i x' hx;simp only [sI] at h; subst h;simp only [den,dR z l x' hx]
  ·cases h
 | .ptr _ _,a,h=>by simp only [gy] at h; cases h
 | .rptr _,a,h=>by simp only [gy] at h; cases h
 | .slc _ _ _ _ _,a,h=>by simp only [gy] at h; cases h
 | .lst _ _,a,h=>by simp only [gy] at h; cases h
 | .map _,a,h=>by simp only [gy] at h; cases h
 | .yld _,a,h=>by simp only [gy] at h; cases h
 | .ifc _ _,a,h=>by simp only [gy] at h; cases h
theorem dR {v:V} (z:v.i 0=0):∀(c:List CV) (a:List AV),jF c=some a→aF v a=c
 | [],a,h=>by simp only [jF,sI] at h; subst h; rfl
 | c::cs,a,h=>by
  simp only [jF] at h;split at h
  ·rename_i x' y' hx hy;simp only [sI] at h; subst h;simp only [aF,mU z c x' hx,dR z cs y' hy]
  ·cases h
end
noncomputable def opA(env:List AV):Opd→Option AV
 | .t i=>some (j6 env i)
 | .c v=>gy v
theorem iX{v:V}(z:v.i 0=0){env:List AV}{o:Opd}{a:AV}(h:opA env o=some a):o.ev (aF v env)=den v a:=by
 cases o with
 | t i=>simp only [opA,sI] at h; subst h; exact gB v env i
 | c x=>exact (mU z x a h).symm
noncomputable def qG(env:List AV):List Opd→Option (List AV)
 | []=>some []
 | o::os=>match opA env o,qG env os with
  | some a,some l=>some (a::l)
  | _,_=>none
theorem qIH{v:V}(z:v.i 0=0){env:List AV}{o:List Opd}{a:List AV}(h:qG env o=some a):evs (aF v env) o=aF v a:=by
 induction o generalizing a with
 | nil=>simp only [qG,sI] at h; subst h; rfl
 | cons x xs ih =>
  simp only [qG] at h;split at h
  ·rename_i x' y' hx hy;simp only [sI] at h; subst h;simp only [evs,aF,iX z hx,ih hy]
  ·cases h
end Ce.S
namespace Ce.S
noncomputable section
open Go
noncomputable def leI(a b:Int):Bool:=Int.rec (motive:=fun _=>Bool) (fun m=>Int.rec (motive:=fun _=>Bool) (fun n=>Nat.ble m n) (fun _=>false) b) (fun m=>Int.rec (motive:=fun _=>Bool) (fun _=>true) (fun n=>Nat.ble n m) b) a
theorem pL(a b:Int):leI a b=true↔a≤b:=by
 cases a<;>cases b<;>simp [leI]<;>omega
noncomputable def qFT(rec:Nat→Int→Bool)(c:Int)(l:List (Nat × Int)):Bool:=List.rec (motive:=fun _=>Bool) false (fun p _ ih=>Bool.rec (motive:=fun _=>Bool) ih true (rec p.1 (c - p.2))) l
theorem nbeq(a b:Nat):(a==b)=Nat.beq a b:=by
 cases h:Nat.beq a b with
 | true=>rw [nQ h]; simp
 | false=>have:=Nat.ne_of_beq_eq_false h; simpa using this
theorem qFS{rec:Nat→Int→Bool}{c:Int}{b:Nat}{d:Int}{r:List (Nat × Int)}:qFT rec c ((b,d)::r)=(rec b (c - d) || qFT rec c r):=by
 show Bool.rec (motive:=fun _=>Bool) (qFT rec c r) true (rec b (c - d))=_
 cases rec b (c - d)<;>rfl
noncomputable def ql(rec:Nat→Int→Bool)(x:Nat)(c:Int):List Fact→Bool
 | []=>false
 | .dc a b d::r=>Bool.rec (motive:=fun _=>Bool) (ql rec x c r) (Bool.rec (motive:=fun _=>Bool) (ql rec x c r) true (rec b (c - d))) (Nat.beq a x)
 | .ixd fw _::_=>qFT rec c (edg fw x)
 | _::r=>ql rec x c r
theorem qXX{rec:Nat→Int→Bool}{x a b:Nat}{c d:Int}{r:List Fact}:ql rec x c (.dc a b d::r)=((a==x&&rec b (c - d)) || ql rec x c r):=by
 show Bool.rec (motive:=fun _=>Bool) (ql rec x c r) (Bool.rec (motive:=fun _=>Bool) (ql rec x c r) true (rec b (c - d))) (Nat.beq a x)=_
 have:=nbeq a x;rw [this];cases Nat.beq a x<;>cases rec b (c - d)<;>rfl
noncomputable def qm(rec:Nat→Int→Bool)(y:Nat)(c:Int):List Fact→Bool
 | []=>false
 | .dc a b d::r=>Bool.rec (motive:=fun _=>Bool) (qm rec y c r) (Bool.rec (motive:=fun _=>Bool) (qm rec y c r) true (rec a (c - d))) (Nat.beq b y)
 | .ixd _ bw::_=>qFT rec c (edg bw y)
 | _::r=>qm rec y c r
theorem qXZ{rec:Nat→Int→Bool}{y a b:Nat}{c d:Int}{r:List Fact}:qm rec y c (.dc a b d::r)=((b==y&&rec a (c - d)) || qm rec y c r):=by
 show Bool.rec (motive:=fun _=>Bool) (qm rec y c r) (Bool.rec (motive:=fun _=>Bool) (qm rec y c r) true (rec a (c - d))) (Nat.beq b y)=_
 have:=nbeq b y;rw [this];cases Nat.beq b y<;>cases rec a (c - d)<;>rfl
noncomputable def ent(fa:List Fact)(n:Nat):Nat→Nat→Int→Bool:=Nat.rec (motive:=fun _=>Nat→Nat→Int→Bool) (fun x y c=>Bool.rec (motive:=fun _=>Bool) false (leI 0 c) (Nat.beq x y))
 (fun _ ih x y c=>Bool.rec (motive:=fun _=>Bool) (Bool.rec (motive:=fun _=>Bool) false (Nat.rec (motive:=fun _=>Bool) (qm (fun z d=>ih 0 z d) y c fa) (fun m _=>ql (fun z d=>ih z y d) (Nat.succ m) c fa) x) (leI (-1099511627776) c)) true (Bool.rec (motive:=fun _=>Bool) false (leI 0 c) (Nat.beq x y))) n
theorem wY{fa:List Fact}{x y:Nat}{c:Int}:ent fa 0 x y c=(x==y&&decide (0≤c)):=by
 show Bool.rec (motive:=fun _=>Bool) false (leI 0 c) (Nat.beq x y)=_
 have h1:=nbeq x y;have h2:decide (0≤c)=leI 0 c:=by
  cases h:leI 0 c with
  | true=>simpa using (pL 0 c).1 h
  | false =>
   have:¬(0≤c):=fun hc=>by rw [(pL 0 c).2 hc] at h; cases h
   simpa using this
 rw [h1,h2];cases Nat.beq x y<;>rfl
theorem qLL{fa:List Fact}{n x y:Nat}{c:Int}:ent fa (n+1) x y c=((x==y&&decide (0≤c)) || (decide (-1099511627776≤c)&&(match x with
  | 0=>qm (fun z d=>ent fa n 0 z d) y c fa
  | x+1=>ql (fun z d=>ent fa n z y d) (x+1) c fa))):=by
 rw [←wY (fa:=fa)];have h2:decide (-1099511627776≤c)=leI (-1099511627776) c:=by
  cases h:leI (-1099511627776) c with
  | true=>simpa using (pL _ c).1 h
  | false =>
   have:¬(-1099511627776≤c):=fun hc=>by rw [(pL _ c).2 hc] at h; cases h
   simpa using this
 rw [h2]
 show Bool.rec (motive:=fun _=>Bool) (Bool.rec (motive:=fun _=>Bool) false (Nat.rec (motive:=fun _=>Bool) (qm (fun z d=>ent fa n 0 z d) y c fa) (fun m _=>ql (fun z d=>ent fa n z y d) (Nat.succ m) c fa) x) (leI (-1099511627776) c)) true (ent fa 0 x y c)=_
 cases ent fa 0 x y c<;>cases leI (-1099511627776) c<;>cases x<;>rfl
theorem uW{p:Nat→Int→Prop}{c:Int}{rec:Nat→Int→Bool}:∀{l:List (Nat × Int)},qFT rec c l=true→∃b d,(b,d)∈l∧rec b (c - d)=true
 | [],h=>by cases h
 | (b,d)::r,h=>by
  simp only [qFS,bU] at h;rcases h with h | h
  ·exact ⟨b,d,mS,h⟩
  ·obtain ⟨b',d',h1,h2⟩:=uW (p:=p) h;exact ⟨b',d',mC _ h1,h2⟩
theorem qXW{v:V}{y:Nat}{rec:Nat→Int→Bool}(hr:∀z d,rec z d=true→v.i z - v.i y≤d){x:Nat}{c:Int}:∀{fa:List Fact},(∀f,f∈fa→FOK v f)→ql rec x c fa=true→v.i x - v.i y≤c:=by
 intro fa
 induction fa with
 | nil=>intro _ h; cases h
 | cons f r ih =>
  intro hf h;have hrest:=ih (fun f hm=>hf f (mC _ hm));have h0:=hf f (mS);cases f with
  | dc a b d =>
   simp only [qXX,bU,aT,aZ] at h;rcases h with ⟨rfl,h⟩ | h
   ·have:=hr _ _ h; simp only [FOK] at h0; omega
   ·exact hrest h
  | ty s T=>exact hrest h
  | len s t=>exact hrest h
  | row s i cs=>exact hrest h
  | pre s i R=>exact hrest h
  | sum a b t c=>exact hrest h
  | csum t up dn=>exact hrest h
  | ln x0 y0 z0 k0 c0=>exact hrest h
  | prm xs ys=>exact hrest h
  | pimp s0 i0 k1 c0 k2 lo hi=>exact hrest h
  | cnd a0 c0 b0 lo hi=>exact hrest h
  | lc s0 e0 p0 a0 b0=>exact hrest h
  | ixd fw bw =>
   obtain ⟨b,d,h1,h2⟩:=uW (p:=fun _ _=>True) h;have:=h0.1 x b d h1; have:=hr _ _ h2; omega
theorem qXY{v:V}{x:Nat}{rec:Nat→Int→Bool}(hr:∀z d,rec z d=true→v.i x - v.i z≤d){y:Nat}{c:Int}:∀{fa:List Fact},(∀f,f∈fa→FOK v f)→qm rec y c fa=true→v.i x - v.i y≤c:=by
 intro fa
 induction fa with
 | nil=>intro _ h; cases h
 | cons f r ih =>
  intro hf h;have hrest:=ih (fun f hm=>hf f (mC _ hm));have h0:=hf f (mS);cases f with
  | dc a b d =>
   simp only [qXZ,bU,aT,aZ] at h;rcases h with ⟨rfl,h⟩ | h
   ·have:=hr _ _ h; simp only [FOK] at h0; omega
   ·exact hrest h
  | ty s T=>exact hrest h
  | len s t=>exact hrest h
  | row s i cs=>exact hrest h
  | pre s i R=>exact hrest h
  | sum a b t c=>exact hrest h
  | csum t up dn=>exact hrest h
  | ln x0 y0 z0 k0 c0=>exact hrest h
  | prm xs ys=>exact hrest h
  | pimp s0 i0 k1 c0 k2 lo hi=>exact hrest h
  | cnd a0 c0 b0 lo hi=>exact hrest h
  | lc s0 e0 p0 a0 b0=>exact hrest h
  | ixd fw bw =>
   obtain ⟨b,d,h1,h2⟩:=uW (p:=fun _ _=>True) h;have:=h0.2 y b d h1; have:=hr _ _ h2; omega
theorem yZ{v:V}{fa:List Fact}(hf:∀f,f∈fa→FOK v f):∀(n x y:Nat) (c:Int),ent fa n x y c=true→v.i x - v.i y≤c:=by
 intro n
 induction n with
 | zero =>
  intro x y c h;simp only [wY,aT,aZ,dT] at h;obtain ⟨rfl,h⟩:=h; omega
 | succ n ih =>
  intro x y c h;simp only [qLL,bU,aT,aZ,dT] at h;rcases h with ⟨rfl,h⟩ | ⟨_,h⟩
  ·omega
  ·split at h
   ·exact qXY (fun z d hz=>ih 0 z d hz) hf h
   ·exact qXW (fun z d hz=>ih z y d hz) hf h
noncomputable def dle(fa:List Fact)(x y:Nat)(c:Int):Bool:=Bool.rec (motive:=fun _=>Bool) (ent fa 3 x y c) true (ent fa 1 x y c)
theorem kM{v:V}{fa:List Fact}(hf:∀f,f∈fa→FOK v f){x y:Nat}{c:Int}(h:dle fa x y c=true):v.i x - v.i y≤c:=by
 unfold dle at h;cases h1:ent fa 1 x y c with
 | true=>exact yZ hf _ _ _ _ h1
 | false=>rw [h1] at h; exact yZ hf _ _ _ _ h
def leL(fa:List Fact)(a b:Lin)(d:Int):Bool:=dle fa a.s b.s (d - a.c+b.c)
theorem aE{v:V}{fa:List Fact}(hf:∀f,f∈fa→FOK v f){a b:Lin}{d:Int}(h:leL fa a b d=true):a.ev v - b.ev v≤d:=by
 have:=kM hf h; simp only [Lin.ev]; omega
def be(fa:List Fact)(a b:Lin):Bool:=decide (a=b) || (leL fa a b 0&&leL fa b a 0)
theorem aj{v:V}{fa:List Fact}(hf:∀f,f∈fa→FOK v f){a b:Lin}(h:be fa a b=true):a.ev v=b.ev v:=by
 simp only [be,bU,aT,dT] at h;rcases h with rfl | ⟨h1,h2⟩
 ·rfl
 ·have:=aE hf h1; have:=aE hf h2; omega
def V.up(v:V)(n:Nat)(i:Int)(c:CV)(b:Nat)(l:LC):V:=⟨fun s=>if s=n then i else v.i s,fun s=>if s=n then c else v.c s,fun s=>if s=n then b else v.b s,fun s=>if s=n then l else v.l s⟩
theorem bg(v:V)(n:Nat)(i:Int)(c:CV)(b:Nat)(l:LC):Agr n v (v.up n i c b l):=fun s hs=>by
 have hne:s≠n:=by omega
 simp only [V.up,aC hne,and_self]
theorem bQ{v w:V}{n:Nat}{i:Int}{c:CV}{b:Nat}{l:LC}(h:Agr (n+1) (v.up n i c b l) w):Agr n v w∧w.i n=i∧w.c n=c∧w.b n=b∧w.l n=l:=by
 refine ⟨(bg v n i c b l).trans h (by omega),?_⟩;obtain ⟨h1,h2,h3,h4⟩:=h n (by omega);simp only [V.up,aH] at h1 h2 h3 h4;exact ⟨h1.symm,h2.symm,h3.symm,h4.symm⟩
def upI(v:V)(n:Nat)(i:Int):V:=v.up n i (v.c n) (v.b n) (v.l n)
def upC(v:V)(n:Nat)(c:CV):V:=v.up n (v.i n) c (v.b n) (v.l n)
def upB(v:V)(n:Nat)(b:Nat):V:=v.up n (v.i n) (v.c n) b (v.l n)
mutual
def frT (n:Nat):Ty→AV × List Fact × Nat
 | .int k lo hi=>(.int k n 0,[.dc lo.s n (-lo.c),.dc n hi.s hi.c],n+1)
 | .bool=>(.sym n,[.ty n .bool],n+1)
 | .str=>(.sym n,[.ty n .str],n+1)
 | .lst R lo hi=>(.sym n,[.ty n (.lst R lo hi)],n+1)
 | .agg l=>match bS n l with
  | (as,fs,m)=>(.agg as,fs,m)
def bS (n:Nat):List Ty→List AV × List Fact × Nat
 | []=>([],[],n)
 | T::Ts=>match frT n T with
  | (a,fs,m)=>match bS m Ts with
   | (as,gs,k)=>(a::as,fs++gs,k)
end
mutual
theorem yU:∀(T:Ty) (n:Nat) (v:V) (c:CV),(∀w,Agr n v w→av w T c)→n≤(frT n T).2.2∧∃w,Agr n v w∧∀u,Agr (frT n T).2.2 w u→den u (frT n T).1=c∧∀f,f∈(frT n T).2.1→FOK u f
 | .int k lo hi,n,v,c,h=>by
  refine ⟨dZ n,?_⟩;obtain ⟨m,hc,_,_⟩:=h v (Agr.refl _ _);refine ⟨upI v n m,bg _ _ _ _ _ _,fun u hu=>?_⟩;obtain ⟨ha,hi',_⟩:=bQ hu;obtain ⟨m',hc',hlo,hhi⟩:=h u ha;rw [hc] at hc'; cases hc';refine ⟨?_,?_⟩
  ·simp only [frT,den,hi',eV,hc]
  ·intro f hf;simp only [frT,aS,bz,br] at hf;simp only [Lin.ev] at hlo hhi;rcases hf with rfl | rfl<;>simp only [FOK]<;>omega
 | .bool,n,v,c,h=>by
  refine ⟨dZ n,upC v n c,bg _ _ _ _ _ _,fun u hu=>?_⟩;obtain ⟨ha,_,hc,_⟩:=bQ hu;refine ⟨hc,fun f hf=>?_⟩;simp only [frT,aS,bz,br] at hf;subst hf; simp only [FOK,hc]; exact h u ha
 | .str,n,v,c,h=>by
  refine ⟨dZ n,upC v n c,bg _ _ _ _ _ _,fun u hu=>?_⟩;obtain ⟨ha,_,hc,_⟩:=bQ hu;refine ⟨hc,fun f hf=>?_⟩;simp only [frT,aS,bz,br] at hf;subst hf; simp only [FOK,hc]; exact h u ha
 | .lst R lo hi,n,v,c,h=>by
  refine ⟨dZ n,upC v n c,bg _ _ _ _ _ _,fun u hu=>?_⟩;obtain ⟨ha,_,hc,_⟩:=bQ hu;refine ⟨hc,fun f hf=>?_⟩;simp only [frT,aS,bz,br] at hf;subst hf; simp only [FOK,hc]; exact h u ha
 | .agg l,n,v,c,h=>by
  obtain ⟨cs,hc,_⟩:=h v (Agr.refl _ _);have hs:∀w,Agr n v w→a8 w l cs:=fun w hw=>by
   obtain ⟨cs',hc',hcs⟩:=h w hw;rw [hc] at hc'; cases hc'; exact hcs
  obtain ⟨hle,w,hw,hall⟩:=i4 l n v cs hs;refine ⟨hle,w,hw,fun u hu=>?_⟩;obtain ⟨hd,hf⟩:=hall u hu;exact ⟨by simp only [frT,den,hd,hc],hf⟩
theorem i4:∀(T:List Ty) (n:Nat) (v:V) (c:List CV),(∀w,Agr n v w→a8 w T c)→n≤(bS n T).2.2∧∃w,Agr n v w∧∀u,Agr (bS n T).2.2 w u→aF u (bS n T).1=c∧∀f,f∈(bS n T).2.1→FOK u f
 | [],n,v,c,h=>by
  refine ⟨aV n,v,Agr.refl _ _,fun u _=>⟨?_,fun f hf=>by cases hf⟩⟩;have:=h v (Agr.refl _ _);simp only [a8] at this;rw [this]; rfl
 | T::Ts,n,v,c,h=>by
  obtain ⟨x,xs,hc,_,_⟩:=h v (Agr.refl _ _);have h1:∀w,Agr n v w→av w T x∧a8 w Ts xs:=fun w hw=>by
   obtain ⟨x',xs',hc',hx,hxs⟩:=h w hw;rw [hc] at hc'; cases hc'; exact ⟨hx,hxs⟩
  obtain ⟨hle,w,hw,hall⟩:=yU T n v x (fun w hw=>(h1 w hw).1);obtain ⟨hle2,w2,hw2,hall2⟩:=i4 Ts (frT n T).2.2 w xs (fun w' hw'=>(h1 w' (hw.trans hw' hle)).2);refine ⟨cz hle hle2,w2,hw.trans hw2 hle,fun u hu=>?_⟩;obtain ⟨hd,hf⟩:=hall u (hw2.trans hu hle2);obtain ⟨hd2,hf2⟩:=hall2 u hu;refine ⟨?_,fun f hm=>?_⟩
  ·simp only [bS,aF,hd,hd2,hc]
  ·simp only [bS,bP] at hm;rcases hm with hm | hm
   ·exact hf f hm
   ·exact hf2 f hm
end
structure Sub where
 i:List (Nat × Lin)
 c:List (Nat × AV)
 b:List (Nat × Nat)
 lo:Nat
 base:Nat
 sh:Nat
noncomputable def ir{α:Type}(l:List (Nat × α))(n:Nat):Option α:=List.rec (motive:=fun _=>Option α) none (fun p _ ih=>Bool.rec (motive:=fun _=>Option α) ih (some p.2) (Nat.beq p.1 n)) l
theorem kv{α:Type}(k:Nat)(a:α)(l:List (Nat × α))(n:Nat):ir ((k,a)::l) n=if k=n then some a else ir l n:=by
 show Bool.rec (motive:=fun _=>Option α) (ir l n) (some a) (Nat.beq k n)=_
 by_cases h:k=n
 ·subst h; rw [Nat.beq_refl,aH rfl]
 ·rw [aC h];cases hb:Nat.beq k n with
  | false=>rfl
  | true=>exact absurd (nQ hb) h
noncomputable def xH{α:Type}(lo hi:Nat)(p:α→Bool)(l:List (Nat × α)):Bool:=List.rec (motive:=fun _=>Bool) true (fun x _ ih=>Bool.rec (motive:=fun _=>Bool) false (Bool.rec (motive:=fun _=>Bool) false (Bool.rec (motive:=fun _=>Bool) false ih (p x.2)) (Nat.blt x.1 hi)) (Nat.ble lo x.1)) l
theorem tQ{α:Type}{lo hi:Nat}{p:α→Bool}{x:Nat × α}{l:List (Nat × α)}(h:xH lo hi p (x::l)=true):(lo≤x.1∧x.1 < hi∧p x.2=true)∧xH lo hi p l=true:=by
 have h:Bool.rec (motive:=fun _=>Bool) false (Bool.rec (motive:=fun _=>Bool) false (Bool.rec (motive:=fun _=>Bool) false (xH lo hi p l) (p x.2)) (Nat.blt x.1 hi)) (Nat.ble lo x.1)=true:=h;cases h1:Nat.ble lo x.1 with
 | false=>rw [h1] at h; cases h
 | true =>
  rw [h1] at h;cases h2:Nat.blt x.1 hi with
  | false=>rw [h2] at h; cases h
  | true =>
   rw [h2] at h;cases h3:p x.2 with
   | false=>rw [h3] at h; cases h
   | true =>
    rw [h3] at h;have h2':Nat.ble (x.1+1) hi=true:=h2;exact ⟨⟨el h1,el h2',rfl⟩,h⟩
def Sub.nu(θ:Sub)(s:Nat):Nat:=if s < θ.lo then s else if s < θ.base then 0 else θ.sh+(s - θ.base)
def Sub.iL(θ:Sub)(s:Nat):Lin:=match Nat.blt s θ.lo with
 | true=>⟨s,0⟩
 | false=>match ir θ.i s with
  | some l=>l
  | none=>⟨θ.nu s,0⟩
def Sub.cA(θ:Sub)(s:Nat):AV:=match Nat.blt s θ.lo with
 | true=>.sym s
 | false=>match ir θ.c s with
  | some l=>l
  | none=>.sym (θ.nu s)
def Sub.bN(θ:Sub)(s:Nat):Nat:=match Nat.blt s θ.lo with
 | true=>s
 | false=>match ir θ.b s with
  | some l=>l
  | none=>θ.nu s
theorem zBZ{a b:Nat}(h:a < b):Nat.blt a b=true:=tT h
theorem zC0{a b:Nat}(h:b≤a):Nat.blt a b=false:=by
 cases hb:Nat.blt a b with
 | false=>rfl
 | true =>
  have hb':Nat.ble (a+1) b=true:=hb;have:=el hb'; omega
def V.comp(v:V)(θ:Sub):V:=⟨fun s=>(θ.iL s).ev v,fun s=>den v (θ.cA s),fun s=>v.b (θ.bN s),fun s=>v.l (θ.nu s)⟩
def dH(θ:Sub)(l:Lin):Lin:=⟨(θ.iL l.s).s,(θ.iL l.s).c+l.c⟩
theorem bG(v:V)(θ:Sub)(l:Lin):(dH θ l).ev v=l.ev (v.comp θ):=by simp only [dH,Lin.ev,V.comp]; omega
mutual
def iy (θ:Sub):AV→AV
 | .bool b=>.bool b
 | .cmp x y c=>.cmp (θ.iL x).s (θ.iL y).s (c - (θ.iL x).c+(θ.iL y).c)
 | .eqc neg x y c=>.eqc neg (θ.iL x).s (θ.iL y).s (c - (θ.iL x).c+(θ.iL y).c)
 | .int k s c=>.int k (θ.iL s).s ((θ.iL s).c+c)
 | .sym s=>θ.cA s
 | .str s=>.str s
 | .nilp=>.nilp
 | .nils=>.nils
 | .nilm=>.nilm
 | .nilf=>.nilf
 | .nili=>.nili
 | .ptr b off=>.ptr (θ.bN b) off
 | .iptr b off k i=>.iptr (θ.bN b) off k (dH θ i)
 | .rptr cs=>.rptr (jt θ cs)
 | .slc k b off i len cap=>.slc k (θ.bN b) off (dH θ i) (dH θ len) (dH θ cap)
 | .vec k b len=>.vec k (θ.bN b) (dH θ len)
 | .slv k b i len=>.slv k (θ.bN b) (dH θ i) (dH θ len)
 | .lrows rows ex=>.lrows (qNH θ rows) ex
 | .map b=>.map (θ.bN b)
 | .clo f a b=>.clo f (jt θ a) (jt θ b)
 | .yld b=>.yld (θ.bN b)
 | .agg l=>.agg (jt θ l)
 | .tup l=>.tup (jt θ l)
def jt (θ:Sub):List AV→List AV
 | []=>[]
 | a::l=>iy θ a::jt θ l
def qNH (θ:Sub):List (List AV)→List (List AV)
 | []=>[]
 | a::l=>jt θ a::qNH θ l
end
mutual
theorem pd (v:V) (θ:Sub):∀a:AV,den v (iy θ a)=den (v.comp θ) a
 | .bool b=>rfl
 | .cmp x y c=>by
  simp only [iy,den];exact congrArg CV.bool (decide_eq_decide.mpr (by simp only [V.comp,Lin.ev]; omega))
 | .eqc neg x y c=>by
  simp only [iy,den];exact congrArg (fun b=>CV.bool (b != neg)) (decide_eq_decide.mpr (by simp only [V.comp,Lin.ev]; omega))
 | .int k s c=>by simp only [iy,den,V.comp,Lin.ev]; congr 1; omega
 | .sym s=>rfl
 | .str s=>rfl
 | .nilp=>rfl
 | .nils=>rfl
 | .nilm=>rfl
 | .nilf=>rfl
 | .nili=>rfl
 | .ptr b off=>rfl
 | .iptr b off k i=>by simp only [iy,den,bG]; rfl
 | .rptr cs=>by simp only [iy,den,dr v θ cs]
 | .slc k b off i len cap=>by simp only [iy,den,bG]; rfl
 | .vec k b len=>by simp only [iy,den,bG]; rfl
 | .slv k b i len=>by simp only [iy,den,bG]; rfl
 | .lrows rows ex=>by simp only [iy,den,ur v θ rows]
 | .map b=>rfl
 | .clo f a b=>by simp only [iy,den,dr v θ a,dr v θ b]
 | .yld b=>rfl
 | .agg l=>by simp only [iy,den,dr v θ l]
 | .tup l=>by simp only [iy,den,dr v θ l]
theorem dr (v:V) (θ:Sub):∀a:List AV,aF v (jt θ a)=aF (v.comp θ) a
 | []=>rfl
 | a::l=>by simp only [jt,aF,pd v θ a,dr v θ l]
theorem ur (v:V) (θ:Sub):∀a:List (List AV),jJ v (qNH θ a)=jJ (v.comp θ) a
 | []=>rfl
 | a::l=>by simp only [qNH,jJ,dr v θ a,ur v θ l]
end
mutual
def ol (θ:Sub):Ty→Ty
 | .int k lo hi=>.int k (dH θ lo) (dH θ hi)
 | .bool=>.bool
 | .str=>.str
 | .lst R lo hi=>.lst (fx θ R) (dH θ lo) (dH θ hi)
 | .agg l=>.agg (fx θ l)
def fx (θ:Sub):List Ty→List Ty
 | []=>[]
 | T::Ts=>ol θ T::fx θ Ts
end
mutual
theorem jS (v:V) (θ:Sub):∀(T:Ty) (c:CV),av v (ol θ T) c↔av (v.comp θ) T c
 | .int k lo hi,c=>by simp only [ol,av,bG]
 | .bool,c=>by simp only [ol,av]
 | .str,c=>by simp only [ol,av]
 | .lst R lo hi,c=>by simp only [ol,av,bG,gq v θ R]
 | .agg l,c=>by simp only [ol,av,gq v θ l]
theorem gq (v:V) (θ:Sub):∀(T:List Ty) (c:List CV),a8 v (fx θ T) c↔a8 (v.comp θ) T c
 | [],c=>by simp only [fx,a8]
 | T::Ts,c=>by simp only [fx,a8,jS v θ T,gq v θ Ts]
end
theorem ti(θ:Sub)(R:List Ty):(fx θ R).length=R.length:=by
 induction R with
 | nil=>rfl
 | cons T Ts ih=>simp only [fx,eZ,ih]
def ix(θ:Sub):Fact→Option Fact
 | .dc x y c=>some (.dc (θ.iL x).s (θ.iL y).s (c - (θ.iL x).c+(θ.iL y).c))
 | .ty s T=>match θ.cA s with
  | .sym s'=>some (.ty s' (ol θ T))
  | _=>none
 | .len s t=>match θ.cA s,θ.iL t with
  | .sym s',⟨t',0⟩=>some (.len s' t')
  | _,_=>none
 | .row s i cs=>match θ.cA s with
  | .sym s'=>some (.row s' (dH θ i) (jt θ cs))
  | _=>none
 | .pre s i R=>match θ.cA s with
  | .sym s'=>some (.pre s' (dH θ i) (fx θ R))
  | _=>none
 | .ixd _ _=>none
 | .sum _ _ _ _=>none
 | .csum _ _ _=>none
 | .ln _ _ _ _ _=>none
 | .prm _ _=>none
 | .pimp s i k1 c k2 lo hi=>match θ.cA s with
  | .sym s'=>some (.pimp s' (dH θ i) k1 c k2 (dH θ lo) (dH θ hi))
  | _=>none
 | .cnd _ _ _ _ _=>none
 | .lc _ _ _ _ _=>none
theorem zY{v:V}{θ:Sub}{f g:Fact}(hs:ix θ f=some g)(h:FOK (v.comp θ) f):FOK v g:=by
 cases f with
 | dc x y c =>
  simp only [ix,sI] at hs; subst hs;simp only [FOK,V.comp,Lin.ev] at h ⊢; omega
 | ty s T =>
  simp only [ix] at hs;split at hs
  ·rename_i s' he;simp only [sI] at hs; subst hs;simp only [FOK] at h ⊢;have:(v.comp θ).c s=v.c s':=by simp only [V.comp,he,den]
   rw [this] at h;exact (jS v θ T _).2 h
  ·cases hs
 | len s t =>
  simp only [ix] at hs;split at hs
  ·rename_i s' t' he ht;simp only [sI] at hs; subst hs;simp only [FOK] at h ⊢;have h1:(v.comp θ).c s=v.c s':=by simp only [V.comp,he,den]
   have h2:(v.comp θ).i t=v.i t':=by simp only [V.comp,ht,Lin.ev,eV]
   rw [h1,h2] at h; exact h
  ·cases hs
 | row s i cs =>
  simp only [ix] at hs;split at hs
  ·rename_i s' he;simp only [sI] at hs; subst hs;simp only [FOK] at h ⊢;have h1:(v.comp θ).c s=v.c s':=by simp only [V.comp,he,den]
   rw [h1] at h; rw [bG,dr]; exact h
  ·cases hs
 | pre s i R =>
  simp only [ix] at hs;split at hs
  ·rename_i s' he;simp only [sI] at hs; subst hs;simp only [FOK] at h ⊢;have h1:(v.comp θ).c s=v.c s':=by simp only [V.comp,he,den]
   rw [h1] at h;intro rows ex hr j r hn hj;rw [bG] at hj;exact (gq v θ R r).2 (h rows ex hr j r hn hj)
  ·cases hs
 | ixd fw bw=>simp only [ix] at hs; cases hs
 | sum a b t c=>simp only [ix] at hs; cases hs
 | csum t up dn=>simp only [ix] at hs; cases hs
 | ln x0 y0 z0 k0 c0=>simp only [ix] at hs; cases hs
 | prm xs ys=>simp only [ix] at hs; cases hs
 | pimp s i k1 c k2 lo hi =>
  simp only [ix] at hs;split at hs
  ·rename_i s' he;simp only [sI] at hs; subst hs;simp only [FOK] at h ⊢;have h1:(v.comp θ).c s=v.c s':=by simp only [V.comp,he,den]
   rw [h1] at h;rw [bG,bG,bG];exact h
  ·cases hs
 | cnd a0 c0 b0 lo hi=>simp only [ix] at hs; cases hs
 | lc s0 e0 p0 a0 b0=>simp only [ix] at hs; cases hs
def ut(θ:Sub):Ct→Ct
 | .cells l=>.cells (jt θ l)
 | .rows k R n=>.rows k (fx θ R) (dH θ n)
def pc(θ:Sub):BE→BE
 | .blk b ct ro=>.blk (θ.bN b) (ut θ ct) ro
 | .vec b k R len ro=>.vec (θ.bN b) k (fx θ R) (dH θ len) ro
 | .map b ag ks T m=>.map (θ.bN b) ag ks (ol θ T) (m.map fun (k,z,ok,r)=>(iy θ k,z,ok,iy θ r))
 | .emap b=>.emap (θ.bN b)
 | .loop b st s J=>.loop (θ.bN b) st (θ.nu s) J
theorem x8(v:V)(θ:Sub)(k:Nat)(R:List Ty):∀(n:Nat) (cs:List CV),aQ v k (fx θ R) cs n↔aQ (v.comp θ) k R cs n:=by
 intro n
 induction n with
 | zero=>intro cs; simp only [aQ]
 | succ n ih=>intro cs; simp only [aQ,gq,ih]
theorem ju(v:V)(θ:Sub)(cs:List CV)(ct:Ct):cR v cs (ut θ ct)↔cR (v.comp θ) cs ct:=by
 cases ct with
 | cells l=>simp only [ut,cR,dr]
 | rows k R n=>simp only [ut,cR,bG,x8,ti]
theorem qNK(v:V)(θ:Sub)(h:H)(p:BE):BOK v h (pc θ p)↔BOK (v.comp θ) h p:=by
 cases p with
 | blk b ct ro=>simp only [pc,BOK,ju]; rfl
 | vec b k R len ro =>
  have:=fun cs=>ju v θ cs (.rows k R len)
  simp only [ut] at this;simp only [pc,BOK,bG,this]; rfl
 | map b ag ks T m =>
  cases m with
  | none=>simp only [pc,BOK,jS,kY,kC]; rfl
  | some m =>
   obtain ⟨k,z,ok,r⟩:=m;simp only [pc,BOK,jS,dh,kC,pd];rfl
 | emap b=>exact Iff.rfl
 | loop b st s J=>exact Iff.rfl
theorem uu(v:V)(θ:Sub)(p:BE):adr v (pc θ p)=adr (v.comp θ) p:=by
 cases p with
 | vec b k R len ro=>simp only [pc,adr,bG]; rfl
 | _=>rfl
mutual
def clA (n:Nat):AV→Bool
 | .bool _ | .str _ | .nilp | .nils | .nilm | .nilf | .nili=>true
 | .cmp x y _=>decide (x < n)&&decide (y < n)
 | .eqc _ x y _=>decide (x < n)&&decide (y < n)
 | .int _ s _=>decide (s < n)
 | .sym s=>decide (s < n)
 | .ptr b _=>decide (b < n)
 | .iptr b _ _ i=>decide (b < n)&&decide (i.s < n)
 | .rptr cs=>clL n cs
 | .slc _ b _ i len cap=>decide (b < n)&&decide (i.s < n)&&decide (len.s < n)&&decide (cap.s < n)
 | .vec _ b len=>decide (b < n)&&decide (len.s < n)
 | .slv _ b i len=>decide (b < n)&&decide (i.s < n)&&decide (len.s < n)
 | .lrows rows _=>clR n rows
 | .map b=>decide (b < n)
 | .clo _ a b=>clL n a&&clL n b
 | .yld b=>decide (b < n)
 | .agg l=>clL n l
 | .tup l=>clL n l
def clL (n:Nat):List AV→Bool
 | []=>true
 | a::l=>clA n a&&clL n l
def clR (n:Nat):List (List AV)→Bool
 | []=>true
 | a::l=>clL n a&&clR n l
end
theorem Lin.agr{n:Nat}{v w:V}(h:Agr n v w){l:Lin}(hl:l.s < n):l.ev v=l.ev w:=by simp only [Lin.ev,(h l.s hl).1]
mutual
theorem qLW {n:Nat} {v w:V} (h:Agr n v w):∀a:AV,clA n a=true→den v a=den w a
 | .bool _,_=>rfl
 | .str _,_=>rfl
 | .nilp,_=>rfl
 | .nils,_=>rfl
 | .nilm,_=>rfl
 | .nilf,_=>rfl
 | .nili,_=>rfl
 | .cmp x y _,hc=>by
  simp only [clA,aT,dT] at hc;simp only [den,(h x hc.1).1,(h y hc.2).1]
 | .eqc _ x y _,hc=>by
  simp only [clA,aT,dT] at hc;simp only [den,(h x hc.1).1,(h y hc.2).1]
 | .int _ s _,hc=>by
  simp only [clA,dT] at hc;simp only [den,(h s hc).1]
 | .sym s,hc=>by
  simp only [clA,dT] at hc;simp only [den,(h s hc).2.1]
 | .ptr b _,hc=>by
  simp only [clA,dT] at hc;simp only [den,(h b hc).2.2.1]
 | .iptr b _ _ i,hc=>by
  simp only [clA,aT,dT] at hc;simp only [den,(h b hc.1).2.2.1,Lin.agr h hc.2]
 | .rptr cs,hc=>by
  simp only [clA] at hc;simp only [den,fh h cs hc]
 | .slc _ b _ i len cap,hc=>by
  simp only [clA,aT,dT] at hc;simp only [den,(h b hc.1.1.1).2.2.1,Lin.agr h hc.1.1.2,Lin.agr h hc.1.2,Lin.agr h hc.2]
 | .vec _ b len,hc=>by
  simp only [clA,aT,dT] at hc;simp only [den,(h b hc.1).2.2.1,Lin.agr h hc.2]
 | .slv _ b i len,hc=>by
  simp only [clA,aT,dT] at hc;simp only [den,(h b hc.1.1).2.2.1,Lin.agr h hc.1.2,Lin.agr h hc.2]
 | .lrows rows _,hc=>by
  simp only [clA] at hc;simp only [den,qLT h rows hc]
 | .map b,hc=>by
  simp only [clA,dT] at hc;simp only [den,(h b hc).2.2.1]
 | .clo _ a b,hc=>by
  simp only [clA,aT] at hc;simp only [den,fh h a hc.1,fh h b hc.2]
 | .yld b,hc=>by
  simp only [clA,dT] at hc;simp only [den,(h b hc).2.2.1]
 | .agg l,hc=>by
  simp only [clA] at hc;simp only [den,fh h l hc]
 | .tup l,hc=>by
  simp only [clA] at hc;simp only [den,fh h l hc]
theorem fh {n:Nat} {v w:V} (h:Agr n v w):∀a:List AV,clL n a=true→aF v a=aF w a
 | [],_=>rfl
 | a::l,hc=>by
  simp only [clL,aT] at hc;simp only [aF,qLW h a hc.1,fh h l hc.2]
theorem qLT {n:Nat} {v w:V} (h:Agr n v w):∀a:List (List AV),clR n a=true→jJ v a=jJ w a
 | [],_=>rfl
 | a::l,hc=>by
  simp only [clR,aT] at hc;simp only [jJ,fh h a hc.1,qLT h l hc.2]
end
mutual
def clT (n:Nat):Ty→Bool
 | .int _ lo hi=>decide (lo.s < n)&&decide (hi.s < n)
 | .bool | .str=>true
 | .lst R lo hi=>decide (lo.s < n)&&decide (hi.s < n)&&ua n R
 | .agg l=>ua n l
def ua (n:Nat):List Ty→Bool
 | []=>true
 | T::Ts=>clT n T&&ua n Ts
end
mutual
theorem yd {n:Nat} {v w:V} (h:Agr n v w):∀(T:Ty) (c:CV),clT n T=true→(av v T c↔av w T c)
 | .int _ lo hi,c,hc=>by
  simp only [clT,aT,dT] at hc;simp only [av,Lin.agr h hc.1,Lin.agr h hc.2]
 | .bool,c,_=>by simp only [av]
 | .str,c,_=>by simp only [av]
 | .lst R lo hi,c,hc=>by
  simp only [clT,aT,dT] at hc;simp only [av,Lin.agr h hc.1.1,Lin.agr h hc.1.2,fun c=>mi h R c hc.2]
 | .agg l,c,hc=>by
  simp only [clT] at hc;simp only [av,fun c=>mi h l c hc]
theorem mi {n:Nat} {v w:V} (h:Agr n v w):∀(T:List Ty) (c:List CV),ua n T=true→(a8 v T c↔a8 w T c)
 | [],c,_=>by simp only [a8]
 | T::Ts,c,hc=>by
  simp only [ua,aT] at hc;simp only [a8,fun c=>yd h T c hc.1,fun c=>mi h Ts c hc.2]
end
def clN(n:Nat):List Lin→Bool
 | []=>true
 | l::ls=>decide (l.s < n)&&clN n ls
theorem qx{n:Nat}{v w:V}(h:Agr n v w):∀{ls:List Lin},clN n ls=true→fG v ls=fG w ls
 | [],_=>rfl
 | l::ls,hc=>by
  simp only [clN,aT,dT] at hc;simp only [fG,Lin.agr h hc.1,qx h hc.2]
def clF(n:Nat):Fact→Bool
 | .dc x y _=>decide (x < n)&&decide (y < n)
 | .ty s T=>decide (s < n)&&clT n T
 | .len s t=>decide (s < n)&&decide (t < n)
 | .row s i cs=>decide (s < n)&&decide (i.s < n)&&clL n cs
 | .pre s i R=>decide (s < n)&&decide (i.s < n)&&ua n R
 | .ixd _ _=>false
 | .sum _ _ _ _=>false
 | .csum t up dn=>decide (t < n)&&clN n up&&clN n dn
 | .ln x y z _ _=>decide (x < n)&&decide (y < n)&&decide (z < n)
 | .prm _ _=>false
 | .pimp s i _ _ _ lo hi=>decide (s < n)&&decide (i.s < n)&&decide (lo.s < n)&&decide (hi.s < n)
 | .cnd _ _ _ _ _=>false
 | .lc _ _ _ _ _=>false
theorem clF_ok{n:Nat}{v w:V}(h:Agr n v w){f:Fact}(hc:clF n f=true)(hf:FOK v f):FOK w f:=by
 cases f with
 | dc x y c =>
  simp only [clF,aT,dT] at hc;simp only [FOK,(h x hc.1).1,(h y hc.2).1] at hf ⊢; exact hf
 | ty s T =>
  simp only [clF,aT,dT] at hc;simp only [FOK,(h s hc.1).2.1] at hf ⊢; exact (yd h T _ hc.2).1 hf
 | len s t =>
  simp only [clF,aT,dT] at hc;simp only [FOK,(h s hc.1).2.1,(h t hc.2).1] at hf ⊢; exact hf
 | row s i cs =>
  simp only [clF,aT,dT] at hc;simp only [FOK,(h s hc.1.1).2.1,Lin.agr h hc.1.2,fh h cs hc.2] at hf ⊢; exact hf
 | pre s i R =>
  simp only [clF,aT,dT] at hc;simp only [FOK,(h s hc.1.1).2.1,Lin.agr h hc.1.2,fun c=>mi h R c hc.2] at hf ⊢; exact hf
 | ixd fw bw=>cases hc
 | sum a b t c=>cases hc
 | csum t up dn =>
  simp only [clF,aT,dT] at hc;simp only [FOK,(h t hc.1.1).1,qx h hc.1.2,qx h hc.2] at hf ⊢; exact hf
 | ln x y z k c =>
  simp only [clF,aT,dT] at hc;simp only [FOK,(h x hc.1.1).1,(h y hc.1.2).1,(h z hc.2).1] at hf ⊢; exact hf
 | prm xs ys=>cases hc
 | pimp s i k1 c k2 lo hi =>
  simp only [clF,aT,dT] at hc;simp only [FOK,(h s hc.1.1.1).2.1,Lin.agr h hc.1.1.2,Lin.agr h hc.1.2,Lin.agr h hc.2] at hf ⊢; exact hf
 | cnd a0 c0 b0 lo hi=>cases hc
 | lc s0 e0 p0 a0 b0=>cases hc
def qY7(n:Nat):Ct→Bool
 | .cells l=>clL n l
 | .rows _ R m=>ua n R&&decide (m.s < n)
def clB(n:Nat):BE→Bool
 | .blk b ct _=>decide (b < n)&&qY7 n ct
 | .vec b _ R len _=>decide (b < n)&&ua n R&&decide (len.s < n)
 | .map b _ _ T m=>decide (b < n)&&clT n T&&m.isNone
 | .emap b=>decide (b < n)
 | .loop b _ s _=>decide (b < n)&&decide (s < n)
theorem qFZ{n:Nat}{v w:V}(h:Agr n v w){k:Nat}{R:List Ty}(hc:ua n R=true):∀(m:Nat) (cs:List CV),aQ v k R cs m↔aQ w k R cs m:=by
 intro m
 induction m with
 | zero=>intro cs; simp only [aQ]
 | succ m ih=>intro cs; simp only [aQ,fun c=>mi h R c hc,ih]
theorem qBZ{n:Nat}{v w:V}(h:Agr n v w){ct:Ct}(hc:qY7 n ct=true)(cs:List CV):cR v cs ct↔cR w cs ct:=by
 cases ct with
 | cells l=>simp only [cR,fh h l hc]
 | rows k R m =>
  simp only [qY7,aT,dT] at hc;simp only [cR,Lin.agr h hc.2,qFZ h hc.1]
theorem clB_ok{n:Nat}{v w:V}(h:Agr n v w){p:BE}(hc:clB n p=true)(hh:H):BOK v hh p↔BOK w hh p:=by
 cases p with
 | blk b ct ro =>
  simp only [clB,aT,dT] at hc;simp only [BOK,(h b hc.1).2.2.1,qBZ h hc.2]
 | vec b k R len ro =>
  simp only [clB,aT,dT] at hc;have:=fun cs=>qBZ h (ct:=.rows k R len) (by simp only [qY7,hc.1.2,hc.2,lI,eA]) cs
  simp only [BOK,(h b hc.1.1).2.2.1,Lin.agr h hc.2,this]
 | map b ag ls T m =>
  simp only [clB,aT,dT,Option.isNone_iff_eq_none] at hc;obtain ⟨⟨h1,h2⟩,rfl⟩:=hc;simp only [BOK,(h b h1).2.2.1,fun c=>yd h T c h2,kC]
 | emap b =>
  simp only [clB,dT] at hc;simp only [BOK,(h b hc).2.2.1]
 | loop b st s J =>
  simp only [clB,aT,dT] at hc;simp only [BOK,(h b hc.1).2.2.1,(h s hc.2).2.2.2]
theorem qC1{n:Nat}{v w:V}(h:Agr n v w){p:BE}(hc:clB n p=true):adr v p=adr w p:=by
 cases p with
 | blk b ct ro =>
  simp only [clB,aT,dT] at hc;simp only [adr,(h b hc.1).2.2.1]
 | vec b k R len ro =>
  simp only [clB,aT,dT] at hc;simp only [adr,(h b hc.1.1).2.2.1,Lin.agr h hc.2]
 | map b ag ls T m =>
  simp only [clB,aT,dT] at hc;simp only [adr,(h b hc.1.1).2.2.1]
 | emap b =>
  simp only [clB,dT] at hc;simp only [adr,(h b hc).2.2.1]
 | loop b st s J =>
  simp only [clB,aT,dT] at hc;simp only [adr,(h b hc.1).2.2.1]
end
end Ce.S
namespace Ce.S
noncomputable section
open Go
def ud(a b:ByteArray):Bool:=decide (a.data.toList=b.data.toList)
theorem yg{a b:ByteArray}(h:ud a b=true):a=b:=by
 simp only [ud,dT] at h;cases a; cases b
 congr 1
 exact Array.toList_inj.1 h
mutual
def eqA (fa:List Fact):AV→AV→Bool
 | .bool b,.bool b'=>b==b'
 | .cmp x y c,.cmp x' y' c'=>x==x'&&y==y'&&c==c'
 | .eqc n x y c,.eqc n' x' y' c'=>n==n'&&x==x'&&y==y'&&c==c'
 | .int k s c,.int k' s' c'=>decide (k=k')&&be fa ⟨s,c⟩ ⟨s',c'⟩
 | .sym s,.sym s'=>s==s'
 | .str s,.str s'=>ud s s'
 | .nilp,.nilp=>true
 | .nils,.nils=>true
 | .nilm,.nilm=>true
 | .nilf,.nilf=>true
 | .nili,.nili=>true
 | .ptr b o,.ptr b' o'=>b==b'&&o==o'
 | .iptr b o k i,.iptr b' o' k' i'=>b==b'&&o==o'&&k==k'&&be fa i i'
 | .rptr l,.rptr l'=>qk fa l l'
 | .slc k b o i n c,.slc k' b' o' i' n' c'=>k==k'&&b==b'&&o==o'&&be fa i i'&&be fa n n'&&be fa c c'
 | .vec k b n,.vec k' b' n'=>k==k'&&b==b'&&be fa n n'
 | .vec _ _ n,.nils=>be fa n ⟨0,0⟩
 | .nils,.vec _ _ n=>be fa n ⟨0,0⟩
 | .lrows r e,.lrows r' e'=>qXV fa r r'&&e==e'
 | .map b,.map b'=>b==b'
 | .clo f a b,.clo f' a' b'=>f==f'&&qk fa a a'&&qk fa b b'
 | .yld b,.yld b'=>b==b'
 | .agg l,.agg l'=>qk fa l l'
 | .tup l,.tup l'=>qk fa l l'
 | _,_=>false
def qk (fa:List Fact):List AV→List AV→Bool
 | [],[]=>true
 | a::l,b::m=>eqA fa a b&&qk fa l m
 | _,_=>false
def qXV (fa:List Fact):List (List AV)→List (List AV)→Bool
 | [],[]=>true
 | a::l,b::m=>qk fa a b&&qXV fa l m
 | _,_=>false
end
section
variable {v:V} {fa:List Fact}
mutual
theorem j9 (z:v.i 0=0) (hf:∀f,f∈fa→FOK v f):∀(a b:AV),eqA fa a b=true→den v a=den v b:=by
 intro a b h;unfold eqA at h;split at h<;>(try (cases h; done))<;>(try simp only [aT,aZ,dT] at h)
 ·rw [h]
 ·obtain ⟨⟨rfl,rfl⟩,rfl⟩:=h; rfl
 ·obtain ⟨⟨⟨rfl,rfl⟩,rfl⟩,rfl⟩:=h; rfl
 ·obtain ⟨rfl,h⟩:=h;have:=aj hf h;simp only [Lin.ev] at this;simp only [den,this]
 ·rw [h]
 ·rw [yg h]
 all_goals first
  | rfl
  | (obtain ⟨rfl,rfl⟩:=h; rfl)
  | (obtain ⟨⟨⟨rfl,rfl⟩,rfl⟩,h⟩:=h; simp only [den,aj hf h]; done)
  | (simp only [den,j8 z hf _ _ h]; done)
  | (obtain ⟨⟨⟨⟨⟨rfl,rfl⟩,rfl⟩,h1⟩,h2⟩,h3⟩:=h; simp only [den,aj hf h1,aj hf h2,aj hf h3]; done)
  | (obtain ⟨⟨rfl,rfl⟩,h⟩:=h; simp only [den,aj hf h]; done)
  | (have:=aj hf h; simp only [den]; simp only [Lin.ev,z] at this; simp only [Lin.ev,this]; rfl)
  | (obtain ⟨h1,rfl⟩:=h; simp only [den,qBI z hf _ _ h1]; done)
  | (obtain ⟨⟨rfl,h1⟩,h2⟩:=h; simp only [den,j8 z hf _ _ h1,j8 z hf _ _ h2]; done)
  | (rw [h]; done)
theorem j8 (z:v.i 0=0) (hf:∀f,f∈fa→FOK v f):∀(a b:List AV),qk fa a b=true→aF v a=aF v b:=by
 intro a b h;unfold qk at h;split at h
 ·rfl
 ·simp only [aT] at h;simp only [aF,j9 z hf _ _ h.1,j8 z hf _ _ h.2]
 ·cases h
theorem qBI (z:v.i 0=0) (hf:∀f,f∈fa→FOK v f):∀(a b:List (List AV)),qXV fa a b=true→jJ v a=jJ v b:=by
 intro a b h;unfold qXV at h;split at h
 ·rfl
 ·simp only [aT] at h;simp only [jJ,j8 z hf _ _ h.1,qBI z hf _ _ h.2]
 ·cases h
end
end
mutual
def sty (fa:List Fact):Ty→Ty→Bool
 | .int k lo hi,.int k' lo' hi'=>decide (k=k')&&leL fa lo' lo 0&&leL fa hi hi' 0
 | .bool,.bool=>true
 | .str,.str=>true
 | .lst R lo hi,.lst R' lo' hi'=>jT fa R R'&&leL fa lo' lo 0&&leL fa hi hi' 0
 | .agg l,.agg l'=>jT fa l l'
 | _,_=>false
def jT (fa:List Fact):List Ty→List Ty→Bool
 | [],[]=>true
 | T::Ts,U::Us=>sty fa T U&&jT fa Ts Us
 | _,_=>false
end
section
variable {v:V} {fa:List Fact}
mutual
theorem il (hf:∀f,f∈fa→FOK v f):∀(T U:Ty),sty fa T U=true→∀c,av v T c→av v U c:=by
 intro T U h c;unfold sty at h;split at h<;>(try (cases h; done))<;>(try simp only [aT,dT] at h)
 ·obtain ⟨⟨rfl,h1⟩,h2⟩:=h;have:=aE hf h1; have:=aE hf h2;simp only [av];rintro ⟨n,rfl,_,_⟩; exact ⟨n,rfl,by omega,by omega⟩
 ·exact id
 ·exact id
 ·obtain ⟨⟨h0,h1⟩,h2⟩:=h;have:=aE hf h1; have:=aE hf h2;simp only [av];rintro (⟨rfl,_,_⟩ | ⟨rows,ex,rfl,_,_,hr⟩)
  ·exact .inl ⟨rfl,by omega,by omega⟩
  ·exact .inr ⟨rows,ex,rfl,by omega,by omega,fun r hm=>eQ hf _ _ h0 r (hr r hm)⟩
 ·simp only [av];rintro ⟨cs,rfl,hc⟩; exact ⟨cs,rfl,eQ hf _ _ h cs hc⟩
theorem eQ (hf:∀f,f∈fa→FOK v f):∀(T U:List Ty),jT fa T U=true→∀c,a8 v T c→a8 v U c:=by
 intro T U h c;unfold jT at h;split at h
 ·exact id
 ·simp only [aT] at h;simp only [a8];rintro ⟨x,xs,rfl,hx,hxs⟩; exact ⟨x,xs,rfl,il hf _ _ h.1 x hx,eQ hf _ _ h.2 xs hxs⟩
 ·cases h
end
end
def fL(fa:List Fact)(s:Nat)(p:Ty→Bool):List Fact→Bool
 | []=>false
 | .ty s' T::r=>(s'==s&&p T) || fL fa s p r
 | _::r=>fL fa s p r
theorem dV{v:V}{fa0:List Fact}{s:Nat}{p:Ty→Bool}:∀{fa:List Fact},(∀f,f∈fa→FOK v f)→fL fa0 s p fa=true→∃T,p T=true∧av v T (v.c s):=by
 intro fa
 induction fa with
 | nil=>intro _ h; cases h
 | cons f r ih =>
  intro hf h;have hrest:=ih (fun f hm=>hf f (mC _ hm));have h0:=hf f (mS);cases f with
  | ty s' T =>
   simp only [fL,bU,aT,aZ] at h;rcases h with ⟨rfl,h⟩ | h
   ·exact ⟨T,h,h0⟩
   ·exact hrest h
  | _=>exact hrest h
def iQ(s:Nat):List Fact→Option Nat
 | []=>none
 | .len s' t::r=>if s'=s then some t else iQ s r
 | _::r=>iQ s r
theorem eo{v:V}{s t:Nat}:∀{fa:List Fact},(∀f,f∈fa→FOK v f)→iQ s fa=some t→∃n,cV (v.c s)=some n∧v.i t=n:=by
 intro fa
 induction fa with
 | nil=>intro _ h; cases h
 | cons f r ih =>
  intro hf h;have hrest:=ih (fun f hm=>hf f (mC _ hm));have h0:=hf f (mS);cases f with
  | len s' t' =>
   simp only [iQ] at h;split at h
   ·rename_i he; subst he; simp only [sI] at h; subst h; exact h0
   ·exact hrest h
  | _=>exact hrest h
def lstP(fa:List Fact)(s:Nat)(R:List Ty)(lo hi:Lin):Ty→Bool
 | .lst R' lo' hi'=>(jT fa R' R || (match iQ s fa with | some t=>leL fa ⟨t,0⟩ ⟨0,0⟩ 0 | none=>false))&&(leL fa lo lo' 0 || (match iQ s fa with | some t=>leL fa lo ⟨t,0⟩ 0 | none=>false))&&(leL fa hi' hi 0 || (match iQ s fa with | some t=>leL fa ⟨t,0⟩ hi 0 | none=>false))
 | _=>false
mutual
def tyA (fa:List Fact):Ty→AV→Bool
 | .int k lo hi,.int k' s c=>decide (k=k')&&leL fa lo ⟨s,c⟩ 0&&leL fa ⟨s,c⟩ hi 0
 | .bool,.bool _=>true
 | .bool,.cmp _ _ _=>true
 | .bool,.eqc _ _ _ _=>true
 | .bool,.sym s=>fL fa s (fun T=>sty fa T .bool) fa
 | .str,.str _=>true
 | .str,.sym s=>fL fa s (fun T=>sty fa T .str) fa
 | .lst _ lo hi,.nils=>leL fa lo ⟨0,0⟩ 0&&leL fa ⟨0,0⟩ hi 0
 | .lst R lo hi,.sym s=>fL fa s (lstP fa s R lo hi) fa
 | .lst R lo hi,.lrows rows _=>leL fa lo ⟨0,rows.length⟩ 0&&leL fa ⟨0,rows.length⟩ hi 0&&oj fa R rows
 | .agg Ts,.agg l=>p7 fa Ts l
 | _,_=>false
def p7 (fa:List Fact):List Ty→List AV→Bool
 | [],[]=>true
 | T::Ts,a::l=>tyA fa T a&&p7 fa Ts l
 | _,_=>false
def oj (fa:List Fact) (R:List Ty):List (List AV)→Bool
 | []=>true
 | r::rs=>p7 fa R r&&oj fa R rs
end
theorem nl{v:V}{R:List Ty}{lo hi:Lin}{c:CV}{n:Nat}(h:av v (.lst R lo hi) c)(hn:cV c=some n):lo.ev v≤n∧(n:Int)≤hi.ev v:=by
 simp only [av] at h;rcases h with ⟨rfl,h1,h2⟩ | ⟨rows,ex,rfl,h1,h2,_⟩<;>(simp only [cV,sI] at hn; subst hn; exact ⟨h1,h2⟩)
section
variable {v:V} {fa:List Fact}
theorem qQL(z:v.i 0=0)(hf:∀f,f∈fa→FOK v f){s:Nat}{R:List Ty}{lo hi:Lin}{T:Ty}(hp:lstP fa s R lo hi T=true)(hT:av v T (v.c s)):av v (.lst R lo hi) (v.c s):=by
 unfold lstP at hp;split at hp
 ·rename_i R' lo' hi';simp only [aT,bU] at hp;obtain ⟨⟨h0,h1⟩,h2⟩:=hp;have hlen:∀t,iQ s fa=some t→∃n,cV (v.c s)=some n∧v.i t=n:=fun t ht=>eo hf ht
  have hl:∀n,cV (v.c s)=some n→lo.ev v≤n:=by
   intro n hn;rcases h1 with h1 | h1
   ·have:=aE hf h1; have:=(nl hT hn).1; omega
   ·cases ht:iQ s fa with
    | none=>rw [ht] at h1; cases h1
    | some t =>
     rw [ht] at h1;obtain ⟨m,hm,hi'⟩:=hlen t ht;rw [hn] at hm; cases hm;have:=aE hf h1; simp only [Lin.ev] at this ⊢; omega
  have hh:∀n,cV (v.c s)=some n→(n:Int)≤hi.ev v:=by
   intro n hn;rcases h2 with h2 | h2
   ·have:=aE hf h2; have:=(nl hT hn).2; omega
   ·cases ht:iQ s fa with
    | none=>rw [ht] at h2; cases h2
    | some t =>
     rw [ht] at h2;obtain ⟨m,hm,hi'⟩:=hlen t ht;rw [hn] at hm; cases hm;have:=aE hf h2; simp only [Lin.ev] at this ⊢; omega
  simp only [av] at hT ⊢;rcases hT with ⟨hc,_,_⟩ | ⟨rows,ex,hc,_,_,hr⟩
  ·have h1:=hl 0 (by rw [hc]; rfl);have h2:=hh 0 (by rw [hc]; rfl);exact .inl ⟨hc,by simpa using h1,by simpa using h2⟩
  ·refine .inr ⟨rows,ex,hc,hl _ (by rw [hc]; rfl),hh _ (by rw [hc]; rfl),fun r hm=>?_⟩;rcases h0 with h0 | h0
   ·exact eQ hf _ _ h0 r (hr r hm)
   ·exfalso;cases ht:iQ s fa with
    | none=>rw [ht] at h0; cases h0
    | some t =>
     rw [ht] at h0;obtain ⟨m,hm',hi'⟩:=hlen t ht;rw [hc] at hm';simp only [cV,sI] at hm';have:=aE hf h0;simp only [Lin.ev,z] at this;have hl0:rows.length=0:=by omega
     have:rows=[]:=jQ hl0;subst this; cases hm
 ·cases hp
mutual
theorem gp (z:v.i 0=0) (hf:∀f,f∈fa→FOK v f):∀(T:Ty) (a:AV),tyA fa T a=true→av v T (den v a):=by
 intro T a h;unfold tyA at h;split at h<;>(try (cases h; done))
 ·simp only [aT,dT] at h;obtain ⟨⟨rfl,h1⟩,h2⟩:=h;have:=aE hf h1; have:=aE hf h2;simp only [Lin.ev] at *;exact ⟨_,rfl,by simp only [Lin.ev]; omega,by simp only [Lin.ev]; omega⟩
 ·exact ⟨_,rfl⟩
 ·exact ⟨_,rfl⟩
 ·exact ⟨_,rfl⟩
 ·obtain ⟨T,hp,hT⟩:=dV hf h;exact il hf _ _ hp _ hT
 ·exact ⟨_,rfl⟩
 ·obtain ⟨T,hp,hT⟩:=dV hf h;exact il hf _ _ hp _ hT
 ·simp only [aT] at h;have h1:=aE hf h.1; have h2:=aE hf h.2;simp only [Lin.ev,z] at h1 h2;simp only [av,den];exact .inl ⟨trivial,by simp only [Lin.ev]; omega,by simp only [Lin.ev]; omega⟩
 ·obtain ⟨T,hp,hT⟩:=dV hf h;exact qQL z hf hp hT
 ·simp only [aT] at h;have h1:=aE hf h.1.1; have h2:=aE hf h.1.2;simp only [Lin.ev,z] at h1 h2;simp only [av,den];exact .inr ⟨_,_,rfl,by rw [gC,lK]; simp only [Lin.ev]; omega,by rw [gC,lK]; simp only [Lin.ev]; omega,zW z hf _ _ h.2⟩
 ·simp only [av,den];exact ⟨_,rfl,fm z hf _ _ h⟩
theorem fm (z:v.i 0=0) (hf:∀f,f∈fa→FOK v f):∀(T:List Ty) (a:List AV),p7 fa T a=true→a8 v T (aF v a):=by
 intro T a h;unfold p7 at h;split at h
 ·rfl
 ·simp only [aT] at h;exact ⟨_,_,rfl,gp z hf _ _ h.1,fm z hf _ _ h.2⟩
 ·cases h
theorem zW (z:v.i 0=0) (hf:∀f,f∈fa→FOK v f):∀(R:List Ty) (a:List (List AV)),oj fa R a=true→∀r,r∈jJ v a→a8 v R r:=by
 intro R a h r hr;unfold oj at h;split at h
 ·cases hr
 ·simp only [aT] at h;simp only [jJ,aS] at hr;rcases hr with rfl | hr
  ·exact fm z hf _ _ h.1
  ·exact zW z hf _ _ h.2 r hr
end
end
def rk:Ty→Bool
 | .agg _=>false
 | _=>true
def oneA(fa:List Fact):AV→Bool
 | .agg _ | .tup _=>false
 | .sym s=>fL fa s rk fa
 | _=>true
theorem nM{v:V}{T:Ty}{c:CV}(h:av v T c)(hT:rk T=true):c.one=true:=by
 cases T with
 | int k lo hi=>obtain ⟨n,rfl,_⟩:=h; rfl
 | bool=>obtain ⟨n,rfl⟩:=h; rfl
 | str=>obtain ⟨n,rfl⟩:=h; rfl
 | lst R lo hi =>
  simp only [av] at h;rcases h with ⟨rfl,_⟩ | ⟨rows,ex,rfl,_⟩<;>rfl
 | agg l=>cases hT
theorem oneA_ok{v:V}{fa:List Fact}(hf:∀f,f∈fa→FOK v f){a:AV}(h:oneA fa a=true):(den v a).one=true:=by
 cases a with
 | agg l=>cases h
 | tup l=>cases h
 | sym s =>
  obtain ⟨T,hp,hT⟩:=dV hf h;exact nM hT hp
 | vec k b len=>simp only [den]; split<;>rfl
 | _=>rfl
def vd(fa:List Fact):List AV→Bool
 | []=>true
 | a::l=>oneA fa a&&vd fa l
theorem mT{v:V}{fa:List Fact}(hf:∀f,f∈fa→FOK v f):∀{l:List AV},vd fa l=true→aM (aF v l)=true:=by
 intro l
 induction l with
 | nil=>intro _; rfl
 | cons a l ih =>
  intro h;simp only [vd,aT] at h;simp only [aF,aM,oneA_ok hf h.1,ih h.2,eA]
def eG:AV→List AV
 | .agg l=>l
 | a=>[a]
def kS(fa:List Fact):AV→Bool
 | .sym s=>fL fa s rk fa
 | _=>true
theorem sK{c:CV}(h:c.one=true):c.cells=[c]:=by
 cases c<;>first | rfl | cases h
theorem ky{v:V}{fa:List Fact}(hf:∀f,f∈fa→FOK v f){a:AV}(h:kS fa a=true):(den v a).cells=aF v (eG a):=by
 cases a with
 | sym s =>
  obtain ⟨T,hp,hT⟩:=dV hf h;exact sK (nM hT hp)
 | vec k b len =>
  simp only [eG,aF];refine sK ?_;simp only [den]; split<;>rfl
 | _=>rfl
end
end Ce.S
namespace Ce.S
noncomputable section
open Go
theorem oN{v:V}{h h':H}{p:BE}(hg:∀a,a∈adr v p→h'.get a=h.get a)(hb:BOK v h p):BOK v h' p:=by
 cases p with
 | blk b ct ro =>
  obtain ⟨cs,hc,ho⟩:=hb;exact ⟨cs,by rw [hg _ (by simp [adr]),hc],ho⟩
 | vec b k R len ro =>
  by_cases h0:len.ev v=0
  ·exact .inl h0
  ·rcases hb with hb | ⟨cs,hc,ho⟩
   ·exact absurd hb h0
   ·exact .inr ⟨cs,by rw [hg _ (by simp [adr,h0]),hc],ho⟩
 | map b ag ks T m =>
  obtain ⟨es,cl,hc,ho,hm⟩:=hb;have hgb:=hg (v.b b) (by simp [adr]);refine ⟨es,cl,by rw [hgb,hc],ho,?_⟩;cases m with
  | none=>trivial
  | some m =>
   obtain ⟨k,z,ok,r⟩:=m;simp only [kC,lkuV,hgb] at hm ⊢;exact hm
 | emap b =>
  obtain ⟨cl,hc⟩:=hb;exact ⟨cl,by rw [hg _ (by simp [adr]),hc]⟩
 | loop b st s J =>
  obtain ⟨pend,hc,ho⟩:=hb;exact ⟨pend,by rw [hg _ (by simp [adr]),hc],ho⟩
theorem cD{α:Type}{a b:List α}:(a++b).Nodup↔a.Nodup∧b.Nodup∧∀x,x∈a→x∉b:=by
 rw [List.nodup_append];exact ⟨fun ⟨h1,h2,h3⟩=>⟨h1,h2,fun x hx hb=>h3 x hx x hb rfl⟩,fun ⟨h1,h2,h3⟩=>⟨h1,h2,fun x hx y hy he=>h3 x hx (he ▸ hy)⟩⟩
theorem Sat0.upd{X:Cx}{v:V}{st:St}{env:List CV}{h h':H}{l1 P P' l2:List BE}(s:Sat0 X v st env h)(hb:st.bl=l1++P++l2)(hn:h.n≤h'.n)
  (hg:∀j,j < h.n→j∉P.flatMap (adr v)→h'.get j=h.get j) (hB:∀q,q∈P'→BOK v h' q) (hnd:(P'.flatMap (adr v)).Nodup)
  (ha:∀a,a∈P'.flatMap (adr v)→a∈P.flatMap (adr v)∨(h.n≤a∧a < h'.n)):Sat0 X v { st with bl:=l1++P'++l2 } env h':=by
 have nd:=s.nd;rw [hb] at nd;simp only [lN] at nd;have lt:∀a,a∈(l1++P++l2).flatMap (adr v)→a < h.n∧(a∈X.F∨X.h0.n≤a):=by
  intro a hm;obtain ⟨p,hp,hpa⟩:=eg.1 hm;exact s.lt p (by rw [hb]; exact hp) a hpa
 simp only [lN] at lt;obtain ⟨nd12,ndl2,dis2⟩:=cD.1 nd;obtain ⟨ndl1,ndP,dis1⟩:=cD.1 nd12;have out1:∀a,a∈l1.flatMap (adr v)→a∉P.flatMap (adr v)∧a < h.n:=fun a hm=>⟨dis1 a hm,(lt a (by simp [hm])).1⟩
 have out2:∀a,a∈l2.flatMap (adr v)→a∉P.flatMap (adr v)∧a < h.n:=fun a hm=>⟨fun hp=>dis2 a (by simp [hp]) hm,(lt a (by simp [hm])).1⟩
 refine ⟨s.z,s.env,s.fa,?_,?_,?_,cz s.hn hn,?_⟩
 ·intro p hp;simp only [bP] at hp;rcases hp with (hp | hp) | hp
  ·refine oN (fun a ha'=>?_) (s.bl p (by rw [hb]; simp [hp]));have:=out1 a (eg.2 ⟨p,hp,ha'⟩);exact hg a this.2 this.1
  ·exact hB p hp
  ·refine oN (fun a ha'=>?_) (s.bl p (by rw [hb]; simp [hp]));have:=out2 a (eg.2 ⟨p,hp,ha'⟩);exact hg a this.2 this.1
 ·simp only [lN];refine cD.2 ⟨cD.2 ⟨ndl1,hnd,fun x hx hp=>?_⟩,ndl2,fun x hx hp=>?_⟩
  ·rcases ha x hp with hq | hq
   ·exact (out1 x hx).1 hq
   ·have:=(out1 x hx).2; omega
  ·simp only [bP] at hx;rcases hx with hx | hx
   ·exact dis2 x (by simp [hx]) hp
   ·rcases ha x hx with hq | hq
    ·exact (out2 x hp).1 hq
    ·have:=(out2 x hp).2; omega
 ·intro p hp a ha';simp only [bP] at hp;rcases hp with (hp | hp) | hp
  ·have:=lt a (by simp [show a∈l1.flatMap (adr v) from eg.2 ⟨p,hp,ha'⟩]);exact ⟨by omega,this.2⟩
  ·rcases ha a (eg.2 ⟨p,hp,ha'⟩) with hq | hq
   ·have:=lt a (by simp [hq]);exact ⟨by omega,this.2⟩
   ·have:=s.hn;exact ⟨hq.2,.inr (by omega)⟩
  ·have:=lt a (by simp [show a∈l2.flatMap (adr v) from eg.2 ⟨p,hp,ha'⟩]);exact ⟨by omega,this.2⟩
 ·intro j hj hF;have hjn:j < h.n:=by have:=s.hn; omega
  rw [hg j hjn ?_,s.fr j hj hF];intro hp;have:=(lt j (by simp [hp])).2;rcases this with hq | hq
  ·exact hF hq
  ·omega
theorem Sat.ext{X:Cx}{v w:V}{st:St}{env:List CV}{h:H}(s:Sat X v st env h){n':Nat}{fs:List Fact}(hn:st.n≤n')(hw:Agr st.n v w)(hf:∀u,Agr n' w u→∀f,f∈fs→FOK u f):Sat X w { st with n:=n',fa:=fs++st.fa } env h:=by
 refine ⟨dD s.pos hn,fun u hu=>?_⟩;have s0:=s.all u (hw.trans hu hn);exact ⟨s0.z,s0.env,fun f hm=>by
  rcases bP.1 hm with hm | hm
  ·exact hf u hu f hm
  ·exact s0.fa f hm,s0.bl,s0.nd,s0.lt,s0.hn,s0.fr⟩
theorem Sat.fact{X:Cx}{v:V}{st:St}{env:List CV}{h:H}(s:Sat X v st env h){fs:List Fact}(hf:∀u,Sat0 X u st env h→∀f,f∈fs→FOK u f):Sat X v { st with fa:=fs++st.fa } env h:=by
 have:=s.ext (n':=st.n) (fs:=fs) (aV _) (Agr.refl _ _) (fun u hu=>hf u (s.all u hu));exact this
def ae(X:Cx)(v:V)(st:St)(env:List CV)(outs:List (AV × St))(r:Option (CV × H)):Prop :=
 ∃o,o∈outs∧∃w,Agr st.n v w∧st.n≤o.2.n∧o.2.env=st.env∧∃c h',r=some (c,h')∧Sat X w o.2 env h'∧∀u,Agr o.2.n w u→den u o.1=c
section
variable {X:Cx} {v:V} {st:St} {env:List CV} {h:H}
theorem aJ(s:Sat X v st env h){a:AV}{r:Option (CV × H)}(hr:∀w,Sat0 X w st env h→r=some (den w a,h)):ae X v st env [(a,st)] r:=by
 refine ⟨_,mS,v,Agr.refl _ _,aV _,rfl,den v a,h,hr v s.now,s,fun u hu=>?_⟩;have h1:=hr v s.now;have h2:=hr u (s.all u hu);rw [h1] at h2;simp only [sI,pI,cZ] at h2;exact h2.symm
def fresh(st:St)(T:Ty):AV × St:=let x:=frT st.n T; (x.1,{ st with n:=x.2.2,fa:=x.2.1++st.fa })
theorem dN(s:Sat X v st env h){T:Ty}{r:Option (CV × H)}{c:CV}(hr:r=some (c,h))(hT:∀w,Sat0 X w st env h→av w T c):ae X v st env [fresh st T] r:=by
 obtain ⟨hle,w,hw,hall⟩:=yU T st.n v c (fun w hw=>hT w (s.all w hw));exact ⟨_,mS,w,hw,hle,rfl,c,h,hr,s.ext hle hw (fun u hu f hf=>(hall u hu).2 f hf),fun u hu=>(hall u hu).1⟩
theorem ae.sub{o1 o2:List (AV × St)}{r:Option (CV × H)}(p:ae X v st env o1 r)(hs:∀o,o∈o1→o∈o2):ae X v st env o2 r:=by
 obtain ⟨o,hm,rest⟩:=p; exact ⟨o,hs o hm,rest⟩
theorem ae.fact{fs:List Fact}{outs:List (AV × St)}{r:Option (CV × H)}(p:ae X v { st with fa:=fs++st.fa } env outs r):ae X v st env outs r:=p
end
def dF:BE→Nat
 | .blk b _ _=>b
 | .vec b _ _ _ _=>b
 | .map b _ _ _ _=>b
 | .emap b=>b
 | .loop b _ _ _=>b
def ai(b:Nat):List BE→Option BE
 | []=>none
 | p::l=>if dF p=b then some p else ai b l
def dS(b:Nat)(q:List BE):List BE→List BE
 | []=>[]
 | p::l=>if dF p=b then q++l else p::dS b q l
theorem dx{b:Nat}{p:BE}:∀{l:List BE},ai b l=some p→dF p=b∧∃l1 l2,l=l1++[p]++l2∧∀q,dS b q l=l1++q++l2:=by
 intro l
 induction l with
 | nil=>intro h; cases h
 | cons x l ih =>
  intro h;simp only [ai] at h;split at h
  ·rename_i hk;simp only [sI] at h; subst h;exact ⟨hk,[],l,rfl,fun q=>by simp only [dS,aH hk,eX]⟩
  ·rename_i hk;obtain ⟨hk',l1,l2,hl,hq⟩:=ih h;exact ⟨hk',x::l1,l2,by rw [hl]; rfl,fun q=>by simp only [dS,aC hk,hq,eI]⟩
theorem lookB_mem{b:Nat}{p:BE}{l:List BE}(h:ai b l=some p):p∈l∧dF p=b:=by
 obtain ⟨hk,l1,l2,rfl,_⟩:=dx h;exact ⟨by simp,hk⟩
theorem get_put(h:H)(i j:Nat)(b:Blk):(h.put i b).get j=if j=i then some b else h.get j:=rfl
theorem eM(h:H)(j:Nat)(b:Blk):(h.push b).get j=if j=h.n then some b else h.get j:=rfl
theorem put_n(h:H)(i:Nat)(b:Blk):(h.put i b).n=h.n:=rfl
theorem lT(h:H)(b:Blk):(h.push b).n=h.n+1:=rfl
section
variable {X:Cx} {v:V} {st:St} {env:List CV} {h:H}
theorem Sat0.put(s:Sat0 X v st env h){b:Nat}{p q:BE}(hl:ai b st.bl=some p){blk:Blk}(hp:adr v p=[v.b b])(hq:adr v q=[v.b b])(hB:BOK v (h.put (v.b b) blk) q) :
  Sat0 X v { st with bl:=dS b [q] st.bl } env (h.put (v.b b) blk):=by
 obtain ⟨hk,l1,l2,hb,hm⟩:=dx hl;rw [hm];refine s.upd hb (aV _) ?_ ?_ ?_ ?_
 ·intro j _ hj;rw [get_put,aC];rintro rfl;exact hj (by simp [hp])
 ·intro x hx; simp only [cM] at hx; subst hx; exact hB
 ·simp [hq]
 ·intro a ha; simp only [i9,og,fR,hq,hp] at ha ⊢; exact .inl ha
theorem Sat0.push(s:Sat0 X v st env h){q:BE}{blk:Blk}(hq:adr v q=[h.n])(hB:BOK v (h.push blk) q):Sat0 X v { st with bl:=q::st.bl } env (h.push blk):=by
 have:=s.upd (l1:=[]) (P:=[]) (P':=[q]) (l2:=st.bl) (h':=h.push blk) rfl (by rw [lT]; omega) (fun j hj _=>by rw [eM,aC (by omega)]) (fun x hx=>by
  simp only [cM] at hx; subst hx; exact hB) (by simp [hq]) (fun a ha=>by
  simp only [i9,og,fR,hq,cM] at ha;exact .inr ⟨by omega,by rw [lT]; omega⟩)
 exact this
theorem Sat0.wk{w:V}(s:Sat0 X w st env h)(n:Nat)(fs:List Fact)(hf:∀f,f∈fs→FOK w f):Sat0 X w { st with n:=n,fa:=fs++st.fa } env h :=
 ⟨s.z,s.env,fun f hm=>by
  rcases bP.1 hm with hm | hm
  ·exact hf f hm
  ·exact s.fa f hm,s.bl,s.nd,s.lt,s.hn,s.fr⟩
theorem Sat0.wk'{w:V}(s:Sat0 X w st env h)(n:Nat):Sat0 X w { st with n:=n } env h:=⟨s.z,s.env,s.fa,s.bl,s.nd,s.lt,s.hn,s.fr⟩
theorem f8(s:Sat X v st env h){ct:Ct}{cs:List CV}{r:Option (CV × H)}{a:AV}(hr:∀u,u.b st.n=h.n→Sat0 X u st env h→r=some (den u a,h.push (.cells cs false)))(hc:∀u,Sat0 X u st env h→cR u cs ct) :
  ae X v st env [(a,{ st with n:=st.n+1,bl:=.blk st.n ct false::st.bl })] r:=by
 have key:∀u,Agr (st.n+1) (upB v st.n h.n) u→u.b st.n=h.n∧Sat0 X u st env h:=fun u hu=>by
  obtain ⟨ha,_,_,hb,_⟩:=bQ hu;exact ⟨hb,s.all u ha⟩
 have k0:=key _ (Agr.refl _ _);refine ⟨_,mS,upB v st.n h.n,bg _ _ _ _ _ _,dZ _,rfl,den (upB v st.n h.n) a,h.push (.cells cs false),hr _ k0.1 k0.2,⟨Nat.succ_pos _,fun u hu=>?_⟩,fun u hu=>?_⟩
 ·obtain ⟨hb,s0⟩:=key u hu;have:=(s0.wk' (st.n+1)).push (q:=.blk st.n ct false) (blk:=.cells cs false) (by simp only [adr,hb]) ⟨cs,by rw [hb,eM,aH rfl],hc u s0⟩;exact this
 ·obtain ⟨hb,s0⟩:=key u hu;have h1:=hr _ k0.1 k0.2;have h2:=hr u hb s0;rw [h1] at h2;simp only [sI,pI,cZ] at h2;exact h2.symm
theorem qC(s:Sat X v st env h){b:Nat}{p:BE}(hl:ai b st.bl=some p)(hp:∀u:V,adr u p=[u.b b]){ct:Ct}{ro:Bool}{cs:List CV}{r:Option (CV × H)}{a:AV}(hr:∀u,Sat0 X u st env h→r=some (den u a,h.put (u.b b) (.cells cs ro)))(hc:∀u,Sat0 X u st env h→cR u cs ct) :
  ae X v st env [(a,{ st with bl:=dS b [.blk b ct ro] st.bl })] r:=by
 have hb:∀u,Sat0 X u st env h→h.put (u.b b) (.cells cs ro)=h.put (v.b b) (.cells cs ro):=fun u su=>by
  have h1:=hr _ s.now;have h2:=hr u su;rw [h1] at h2;simp only [sI,pI] at h2;exact h2.2.symm
 refine ⟨_,mS,v,Agr.refl _ _,aV _,rfl,den v a,h.put (v.b b) (.cells cs ro),hr _ s.now,⟨s.pos,fun u hu=>?_⟩,fun u hu=>?_⟩
 ·have s0:=s.all u hu;rw [←hb u s0];exact s0.put hl (hp u) (by simp only [adr]) ⟨cs,by rw [get_put,aH rfl],hc u s0⟩
 ·have h1:=hr _ s.now;have h2:=hr u (s.all u hu);rw [h1] at h2;simp only [sI,pI] at h2;exact h2.1.symm
end
end
end Ce.S
namespace Ce.S
noncomputable section
open Go
def kLo:IntKind→Int
 | .i8=>-128 | .i16=>-32768 | .i32=>-2147483648 | .i64=>-9223372036854775808 | _=>0
def kHi:IntKind→Int
 | .i8=>127 | .i16=>32767 | .i32=>2147483647 | .i64=>9223372036854775807
 | .u8=>255 | .u16=>65535 | .u32=>4294967295 | .u64=>18446744073709551615
def eU(k:IntKind):Ty:=.int k ⟨0,kLo k⟩ ⟨0,kHi k⟩
theorem wrap_in(k:IntKind)(n:Int):kLo k≤k.wrap n∧k.wrap n≤kHi k:=by
 cases k<;>simp only [IntKind.wrap,IntKind.bits,IntKind.signed,kLo,kHi,lJ,Bool.false_and,dT,Nat.reduceSub,Int.reducePow,ge_iff_le,bX,bj]<;>(try split)<;>omega
theorem ou{k:IntKind}{n:Int}(h0:kLo k≤n)(h1:n≤kHi k):k.wrap n=n:=by
 revert h0 h1
 cases k<;>simp only [IntKind.wrap,IntKind.bits,IntKind.signed,kLo,kHi,lJ,Bool.false_and,dT,Nat.reduceSub,Int.reducePow,ge_iff_le,bX,bj]<;>intros<;>(try split)<;>omega
theorem qXR{v:V}(z:v.i 0=0)(k:IntKind)(n:Int):av v (eU k) (.int k (k.wrap n)):=by
 have:=wrap_in k n;exact ⟨_,rfl,by simp only [Lin.ev,z]; omega,by simp only [Lin.ev,z]; omega⟩
theorem wK{v:V}(z:v.i 0=0){k:IntKind}{n:Int}(h0:kLo k≤n)(h1:n≤kHi k):av v (eU k) (.int k n):=⟨_,rfl,by simp only [Lin.ev,z]; omega,by simp only [Lin.ev,z]; omega⟩
def sQ(fa:List Fact)(x y:Nat)(c:Int):AV:=if dle fa x y c then .bool true else if dle fa y x (-c - 1) then .bool false else .cmp x y c
theorem ku{v:V}{fa:List Fact}(hf:∀f,f∈fa→FOK v f)(x y:Nat)(c:Int):den v (sQ fa x y c)=.bool (decide (v.i x - v.i y≤c)):=by
 unfold sQ;split
 ·rename_i h;have:=kM hf h;simp only [den,CV.bool.injEq]; exact (fQ this).symm
 ·split
  ·rename_i h;have:=kM hf h;simp only [den,CV.bool.injEq]; exact (eY (by omega)).symm
  ·rfl
def qDH(fa:List Fact)(neg:Bool)(x y:Nat)(c:Int):AV :=
 if dle fa x y c&&dle fa y x (-c) then .bool (!neg) else if dle fa x y (c - 1) || dle fa y x (-c - 1) then .bool neg else .eqc neg x y c
theorem qL{v:V}{fa:List Fact}(hf:∀f,f∈fa→FOK v f)(neg:Bool)(x y:Nat)(c:Int):den v (qDH fa neg x y c)=.bool (decide (v.i x - v.i y=c) != neg):=by
 unfold qDH;split
 ·rename_i h;simp only [aT] at h;have h1:=kM hf h.1; have h2:=kM hf h.2;rw [fQ (show v.i x - v.i y=c by omega)];cases neg<;>rfl
 ·split
  ·rename_i h;simp only [bU] at h;rw [eY (show ¬(v.i x - v.i y=c) by rcases h with h | h<;>(have:=kM hf h; omega))];cases neg<;>rfl
  ·rfl
def qIP:Option Int→Option Int→Option Int
 | some a,some b=>some (if a≤b then a else b)
 | some a,none=>some a
 | none,b=>b
def ubE(rec:Nat→Option Int):List (Nat × Int)→Option Int
 | []=>none
 | (b,d)::r=>qIP (match rec b with | some e=>some (d+e) | none=>none) (ubE rec r)
def ubL(rec:Nat→Option Int)(x:Nat):List Fact→Option Int
 | []=>none
 | .dc a b d::r=>if a=x then qIP (match rec b with | some e=>some (d+e) | none=>none) (ubL rec x r) else ubL rec x r
 | .ixd fw _::_=>ubE rec (edg fw x)
 | _::r=>ubL rec x r
def ubR(rec:Nat→Option Int)(y:Nat):List Fact→Option Int
 | []=>none
 | .dc a b d::r=>if b=y then qIP (match rec a with | some e=>some (d+e) | none=>none) (ubR rec y r) else ubR rec y r
 | .ixd _ bw::_=>ubE rec (edg bw y)
 | _::r=>ubR rec y r
def ubd(fa:List Fact):Nat→Nat→Nat→Option Int
 | 0,x,y=>if x=y then some 0 else none
 | n+1,x,y=>if x=y then some 0 else match x with
  | 0=>ubR (fun z=>ubd fa n 0 z) y fa
  | x+1=>ubL (fun z=>ubd fa n z y) (x+1) fa
theorem n9{a b:Option Int}{c:Int}(h:qIP a b=some c):a=some c∨b=some c:=by
 cases a<;>cases b<;>simp only [qIP] at h
 ·cases h
 ·exact .inr h
 ·exact .inl h
 ·simp only [sI] at h;split at h
  ·exact .inl (by rw [h])
  ·exact .inr (by rw [h])
theorem xX{rec:Nat→Option Int}{c:Int}:∀{l:List (Nat × Int)},ubE rec l=some c→∃b d e,(b,d)∈l∧rec b=some e∧c=d+e
 | [],h=>by cases h
 | (b,d)::r,h=>by
  simp only [ubE] at h;rcases n9 h with h | h
  ·split at h
   ·rename_i e he;simp only [sI] at h;exact ⟨b,d,e,mS,he,h.symm⟩
   ·cases h
  ·obtain ⟨b',d',e',h1,h2,h3⟩:=xX h;exact ⟨b',d',e',mC _ h1,h2,h3⟩
theorem ubL_ok{v:V}{y:Nat}{rec:Nat→Option Int}(hr:∀z d,rec z=some d→v.i z - v.i y≤d){x:Nat}{c:Int}:∀{fa:List Fact},(∀f,f∈fa→FOK v f)→ubL rec x fa=some c→v.i x - v.i y≤c:=by
 intro fa
 induction fa with
 | nil=>intro _ h; cases h
 | cons f r ih =>
  intro hf h;have hrest:=ih (fun f hm=>hf f (mC _ hm));have h0:=hf f (mS);cases f with
  | dc a b d =>
   simp only [ubL] at h;split at h
   ·rename_i ha;subst ha;rcases n9 h with h | h
    ·split at h
     ·rename_i e he;simp only [sI] at h;have:=hr _ _ he; simp only [FOK] at h0; omega
     ·cases h
    ·exact hrest h
   ·exact hrest h
  | ixd fw bw =>
   obtain ⟨b,d,e,h1,h2,rfl⟩:=xX h;have:=h0.1 x b d h1; have:=hr _ _ h2; omega
  | _=>exact hrest h
theorem ubR_ok{v:V}{x:Nat}{rec:Nat→Option Int}(hr:∀z d,rec z=some d→v.i x - v.i z≤d){y:Nat}{c:Int}:∀{fa:List Fact},(∀f,f∈fa→FOK v f)→ubR rec y fa=some c→v.i x - v.i y≤c:=by
 intro fa
 induction fa with
 | nil=>intro _ h; cases h
 | cons f r ih =>
  intro hf h;have hrest:=ih (fun f hm=>hf f (mC _ hm));have h0:=hf f (mS);cases f with
  | dc a b d =>
   simp only [ubR] at h;split at h
   ·rename_i ha;subst ha;rcases n9 h with h | h
    ·split at h
     ·rename_i e he;simp only [sI] at h;have:=hr _ _ he; simp only [FOK] at h0; omega
     ·cases h
    ·exact hrest h
   ·exact hrest h
  | ixd fw bw =>
   obtain ⟨b,d,e,h1,h2,rfl⟩:=xX h;have:=h0.2 y b d h1; have:=hr _ _ h2; omega
  | _=>exact hrest h
theorem qGI{v:V}{fa:List Fact}(hf:∀f,f∈fa→FOK v f):∀(n x y:Nat) (c:Int),ubd fa n x y=some c→v.i x - v.i y≤c:=by
 intro n
 induction n with
 | zero =>
  intro x y c h;simp only [ubd] at h;split at h
  ·rename_i he; subst he; simp only [sI] at h; omega
  ·cases h
 | succ n ih =>
  intro x y c h;simp only [ubd] at h;split at h
  ·rename_i he; subst he; simp only [sI] at h; omega
  ·split at h
   ·exact ubR_ok (fun z d hz=>ih 0 z d hz) hf h
   ·exact ubL_ok (fun z d hz=>ih z y d hz) hf h
def hiC(fa:List Fact)(l:Lin):Option Int:=(ubd fa 3 l.s 0).map (· + l.c)
def loC(fa:List Fact)(l:Lin):Option Int:=(ubd fa 3 0 l.s).map (fun d=>l.c - d)
theorem eF{v:V}{fa:List Fact}(z:v.i 0=0)(hf:∀f,f∈fa→FOK v f){l:Lin}{c:Int}(h:hiC fa l=some c):l.ev v≤c:=by
 simp only [hiC,ez] at h;obtain ⟨d,hd,rfl⟩:=h;have:=qGI hf _ _ _ _ hd;simp only [Lin.ev]; omega
theorem lY{v:V}{fa:List Fact}(z:v.i 0=0)(hf:∀f,f∈fa→FOK v f){l:Lin}{c:Int}(h:loC fa l=some c):c≤l.ev v:=by
 simp only [loC,ez] at h;obtain ⟨d,hd,rfl⟩:=h;have:=qGI hf _ _ _ _ hd;simp only [Lin.ev]; omega
def gH(st:St)(k:IntKind)(fs:List Fact):AV × St:=(.int k st.n 0,{ st with n:=st.n+1,fa:=fs++.dc 0 st.n (-kLo k)::.dc st.n 0 (kHi k)::st.fa })
section
variable {X:Cx} {v:V} {st:St} {env:List CV} {h:H}
theorem cU(s:Sat X v st env h){k:IntKind}{fs:List Fact}{r:Option (CV × H)}{m:Int}(hr:r=some (.int k m,h))(h0:kLo k≤m)(h1:m≤kHi k)(hf:∀w,Sat0 X w st env h→w.i st.n=m→∀f,f∈fs→FOK w f):ae X v st env [gH st k fs] r:=by
 refine ⟨_,mS,upI v st.n m,bg _ _ _ _ _ _,dZ _,rfl,.int k m,h,hr,?_,fun u hu=>?_⟩
 ·have:=s.ext (w:=upI v st.n m) (n':=st.n+1) (fs:=fs++[.dc 0 st.n (-kLo k),.dc st.n 0 (kHi k)]) (dZ _) (bg _ _ _ _ _ _) (fun u hu f hm=>by
   obtain ⟨ha,hi,_⟩:=bQ hu;have s0:=s.all u ha;simp only [bP,aS,bz,br] at hm;rcases hm with hm | rfl | rfl
   ·exact hf u s0 hi f hm
   ·simp only [FOK,hi,s0.z]; omega
   ·simp only [FOK,hi,s0.z]; omega)
  simp only [nH,eI,eX] at this;exact this
 ·obtain ⟨_,hi,_⟩:=bQ hu;simp only [gH,den,hi,eV]
def oO(st:St)(k:IntKind)(l:Option Lin)(fs:List Fact):AV × St :=
 match l with
 | some l=>if leL st.fa ⟨0,kLo k⟩ l 0&&leL st.fa l ⟨0,kHi k⟩ 0 then (.int k l.s l.c,st) else gH st k []
 | none=>gH st k fs
theorem f7(s:Sat X v st env h){k:IntKind}{l:Option Lin}{fs:List Fact}{r:Option (CV × H)}{m:Int}(hr:r=some (.int k (k.wrap m),h))(hl:∀w l',l=some l'→Sat0 X w st env h→l'.ev w=m)(hf:∀w,Sat0 X w st env h→w.i st.n=k.wrap m→∀f,f∈fs→FOK w f):ae X v st env [oO st k l fs] r:=by
 unfold oO;split
 ·rename_i l';split
  ·rename_i hb;simp only [aT] at hb;refine aJ s fun w sw=>?_
   have h1:=aE sw.fa hb.1;have h2:=aE sw.fa hb.2;have h3:=hl w l' rfl sw;simp only [Lin.ev,sw.z] at h1 h2 h3;rw [hr,ou (by omega) (by omega)];simp only [den,h3]
  ·exact cU s hr (wrap_in _ _).1 (wrap_in _ _).2 (fun _ _ _ f hm=>by cases hm)
 ·exact cU s hr (wrap_in _ _).1 (wrap_in _ _).2 hf
def addF(st:St)(a b:Lin):List Fact :=
 match loC st.fa a,hiC st.fa a,loC st.fa b,hiC st.fa b with
 | some la,some ha,some lb,some hb=>if -9223372036854775808≤la+lb∧ha+hb≤9223372036854775807 then [.dc st.n a.s (a.c+hb),.dc a.s st.n (-a.c - lb),.dc st.n b.s (b.c+ha),.dc b.s st.n (-b.c - la),.sum a.s b.s st.n (-(a.c+b.c))] else []
 | _,_,_,_=>[]
def qGN(x y:Nat):List Fact→Option Lin
 | []=>none
 | .sum a b t c::r=>if (a=x∧b=y)∨(a=y∧b=x) then some ⟨t,c⟩ else qGN x y r
 | _::r=>qGN x y r
theorem zX{w:V}{x y:Nat}{l:Lin}:∀{fa:List Fact},(∀f,f∈fa→FOK w f)→qGN x y fa=some l→l.ev w=w.i x+w.i y:=by
 intro fa
 induction fa with
 | nil=>intro _ h; cases h
 | cons f r ih =>
  intro hf h;have hrest:=ih (fun f hm=>hf f (mC _ hm));have h0:=hf f (mS);cases f with
  | sum a b t c =>
   simp only [qGN] at h;split at h
   ·rename_i hc;simp only [sI] at h; subst h;simp only [FOK] at h0;simp only [Lin.ev];rcases hc with ⟨rfl,rfl⟩ | ⟨rfl,rfl⟩<;>omega
   ·exact hrest h
  | _=>exact hrest h
def qMR(st:St)(a b:Lin):Option Lin:=if a.s=0 then some ⟨b.s,a.c+b.c⟩ else if b.s=0 then some ⟨a.s,a.c+b.c⟩ else (qGN a.s b.s st.fa).map fun l=>⟨l.s,l.c+a.c+b.c⟩
theorem qZN{X:Cx}{st:St}{env:List CV}{h:H}{w:V}(sw:Sat0 X w st env h){a b l:Lin}(hl:qMR st a b=some l):l.ev w=a.ev w+b.ev w:=by
 simp only [qMR] at hl;simp only [Lin.ev];split at hl
 ·rename_i h0; simp only [sI] at hl; subst hl; have hz:=congrArg w.i h0; rw [sw.z] at hz; dsimp only; omega
 ·split at hl
  ·rename_i h0; simp only [sI] at hl; subst hl; have hz:=congrArg w.i h0; rw [sw.z] at hz; dsimp only; omega
  ·simp only [ez] at hl;obtain ⟨l0,h1,rfl⟩:=hl;have:=zX sw.fa h1;simp only [Lin.ev] at this
   dsimp only; omega
def ug(a b:Lin):Option Lin:=if a.s=0 then some ⟨b.s,a.c+b.c⟩ else if b.s=0 then some ⟨a.s,a.c+b.c⟩ else none
def pb(a b:Lin):Option Lin:=if b.s=0 then some ⟨a.s,a.c - b.c⟩ else if a.s=b.s then some ⟨0,a.c - b.c⟩ else none
def qGO(st:St)(a b:Lin):List Fact :=
 match loC st.fa a,hiC st.fa a,loC st.fa b,hiC st.fa b with
 | some la,some ha,some lb,some hb=>if -9223372036854775808≤la - hb∧ha - lb≤9223372036854775807 then [.dc st.n a.s (a.c - lb),.dc a.s st.n (-a.c+hb)]++((if leL st.fa b a 0 then [.dc 0 st.n 0] else [])++(if b.s=0 then [] else [.sum st.n b.s a.s (a.c - b.c)])) else []
 | _,_,_,_=>[]
theorem qZO{w:V}(k:IntKind)(hk:k=.i64)(sw:Sat0 X w st env h){a b:Lin}{m:Int}(hm:m=a.ev w+b.ev w)(hn:w.i st.n=k.wrap m):∀f,f∈addF st a b→FOK w f:=by
 intro f hf;unfold addF at hf;split at hf
 ·rename_i la ha lb hb h1 h2 h3 h4;split at hf
  ·rename_i hr;have h1:=lY sw.z sw.fa h1;have h2:=eF sw.z sw.fa h2;have h3:=lY sw.z sw.fa h3;have h4:=eF sw.z sw.fa h4;subst hk;rw [ou (by simp only [kLo]; omega) (by simp only [kHi]; omega)] at hn;simp only [aS,bz,br] at hf;simp only [Lin.ev] at *;rcases hf with rfl | rfl | rfl | rfl | rfl<;>simp only [FOK]<;>omega
  ·cases hf
 ·cases hf
theorem qNJ{w:V}(k:IntKind)(hk:k=.i64)(sw:Sat0 X w st env h){a b:Lin}{m:Int}(hm:m=a.ev w - b.ev w)(hn:w.i st.n=k.wrap m):∀f,f∈qGO st a b→FOK w f:=by
 intro f hf;unfold qGO at hf;split at hf
 ·rename_i la ha lb hb h1 h2 h3 h4;split at hf
  ·rename_i hr;have h1:=lY sw.z sw.fa h1;have h2:=eF sw.z sw.fa h2;have h3:=lY sw.z sw.fa h3;have h4:=eF sw.z sw.fa h4;subst hk;rw [ou (by simp only [kLo]; omega) (by simp only [kHi]; omega)] at hn;simp only [bP,aS,bz,br] at hf;rcases hf with (rfl | rfl) | hf
   ·simp only [FOK,Lin.ev] at *; omega
   ·simp only [FOK,Lin.ev] at *; omega
   ·rcases hf with hf | hf
    ·split at hf
     ·rename_i hl;have:=aE sw.fa hl;simp only [aS,bz,br] at hf;subst hf;simp only [FOK,Lin.ev,sw.z] at *; omega
     ·cases hf
    ·split at hf
     ·cases hf
     ·simp only [aS,bz,br] at hf;subst hf;simp only [FOK,Lin.ev] at *; omega
  ·cases hf
 ·cases hf
def sBin(op:BinOp)(k:IntKind)(a b:Lin)(st:St):Option (List (AV × St)) :=
 match op with
 | .add=>some [oO st k (qMR st a b) (if k=.i64 then addF st a b else [])]
 | .sub=>some [oO st k (pb a b) (if k=.i64 then qGO st a b else [])]
 | .mul=>some [oO st k (if a.s=0∧b.s=0 then some ⟨0,a.c*b.c⟩ else none) []]
 | .quo=>if leL st.fa ⟨0,1⟩ b 0 then some [gH st k []] else none
 | .rem=>if b.s=0∧0 < b.c∧leL st.fa ⟨0,0⟩ a 0∧b.c≤kHi k then some [gH st k [.dc 0 st.n 0,.dc st.n 0 (b.c - 1)]] else none
 | .and=>some [gH st k []]
 | .or=>some [gH st k []]
 | .xor=>some [gH st k []]
 | .andNot=>some [gH st k []]
 | .lss=>some [(sQ st.fa a.s b.s (b.c - a.c - 1),st)]
 | .leq=>some [(sQ st.fa a.s b.s (b.c - a.c),st)]
 | .gtr=>some [(sQ st.fa b.s a.s (a.c - b.c - 1),st)]
 | .geq=>some [(sQ st.fa b.s a.s (a.c - b.c),st)]
 | _=>none
theorem qJP(k:IntKind):kLo k≤0:=by cases k<;>simp [kLo]
theorem qPQ(s:Sat X v st env h){op:BinOp}{k:IntKind}{a b:Lin}{outs:List (AV × St)}(hs:sBin op k a b st=some outs){r:Option (CV × H)}{x y:Int}(hx:∀w,Sat0 X w st env h→a.ev w=x)(hy:∀w,Sat0 X w st env h→b.ev w=y)(hr:r=match iS op k x y with
  | some c=>some (c,h)
  | none=>none):ae X v st env outs r:=by
 have s0:=s.now;cases op<;>simp only [sBin] at hs
 case add =>
  simp only [sI] at hs; subst hs;refine f7 s (m:=x+y) (by rw [hr]; rfl) (fun w l' hl sw=>?_) (fun w sw hn f hf=>?_)
  ·have:=hx w sw; have:=hy w sw;simp only [qMR] at hl;simp only [Lin.ev] at *;split at hl
   ·rename_i h0; simp only [sI] at hl; subst hl; have hz:=congrArg w.i h0; rw [sw.z] at hz; dsimp only; omega
   ·split at hl
    ·rename_i h0; simp only [sI] at hl; subst hl; have hz:=congrArg w.i h0; rw [sw.z] at hz; dsimp only; omega
    ·simp only [ez] at hl;obtain ⟨l0,h1,rfl⟩:=hl;have:=zX sw.fa h1;simp only [Lin.ev] at this
     dsimp only; omega
  ·split at hf
   ·rename_i hk; exact qZO k hk sw (by rw [hx w sw,hy w sw]) hn f hf
   ·cases hf
 case sub =>
  simp only [sI] at hs; subst hs;refine f7 s (m:=x - y) (by rw [hr]; rfl) (fun w l' hl sw=>?_) (fun w sw hn f hf=>?_)
  ·have:=hx w sw; have:=hy w sw;simp only [pb] at hl;simp only [Lin.ev] at *;split at hl
   ·rename_i h0; simp only [sI] at hl; subst hl; have hz:=congrArg w.i h0; rw [sw.z] at hz; dsimp only; omega
   ·split at hl
    ·rename_i h0; simp only [sI] at hl; subst hl; have hz:=congrArg w.i h0; have:=sw.z; dsimp only; omega
    ·cases hl
  ·split at hf
   ·rename_i hk; exact qNJ k hk sw (by rw [hx w sw,hy w sw]) hn f hf
   ·cases hf
 case mul =>
  simp only [sI] at hs; subst hs;refine f7 s (m:=x*y) (by rw [hr]; rfl) (fun w l' hl sw=>?_) (fun w sw hn f hf=>by cases hf);have hx:=hx w sw; have hy:=hy w sw;simp only [Lin.ev] at *;split at hl
  ·rename_i h0; simp only [sI] at hl; subst hl; rw [h0.1,sw.z] at hx; rw [h0.2,sw.z] at hy; dsimp only; rw [sw.z,←hx,←hy]; simp
  ·cases hl
 case quo =>
  split at hs
  ·rename_i hl;simp only [sI] at hs; subst hs;have h1:=aE s0.fa hl;have:=hy v s0;simp only [Lin.ev,s0.z] at h1 this;refine cU s (m:=k.wrap (x.tdiv y)) (by rw [hr]; simp only [iS]; rw [aC (show y≠0 by omega)]) (wrap_in _ _).1 (wrap_in _ _).2 (fun _ _ _ f hm=>by cases hm)
  ·cases hs
 case rem =>
  split at hs
  ·rename_i hl;obtain ⟨hb0,hb1,hl,hb2⟩:=hl;simp only [sI] at hs; subst hs;have h1:=aE s0.fa hl;have h2:=hy v s0;have h3:=hx v s0;simp only [Lin.ev,hb0,s0.z] at h1 h2 h3;have hy0:0 < y:=by omega
   have hx0:0≤x:=by omega
   have e:x.tmod y=x % y:=Int.tmod_eq_emod_of_nonneg hx0;have e1:=Int.emod_nonneg x (show y≠0 by omega);have e2:=Int.emod_lt_of_pos x hy0;have:=qJP k;refine cU s (m:=x.tmod y) (by rw [hr]; simp only [iS]; rw [aC (show y≠0 by omega)]) (by omega) (by omega) (fun w sw hn f hm=>?_);simp only [aS,bz,br] at hm;rcases hm with rfl | rfl<;>simp only [FOK,sw.z]<;>omega
  ·cases hs
 case and=>simp only [sI] at hs; subst hs; exact cU s hr (wrap_in _ _).1 (wrap_in _ _).2 (fun _ _ _ f hm=>by cases hm)
 case or=>simp only [sI] at hs; subst hs; exact cU s hr (wrap_in _ _).1 (wrap_in _ _).2 (fun _ _ _ f hm=>by cases hm)
 case xor=>simp only [sI] at hs; subst hs; exact cU s hr (wrap_in _ _).1 (wrap_in _ _).2 (fun _ _ _ f hm=>by cases hm)
 case andNot=>simp only [sI] at hs; subst hs; exact cU s hr (wrap_in _ _).1 (wrap_in _ _).2 (fun _ _ _ f hm=>by cases hm)
 case lss =>
  simp only [sI] at hs; subst hs;refine aJ s fun w sw=>?_
  have:=hx w sw; have:=hy w sw;simp only [Lin.ev] at *;rw [ku sw.fa,hr];simp only [iS]
  congr 4; exact propext ⟨fun _=>by omega,fun _=>by omega⟩
 case leq =>
  simp only [sI] at hs; subst hs;refine aJ s fun w sw=>?_
  have:=hx w sw; have:=hy w sw;simp only [Lin.ev] at *;rw [ku sw.fa,hr];simp only [iS]
  congr 4; exact propext ⟨fun _=>by omega,fun _=>by omega⟩
 case gtr =>
  simp only [sI] at hs; subst hs;refine aJ s fun w sw=>?_
  have:=hx w sw; have:=hy w sw;simp only [Lin.ev] at *;rw [ku sw.fa,hr];simp only [iS]
  congr 4; exact propext ⟨fun _=>by omega,fun _=>by omega⟩
 case geq =>
  simp only [sI] at hs; subst hs;refine aJ s fun w sw=>?_
  have:=hx w sw; have:=hy w sw;simp only [Lin.ev] at *;rw [ku sw.fa,hr];simp only [iS]
  congr 4; exact propext ⟨fun _=>by omega,fun _=>by omega⟩
 all_goals cases hs
end
end
end Ce.S
namespace Ce.S
noncomputable section
open Go
section
variable {X:Cx} {v:V} {st:St} {env:List CV} {h:H}
theorem Sat0.op{w:V}(sw:Sat0 X w st env h){x:Opd}{a:AV}(ha:opA st.env x=some a):x.ev env=den w a:=by
 rw [sw.env]; exact iX sw.z ha
theorem Sat0.ops{w:V}(sw:Sat0 X w st env h){x:List Opd}{a:List AV}(ha:qG st.env x=some a):evs env x=aF w a:=by
 rw [sw.env]; exact qIH sw.z ha
theorem qXT{k:IntKind}{a:Int}(h0:kLo k≤a)(h1:a≤kHi k)(m:Nat):kLo k≤a.fdiv (2 ^ m)∧a.fdiv (2 ^ m)≤kHi k:=by
 have hp:(0:Int) < 2 ^ m:=Int.pow_pos (by omega);rw [Int.fdiv_eq_ediv_of_nonneg _ (Int.le_of_lt hp)];have hk:=qJP k;have hh:0≤kHi k:=by cases k<;>simp [kHi]
 constructor
 ·rw [Int.le_ediv_iff_mul_le hp];have:kLo k*2 ^ m≤kLo k*1:=Int.mul_le_mul_of_nonpos_left hk (by omega);omega
 ·have:a / 2 ^ m < kHi k+1:=by
   rw [Int.ediv_lt_iff_lt_mul hp];have:(kHi k+1)*1≤(kHi k+1)*2 ^ m:=Int.mul_le_mul_of_nonneg_left (by omega) (by omega);omega
  omega
def sd(fa:List Fact)(n p q:Nat)(d:Int):List Fact :=
 (if leL fa ⟨p,0⟩ ⟨q,d⟩ 0 then [.dc p n 0] else [])++(if leL fa ⟨p,d+1⟩ ⟨q,0⟩ 0 then [.dc n q (-1)] else [])
def s9(fa:List Fact)(a:Lin)(n:Nat):List Fact→List Fact
 | []=>[]
 | .sum p q t c::r=>(if t=a.s then sd fa n p q (a.c - c)++sd fa n q p (a.c - c) else [])++s9 fa a n r
 | _::r=>s9 fa a n r
theorem qAT{w:V}{fa:List Fact}(hf:∀f,f∈fa→FOK w f){n p q:Nat}{d x:Int}(hx:w.i p+w.i q+d=x)(hn:w.i n=x.fdiv (2 ^ 1)):∀f,f∈sd fa n p q d→FOK w f:=by
 intro f hm;have hd:x.fdiv (2 ^ 1)=x / 2:=by rw [Int.fdiv_eq_ediv_of_nonneg _ (by decide)]; rfl
 rw [hd] at hn;unfold sd at hm;rcases bP.1 hm with hm | hm
 ·split at hm
  ·rename_i hl;have:=aE hf hl;simp only [Lin.ev] at this;simp only [cM] at hm; subst hm;simp only [FOK]; omega
  ·cases hm
 ·split at hm
  ·rename_i hl;have:=aE hf hl;simp only [Lin.ev] at this;simp only [cM] at hm; subst hm;simp only [FOK]; omega
  ·cases hm
theorem qKX{w:V}{fa:List Fact}(hf:∀f,f∈fa→FOK w f){a:Lin}{n:Nat}{x:Int}(hx:a.ev w=x)(hn:w.i n=x.fdiv (2 ^ 1)):∀{l:List Fact},(∀f,f∈l→FOK w f)→∀f,f∈s9 fa a n l→FOK w f:=by
 intro l
 induction l with
 | nil=>intro _ f h; cases h
 | cons g r ih =>
  intro hl f hm;have hr:=ih (fun f hm=>hl f (mC _ hm));have h0:=hl g mS;cases g<;>simp only [s9] at hm<;>(try (exact hr f hm));rename_i p q t c;have hm':f∈(if t=a.s then sd fa n p q (a.c - c)++sd fa n q p (a.c - c) else [])++s9 fa a n r:=hm;clear hm;rcases bP.1 hm' with hm | hm
  ·by_cases ht:t=a.s
   ·rw [aH ht] at hm;subst ht;simp only [FOK] at h0;simp only [Lin.ev] at hx;rcases bP.1 hm with hm | hm
    ·exact qAT hf (x:=x) (by omega) hn f hm
    ·exact qAT hf (x:=x) (by omega) hn f hm
   ·rw [aC ht] at hm; cases hm
  ·exact hr f hm
def xw(op:BinOp)(k:IntKind)(a b:Lin)(st:St):Option (List (AV × St)) :=
 if leL st.fa ⟨0,0⟩ b 0=false then none else
 match op with
 | .shl=>some [oO st k (if a.s=0∧b.s=0∧b.c≤70 then some ⟨0,a.c*2 ^ (min b.c.toNat k.bits)⟩ else none) []]
 | .shr=>if leL st.fa ⟨0,kLo k⟩ a 0&&leL st.fa a ⟨0,kHi k⟩ 0 then some [gH st k ((if leL st.fa ⟨0,0⟩ a 0 then [.dc 0 st.n 0] else [])++(if b.s=0∧b.c=1∧1≤k.bits then s9 st.fa a st.n (.sum 0 a.s a.s 0::st.fa)++(if leL st.fa ⟨0,0⟩ a 0 then [.dc st.n a.s a.c] else []) else []))] else none
 | _=>none
theorem qCP(s:Sat X v st env h){op:BinOp}{k:IntKind}{a b:Lin}{outs:List (AV × St)}(hs:xw op k a b st=some outs){r:Option (CV × H)}{x y:Int}(hx:∀w,Sat0 X w st env h→a.ev w=x)(hy:∀w,Sat0 X w st env h→b.ev w=y)(hr:r=match nU op k x y with
  | some c=>some (c,h)
  | none=>none):ae X v st env outs r:=by
 have s0:=s.now;unfold xw at hs;split at hs
 ·cases hs
 ·rename_i h0;have h0:=aE s0.fa (by simpa using h0);have hy0:=hy v s0;have hy1:¬y < 0:=by simp only [Lin.ev,s0.z] at h0 hy0; omega
  cases op<;>simp only [] at hs<;>(try (cases hs; done))
  case shl =>
   simp only [sI] at hs; subst hs;refine f7 s (m:=x*2 ^ (min y.toNat k.bits)) (by rw [hr]; simp only [nU]; rw [aC hy1]) (fun w l' hl sw=>?_) (fun w sw hn f hf=>by cases hf);have hx:=hx w sw; have hy:=hy w sw;simp only [Lin.ev] at *;split at hl
   ·rename_i h0;obtain ⟨ha,hb,_⟩:=h0;simp only [sI] at hl; subst hl;have hz:=congrArg w.i ha; have hz2:=congrArg w.i hb;rw [sw.z] at hz hz2;have e1:a.c=x:=by omega
    have e2:b.c=y:=by omega
    dsimp only; rw [sw.z,e1,e2]; omega
   ·cases hl
  case shr =>
   split at hs
   ·rename_i hb;simp only [aT] at hb;simp only [sI] at hs; subst hs;have h1:=aE s0.fa hb.1; have h2:=aE s0.fa hb.2;have hx0:=hx v s0;simp only [Lin.ev,s0.z] at h1 h2 hx0;have hin:=qXT (k:=k) (a:=x) (by omega) (by omega) (min y.toNat k.bits);refine cU s (m:=x.fdiv (2 ^ (min y.toNat k.bits))) (by rw [hr]; simp only [nU]; rw [aC hy1]) hin.1 hin.2 (fun w sw hn f hm=>?_);rcases bP.1 hm with hm | hm
    rotate_left
    ·split at hm
     ·rename_i hb1;obtain ⟨hb2,hb3,hb4⟩:=hb1;have hyw:=hy w sw;have hz:=congrArg w.i hb2;rw [sw.z] at hz;have ey:y=1:=by simp only [Lin.ev] at hyw; omega
      have em:min y.toNat k.bits=1:=by rw [ey]; show min 1 k.bits=1; omega
      rw [em] at hn;rcases bP.1 hm with hm | hm
      ·exact qKX sw.fa (hx w sw) hn (fun g hg=>by
        rcases aS.1 hg with rfl | hg
        ·simp only [FOK,sw.z]; omega
        ·exact sw.fa g hg) f hm
      ·split at hm
       ·rename_i hp;have hp:=aE sw.fa hp;have hxw:=hx w sw;simp only [Lin.ev,sw.z] at hp hxw;simp only [cM] at hm; subst hm;have hd:x.fdiv (2 ^ 1)=x / 2:=by rw [Int.fdiv_eq_ediv_of_nonneg _ (by decide)]; rfl
        rw [hd] at hn;simp only [FOK]; omega
       ·cases hm
     ·cases hm
    split at hm
    ·rename_i hp;have hp:=aE sw.fa hp;have hxw:=hx w sw;simp only [Lin.ev,sw.z] at hp hxw;simp only [aS,bz,br] at hm;subst hm;simp only [FOK,sw.z,hn];have hpp:(0:Int) < 2 ^ (min y.toNat k.bits):=Int.pow_pos (by omega);have:0≤x.fdiv (2 ^ (min y.toNat k.bits)):=by
      rw [Int.fdiv_eq_ediv_of_nonneg _ (Int.le_of_lt hpp)];exact Int.ediv_nonneg (by omega) (Int.le_of_lt hpp)
     omega
    ·cases hm
   ·cases hs
theorem qQM{ks:List LK}{cs:List CV}(hk:yM ks cs):eS (ks.map LK.lf) cs=true:=by
 induction ks generalizing cs with
 | nil=>rw [show cs=[] from hk]; rfl
 | cons k ks ih =>
  obtain ⟨c,cs',rfl,h1,h2⟩:=hk;cases k<;>obtain ⟨x,rfl⟩:=h1<;>exact ih h2
theorem gg{ag:Bool}{ks:List LK}{c:CV}(hk:ji ag ks c):kOk ag (ks.map LK.lf) c=true:=by
 simp only [kOk,hk.1,lM,qQM hk.2,eA]
theorem qDJ{ks:List LK}{xs ys:List CV}(hx:yM ks xs)(hy:yM ks ys):xs.length=ys.length∧∃b,cr xs ys=some b:=by
 induction ks generalizing xs ys with
 | nil=>rw [show xs=[] from hx,show ys=[] from hy]; exact ⟨rfl,true,rfl⟩
 | cons k ks ih =>
  obtain ⟨x,xs',rfl,hx1,hx2⟩:=hx;obtain ⟨y,ys',rfl,hy1,hy2⟩:=hy;obtain ⟨hl,b,hb⟩:=ih hx2 hy2;refine ⟨by simp only [eZ,hl],?_⟩;have:∃b,eqv x y=some b:=by
   cases k<;>obtain ⟨m,rfl⟩:=hx1<;>obtain ⟨n,rfl⟩:=hy1
   ·exact ⟨_,rfl⟩
   ·exact ⟨m==n,by simp only [eqv,ac]⟩
   ·exact ⟨_,rfl⟩
  obtain ⟨b',hb'⟩:=this;cases b' with
  | true=>exact ⟨b,by simp only [cr,hb',hb]⟩
  | false=>exact ⟨false,by simp only [cr,hb']⟩
theorem tA:∀{ks:List LK} {cs:List CV},yM ks cs→cr cs cs=some true
 | [],cs,h=>by
  have:cs=[]:=h;subst this; rfl
 | k::ks,_,⟨c,cs,rfl,h1,h2⟩=>by
  have hc:eqv c c=some true:=by
   cases k with
   | b=>obtain ⟨b,rfl⟩:=h1; simp [eqv]
   | i k=>obtain ⟨n,rfl⟩:=h1; simp [eqv]
   | s=>obtain ⟨x,rfl⟩:=h1; simp [eqv]
  simp only [cr,hc];exact tA h2
theorem yO{ag:Bool}{ks:List LK}{x:CV}(h:ji ag ks x):eqF x x=some true:=by
 simp only [eqF,lM,eA,ac];exact tA h.2
theorem nr{ag:Bool}{ks:List LK}{x y:CV}(hx:ji ag ks x)(hy:ji ag ks y):∃b,eqF x y=some b:=by
 obtain ⟨hl,b,hb⟩:=qDJ hx.2 hy.2;exact ⟨b,by simp only [eqF,hx.1,hy.1,hl,lM,eA,ac,hb]⟩
def lkA(fa:List Fact):AV→Option LK
 | .bool _ | .cmp _ _ _ | .eqc _ _ _ _=>some .b
 | .int k _ _=>some (.i k)
 | .str _=>some .s
 | .sym s=>if fL fa s (fun T=>sty fa T .bool) fa then some .b else if fL fa s (fun T=>sty fa T .str) fa then some .s else none
 | _=>none
theorem qJC{w:V}{fa:List Fact}(hf:∀f,f∈fa→FOK w f){a:AV}{k:LK}(hk:lkA fa a=some k):zAI k (den w a)∧cK (den w a)=false:=by
 unfold lkA at hk;split at hk<;>(try (cases hk; done))
 ·simp only [sI] at hk; subst hk; exact ⟨⟨_,rfl⟩,rfl⟩
 ·simp only [sI] at hk; subst hk; exact ⟨⟨_,rfl⟩,rfl⟩
 ·simp only [sI] at hk; subst hk; exact ⟨⟨_,rfl⟩,rfl⟩
 ·simp only [sI] at hk; subst hk; exact ⟨⟨_,rfl⟩,rfl⟩
 ·simp only [sI] at hk; subst hk; exact ⟨⟨_,rfl⟩,rfl⟩
 ·split at hk
  ·rename_i hh;obtain ⟨T,hp,hT⟩:=dV hf hh;obtain ⟨b,hb⟩:=il hf _ _ hp _ hT;simp only [sI] at hk; subst hk;simp only [den,hb]; exact ⟨⟨_,rfl⟩,rfl⟩
  ·split at hk
   ·rename_i hh;obtain ⟨T,hp,hT⟩:=dV hf hh;obtain ⟨b,hb⟩:=il hf _ _ hp _ hT;simp only [sI] at hk; subst hk;simp only [den,hb]; exact ⟨⟨_,rfl⟩,rfl⟩
   ·cases hk
def qJB(fa:List Fact):List AV→Option (List LK)
 | []=>some []
 | a::l=>match lkA fa a,qJB fa l with
  | some k,some ks=>some (k::ks)
  | _,_=>none
theorem qQN{w:V}{fa:List Fact}(hf:∀f,f∈fa→FOK w f){a:List AV}{k:List LK}(hk:qJB fa a=some k):yM k (aF w a):=by
 induction a generalizing k with
 | nil=>simp only [qJB,sI] at hk; subst hk; rfl
 | cons x xs ih =>
  simp only [qJB] at hk;split at hk
  ·rename_i k' ks' h1 h2;simp only [sI] at hk; subst hk;exact ⟨_,_,rfl,(qJC hf h1).1,ih h2⟩
  ·cases hk
def qX(fa:List Fact):AV→Option (Bool × List LK)
 | .agg l=>(qJB fa l).map fun ks=>(true,ks)
 | a=>(lkA fa a).map fun k=>(false,[k])
theorem i3{w:V}{fa:List Fact}(hf:∀f,f∈fa→FOK w f){a:AV}{ag:Bool}{ks:List LK}(hk:qX fa a=some (ag,ks)):ji ag ks (den w a):=by
 unfold qX at hk;split at hk
 ·rename_i l;simp only [ez,pI] at hk;obtain ⟨ks',h1,rfl,rfl⟩:=hk;exact ⟨rfl,qQN hf h1⟩
 ·simp only [ez,pI] at hk;obtain ⟨k',h1,rfl,rfl⟩:=hk;obtain ⟨h2,h3⟩:=qJC hf h1;refine ⟨h3,?_⟩;have:(den w a).cells=[den w a]:=by
   cases k' <;> obtain ⟨x,hx⟩:=h2<;>rw [hx]<;>rfl
  rw [this]; exact ⟨_,_,rfl,h2,rfl⟩
def kD(s:Nat):List Fact→Option (List Ty × Lin × Lin)
 | []=>none
 | .ty s' (.lst R lo hi)::r=>if s'=s then some (R,lo,hi) else kD s r
 | _::r=>kD s r
theorem dw{w:V}{s:Nat}{R:List Ty}{lo hi:Lin}:∀{fa:List Fact},(∀f,f∈fa→FOK w f)→kD s fa=some (R,lo,hi)→av w (.lst R lo hi) (w.c s):=by
 intro fa
 induction fa with
 | nil=>intro _ h; cases h
 | cons f r ih =>
  intro hf hl;have hrest:=ih (fun f hm=>hf f (mC _ hm));have h0:=hf f (mS);unfold kD at hl;split at hl
  ·cases hl
  ·rename_i heq;cases heq;split at hl
   ·rename_i he; subst he; simp only [sI,pI] at hl;obtain ⟨rfl,rfl,rfl⟩:=hl; exact h0
   ·exact hrest hl
  ·rename_i heq;cases heq;exact hrest hl
def qJ9(fa:List Fact)(s:Nat):Bool:=match iQ s fa with
 | some t=>leL fa ⟨0,1⟩ ⟨t,0⟩ 0
 | none=>false
def sEq(neg:Bool)(e:EqK)(a b:AV)(st:St):Option (List (AV × St)) :=
 match e with
 | .leaf ag ls =>
  match ag,ls,a,b with
  | false,[.i],.int k s c,.int k' s' c'=>if k=k' then some [(qDH st.fa neg s s' (c' - c),st)] else none
  | _,_,_,_=>match qX st.fa a,qX st.fa b with
   | some (ag1,ks1),some (ag2,ks2)=>if ag1=ag∧ag2=ag∧ks1=ks2∧ks1.map LK.lf=ls then (if eqA st.fa a b then some [(.bool !neg,st)] else some [fresh st .bool]) else none
   | _,_=>none
 | .ptr=>match a,b with
  | .nilp,.nilp=>some [(.bool !neg,st)]
  | .nilp,.ptr _ _=>some [(.bool neg,st)]
  | .ptr _ _,.nilp=>some [(.bool neg,st)]
  | _,_=>none
 | .slc=>match a,b with
  | .nils,.nils=>some [(.bool !neg,st)]
  | .slc _ _ _ _ _ _,.nils=>some [(.bool neg,st)]
  | .vec _ _ n,.nils=>some [(qDH st.fa neg n.s 0 (-n.c),st)]
  | .sym s,.nils=>match kD s st.fa with
   | some _=>if qJ9 st.fa s then some [(.bool neg,st)] else some [fresh st .bool]
   | none=>none
  | _,_=>none
 | .fn=>match a,b with
  | .nilf,.nilf=>some [(.bool !neg,st)]
  | .clo _ _ _,.nilf=>some [(.bool neg,st)]
  | _,_=>none
 | .map=>match a,b with
  | .nilm,.nilm=>some [(.bool !neg,st)]
  | .map _,.nilm=>some [(.bool neg,st)]
  | _,_=>none
theorem sEq_ok(s:Sat X v st env h){neg:Bool}{e:EqK}{a b:AV}{outs:List (AV × St)}(hs:sEq neg e a b st=some outs){r:Option (CV × H)}{x y:CV}(hx:∀w,Sat0 X w st env h→x=den w a)(hy:∀w,Sat0 X w st env h→y=den w b)(hr:r=match eqK e x y with
  | some b=>some (.bool (if neg then !b else b),h)
  | none=>none):ae X v st env outs r:=by
 have s0:=s.now;unfold sEq at hs;split at hs
 ·rename_i ag ls;split at hs
  ·rename_i k s1 c k' s' c';split at hs
   ·rename_i hk; subst hk;simp only [sI] at hs; subst hs;refine aJ s fun w sw=>?_
    have hx:=hx w sw; have hy:=hy w sw;rw [qL sw.fa,hr,hx,hy];have:eqK (.leaf false [.i]) (den w (.int k s1 c)) (den w (.int k s' c'))=some ((w.i s1+c)==(w.i s'+c')):=by
     simp only [den,eqK,kOk,cK,CV.cells,eS,lM,eA,ac,eqF,eZ,lL,cr,eqv];cases (w.i s1+c==w.i s'+c')<;>rfl
    rw [this];have e:(w.i s1+c==w.i s'+c')=decide (w.i s1 - w.i s'=c' - c):=by
     rw [Bool.eq_iff_iff,aZ,dT]; omega
    dsimp only
    rw [e];cases decide (w.i s1 - w.i s'=c' - c)<;>cases neg<;>rfl
   ·cases hs
  ·split at hs
   ·rename_i ag1 ks1 ag2 ks2 h1 h2;split at hs
    ·rename_i hc;obtain ⟨rfl,rfl,rfl,rfl⟩:=hc;split at hs
     ·rename_i he;simp only [sI] at hs; subst hs;refine aJ s fun w sw=>?_
      have k1:=i3 sw.fa h1;have e:=j9 sw.z sw.fa _ _ he;rw [hr,hx w sw,hy w sw,←e];simp only [eqK,gg k1,ac,yO k1,den];cases neg<;>rfl
     simp only [sI] at hs; subst hs;have k1:=i3 s0.fa h1;have k2:=i3 s0.fa h2;obtain ⟨b',hb'⟩:=nr k1 k2;refine dN s (c:=.bool (if neg then !b' else b')) ?_ (fun w sw=>⟨_,rfl⟩);rw [hr,hx v s0,hy v s0];simp only [eqK,gg k1,ac,hb']
    ·cases hs
   ·cases hs
 ·split at hs<;>(try (cases hs; done))<;>(simp only [sI] at hs; subst hs; refine aJ s fun w sw=>?_; rw [hr,hx w sw,hy w sw]; cases neg<;>rfl)
 ·split at hs<;>(try (cases hs; done))
  ·simp only [sI] at hs; subst hs; refine aJ s fun w sw=>?_; rw [hr,hx w sw,hy w sw]; cases neg<;>rfl
  ·simp only [sI] at hs; subst hs; refine aJ s fun w sw=>?_; rw [hr,hx w sw,hy w sw]; cases neg<;>rfl
  ·rename_i k b n;simp only [sI] at hs; subst hs;refine aJ s fun w sw=>?_
   rw [qL sw.fa,hr,hx w sw,hy w sw];by_cases h0:n.ev w=0
   ·simp only [den,aH h0,eqK];have:w.i n.s - w.i 0 = -n.c:=by simp only [Lin.ev] at h0; have:=sw.z; omega
    rw [fQ this]; cases neg<;>rfl
   ·simp only [den,aC h0,eqK];have:¬(w.i n.s - w.i 0 = -n.c):=by simp only [Lin.ev] at h0; have:=sw.z; omega
    rw [eY this]; cases neg<;>rfl
  ·rename_i s1;split at hs
   ·rename_i p hp;obtain ⟨R,lo,hi⟩:=p;have hT:=dw s0.fa hp;split at hs
    ·rename_i hlong;simp only [sI] at hs; subst hs;refine aJ s fun w sw=>?_
     have hTw:=dw sw.fa hp;have hne:w.c s1≠.nils:=fun hn=>by
      unfold qJ9 at hlong;split at hlong
      ·rename_i t ht;obtain ⟨n,h1,h2⟩:=eo sw.fa ht;rw [hn] at h1;simp only [cV,sI] at h1;have:=aE sw.fa hlong;simp only [Lin.ev,sw.z] at this;omega
      ·cases hlong
     rw [hr,hx w sw,hy w sw];simp only [av] at hTw;rcases hTw with ⟨hTw,_⟩ | ⟨rows,ex,hTw,_⟩
     ·exact absurd hTw hne
     ·simp only [den,hTw,eqK]; cases neg<;>rfl
    ·simp only [sI] at hs; subst hs;have:∃b',eqK .slc x y=some b':=by
      rw [hx v s0,hy v s0];simp only [den,av] at hT ⊢;rcases hT with ⟨hT,_⟩ | ⟨rows,ex,hT,_⟩<;>rw [hT]<;>exact ⟨_,rfl⟩
     obtain ⟨b',hb'⟩:=this;exact dN s (c:=.bool (if neg then !b' else b')) (by rw [hr,hb']) (fun w sw=>⟨_,rfl⟩)
   ·cases hs
 ·split at hs<;>(try (cases hs; done))<;>(simp only [sI] at hs; subst hs; refine aJ s fun w sw=>?_; rw [hr,hx w sw,hy w sw]; cases neg<;>rfl)
 ·split at hs<;>(try (cases hs; done))<;>(simp only [sI] at hs; subst hs; refine aJ s fun w sw=>?_; rw [hr,hx w sw,hy w sw]; cases neg<;>rfl)
def sUn(op:UnOp)(a:AV)(st:St):Option (List (AV × St)) :=
 match op,a with
 | .not,.bool b=>some [(.bool !b,st)]
 | .not,.cmp x y c=>some [(.cmp y x (-c - 1),st)]
 | .not,.eqc neg x y c=>some [(.eqc (!neg) x y c,st)]
 | .not,.sym s=>if fL st.fa s (fun T=>sty st.fa T .bool) st.fa then some [fresh st .bool] else none
 | .neg,.int k s c=>some [oO st k (if s=0 then some ⟨0,0 - c⟩ else none) []]
 | .xor,.int k _ _=>some [gH st k []]
 | _,_=>none
theorem sUn_ok(s:Sat X v st env h){op:UnOp}{a:AV}{outs:List (AV × St)}(hs:sUn op a st=some outs){r:Option (CV × H)}{x:CV}(hx:∀w,Sat0 X w st env h→x=den w a)(hr:r=match un op x with
  | some c=>some (c,h)
  | none=>none):ae X v st env outs r:=by
 have s0:=s.now;unfold sUn at hs;split at hs<;>(try (cases hs; done))
 ·simp only [sI] at hs; subst hs;refine aJ s fun w sw=>?_; rw [hr,hx w sw]; rfl
 ·simp only [sI] at hs; subst hs;refine aJ s fun w sw=>?_
  rename_i x' y' c;rw [hr,hx w sw]; simp only [den,un]
  congr 3
  by_cases hc:w.i x' - w.i y'≤c
  ·rw [fQ hc,eY (by omega)]; rfl
  ·rw [eY hc,fQ (by omega)]; rfl
 ·simp only [sI] at hs; subst hs;refine aJ s fun w sw=>?_
  rename_i neg x' y' c;rw [hr,hx w sw]; simp only [den,un]
  congr 3
  cases decide (w.i x' - w.i y'=c)<;>cases neg<;>rfl
 ·split at hs
  ·rename_i hh;simp only [sI] at hs; subst hs;obtain ⟨T,hp,hT⟩:=dV s0.fa hh;obtain ⟨b,hb⟩:=il s0.fa _ _ hp _ hT;refine dN s (c:=.bool !b) (by rw [hr,hx v s0]; simp only [den,hb,un]) (fun w sw=>⟨_,rfl⟩)
  ·cases hs
 ·rename_i k s1 c;simp only [sI] at hs; subst hs;refine f7 s (m:=0 - (v.i s1+c)) (by rw [hr,hx v s0]; rfl) (fun w l' hl sw=>?_) (fun w sw hn f hf=>by cases hf);split at hl
  ·rename_i he; subst he;simp only [sI] at hl; subst hl;simp only [Lin.ev,sw.z,s0.z]; omega
  ·cases hl
 ·simp only [sI] at hs; subst hs;rename_i k s1 c;exact cU s (by rw [hr,hx v s0]; rfl) (wrap_in _ _).1 (wrap_in _ _).2 (fun _ _ _ f hm=>by cases hm)
end
end
end Ce.S
namespace Ce.S
noncomputable section
open Go
def dI:List AV→Nat→List AV→List AV
 | c,0,[]=>c
 | _::c,0,x::xs=>x::dI c 0 xs
 | a::c,n+1,xs=>a::dI c n xs
 | [],_,_=>[]
theorem db(v:V):∀(c:List AV) (n:Nat) (x:List AV),aF v (dI c n x)=splice (aF v c) n (aF v x)
 | c,0,[]=>by cases c<;>rfl
 | _::c,0,x::xs=>by simp only [dI,aF,splice,db v c 0 xs]
 | a::c,n+1,xs=>by simp only [dI,aF,splice,db v c n xs]
 | [],0,x::xs=>rfl
 | [],n+1,xs=>rfl
def qu(l:List AV)(off n:Nat):Option (List AV):=if off+n≤l.length then some ((l.drop off).take n) else none
theorem mh{v:V}{l r:List AV}{off n:Nat}(h:qu l off n=some r):cut? (aF v l) off n=some (aF v r):=by
 unfold qu at h;split at h
 ·rename_i hl;simp only [sI] at h; subst h;simp only [cut?,aq,aH hl,oF,jK]
 ·cases h
def oT(fa:List Fact)(ag:Option Nat)(l:List AV)(off:Nat):Option AV :=
 match ag with
 | none=>match lV l off with
  | some x=>if oneA fa x then some x else none
  | none=>none
 | some n=>(qu l off n).map .agg
theorem jG{w:V}{fa:List Fact}(hf:∀f,f∈fa→FOK w f){ag:Option Nat}{l:List AV}{off:Nat}{a:AV}(h:oT fa ag l off=some a):cO ag (aF w l) off=some (den w a):=by
 unfold oT at h;split at h
 ·split at h
  ·rename_i x hx;split at h
   ·rename_i ho;simp only [sI] at h; subst h;simp only [cO,jH hx,oneA_ok hf ho,ac]
   ·cases h
  ·cases h
 ·simp only [ez] at h;obtain ⟨r,hr,rfl⟩:=h;simp only [cO,mh hr,dh,den]
section
variable {X:Cx} {v:V} {st:St} {env:List CV} {h:H}
def wT(st:St)(cs:List AV):List (Nat × Nat × Opd)→Option (List AV)
 | []=>some cs
 | (off,n,o)::ps=>match opA st.env o with
  | some a=>if kS st.fa a&&(eG a).length==n&&decide (off+n≤cs.length)&&vd st.fa (eG a) then wT st (dI cs off (eG a)) ps else none
  | none=>none
theorem wS{w:V}(sw:Sat0 X w st env h):∀(ps:List (Nat × Nat × Opd)) (cs r:List AV),wT st cs ps=some r→cG (aF w cs) env ps=some (aF w r)
 | [],cs,r,hr=>by simp only [wT,sI] at hr; subst hr; rfl
 | (off,n,o)::ps,cs,r,hr=>by
  simp only [wT] at hr;split at hr
  ·rename_i a ha;split at hr
   ·rename_i hc;simp only [aT,aZ,dT] at hc;obtain ⟨⟨⟨h1,h2⟩,h3⟩,h4⟩:=hc;have e1:=ky sw.fa h1;have e2:=mT sw.fa h4;simp only [cG,sw.op ha,e1,aq,h2,h3,e2,lI,eA,ac];rw [←db];exact wS sw ps _ _ hr
   ·cases hr
  ·cases hr
def qMB(st:St)(k:Nat)(cs:List AV):List (Nat × Opd)→Option (List AV)
 | []=>some cs
 | (i,o)::ps=>match opA st.env o with
  | some a=>if kS st.fa a&&(eG a).length==k&&decide (i*k+k≤cs.length)&&vd st.fa (eG a) then qMB st k (dI cs (i*k) (eG a)) ps else none
  | none=>none
theorem qC6{w:V}(sw:Sat0 X w st env h)(k:Nat):∀(ps:List (Nat × Opd)) (cs r:List AV),qMB st k cs ps=some r→gU k (aF w cs) env ps=some (aF w r)
 | [],cs,r,hr=>by simp only [qMB,sI] at hr; subst hr; rfl
 | (i,o)::ps,cs,r,hr=>by
  simp only [qMB] at hr;split at hr
  ·rename_i a ha;split at hr
   ·rename_i hc;simp only [aT,aZ,dT] at hc;obtain ⟨⟨⟨h1,h2⟩,h3⟩,h4⟩:=hc;have e1:=ky sw.fa h1;have e2:=mT sw.fa h4;simp only [gU,sw.op ha,e1,aq,h2,h3,e2,lI,eA,ac];rw [←db];exact qC6 sw k ps _ _ hr
   ·cases hr
  ·cases hr
def zo(z:List AV):Nat→List AV
 | 0=>[]
 | n+1=>z++zo z n
theorem qCX(w:V)(z:List AV)(n:Nat):aF w (zo z n)=dQ (aF w z) n:=by
 induction n with
 | zero=>rfl
 | succ n ih=>simp only [zo,dQ,cX,ih]
def qK(st:St)(k:IntKind)(fs:List Fact):AV × St:=(.int k st.n 0,{ st with n:=st.n+1,fa:=fs++st.fa })
theorem kp(s:Sat X v st env h){k:IntKind}{fs:List Fact}{r:Option (CV × H)}{m:Int}(hr:r=some (.int k m,h))(hf:∀w,Sat0 X w st env h→w.i st.n=m→∀f,f∈fs→FOK w f):ae X v st env [qK st k fs] r:=by
 refine ⟨_,mS,upI v st.n m,bg _ _ _ _ _ _,dZ _,rfl,.int k m,h,hr,?_,fun u hu=>?_⟩
 ·exact s.ext (w:=upI v st.n m) (n':=st.n+1) (fs:=fs) (dZ _) (bg _ _ _ _ _ _) (fun u hu f hm=>by
   obtain ⟨ha,hi,_⟩:=bQ hu;exact hf u (s.all u ha) hi f hm)
 ·obtain ⟨_,hi,_⟩:=bQ hu;simp only [qK,den,hi,eV]
def sLen(a:AV)(st:St):Option (List (AV × St)) :=
 match a with
 | .nils=>some [(.int .i64 0 0,st)]
 | .slc _ _ _ _ len _=>if leL st.fa ⟨0,0⟩ len 0 then some [(.int .i64 len.s len.c,st)] else none
 | .vec _ _ len=>if leL st.fa ⟨0,0⟩ len 0 then some [(.int .i64 len.s len.c,st)] else none
 | .slv _ _ _ len=>if leL st.fa ⟨0,0⟩ len 0 then some [(.int .i64 len.s len.c,st)] else none
 | .lrows rows _=>some [(.int .i64 0 rows.length,st)]
 | .sym s=>match iQ s st.fa with
  | some t=>some [(.int .i64 t 0,st)]
  | none=>match kD s st.fa with
   | some (_,lo,hi)=>some [qK st .i64 [.len s st.n,.dc 0 st.n 0,.dc lo.s st.n (-lo.c),.dc st.n hi.s hi.c]]
   | none=>none
 | _=>none
theorem kF{c:CV}{n:Nat}(hn:cV c=some n):lenOf c=some n:=by
 cases c<;>first | (cases hn; done) | exact hn
theorem sT{w:V}{R:List Ty}{lo hi:Lin}{c:CV}(hT:av w (.lst R lo hi) c):∃n,cV c=some n:=by
 simp only [av] at hT;rcases hT with ⟨rfl,_⟩ | ⟨rows,ex,rfl,_⟩<;>exact ⟨_,rfl⟩
theorem qPD(s:Sat X v st env h){a:AV}{outs:List (AV × St)}(hs:sLen a st=some outs){r:Option (CV × H)}{x:CV}(hx:∀w,Sat0 X w st env h→x=den w a)(hr:r=match lenOf x with
  | some n=>some (.int .i64 n,h)
  | none=>none):ae X v st env outs r:=by
 have s0:=s.now;unfold sLen at hs;split at hs<;>(try (cases hs; done))
 ·simp only [sI] at hs; subst hs;refine aJ s fun w sw=>?_; rw [hr,hx w sw]; simp only [den,lenOf,sw.z]; rfl
 ·split at hs
  ·rename_i hl;simp only [sI] at hs; subst hs;refine aJ s fun w sw=>?_; rw [hr,hx w sw]
   have:=aE sw.fa hl;simp only [den,lenOf];simp only [Lin.ev,sw.z] at this ⊢
   congr 3; omega
  ·cases hs
 ·rename_i k1 b1 len;split at hs
  ·rename_i hl;simp only [sI] at hs; subst hs;refine aJ s fun w sw=>?_; rw [hr,hx w sw]
   have:=aE sw.fa hl;by_cases h0:len.ev w=0
   ·simp only [den,aH h0,lenOf];simp only [Lin.ev] at h0
    congr 3; omega
   ·simp only [den,aC h0,lenOf];simp only [Lin.ev,sw.z] at this ⊢
    congr 3; omega
  ·cases hs
 ·split at hs
  ·rename_i hl;simp only [sI] at hs; subst hs;refine aJ s fun w sw=>?_; rw [hr,hx w sw]
   have:=aE sw.fa hl;simp only [den,lenOf];simp only [Lin.ev,sw.z] at this ⊢
   congr 3; omega
  ·cases hs
 ·simp only [sI] at hs; subst hs;refine aJ s fun w sw=>?_; rw [hr,hx w sw]; simp only [den,lenOf,sw.z,gC,lK]
  congr 3; omega
 ·rename_i s1;split at hs
  ·rename_i t ht;simp only [sI] at hs; subst hs;refine aJ s fun w sw=>?_; rw [hr,hx w sw]
   obtain ⟨n,hn,hi⟩:=eo sw.fa ht;simp only [den,kF hn,hi,eV]
  ·split at hs
   ·rename_i R lo hi hl;simp only [sI] at hs; subst hs;obtain ⟨n,hn⟩:=sT (dw s0.fa hl);refine kp s (m:=n) (by rw [hr,hx v s0]; simp only [den,kF hn]) (fun w sw hi' f hf=>?_);have hT:=dw sw.fa hl;have hc:w.c s1=v.c s1:=by have h1:=hx w sw; have h2:=hx v s0; simp only [den] at h1 h2; rw [←h1,h2]
    have hb:=nl hT (by rw [hc]; exact hn);simp only [aS,bz,br] at hf;simp only [Lin.ev] at hb;rcases hf with rfl | rfl | rfl | rfl
    ·exact ⟨n,by rw [hc]; exact hn,hi'⟩
    ·simp only [FOK,sw.z]; omega
    ·simp only [FOK]; omega
    ·simp only [FOK]; omega
   ·cases hs
def oV:List AV→Option (IntKind × List Lin)
 | []=>none
 | [.int k s c]=>some (k,[⟨s,c⟩])
 | .int k s c::l=>match oV l with
  | some (k',ls)=>if k=k' then some (k,⟨s,c⟩::ls) else none
  | none=>none
 | _=>none
def qQC(n:Nat):List Lin→List Fact
 | []=>[]
 | l::ls=>.dc n l.s l.c::qQC n ls
def qQF(n:Nat):List Lin→List Fact
 | []=>[]
 | l::ls=>.dc l.s n (-l.c)::qQF n ls
def vy(fa:List Fact):List Lin→Option Int
 | []=>none
 | [l]=>loC fa l
 | l::ls=>match loC fa l,vy fa ls with
  | some a,some b=>some (min a b)
  | _,_=>none
def wI(fa:List Fact):List Lin→Option Int
 | []=>none
 | [l]=>hiC fa l
 | l::ls=>match hiC fa l,wI fa ls with
  | some a,some b=>some (max a b)
  | _,_=>none
def sMn(as:List AV)(st:St):Option (List (AV × St)) :=
 match oV as with
 | some (k,[a,b])=>if leL st.fa a b 0 then some [(.int k a.s a.c,st)] else if leL st.fa b a 0 then some [(.int k b.s b.c,st)] else
   some [qK st k (.dc st.n a.s a.c::.dc st.n b.s b.c::match vy st.fa [a,b] with | some m=>[.dc 0 st.n (-m)] | none=>[])]
 | some (k,ls)=>some [qK st k (qQC st.n ls++match vy st.fa ls with | some m=>[.dc 0 st.n (-m)] | none=>[])]
 | none=>none
def sMx(as:List AV)(st:St):Option (List (AV × St)) :=
 match oV as with
 | some (k,[a,b])=>if leL st.fa a b 0 then some [(.int k b.s b.c,st)] else if leL st.fa b a 0 then some [(.int k a.s a.c,st)] else
   if a.s=0∨b.s=0 then some [(.int k b.s b.c,{ st with fa:=[.dc a.s b.s (b.c - a.c)]++st.fa }),(.int k a.s a.c,{ st with fa:=[.dc b.s a.s (a.c - b.c)]++st.fa })] else
   some [qK st k (.dc a.s st.n (-a.c)::.dc b.s st.n (-b.c)::match wI st.fa [a,b] with | some m=>[.dc st.n 0 m] | none=>[])]
 | some (k,ls)=>some [qK st k (qQF st.n ls++match wI st.fa ls with | some m=>[.dc st.n 0 m] | none=>[])]
 | none=>none
theorem iA{w:V}:∀{as:List AV} {k:IntKind} {ls:List Lin},oV as=some (k,ls)→aF w as=ls.map (fun l=>CV.int k (l.ev w))∧ls≠[]:=by
 intro as
 induction as with
 | nil=>intro k ls h; cases h
 | cons a l ih =>
  intro k ls hh;unfold oV at hh;split at hh
  ·cases hh
  ·rename_i heq; cases heq;simp only [sI,pI] at hh;obtain ⟨rfl,rfl⟩:=hh;exact ⟨rfl,by simp⟩
  ·rename_i heq; cases heq;split at hh
   ·rename_i k' ls' hl;split at hh
    ·rename_i hk; subst hk;simp only [sI,pI] at hh;obtain ⟨rfl,rfl⟩:=hh;obtain ⟨h1,_⟩:=ih hl;exact ⟨by simp only [aF,h1,gM,den,Lin.ev],by simp⟩
    ·cases hh
   ·cases hh
  ·cases hh
theorem qA9(k:IntKind)(m:Lin→Int):∀(ls:List Lin) (a:Int),∃x,(ls.map (fun l=>CV.int k (m l))).foldl mnS (some (.int k a))=some (.int k x)∧x≤a∧(∀l,l∈ls→x≤m l)∧(x=a∨∃l,l∈ls∧x=m l)
 | [],a=>⟨a,rfl,by omega,(fun l hl=>by cases hl),.inl rfl⟩
 | l::ls,a=>by
  obtain ⟨x,hx,h1,h2,h3⟩:=qA9 k m ls (if m l < a then m l else a);refine ⟨x,by simp only [gM,nE,mnS]; exact hx,?_,?_,?_⟩
  ·split at h1<;>omega
  ·intro l' hl';rcases aS.1 hl' with rfl | hl'
   ·split at h1<;>omega
   ·exact h2 l' hl'
  ·rcases h3 with h3 | ⟨l',hl',h3⟩
   ·split at h3
    ·exact .inr ⟨l,mS,h3⟩
    ·exact .inl h3
   ·exact .inr ⟨l',mC _ hl',h3⟩
theorem qA8(k:IntKind)(m:Lin→Int):∀(ls:List Lin) (a:Int),∃x,(ls.map (fun l=>CV.int k (m l))).foldl mxS (some (.int k a))=some (.int k x)∧a≤x∧(∀l,l∈ls→m l≤x)∧(x=a∨∃l,l∈ls∧x=m l)
 | [],a=>⟨a,rfl,by omega,(fun l hl=>by cases hl),.inl rfl⟩
 | l::ls,a=>by
  obtain ⟨x,hx,h1,h2,h3⟩:=qA8 k m ls (if m l>a then m l else a);refine ⟨x,by simp only [gM,nE,mxS]; exact hx,?_,?_,?_⟩
  ·split at h1<;>omega
  ·intro l' hl';rcases aS.1 hl' with rfl | hl'
   ·split at h1<;>omega
   ·exact h2 l' hl'
  ·rcases h3 with h3 | ⟨l',hl',h3⟩
   ·split at h3
    ·exact .inr ⟨l,mS,h3⟩
    ·exact .inl h3
   ·exact .inr ⟨l',mC _ hl',h3⟩
theorem mnL_ok(k:IntKind)(m:Lin→Int){ls:List Lin}(hne:ls≠[]):∃x,mnL (ls.map (fun l=>CV.int k (m l)))=some (.int k x)∧(∀l,l∈ls→x≤m l)∧∃l,l∈ls∧x=m l:=by
 cases ls with
 | nil=>exact absurd rfl hne
 | cons l ls =>
  obtain ⟨x,hx,h1,h2,h3⟩:=qA9 k m ls (m l);refine ⟨x,hx,fun l' hl'=>?_,?_⟩
  ·rcases aS.1 hl' with rfl | hl'
   ·exact h1
   ·exact h2 l' hl'
  ·rcases h3 with h3 | ⟨l',hl',h3⟩
   ·exact ⟨l,mS,h3⟩
   ·exact ⟨l',mC _ hl',h3⟩
theorem mxL_ok(k:IntKind)(m:Lin→Int){ls:List Lin}(hne:ls≠[]):∃x,mxL (ls.map (fun l=>CV.int k (m l)))=some (.int k x)∧(∀l,l∈ls→m l≤x)∧∃l,l∈ls∧x=m l:=by
 cases ls with
 | nil=>exact absurd rfl hne
 | cons l ls =>
  obtain ⟨x,hx,h1,h2,h3⟩:=qA8 k m ls (m l);refine ⟨x,hx,fun l' hl'=>?_,?_⟩
  ·rcases aS.1 hl' with rfl | hl'
   ·exact h1
   ·exact h2 l' hl'
  ·rcases h3 with h3 | ⟨l',hl',h3⟩
   ·exact ⟨l,mS,h3⟩
   ·exact ⟨l',mC _ hl',h3⟩
theorem qAH{w:V}{fa:List Fact}(z:w.i 0=0)(hf:∀f,f∈fa→FOK w f):∀{ls:List Lin} {m:Int},vy fa ls=some m→∀l,l∈ls→m≤l.ev w:=by
 intro ls
 induction ls with
 | nil=>intro m h; cases h
 | cons l ls ih =>
  intro m hh l' hl';unfold vy at hh;split at hh
  ·cases hh
  ·rename_i heq; cases heq;rcases aS.1 hl' with rfl | hl'
   ·exact lY z hf hh
   ·cases hl'
  ·rename_i heq; cases heq;split at hh
   ·rename_i a b h1 h2;simp only [sI] at hh; subst hh;rcases aS.1 hl' with rfl | hl'
    ·have:=lY z hf h1; omega
    ·have:=ih h2 l' hl'; omega
   ·cases hh
theorem qAR{w:V}{fa:List Fact}(z:w.i 0=0)(hf:∀f,f∈fa→FOK w f):∀{ls:List Lin} {m:Int},wI fa ls=some m→∀l,l∈ls→l.ev w≤m:=by
 intro ls
 induction ls with
 | nil=>intro m h; cases h
 | cons l ls ih =>
  intro m hh l' hl';unfold wI at hh;split at hh
  ·cases hh
  ·rename_i heq; cases heq;rcases aS.1 hl' with rfl | hl'
   ·exact eF z hf hh
   ·cases hl'
  ·rename_i heq; cases heq;split at hh
   ·rename_i a b h1 h2;simp only [sI] at hh; subst hh;rcases aS.1 hl' with rfl | hl'
    ·have:=eF z hf h1; omega
    ·have:=ih h2 l' hl'; omega
   ·cases hh
theorem qQB{w:V}{n:Nat}{m:Int}(hn:w.i n=m):∀{ls:List Lin},(∀l,l∈ls→m≤l.ev w)→∀f,f∈qQC n ls→FOK w f:=by
 intro ls
 induction ls with
 | nil=>intro _ f hf; cases hf
 | cons l ls ih =>
  intro hl f hf;rcases aS.1 hf with rfl | hf
  ·have:=hl l mS;simp only [FOK,Lin.ev] at *; omega
  ·exact ih (fun l' hl'=>hl l' (mC _ hl')) f hf
theorem qQE{w:V}{n:Nat}{m:Int}(hn:w.i n=m):∀{ls:List Lin},(∀l,l∈ls→l.ev w≤m)→∀f,f∈qQF n ls→FOK w f:=by
 intro ls
 induction ls with
 | nil=>intro _ f hf; cases hf
 | cons l ls ih =>
  intro hl f hf;rcases aS.1 hf with rfl | hf
  ·have:=hl l mS;simp only [FOK,Lin.ev] at *; omega
  ·exact ih (fun l' hl'=>hl l' (mC _ hl')) f hf
theorem nv(s:Sat X v st env h){as:List AV}{k:IntKind}{ls:List Lin}{xs:List CV}(hi:oV as=some (k,ls))(hx:∀w,Sat0 X w st env h→xs=aF w as):∀w,Sat0 X w st env h→∀l,l∈ls→l.ev w=l.ev v:=by
 intro w sw l hl;have h1:=hx w sw;have h2:=hx v s.now;rw [(iA (w:=w) hi).1] at h1;rw [(iA (w:=v) hi).1,h1] at h2;have h3:=List.map_inj_left.1 h2 l hl;simp only [CV.int.injEq,cQ] at h3;exact h3
theorem sMn_ok(s:Sat X v st env h){as:List AV}{outs:List (AV × St)}(hs:sMn as st=some outs){r:Option (CV × H)}{xs:List CV}(hx:∀w,Sat0 X w st env h→xs=aF w as)(hr:r=match mnL xs with
  | some c=>some (c,h)
  | none=>none):ae X v st env outs r:=by
 have s0:=s.now;have gen:∀(k:IntKind) (ls:List Lin),oV as=some (k,ls)→ae X v st env [qK st k (qQC st.n ls++match vy st.fa ls with | some m=>[.dc 0 st.n (-m)] | none=>[])] r:=by
  intro k ls hi;obtain ⟨hd,hne⟩:=iA (w:=v) hi;obtain ⟨x,hx1,hx2,l0,hl0,hx3⟩:=mnL_ok k (fun l=>l.ev v) hne;refine kp s (m:=x) (by rw [hr,hx v s0,hd,hx1]) (fun w sw hn f hf=>?_);have same:=nv s hi hx w sw;rcases bP.1 hf with hf | hf
  ·exact qQB hn (fun l hl=>by rw [same l hl]; exact hx2 l hl) f hf
  ·split at hf
   ·rename_i m hm;have:=qAH sw.z sw.fa hm l0 hl0;rw [same l0 hl0] at this;simp only [aS,bz,br] at hf;subst hf;simp only [FOK,sw.z,hn]; omega
   ·cases hf
 unfold sMn at hs;split at hs
 ·rename_i k a b hi;split at hs
  ·rename_i hl;simp only [sI] at hs; subst hs;refine aJ s fun w sw=>?_
   have:=aE sw.fa hl;rw [hr,hx w sw,(iA (w:=w) hi).1];simp only [gM,iI,mnL,nE,List.foldl_nil,mnS];rw [aC (by omega)]; rfl
  ·split at hs
   ·rename_i hl;simp only [sI] at hs; subst hs;refine aJ s fun w sw=>?_
    have:=aE sw.fa hl;rw [hr,hx w sw,(iA (w:=w) hi).1];simp only [gM,iI,mnL,nE,List.foldl_nil,mnS];split
    ·rfl
    ·have:a.ev w=b.ev w:=by omega
     simp only [den]; rw [this]; rfl
   ·simp only [sI] at hs; subst hs;exact gen k [a,b] hi
 ·rename_i k ls _ hi;simp only [sI] at hs; subst hs;exact gen k ls hi
 ·cases hs
theorem sMx_ok(s:Sat X v st env h){as:List AV}{outs:List (AV × St)}(hs:sMx as st=some outs){r:Option (CV × H)}{xs:List CV}(hx:∀w,Sat0 X w st env h→xs=aF w as)(hr:r=match mxL xs with
  | some c=>some (c,h)
  | none=>none):ae X v st env outs r:=by
 have s0:=s.now;have gen:∀(k:IntKind) (ls:List Lin),oV as=some (k,ls)→ae X v st env [qK st k (qQF st.n ls++match wI st.fa ls with | some m=>[.dc st.n 0 m] | none=>[])] r:=by
  intro k ls hi;obtain ⟨hd,hne⟩:=iA (w:=v) hi;obtain ⟨x,hx1,hx2,l0,hl0,hx3⟩:=mxL_ok k (fun l=>l.ev v) hne;refine kp s (m:=x) (by rw [hr,hx v s0,hd,hx1]) (fun w sw hn f hf=>?_);have same:=nv s hi hx w sw;rcases bP.1 hf with hf | hf
  ·exact qQE hn (fun l hl=>by rw [same l hl]; exact hx2 l hl) f hf
  ·split at hf
   ·rename_i m hm;have:=qAR sw.z sw.fa hm l0 hl0;rw [same l0 hl0] at this;simp only [aS,bz,br] at hf;subst hf;simp only [FOK,sw.z,hn]; omega
   ·cases hf
 unfold sMx at hs;split at hs
 ·rename_i k a b hi;have val:∀w,Sat0 X w st env h→r=some (.int k (if b.ev w>a.ev w then b.ev w else a.ev w),h):=fun w sw=>by
   rw [hr,hx w sw,(iA (w:=w) hi).1]; rfl
  split at hs
  ·rename_i hl;simp only [sI] at hs; subst hs;refine aJ s fun w sw=>?_
   have:=aE sw.fa hl;rw [val w sw];split
   ·rfl
   ·have:a.ev w=b.ev w:=by omega
    simp only [den]; rw [this]; rfl
  ·split at hs
   ·rename_i hl;simp only [sI] at hs; subst hs;refine aJ s fun w sw=>?_
    have:=aE sw.fa hl;rw [val w sw,aC (by omega)]; rfl
   ·split at hs
    ·simp only [sI] at hs; subst hs;have same:=nv s hi hx;have sa:=fun w sw=>same w sw a (by simp)
     have sb:=fun w sw=>same w sw b (by simp)
     by_cases hab:a.ev v≤b.ev v
     ·have s':=s.fact (fs:=[.dc a.s b.s (b.c - a.c)]) (fun u su f hf=>by
       simp only [aS,bz,br] at hf; subst hf;have:=sa u su; have:=sb u su;simp only [FOK,Lin.ev] at *; omega)
      refine ae.fact ((aJ s' (a:=.int k b.s b.c) fun w sw=>?_).sub (by simp));have sw':Sat0 X w st env h:=⟨sw.z,sw.env,fun f hf=>sw.fa f (fF _ hf),sw.bl,sw.nd,sw.lt,sw.hn,sw.fr⟩;have e:(if b.ev v>a.ev v then b.ev v else a.ev v)=b.ev v:=by split<;>omega
      rw [val w sw',sa w sw',sb w sw',e,←sb w sw']; rfl
     ·have s':=s.fact (fs:=[.dc b.s a.s (a.c - b.c)]) (fun u su f hf=>by
       simp only [aS,bz,br] at hf; subst hf;have:=sa u su; have:=sb u su;simp only [FOK,Lin.ev] at *; omega)
      refine ae.fact ((aJ s' (a:=.int k a.s a.c) fun w sw=>?_).sub (by simp));have sw':Sat0 X w st env h:=⟨sw.z,sw.env,fun f hf=>sw.fa f (fF _ hf),sw.bl,sw.nd,sw.lt,sw.hn,sw.fr⟩;have e:(if b.ev v>a.ev v then b.ev v else a.ev v)=a.ev v:=by split<;>omega
      rw [val w sw',sa w sw',sb w sw',e,←sa w sw']; rfl
    ·simp only [sI] at hs; subst hs;exact gen k [a,b] hi
 ·rename_i k ls _ hi;simp only [sI] at hs; subst hs;exact gen k ls hi
 ·cases hs
end
end
end Ce.S
namespace Ce.S
noncomputable section
open Go
theorem nth?_eq{α:Type}(l:List α)(n:Nat):nth? l n=l[n]?:=by
 induction l generalizing n with
 | nil=>rfl
 | cons a l ih=>cases n with
  | zero=>rfl
  | succ n=>simpa [nth?] using ih n
theorem qA5{α:Type}(l:List α)(n:Nat):lV l n=l[n]?:=by
 induction l generalizing n with
 | nil=>rfl
 | cons a l ih=>cases n with
  | zero=>rfl
  | succ n=>simpa [lV] using ih n
theorem bi(v:V):∀(R:List Ty) (r:List CV),a8 v R r↔r.length=R.length∧∀(j:Nat) (T:Ty),R[j]?=some T→∃c,r[j]?=some c∧av v T c
 | [],r=>by
  simp only [a8,lL];constructor
  ·rintro rfl; exact ⟨rfl,fun j T h=>by simp at h⟩
  ·rintro ⟨h,_⟩; exact List.length_eq_zero_iff.1 h
 | T::Ts,r=>by
  simp only [a8];constructor
  ·rintro ⟨c,cs,rfl,h1,h2⟩;obtain ⟨h3,h4⟩:=(bi v Ts cs).1 h2;refine ⟨by simp [h3],fun j U hj=>?_⟩;cases j with
   | zero=>simp only [rV,sI] at hj; subst hj; exact ⟨c,rfl,h1⟩
   | succ j=>simp only [xJ] at hj ⊢; exact h4 j U hj
  ·rintro ⟨h1,h2⟩;cases r with
   | nil=>simp at h1
   | cons c cs =>
    obtain ⟨c',hc',hT⟩:=h2 0 T rfl;simp only [rV,sI] at hc'; subst hc';exact ⟨c,cs,rfl,hT,(bi v Ts cs).2 ⟨by simpa using h1,fun j U hj=>h2 (j+1) U (by simpa using hj)⟩⟩
theorem ab(v:V)(k:Nat)(R:List Ty)(hk:R.length=k):∀(n:Nat) (cs:List CV),aQ v k R cs n↔cs.length=n*k∧∀i,i < n→∀(j:Nat) (T:Ty),R[j]?=some T→∃c,cs[i*k+j]?=some c∧av v T c
 | 0,cs=>by
  simp only [aQ,d9];constructor
  ·rintro rfl; exact ⟨rfl,fun i hi=>by omega⟩
  ·rintro ⟨h,_⟩; exact List.length_eq_zero_iff.1 h
 | n+1,cs=>by
  simp only [aQ,ab v k R hk n,bi,eh,fX];constructor
  ·rintro ⟨h1,⟨h2,h3⟩,h4,h5⟩;refine ⟨by rw [dL]; omega,fun i hi j T hj=>?_⟩;have hjk:j < k:=by rw [←hk]; exact (fU.1 hj).1
   cases i with
   | zero =>
    obtain ⟨c,hc,hT⟩:=h3 j T hj;rw [ij hjk] at hc;exact ⟨c,by rw [d9,dg]; exact hc,hT⟩
   | succ i =>
    obtain ⟨c,hc,hT⟩:=h5 i (by omega) j T hj;rw [dP] at hc;exact ⟨c,by rw [dL,show i*k+k+j=k+(i*k+j) by omega]; exact hc,hT⟩
  ·rintro ⟨h1,h2⟩;rw [dL] at h1;refine ⟨by omega,⟨by omega,fun j T hj=>?_⟩,by omega,fun i hi j T hj=>?_⟩
   ·have hjk:j < k:=by rw [←hk]; exact (fU.1 hj).1
    obtain ⟨c,hc,hT⟩:=h2 0 (by omega) j T hj;rw [d9,dg] at hc;exact ⟨c,by rw [ij hjk]; exact hc,hT⟩
   ·obtain ⟨c,hc,hT⟩:=h2 (i+1) (by omega) j T hj;exact ⟨c,by rw [dP,show k+(i*k+j)=(i+1)*k+j by rw [dL]; omega]; exact hc,hT⟩
theorem splice_len:∀(c:List CV) (n:Nat) (x:List CV),n+x.length≤c.length→(splice c n x).length=c.length
 | c,0,[],_=>by cases c<;>rfl
 | a::c,0,x::xs,h=>by simp only [splice,eZ] at h ⊢; rw [splice_len c 0 xs (by omega)]
 | a::c,n+1,xs,h=>by simp only [splice,eZ] at h ⊢; rw [splice_len c n xs (by omega)]
 | [],0,x::xs,h=>by simp at h
 | [],n+1,xs,h=>by simp at h
theorem di:∀(c:List CV) (n:Nat) (x:List CV),n+x.length≤c.length→∀j,(splice c n x)[j]?=if n≤j∧j < n+x.length then x[j - n]? else c[j]?
 | c,0,[],_,j=>by
  rw [aC (by simp only [lL]; omega)];cases c<;>rfl
 | a::c,0,x::xs,h,j=>by
  simp only [splice,eZ] at h ⊢;cases j with
  | zero=>simp
  | succ j =>
   simp only [xJ];rw [di c 0 xs (by omega)];by_cases hj:j < xs.length
   ·rw [aH (by omega),aH (by omega)]; simp
   ·rw [aC (by omega),aC (by omega)]
 | a::c,n+1,xs,h,j=>by
  simp only [splice,eZ] at h ⊢;cases j with
  | zero=>rw [aC (by omega)]; rfl
  | succ j =>
   simp only [xJ];rw [di c n xs (by omega)];by_cases hj:n≤j∧j < n+xs.length
   ·rw [aH hj,aH (by omega)]; congr 1; omega
   ·rw [aC hj,aC (by omega)]
 | [],0,x::xs,h,_=>by simp at h
 | [],n+1,xs,h,_=>by simp at h
theorem rq{v:V}{k:Nat}{R:List Ty}(hk:R.length=k){n:Nat}{cs xs:List CV}(h:aQ v k R cs n){i off:Nat}(hi:i < n)(ho:off+xs.length≤k)(hx:∀(j:Nat) (T:Ty),R[j]?=some T→off≤j→j < off+xs.length→∃c,xs[j - off]?=some c∧av v T c):i*k+off+xs.length≤cs.length∧aQ v k R (splice cs (i*k+off) xs) n:=by
 obtain ⟨h1,h2⟩:=(ab v k R hk n cs).1 h;have hik:i*k+k≤n*k:=by rw [←dL]; exact dA k hi
 have hl:i*k+off+xs.length≤cs.length:=by omega
 refine ⟨hl,(ab v k R hk n _).2 ⟨by rw [splice_len _ _ _ hl,h1],fun i' hi' j T hj=>?_⟩⟩;have hjk:j < k:=by rw [←hk]; exact (fU.1 hj).1
 rw [di _ _ _ hl];by_cases he:i'=i
 ·subst he;by_cases hjo:off≤j∧j < off+xs.length
  ·rw [aH (by omega)];obtain ⟨c,hc,hT⟩:=hx j T hj hjo.1 hjo.2;exact ⟨c,by rw [show i'*k+j - (i'*k+off)=j - off by omega]; exact hc,hT⟩
  ·rw [aC (by omega)]; exact h2 i' hi' j T hj
 ·have:i'*k+j < i*k∨i*k+k≤i'*k+j:=by
   rcases Nat.lt_or_gt_of_ne he with hlt | hgt
   ·left
    have:i'*k+k≤i*k:=by rw [←dL]; exact dA k hlt
    omega
   ·right
    have:i*k+k≤i'*k:=by rw [←dL]; exact dA k hgt
    omega
  rw [aC (by omega)]; exact h2 i' hi' j T hj
section
variable {X:Cx} {v:V} {st:St} {env:List CV} {h:H}
def ldD(st:St)(g:Option Nat)(a:AV):Option AV :=
 match a with
 | .ptr b off=>match ai b st.bl with
  | some (.blk _ (.cells l) _)=>oT st.fa g l off
  | _=>none
 | .rptr cs=>oT st.fa g cs 0
 | _=>none
theorem Sat0.blk{w:V}(sw:Sat0 X w st env h){b:Nat}{p:BE}(hl:ai b st.bl=some p):BOK w h p∧dF p=b:=by
 obtain ⟨hm,hk⟩:=lookB_mem hl;exact ⟨sw.bl p hm,hk⟩
theorem yN{w:V}(sw:Sat0 X w st env h){g:Option Nat}{a x:AV}(hl:ldD st g a=some x):ldV g (den w a) h=some (den w x):=by
 unfold ldD at hl;split at hl<;>(try (cases hl; done))
 ·rename_i b off;split at hl<;>(try (cases hl; done));rename_i b' l ro hb;obtain ⟨⟨cs,hc,ho⟩,hk⟩:=sw.blk hb;simp only [dF] at hk; subst hk;simp only [cR] at ho; subst ho;simp only [den,ldV,hc,jG sw.fa hl]
 ·rename_i cs;simp only [den,ldV,jG sw.fa hl]
def lP(st:St)(b:Nat):Option (Nat × List Ty × Lin × Bool) :=
 match ai b st.bl with
 | some (.blk _ (.rows k R n) ro)=>some (k,R,n,ro)
 | some (.vec _ k R n ro)=>some (k,R,n,ro)
 | _=>none
theorem f5{w:V}(sw:Sat0 X w st env h){b k:Nat}{R:List Ty}{n:Lin}{ro:Bool}(hr:lP st b=some (k,R,n,ro))(hn:n.ev w≠0):∃cs,h.get (w.b b)=some (.cells cs ro)∧0 < k∧R.length=k∧0≤n.ev w∧aQ w k R cs (n.ev w).toNat:=by
 unfold lP at hr;split at hr
 ·rename_i b' k' R' n' ro' hb;simp only [sI,pI] at hr;obtain ⟨rfl,rfl,rfl,rfl⟩:=hr;obtain ⟨⟨cs,hc,ho⟩,hk⟩:=sw.blk hb;simp only [dF] at hk; subst hk;exact ⟨cs,hc,ho⟩
 ·rename_i b' k' R' n' ro' hb;simp only [sI,pI] at hr;obtain ⟨rfl,rfl,rfl,rfl⟩:=hr;obtain ⟨hh,hk⟩:=sw.blk hb;simp only [dF] at hk; subst hk;rcases hh with hh | ⟨cs,hc,ho⟩
  ·exact absurd hh hn
  ·exact ⟨cs,hc,ho⟩
 ·cases hr
def qLP(R:List Ty)(off m:Nat):Option (List Ty):=if off+m≤R.length then some ((R.drop off).take m) else none
def tH(fa:List Fact)(g:Option Nat)(l:List AV)(off k:Nat):Nat→Option (List AV)
 | 0=>some []
 | n+1=>match tH fa g l off k n,oT fa g l (off+n*k) with
  | some xs,some x=>some (xs++[x])
  | _,_=>none
theorem tG{fa:List Fact}{g:Option Nat}{l:List AV}{off k:Nat}:∀{n:Nat} {xs:List AV},tH fa g l off k n=some xs→xs.length=n∧∀j,j < n→∃x,xs[j]?=some x∧oT fa g l (off+j*k)=some x:=by
 intro n
 induction n with
 | zero=>intro xs h; simp only [tH,sI] at h; subst h; exact ⟨rfl,fun j hj=>by omega⟩
 | succ n ih =>
  intro xs h;simp only [tH] at h;split at h
  ·rename_i ys y h1 h2;simp only [sI] at h; subst h;obtain ⟨h3,h4⟩:=ih h1;refine ⟨by simp [h3],fun j hj=>?_⟩;by_cases hjn:j=n
   ·subst hjn; exact ⟨y,by rw [iM (by omega),h3]; simp,h2⟩
   ·obtain ⟨x,hx1,hx2⟩:=h4 j (by omega);exact ⟨x,by rw [fY (by omega)]; exact hx1,hx2⟩
  ·cases h
def pW(fa:List Fact)(k:IntKind):List AV→Bool
 | []=>true
 | a::l=>tyA fa (eU k) a&&pW fa k l
def rN(fa:List Fact)(T:Ty):List AV→Bool
 | []=>true
 | a::l=>tyA fa T a&&rN fa T l
theorem nA{fa:List Fact}{T:Ty}:∀{l:List AV},rN fa T l=true→∀a,a∈l→tyA fa T a=true:=by
 intro l
 induction l with
 | nil=>intro _ a h; cases h
 | cons b l ih =>
  intro h a ha;simp only [rN,aT] at h;rcases aS.1 ha with rfl | ha
  ·exact h.1
  ·exact ih h.2 a ha
def lowL(fa:List Fact)(k:IntKind):List AV→Int
 | .int _ s c::l=>(match loC fa ⟨s,c⟩ with | some x=>min (max x (kLo k)) (lowL fa k l) | none=>kLo k)
 | _=>kHi k
def topL(fa:List Fact)(k:IntKind):List AV→Int
 | .int _ s c::l=>(match hiC fa ⟨s,c⟩ with | some x=>max (min x (kHi k)) (topL fa k l) | none=>kHi k)
 | _=>kLo k
def tF(fa:List Fact)(k:IntKind)(l:List AV):Ty :=
 let T:=Ty.int k ⟨0,lowL fa k l⟩ ⟨0,topL fa k l⟩
 if rN fa T l then T else eU k
theorem yq{fa:List Fact}{k:IntKind}:∀{l:List AV},pW fa k l=true→∀a,a∈l→tyA fa (eU k) a=true:=by
 intro l
 induction l with
 | nil=>intro _ a h; cases h
 | cons b l ih =>
  intro hh a ha;simp only [pW,aT] at hh;rcases aS.1 ha with rfl | ha
  ·exact hh.1
  ·exact ih hh.2 a ha
def kindA:AV→Option IntKind
 | .int k _ _=>some k
 | _=>none
def lh(fa:List Fact)(i:Lin)(j:Nat):Bool:=leL fa ⟨0,(j:Int)+1⟩ i 0 || leL fa i ⟨0,j⟩ (-1)
def oX(st:St)(i:Lin):Nat→List AV→List (AV × St)
 | _,[]=>[]
 | j,x::xs=>if lh st.fa i j then oX st i (j+1) xs else (x,{ st with fa:=[.dc i.s 0 (j - i.c),.dc 0 i.s (i.c - j)]++st.fa })::oX st i (j+1) xs
theorem qFP{st:St}{i:Lin}:∀{xs:List AV} {j0 j:Nat} {x:AV},xs[j]?=some x→lh st.fa i (j0+j)=false→(x,({ st with fa:=[.dc i.s 0 ((j0+j:Nat) - i.c),.dc 0 i.s (i.c - (j0+j:Nat))]++st.fa }:St))∈oX st i j0 xs:=by
 intro xs
 induction xs with
 | nil=>intro j0 j x h; simp at h
 | cons y ys ih =>
  intro j0 j x h hb;cases j with
  | zero =>
   simp only [rV,sI] at h; subst h;simp only [d8] at hb;simp only [oX,hb,bj,bX];exact mS
  | succ j =>
   simp only [xJ] at h;have:=ih (j0:=j0+1) h (by rw [show j0+1+j=j0+(j+1) by omega]; exact hb);rw [show j0+1+j=j0+(j+1) by omega] at this;simp only [oX];split
   ·exact this
   ·exact mC _ this
def colA(j:Nat)(xs:List AV):List AV:=xs.map fun | .agg l=>(match lV l j with | some a=>a | none=>dE) | a=>a
def qIE(fa:List Fact)(xs:List AV):List AV→Nat→Option (List Ty)
 | [],_=>some []
 | .int k _ _::r,j=>(qIE fa xs r (j+1)).map fun l=>tF fa k (colA j xs)::l
 | _,_=>none
def pickT(fa:List Fact)(xs:List AV):Option Ty:=match xs with
 | .agg l::_=>(qIE fa xs l 0).map .agg
 | _=>none
def zAA(st:St)(xs:List AV):Option (List (AV × St)):=match pickT st.fa xs with
 | some T=>if rN st.fa T xs then some [fresh st T] else none
 | none=>none
def zy(st:St)(i:Lin)(xs:List AV):Option (List (AV × St)) :=
 match zAA st xs with
 | some r=>some r
 | none=>match xs with
 | x::_=>match kindA x with
  | some k=>if rN st.fa (tF st.fa k xs) xs then some [fresh st (tF st.fa k xs)] else some (oX st i 0 xs)
  | none=>some (oX st i 0 xs)
 | []=>none
theorem vU(s:Sat X v st env h){i:Lin}{xs:List AV}{outs:List (AV × St)}(hp:zy st i xs=some outs)(hi0:0≤i.ev v)(hsame:∀w,Sat0 X w st env h→i.ev w=i.ev v){r:Option (CV × H)}(hr:∀w,Sat0 X w st env h→∃x,xs[(i.ev v).toNat]?=some x∧r=some (den w x,h)):ae X v st env outs r:=by
 have s0:=s.now;obtain ⟨x0,hx0,hr0⟩:=hr v s0;have fk:ae X v st env (oX st i 0 xs) r:=by
  have hbad:lh st.fa i (0+(i.ev v).toNat)=false:=by
   cases hb:lh st.fa i (0+(i.ev v).toNat) with
   | false=>rfl
   | true =>
    simp only [lh,bU] at hb;rcases hb with hb | hb
    ·have:=aE s0.fa hb;simp only [Lin.ev,s0.z] at this hi0; omega
    ·have:=aE s0.fa hb;simp only [Lin.ev,s0.z] at this hi0; omega
  have hm:=qFP (st:=st) (i:=i) (j0:=0) hx0 hbad;rw [dg] at hm;have s':=s.fact (fs:=[.dc i.s 0 (((i.ev v).toNat:Nat) - i.c),.dc 0 i.s (i.c - ((i.ev v).toNat:Nat))]) (fun u su f hf=>by
   have:=hsame u su;have hz:=su.z;simp only [aS,bz,br] at hf;simp only [Lin.ev] at *;rcases hf with rfl | rfl<;>simp only [FOK]<;>omega)
  refine ae.fact ((aJ s' (a:=x0) fun w sw=>?_).sub (fun o ho=>by
   simp only [cM] at ho; subst ho; exact hm))
  have sw':Sat0 X w st env h:=⟨sw.z,sw.env,fun f hf=>sw.fa f (fF _ hf),sw.bl,sw.nd,sw.lt,sw.hn,sw.fr⟩;obtain ⟨x,hx,hr'⟩:=hr w sw';rw [hx0,sI] at hx; subst hx;exact hr'
 unfold zy at hp;split at hp
 ·rename_i rr hpa;simp only [sI] at hp; subst hp;unfold zAA at hpa;split at hpa
  ·rename_i T _;split at hpa
   ·rename_i ha;simp only [sI] at hpa; subst hpa;refine dN s (c:=den v x0) hr0 (fun w sw=>?_);obtain ⟨x,hx,hrw⟩:=hr w sw;rw [hx0,sI] at hx; subst hx;rw [hr0,sI,pI] at hrw;rw [hrw.1];exact gp sw.z sw.fa _ _ (nA ha x0 (rU hx0))
   ·cases hpa
  ·cases hpa
 split at hp
 ·rename_i y ys;split at hp
  ·rename_i k hk;split at hp
   ·rename_i ha;simp only [sI] at hp; subst hp;refine dN s (c:=den v x0) hr0 (fun w sw=>?_);obtain ⟨x,hx,hrw⟩:=hr w sw;rw [hx0,sI] at hx; subst hx;rw [hr0,sI,pI] at hrw;rw [hrw.1];exact gp sw.z sw.fa _ _ (nA ha x0 (rU hx0))
   ·simp only [sI] at hp; subst hp; exact fk
  ·simp only [sI] at hp; subst hp; exact fk
 ·cases hp
def sLd(st:St)(g:Option Nat)(a:AV):Option (List (AV × St)) :=
 match ldD st g a with
 | some x=>some [(x,st)]
 | none=>match a with
  | .iptr b off k i =>
   if leL st.fa ⟨0,0⟩ i 0=false∨k=0 then none else
   match lP st b with
   | some (k',R,n,_)=>if k'=k∧leL st.fa i n (-1)=true∧off < k then (match g with
    | none=>match lV R off with
     | some T=>if rk T then some [fresh st T] else none
     | none=>none
    | some m=>(qLP R off m).map fun Ts=>[fresh st (.agg Ts)]) else none
   | none=>match ai b st.bl,hiC st.fa i with
    | some (.blk _ (.cells l) _),some hi=>match tH st.fa g l off k (hi.toNat+1) with
     | some xs=>zy st i xs
     | none=>none
    | _,_=>none
  | _=>none
theorem qBM{w:V}{R Ts:List Ty}{off m k i:Nat}{cs:List CV}{n:Nat}(hk:R.length=k)(hr:aQ w k R cs n)(hi:i < n)(hc:qLP R off m=some Ts):∃xs,cut? cs (off+i*k) m=some xs∧a8 w Ts xs:=by
 unfold qLP at hc;split at hc
 ·rename_i hl;simp only [sI] at hc; subst hc;obtain ⟨h1,h2⟩:=(ab w k R hk n cs).1 hr;have hik:i*k+k≤n*k:=by rw [←dL]; exact dA k hi
  refine ⟨_,by unfold cut?; rw [aH (by omega)],(bi w _ _).2 ⟨by simp only [eh,fX]; omega,fun j T hj=>?_⟩⟩;have hjm:j < m:=by
   have:=(fU.1 hj).1;simp only [eh,fX] at this; omega
  rw [ij hjm,dP] at hj;obtain ⟨c,hc,hT⟩:=h2 i hi (off+j) T hj;exact ⟨c,by rw [ij hjm,dP,show off+i*k+j=i*k+(off+j) by omega]; exact hc,hT⟩
 ·cases hc
theorem sLd_ok(s:Sat X v st env h){g:Option Nat}{a:AV}{outs:List (AV × St)}(hs:sLd st g a=some outs){r:Option (CV × H)}{x:CV}(hx:∀w,Sat0 X w st env h→x=den w a)(hr:r=match ldV g x h with
  | some c=>some (c,h)
  | none=>none):ae X v st env outs r:=by
 have s0:=s.now;unfold sLd at hs;split at hs
 ·rename_i y hy;simp only [sI] at hs; subst hs;refine aJ s fun w sw=>?_
  rw [hr,hx w sw,yN sw hy]
 ·split at hs<;>(try (cases hs; done));rename_i b off k i _;split at hs
  ·cases hs
  ·rename_i hg;simp only [not_or,Bool.not_eq_false] at hg;obtain ⟨h0,hk0⟩:=hg;have hi0:∀w,Sat0 X w st env h→0≤i.ev w:=fun w sw=>by
    have:=aE sw.fa h0; simp only [Lin.ev,sw.z] at this ⊢; omega
   have same:∀w,Sat0 X w st env h→i.ev w=i.ev v:=fun w sw=>by
    have h1:=hx w sw; rw [hx v s0] at h1;simp only [den,CV.ptr.injEq] at h1;have h2:(i.ev v).toNat*k=(i.ev w).toNat*k:=by omega
    have h3:=Nat.eq_of_mul_eq_mul_right (Nat.pos_of_ne_zero hk0) h2;have:=hi0 w sw; have:=hi0 v s0; omega
   split at hs
   ·rename_i k' R n ro hro;split at hs
    ·rename_i hc;obtain ⟨rfl,h1,h2⟩:=hc;have hin:=aE s0.fa h1;have hi:=hi0 v s0;obtain ⟨cs,hcs,hk,hRk,hn,hrows⟩:=f5 s0 hro (by omega);have hilt:(i.ev v).toNat < (n.ev v).toNat:=by omega
     obtain ⟨hlen,hcell⟩:=(ab v k' R hRk _ _).1 hrows;cases g with
     | none =>
      simp only at hs;split at hs
      ·rename_i T hT;split at hs
       ·rename_i hlf;simp only [sI] at hs; subst hs;rw [qA5] at hT;obtain ⟨c,hc,hTc⟩:=hcell _ hilt off T hT;refine dN s (c:=c) ?_ (fun w sw=>?_)
        ·rw [hr,hx v s0];simp only [den,ldV,hcs,cO,nth?_eq];rw [show off+(i.ev v).toNat*k'=(i.ev v).toNat*k'+off by omega,hc];simp only [nM hTc hlf,ac]
        ·have hin:=aE sw.fa h1;have hi:=hi0 w sw;obtain ⟨cs',hcs',_,_,_,hrows'⟩:=f5 sw hro (by omega);have hb:w.b b=v.b b:=by have e1:=hx w sw; rw [hx v s0] at e1; simp only [den,CV.ptr.injEq] at e1; exact e1.1.symm
         rw [hb,hcs] at hcs';simp only [sI,Blk.cells.injEq,cZ] at hcs'; subst hcs';obtain ⟨_,hcell'⟩:=(ab w k' R hRk _ _).1 hrows';obtain ⟨c',hc',hTc'⟩:=hcell' (i.ev w).toNat (by omega) off T hT;rw [same w sw,hc,sI] at hc'; subst hc';exact hTc'
       ·cases hs
      ·cases hs
     | some m =>
      simp only [ez] at hs;obtain ⟨Ts,hTs,rfl⟩:=hs;obtain ⟨xs,hxs,_⟩:=qBM hRk hrows hilt hTs;refine dN s (c:=.agg xs) ?_ (fun w sw=>?_)
      ·rw [hr,hx v s0];simp only [den,ldV,hcs,cO,hxs,dh]
      ·have hin:=aE sw.fa h1;have hi:=hi0 w sw;obtain ⟨cs',hcs',_,_,_,hrows'⟩:=f5 sw hro (by omega);have hb:w.b b=v.b b:=by have e1:=hx w sw; rw [hx v s0] at e1; simp only [den,CV.ptr.injEq] at e1; exact e1.1.symm
       rw [hb,hcs] at hcs';simp only [sI,Blk.cells.injEq,cZ] at hcs'; subst hcs';obtain ⟨xs',hxs',hTx⟩:=qBM hRk hrows' (i:=(i.ev w).toNat) (by omega) hTs;rw [same w sw,hxs,sI] at hxs'; subst hxs';exact ⟨_,rfl,hTx⟩
    ·cases hs
   ·split at hs<;>(try (cases hs; done));rename_i b' l ro hi hb hhi;split at hs
    ·rename_i xs hxs;obtain ⟨hl,hc⟩:=tG hxs;refine vU s hs (hi0 v s0) same (fun w sw=>?_);have hup:=eF sw.z sw.fa hhi;have:=same w sw; have:=hi0 w sw;obtain ⟨y,hy1,hy2⟩:=hc (i.ev v).toNat (by omega);refine ⟨y,hy1,?_⟩;obtain ⟨⟨cs,hcs,ho⟩,hk⟩:=sw.blk hb;simp only [dF] at hk; subst hk;simp only [cR] at ho; subst ho;rw [hr,hx w sw];simp only [den,ldV,hcs,same w sw,jG sw.fa hy2]
    ·cases hs
end
end
end Ce.S
namespace Ce.S
noncomputable section
open Go
section
variable {X:Cx} {v:V} {st:St} {env:List CV} {h:H}
theorem ae.mk'{w:V}{a:AV}{st':St}{outs:List (AV × St)}{r:Option (CV × H)}{c:CV}{h':H}(hm:(a,st')∈outs)(hw:Agr st.n v w)(hn:st.n≤st'.n)(he:st'.env=st.env)(hp:0 < st.n)(hr:r=some (c,h'))(hall:∀u,Agr st'.n w u→Sat0 X u st' env h'∧den u a=c):ae X v st env outs r :=
 ⟨_,hm,w,hw,hn,he,c,h',hr,⟨dD hp hn,fun u hu=>(hall u hu).1⟩,fun u hu=>(hall u hu).2⟩
def sSt(st:St)(n:Nat)(a x:AV):Option (List (AV × St)) :=
 if kS st.fa x&&(eG x).length==n&&vd st.fa (eG x) then
  match a with
  | .ptr b off=>match ai b st.bl with
   | some (.blk _ (.cells l) false)=>if off+n≤l.length then some [(dE,{ st with bl:=dS b [.blk b (.cells (dI l off (eG x))) false] st.bl })] else none
   | _=>none
  | .iptr b off k i =>
   if leL st.fa ⟨0,0⟩ i 0=false∨k=0 then none else
   match lP st b with
   | some (k',R,m,false)=>if k'=k∧leL st.fa i m (-1)=true∧off+n≤k then (match qLP R off n with
    | some Ts=>if p7 st.fa Ts (eG x) then some [(dE,st)] else none
    | none=>none) else none
   | some _=>none
   | none=>match ai b st.bl,hiC st.fa i,eG x with
    | some (.blk _ (.cells l) false),some hi,[.int kk sx cx] =>
     if k=1∧off+(hi.toNat+1)≤l.length∧rN st.fa (tF st.fa kk (.int kk sx cx::(l.drop off).take (hi.toNat+1))) (.int kk sx cx::(l.drop off).take (hi.toNat+1))=true then
      let f:=bS st.n (List.replicate (hi.toNat+1) (tF st.fa kk (.int kk sx cx::(l.drop off).take (hi.toNat+1))))
      some [(dE,{ st with n:=f.2.2,fa:=f.2.1++st.fa,bl:=dS b [.blk b (.cells (dI l off f.1)) false] st.bl })]
     else none
    | _,_,_=>none
  | _=>none
 else none
theorem lE(cs:List CV)(off:Nat)(xs ys:List CV)(hl:off+ys.length≤cs.length)(i:Nat)(hi:i+xs.length≤ys.length)(hy:∀j,j < ys.length→(splice cs (off+i) xs)[off+j]?=ys[j]?):splice cs (off+i) xs=splice cs off ys:=by
 apply List.ext_getElem?;intro j;by_cases hj:off≤j∧j < off+ys.length
 ·rw [di cs off ys (by omega),aH hj];have:=hy (j - off) (by omega);rw [show off+(j - off)=j by omega] at this;exact this
 ·rw [di cs off ys (by omega),aC hj,di cs (off+i) xs (by omega),aC (by omega)]
theorem sSt_ok(s:Sat X v st env h){n:Nat}{a x:AV}{outs:List (AV × St)}(hs:sSt st n a x=some outs){r:Option (CV × H)}{ca cx:CV}(ha:∀w,Sat0 X w st env h→ca=den w a)(hx:∀w,Sat0 X w st env h→cx=den w x)(hr:r=match stV n ca cx h with
  | some h=>some (undef,h)
  | none=>none):ae X v st env outs r:=by
 have s0:=s.now;unfold sSt at hs;split at hs
 ·rename_i hg;simp only [aT,aZ] at hg;obtain ⟨⟨g1,g2⟩,g3⟩:=hg;have cellsx:∀w,Sat0 X w st env h→cx.cells=aF w (eG x):=fun w sw=>by rw [hx w sw]; exact ky sw.fa g1
  have lenx:cx.cells.length=n:=by rw [cellsx v s0,aq,g2]
  have onex:aM cx.cells=true:=by rw [cellsx v s0]; exact mT s0.fa g3
  split at hs<;>(try (cases hs; done))
  ·rename_i b off;split at hs<;>(try (cases hs; done));rename_i b' l hb;split at hs
   ·rename_i hl;simp only [sI] at hs; subst hs;have hkey:=(s0.blk hb).2;simp only [dF] at hkey; subst hkey;refine qC s hb (fun u=>rfl) (cs:=splice (aF v l) off cx.cells) (fun u su=>?_) (fun u su=>?_)
    ·obtain ⟨cs,hc,ho⟩:=(su.blk hb).1;obtain ⟨cs0,hc0,ho0⟩:=(s0.blk hb).1;simp only [cR] at ho ho0;have hbb:u.b b'=v.b b':=by have h1:=ha u su; rw [ha v s0] at h1; simp only [den,CV.ptr.injEq] at h1; exact h1.1.symm
     rw [hr,ha u su];have e:aF u l=aF v l:=by
      rw [←ho,←ho0]; rw [hbb,hc0] at hc; simp only [sI,Blk.cells.injEq,cZ] at hc; exact hc.symm
     simp only [den,stV,hc,lenx,onex,ho,aq,hl,lI,eA,ac,e];rfl
    ·obtain ⟨cs,hc,ho⟩:=(su.blk hb).1;obtain ⟨cs0,hc0,ho0⟩:=(s0.blk hb).1;simp only [cR] at ho ho0;have hbb:u.b b'=v.b b':=by have h1:=ha u su; rw [ha v s0] at h1; simp only [den,CV.ptr.injEq] at h1; exact h1.1.symm
     have e:aF u l=aF v l:=by
      rw [←ho,←ho0]; rw [hbb,hc0] at hc; simp only [sI,Blk.cells.injEq,cZ] at hc; exact hc.symm
     simp only [cR,db,←cellsx u su,e]
   ·cases hs
  ·rename_i b off k i;split at hs
   ·cases hs
   ·rename_i hg;simp only [not_or,Bool.not_eq_false] at hg;obtain ⟨h0,hk0⟩:=hg;have hi0:∀w,Sat0 X w st env h→0≤i.ev w:=fun w sw=>by
     have:=aE sw.fa h0; simp only [Lin.ev,sw.z] at this ⊢; omega
    have hbb:∀w,Sat0 X w st env h→w.b b=v.b b:=fun w sw=>by
     have h1:=ha w sw; rw [ha v s0] at h1; simp only [den,CV.ptr.injEq] at h1; exact h1.1.symm
    have same:∀w,Sat0 X w st env h→i.ev w=i.ev v:=fun w sw=>by
     have h1:=ha w sw; rw [ha v s0] at h1;simp only [den,CV.ptr.injEq] at h1;have h2:(i.ev v).toNat*k=(i.ev w).toNat*k:=by omega
     have h3:=Nat.eq_of_mul_eq_mul_right (Nat.pos_of_ne_zero hk0) h2;have:=hi0 w sw; have:=hi0 v s0; omega
    split at hs
    ·rename_i k' R m hro;split at hs
     ·rename_i hc;obtain ⟨rfl,h1,h2⟩:=hc;split at hs
      ·rename_i Ts hTs;split at hs
       ·rename_i hty;simp only [sI] at hs; subst hs;have hin:=aE s0.fa h1;have hi:=hi0 v s0;obtain ⟨cs,hcs,hkp,hRk,hn,hrows⟩:=f5 s0 hro (by omega);have step:∀w,Sat0 X w st env h→(i.ev w).toNat*k'+off+cx.cells.length≤cs.length∧aQ w k' R (splice cs ((i.ev v).toNat*k'+off) cx.cells) (m.ev w).toNat∧0≤m.ev w∧h.get (w.b b)=some (.cells cs false):=fun w sw=>by
         have hin:=aE sw.fa h1;have hi:=hi0 w sw;obtain ⟨cs',hcs',_,_,hn',hrows'⟩:=f5 sw hro (by omega);rw [hbb w sw,hcs] at hcs';simp only [sI,Blk.cells.injEq,cZ] at hcs'; subst hcs';have hT:=fm sw.z sw.fa _ _ hty;rw [←cellsx w sw] at hT;have hcut:=hTs;unfold qLP at hcut;split at hcut
         ·rename_i hl;simp only [sI] at hcut; subst hcut;obtain ⟨hl2,hcell⟩:=(bi w _ _).1 hT;have:=rq hRk hrows' (i:=(i.ev w).toNat) (off:=off) (xs:=cx.cells) (by omega) (by omega) (fun j T hj h3 h4=>by
           have hj':((R.drop off).take n)[j - off]?=some T:=by
            rw [ij (by omega),dP,show off+(j - off)=j by omega]; exact hj
           exact hcell (j - off) T hj')
          refine ⟨by rw [same w sw] at this ⊢; exact this.1,?_,hn',by rw [hbb w sw]; exact hcs⟩;have h6:=this.2;rw [same w sw] at h6; exact h6
         ·cases hcut
        refine ae.mk' (w:=v) (c:=undef) (h':=h.put (v.b b) (.cells (splice cs ((i.ev v).toNat*k'+off) cx.cells) false)) mS (Agr.refl _ _) (aV _) rfl s.pos ?_ (fun u hu=>⟨?_,rfl⟩)
        ·obtain ⟨hlen,_⟩:=step v s0;rw [hr,ha v s0];simp only [den,stV,hcs,lenx,onex];rw [show off+(i.ev v).toNat*k'=(i.ev v).toNat*k'+off by omega];simp only [lI,Bool.and_true,lJ,dT];rw [aH (by omega)]
        ·have su:=s.all u hu;obtain ⟨_,hrw,hm0,hgetu⟩:=step u su;unfold lP at hro;split at hro
         ·rename_i b1 k1 R1 n1 ro1 hb;simp only [sI,pI] at hro;obtain ⟨rfl,rfl,rfl,rfl⟩:=hro;have hkey:=(s0.blk hb).2;simp only [dF] at hkey; subst hkey;have:=su.put hb (q:=.blk b1 (.rows k1 R1 n1) false) (blk:=.cells (splice cs ((i.ev v).toNat*k1+off) cx.cells) false) rfl rfl ⟨_,by rw [get_put,aH rfl],hkp,hRk,hm0,hrw⟩;rw [hbb u su] at this;have hmod:dS b1 [.blk b1 (.rows k1 R1 n1) false] st.bl=st.bl:=by
           obtain ⟨_,l1,l2,he,hq⟩:=dx hb;rw [hq]; exact he.symm
          rw [hmod] at this; exact this
         ·rename_i b1 k1 R1 n1 ro1 hb;simp only [sI,pI] at hro;obtain ⟨rfl,rfl,rfl,rfl⟩:=hro;have hkey:=(s0.blk hb).2;simp only [dF] at hkey; subst hkey;have hin:=aE su.fa h1;have hi:=hi0 u su;have hne:n1.ev u≠0:=by omega
          have:=su.put hb (q:=.vec b1 k1 R1 n1 false) (blk:=.cells (splice cs ((i.ev v).toNat*k1+off) cx.cells) false) (by simp only [adr,aC hne]) (by simp only [adr,aC hne]) (.inr ⟨_,by rw [get_put,aH rfl],hkp,hRk,hm0,hrw⟩);rw [hbb u su] at this;have hmod:dS b1 [.vec b1 k1 R1 n1 false] st.bl=st.bl:=by
           obtain ⟨_,l1,l2,he,hq⟩:=dx hb;rw [hq]; exact he.symm
          rw [hmod] at this; exact this
         ·cases hro
       ·cases hs
      ·cases hs
     ·cases hs
    ·cases hs
    ·split at hs<;>(try (cases hs; done));rename_i b' l hi kk sx ccx hb hhi hcx;split at hs
     ·rename_i hc;obtain ⟨rfl,hlen,hfull⟩:=hc;have hxf:=nA hfull _ mS;generalize hT0:tF st.fa kk (.int kk sx ccx::(l.drop off).take (hi.toNat+1))=T0 at *;simp only [sI] at hs; subst hs;have hkey:=(s0.blk hb).2;simp only [dF] at hkey; subst hkey;obtain ⟨⟨cs,hcs,ho⟩,_⟩:=s0.blk hb;simp only [cR] at ho;have hup:=eF s0.z s0.fa hhi;have hi0v:=hi0 v s0;have hcl:cs.length=l.length:=by rw [ho,aq]
      have hgx:cx.cells=[.int kk (v.i sx+ccx)]:=by rw [cellsx v s0,hcx]; rfl
      have hin:off+(i.ev v).toNat+1≤cs.length:=by omega
      have hslen:(splice cs (off+(i.ev v).toNat) cx.cells).length=cs.length:=splice_len _ _ _ (by rw [hgx]; simp only [eZ,lL]; omega);have htyp:∀w,Agr st.n v w→a8 w (List.replicate (hi.toNat+1) T0) (((splice cs (off+(i.ev v).toNat) cx.cells).drop off).take (hi.toNat+1)):=fun w hw=>by
       have sw:=s.all w hw;refine (bi w _ _).2 ⟨by simp only [eh,fX,List.length_replicate]; omega,fun j T hj=>?_⟩;have hjlt:j < hi.toNat+1:=by
        have:=(fU.1 hj).1
        simpa using this
       rw [List.getElem?_replicate,aH hjlt,sI] at hj;subst hj;rw [ij hjlt,dP,di _ _ _ (by rw [hgx]; simp only [eZ,lL]; omega)];by_cases he:j=(i.ev v).toNat
       ·subst he;rw [aH (by rw [hgx]; simp only [eZ,lL]; omega),Nat.sub_self];have hT:=gp sw.z sw.fa _ _ hxf;have e1:=cellsx w sw;rw [hcx] at e1;exact ⟨_,by rw [e1]; rfl,hT⟩
       ·rw [aC (by rw [hgx]; simp only [eZ,lL]; omega)];have hlj:∃y,l[off+j]?=some y:=⟨l[off+j]'(by omega),ed (by omega)⟩;obtain ⟨y,hy⟩:=hlj;have hmem:y∈(l.drop off).take (hi.toNat+1):=by
         refine rU (i:=j) ?_;rw [ij hjlt,dP]; exact hy
        have hT:=gp sw.z sw.fa _ _ (nA hfull y (mC _ hmem));refine ⟨den w y,?_,hT⟩;obtain ⟨⟨cs',hcs',ho'⟩,_⟩:=sw.blk hb;simp only [cR] at ho';rw [hbb w sw,hcs] at hcs';simp only [sI,Blk.cells.injEq,cZ] at hcs'; subst hcs';rw [ho',fD,List.getElem?_map,hy]; rfl
      obtain ⟨hle,w,hw,hall⟩:=i4 _ st.n v _ htyp;refine ae.mk' (w:=w) (c:=undef) (h':=h.put (v.b b') (.cells (splice cs (off+(i.ev v).toNat) cx.cells) false)) mS hw hle rfl s.pos ?_ (fun u hu=>⟨?_,rfl⟩)
      ·rw [hr,ha v s0];simp only [den,stV,hcs,lenx,onex];have hn1:n=1:=by rw [←lenx,hgx]; rfl
       subst hn1;simp only [Nat.mul_one,lI,Bool.and_true,lJ,dT];rw [aH (by omega)]
      ·obtain ⟨hd,hf⟩:=hall u hu;have su:=s.all u (hw.trans hu hle);have:=(su.wk (bS st.n (List.replicate (hi.toNat+1) T0)).2.2 _ hf).put hb (q:=.blk b' (.cells (dI l off (bS st.n (List.replicate (hi.toNat+1) T0)).1)) false) (blk:=.cells (splice cs (off+(i.ev v).toNat) cx.cells) false) rfl rfl ⟨_,by rw [get_put,aH rfl],by
        simp only [cR,db,hd];obtain ⟨⟨cs',hcs',ho'⟩,_⟩:=su.blk hb;simp only [cR] at ho';rw [hbb u su,hcs] at hcs';simp only [sI,Blk.cells.injEq,cZ] at hcs'; subst hcs';rw [←ho'];refine lE cs off cx.cells _ (by simp only [eh,fX]; omega) _ (by
         have hx1:cx.cells.length=1:=by rw [hgx]; rfl
         simp only [eh,fX]; omega) (fun j hj=>?_)
        simp only [eh,fX] at hj;rw [ij (by omega),dP]⟩
       rw [hbb u su] at this;exact this
     ·cases hs
 ·cases hs
def qAA(b off k:Nat)(i:Lin):AV:=if i.s=0 then .ptr b (off+i.c.toNat*k) else .iptr b off k i
theorem sM{w:V}(z:w.i 0=0)(b off k:Nat)(i:Lin):den w (qAA b off k i)=.ptr (w.b b) (off+(i.ev w).toNat*k):=by
 unfold qAA;split
 ·rename_i h0;have e:i.ev w=i.c:=by simp only [Lin.ev,h0,z]; omega
  simp only [den,e]
 ·rfl
def mkP(st:St)(b off k:Nat)(i:Lin):AV:=match lP st b with
 | some _=>.iptr b off k i
 | none=>qAA b off k i
theorem uH{w:V}(z:w.i 0=0)(st:St)(b off k:Nat)(i:Lin):den w (mkP st b off k i)=.ptr (w.b b) (off+(i.ev w).toNat*k):=by
 unfold mkP;split
 ·rfl
 ·exact sM z b off k i
def asLin:AV→Option Lin
 | .int _ s c=>some ⟨s,c⟩
 | _=>none
theorem dX{w:V}{a:AV}{l:Lin}(ha:asLin a=some l):∃k,den w a=.int k (l.ev w):=by
 cases a<;>simp only [asLin] at ha<;>(try (cases ha; done));simp only [sI] at ha; subst ha;exact ⟨_,rfl⟩
def qFX(fa:List Fact)(s:Nat)(ii:Lin)(cs:List AV):List Fact→List Fact
 | []=>[]
 | .pimp s' i k1 c k2 lo hi::r=>(if s'=s∧leL fa ii i (-1)=true then (match lV cs k1,lV cs k2 with
  | some (.int _ x cx),some (.int _ y cy)=>[.cnd ⟨x,cx⟩ c ⟨y,cy⟩ lo hi]
  | _,_=>[]) else [])++qFX fa s ii cs r
 | _::r=>qFX fa s ii cs r
theorem qY4{w:V}{fa:List Fact}(hf:∀f,f∈fa→FOK w f){s:Nat}{ii:Lin}{cs:List AV}{rows:List (List CV)}{ex:Bool}(h0:0≤ii.ev w)(hs:w.c s=.lst rows ex)(hr:nth? rows (ii.ev w).toNat=some (aF w cs)):∀{l:List Fact},(∀f,f∈l→FOK w f)→∀f,f∈qFX fa s ii cs l→FOK w f:=by
 intro l
 induction l with
 | nil=>intro _ f h; cases h
 | cons g r ih =>
  intro hl f hm;have hrest:=ih (fun f hm=>hl f (mC _ hm));have hg:=hl g mS;cases g<;>simp only [qFX] at hm<;>(try (exact hrest f hm));rename_i s' i k1 c k2 lo hi;rcases bP.1 hm with hq | hq
  ·split at hq
   ·rename_i hc;obtain ⟨rfl,h1⟩:=hc;split at hq
    ·rename_i k x cx k' y cy e1 e2;simp only [cM] at hq; subst hq;have:=aE hf h1;simp only [FOK];intro hcc;have h3:=hg rows ex hs (ii.ev w).toNat (aF w cs) hr (by omega) k (w.i x+cx) k' (w.i y+cy) (jH e1) (jH e2) hcc;exact h3
    ·cases hq
   ·cases hq
  ·exact hrest f hq
def qHB(st:St)(k:Nat)(x i:AV):Option (List (AV × St)) :=
 match asLin i with
 | none=>none
 | some ii=>if leL st.fa ⟨0,0⟩ ii 0=false then none else
  match x with
  | .slc k1 b off i0 len _=>if k1==k&&leL st.fa ii len (-1)&&leL st.fa ⟨0,0⟩ i0 0 then (match ug i0 ii with
   | some t=>some [(mkP st b off k t,st)]
   | none=>none) else none
  | .vec _ b len=>if leL st.fa ii len (-1) then some [(mkP st b 0 k ii,st)] else none
  | .slv k1 b i0 len=>if k1==k&&leL st.fa ii len (-1)&&leL st.fa ⟨0,0⟩ i0 0 then (match ug i0 ii with
   | some t=>some [(mkP st b 0 k t,st)]
   | none=>none) else none
  | .sym s=>match kD s st.fa,iQ s st.fa with
   | some (R,_,_),some t=>if leL st.fa ii ⟨t,0⟩ (-1)&&R.length==k then
     let f:=bS st.n R
     some [(.rptr f.1,{ st with n:=f.2.2,fa:=.row s ii f.1::((qFX st.fa s ii f.1 st.fa++f.2.1)++st.fa) })]
    else none
   | _,_=>none
  | .lrows rows _=>if ii.s=0 then (match lV rows ii.c.toNat with
   | some row=>if row.length=k then some [(.rptr row,st)] else none
   | none=>none) else none
  | _=>none
theorem pY{w:V}(z:w.i 0=0){a b t:Lin}(h:ug a b=some t):t.ev w=a.ev w+b.ev w:=by
 unfold ug at h;split at h
 ·rename_i h0;simp only [sI] at h; subst h;simp only [Lin.ev,h0,z]; omega
 ·split at h
  ·rename_i h0;simp only [sI] at h; subst h;simp only [Lin.ev,h0,z]; omega
  ·cases h
theorem tp(s:Sat X v st env h){k:Nat}{x i:AV}{outs:List (AV × St)}(hs:qHB st k x i=some outs){cx ci:CV}(hx:∀w,Sat0 X w st env h→cx=den w x)(hi:∀w,Sat0 X w st env h→ci=den w i){r:Option (CV × H)}(hr:r=match (generalizing:=false) cx,bf? ci with
  | .slc _ r off len _,some i=>if i < len then some (.ptr r (off+i*k),h) else none
  | .lst rows _,some i=>match nth? rows i with
   | some row=>if row.length=k then some (.rptr row,h) else none
   | none=>none
  | _,_=>none):ae X v st env outs r:=by
 have s0:=s.now;unfold qHB at hs;split at hs
 ·cases hs
 ·rename_i ii hii;split at hs
  ·cases hs
  ·rename_i h0;have hi0:∀w,Sat0 X w st env h→0≤ii.ev w:=fun w sw=>by
    have:=aE sw.fa (by simpa using h0); simp only [Lin.ev,sw.z] at this ⊢; omega
   have hnat:∀w,Sat0 X w st env h→bf? ci=some (ii.ev w).toNat:=fun w sw=>by
    obtain ⟨kk,hk⟩:=dX (w:=w) hii;rw [hi w sw,hk]; simp only [bf?,aH (hi0 w sw)]
   split at hs<;>(try (cases hs; done))
   ·rename_i k1 b off i0 len cap;split at hs
    ·rename_i hc;simp only [aT,aZ] at hc;obtain ⟨⟨rfl,hc1⟩,hc2⟩:=hc;split at hs
     ·rename_i t ht;simp only [sI] at hs; subst hs;refine aJ s fun w sw=>?_
      have h1:=aE sw.fa hc1;have h2:=aE sw.fa hc2;have h3:=hi0 w sw;have h4:=pY sw.z ht;have h5:0≤i0.ev w:=by simp only [Lin.ev,sw.z] at h2 ⊢; omega
      rw [hr,hx w sw,hnat w sw,uH sw.z];simp only [den];rw [aH (by omega),h4,show (i0.ev w+ii.ev w).toNat=(i0.ev w).toNat+(ii.ev w).toNat by omega,eH,nC]
     ·cases hs
    ·cases hs
   ·rename_i k1 b len;split at hs
    ·rename_i hc;simp only [sI] at hs; subst hs;refine aJ s fun w sw=>?_
     have h1:=aE sw.fa hc;have h3:=hi0 w sw;rw [hr,hx w sw,hnat w sw,uH sw.z];simp only [den];rw [aC (by omega)];simp only [dg];rw [aH (by omega)]
    ·cases hs
   ·rename_i k1 b i0 len;split at hs
    ·rename_i hc;simp only [aT,aZ] at hc;obtain ⟨⟨rfl,hc1⟩,hc2⟩:=hc;split at hs
     ·rename_i t ht;simp only [sI] at hs; subst hs;refine aJ s fun w sw=>?_
      have h1:=aE sw.fa hc1;have h2:=aE sw.fa hc2;have h3:=hi0 w sw;have h4:=pY sw.z ht;have h5:0≤i0.ev w:=by simp only [Lin.ev,sw.z] at h2 ⊢; omega
      rw [hr,hx w sw,hnat w sw,uH sw.z];simp only [den];rw [aH (by omega),h4,show (i0.ev w+ii.ev w).toNat=(i0.ev w).toNat+(ii.ev w).toNat by omega,eH,dg]
     ·cases hs
    ·cases hs
   ·rename_i s1;split at hs<;>(try (cases hs; done));rename_i R lo hi1 t hl hlen;split at hs
    ·rename_i hc;simp only [aT,aZ] at hc;simp only [sI] at hs; subst hs;have h1:=aE s0.fa hc.1;obtain ⟨n,hn,hti⟩:=eo s0.fa hlen;have hT:=dw s0.fa hl;have h3:=hi0 v s0;have hcx:=hx v s0;simp only [den] at hcx;simp only [av] at hT;rcases hT with ⟨hT,_⟩ | ⟨rows,ex,hT,_,_,hR⟩
     ·rw [hT] at hn; simp only [cV,sI] at hn; subst hn;simp only [Lin.ev] at h1 h3; omega
     ·rw [hT] at hn; simp only [cV,sI] at hn; subst hn;have hlt:(ii.ev v).toNat < rows.length:=by simp only [Lin.ev] at h1 h3 ⊢; omega
      have hrow:=ed hlt;have hsym:∀w,Sat0 X w st env h→w.c s1=.lst rows ex:=fun w sw=>by have:=hx w sw; simp only [den] at this; rw [←this,hcx,hT]
      have hsame:∀w,Sat0 X w st env h→ii.ev w=ii.ev v:=fun w sw=>by
       have e1:=hnat w sw; rw [hnat v s0,sI] at e1;have:=hi0 w sw; omega
      have htyp:∀w,Agr st.n v w→a8 w R (rows[(ii.ev v).toNat]'hlt):=fun w hw=>by
       have sw:=s.all w hw;have hT':=dw sw.fa hl;simp only [av] at hT';rcases hT' with ⟨hT',_⟩ | ⟨rows',ex',hT',_,_,hR'⟩
       ·rw [hsym w sw] at hT'; cases hT'
       ·rw [hsym w sw] at hT'; cases hT';exact hR' _ (List.getElem_mem hlt)
      obtain ⟨hle,w,hw,hall⟩:=i4 R st.n v _ htyp;refine ae.mk' (w:=w) (c:=.rptr (rows[(ii.ev v).toNat]'hlt)) (h':=h) mS hw hle rfl s.pos ?_ (fun u hu=>?_)
      ·rw [hr,hcx,hT,hnat v s0];simp only [nth?_eq,hrow];have:=((bi v R _).1 (htyp v (Agr.refl _ _))).1;rw [aH (by rw [this,hc.2])]
      ·obtain ⟨hd,hf⟩:=hall u hu;have su:=s.all u (hw.trans hu hle);have hrw:nth? rows (ii.ev u).toNat=some (aF u (bS st.n R).1):=by rw [nth?_eq,hsame u su,hrow,hd]
       refine ⟨su.wk _ (.row s1 ii (bS st.n R).1::(qFX st.fa s1 ii (bS st.n R).1 st.fa++(bS st.n R).2.1)) (fun f hf'=>?_),by simp only [den,hd]⟩;rcases aS.1 hf' with rfl | hf'
       ·exact ⟨hi0 u su,rows,ex,hsym u su,hrw⟩
       ·rcases bP.1 hf' with hf' | hf'
        ·exact qY4 su.fa (hi0 u su) (hsym u su) hrw su.fa f hf'
        ·exact hf f hf'
    ·cases hs
   ·rename_i rows ex;split at hs
    ·rename_i hz;split at hs
     ·rename_i row hrow;split at hs
      ·rename_i hlen;simp only [sI] at hs; subst hs;refine aJ s fun w sw=>?_
       rw [hr,hx w sw,hnat w sw];have e:ii.ev w=ii.c:=by simp only [Lin.ev,hz,sw.z]; omega
       simp only [den,e,nth?_eq,gC,List.getElem?_map];rw [qA5] at hrow;simp only [hrow,dh,aq,hlen,ac]
      ·cases hs
     ·cases hs
    ·cases hs
def qHD(st:St)(n k:Nat)(x i:AV):Option (List (AV × St)) :=
 match asLin i with
 | none=>none
 | some ii=>if leL st.fa ⟨0,0⟩ ii 0=false∨leL st.fa ii ⟨0,n⟩ (-1)=false then none else
  match x with
  | .ptr b off=>some [(qAA b off k ii,st)]
  | .rptr cs=>if ii.s=0 then some [(.rptr (cs.drop (ii.c.toNat*k)),st)] else none
  | _=>none
theorem tq(s:Sat X v st env h){n k:Nat}{x i:AV}{outs:List (AV × St)}(hs:qHD st n k x i=some outs){cx ci:CV}(hx:∀w,Sat0 X w st env h→cx=den w x)(hi:∀w,Sat0 X w st env h→ci=den w i){r:Option (CV × H)}(hr:r=match (generalizing:=false) cx,bf? ci with
  | .ptr r off,some i=>if i < n then some (.ptr r (off+i*k),h) else none
  | .rptr c,some i=>if i < n then some (.rptr (c.drop (i*k)),h) else none
  | _,_=>none):ae X v st env outs r:=by
 unfold qHD at hs;split at hs
 ·cases hs
 ·rename_i ii hii;split at hs
  ·cases hs
  ·rename_i h0;simp only [not_or,Bool.not_eq_false] at h0;have hi0:∀w,Sat0 X w st env h→0≤ii.ev w∧ii.ev w < n:=fun w sw=>by
    have h1:=aE sw.fa h0.1;have h2:=aE sw.fa h0.2;simp only [Lin.ev,sw.z] at h1 h2 ⊢; omega
   have hnat:∀w,Sat0 X w st env h→bf? ci=some (ii.ev w).toNat:=fun w sw=>by
    obtain ⟨kk,hk⟩:=dX (w:=w) hii;rw [hi w sw,hk]; simp only [bf?,aH (hi0 w sw).1]
   split at hs<;>(try (cases hs; done))
   ·simp only [sI] at hs; subst hs;refine aJ s fun w sw=>?_
    have:=hi0 w sw;rw [hr,hx w sw,hnat w sw,sM sw.z];simp only [den];rw [aH (by omega)]
   ·split at hs
    ·rename_i hz;simp only [sI] at hs; subst hs;refine aJ s fun w sw=>?_
     have:=hi0 w sw;have e:ii.ev w=ii.c:=by simp only [Lin.ev,hz,sw.z]; omega
     rw [hr,hx w sw,hnat w sw];simp only [den];rw [aH (by omega),e,jK]
    ·cases hs
def sIxA(st:St)(n k:Nat)(g:Option Nat)(x i:AV):Option (List (AV × St)) :=
 match asLin i,x with
 | some ii,.agg l=>if leL st.fa ⟨0,0⟩ ii 0=false∨leL st.fa ii ⟨0,n⟩ (-1)=false then none else
  if ii.s=0 then (match oT st.fa g l (ii.c.toNat*k) with
   | some y=>some [(y,st)]
   | none=>none)
  else match hiC st.fa ii with
   | some hi=>match tH st.fa g l 0 k (hi.toNat+1) with
    | some xs=>zy st ii xs
    | none=>none
   | none=>none
 | _,_=>none
theorem qPE(s:Sat X v st env h){n k:Nat}{g:Option Nat}{x i:AV}{outs:List (AV × St)}(hs:sIxA st n k g x i=some outs){cx ci:CV}(hx:∀w,Sat0 X w st env h→cx=den w x)(hi:∀w,Sat0 X w st env h→ci=den w i){r:Option (CV × H)}(hr:r=match (generalizing:=false) cx,bf? ci with
  | .agg c,some i=>if i < n then (match cO g c (i*k) with
   | some v=>some (v,h)
   | none=>none) else none
  | _,_=>none):ae X v st env outs r:=by
 have s0:=s.now;unfold sIxA at hs;split at hs
 ·rename_i ii l hii;split at hs
  ·cases hs
  ·rename_i h0;simp only [not_or,Bool.not_eq_false] at h0;have hi0:∀w,Sat0 X w st env h→0≤ii.ev w∧ii.ev w < n:=fun w sw=>by
    have h1:=aE sw.fa h0.1;have h2:=aE sw.fa h0.2;simp only [Lin.ev,sw.z] at h1 h2 ⊢; omega
   have hnat:∀w,Sat0 X w st env h→bf? ci=some (ii.ev w).toNat:=fun w sw=>by
    obtain ⟨kk,hk⟩:=dX (w:=w) hii;rw [hi w sw,hk]; simp only [bf?,aH (hi0 w sw).1]
   split at hs
   ·rename_i hz;split at hs
    ·rename_i y hy;simp only [sI] at hs; subst hs;refine aJ s fun w sw=>?_
     have:=hi0 w sw;have e:ii.ev w=ii.c:=by simp only [Lin.ev,hz,sw.z]; omega
     rw [hr,hx w sw,hnat w sw];simp only [den];rw [aH (by omega),e,jG sw.fa hy]
    ·cases hs
   ·split at hs
    ·rename_i hi1 hhi;split at hs
     ·rename_i xs hxs;obtain ⟨hl,hc⟩:=tG hxs;refine vU s hs (hi0 v s0).1 (fun w sw=>?_) (fun w sw=>?_)
      ·have e1:=hnat w sw; rw [hnat v s0,sI] at e1;have:=hi0 w sw; have:=hi0 v s0; omega
      ·have hup:=eF sw.z sw.fa hhi;have h2:=hi0 w sw; have h3:=hi0 v s0;have e1:=hnat w sw; rw [hnat v s0,sI] at e1;obtain ⟨y,hy1,hy2⟩:=hc (ii.ev v).toNat (by omega);refine ⟨y,hy1,?_⟩;rw [hr,hx w sw,hnat w sw];simp only [den];rw [aH (by omega),←e1];rw [dg] at hy2;rw [jG sw.fa hy2]
     ·cases hs
    ·cases hs
 ·cases hs
end
end
end Ce.S
namespace Ce.S
noncomputable section
open Go
section
variable {X:Cx} {v:V} {st:St} {env:List CV} {h:H}
def xy(st:St)(z:List CV):Option (List (AV × St)) :=
 match jF z with
 | some l=>some [(.ptr st.n 0,{ st with n:=st.n+1,bl:=.blk st.n (.cells l) false::st.bl })]
 | none=>none
theorem qCS(s:Sat X v st env h){z:List CV}{outs:List (AV × St)}(hs:xy st z=some outs){r:Option (CV × H)}(hr:r=some (newC z h)):ae X v st env outs r:=by
 unfold xy at hs;split at hs
 ·rename_i l hl;simp only [sI] at hs; subst hs;exact f8 s (cs:=z) (fun u hb _=>by rw [hr]; simp only [newC,den,hb]) (fun u su=>(dR su.z z l hl).symm)
 ·cases hs
def sBox(st:St)(a:AV):Option (List (AV × St)) :=
 if kS st.fa a&&vd st.fa (eG a) then some [(.ptr st.n 0,{ st with n:=st.n+1,bl:=.blk st.n (.cells (eG a)) false::st.bl })] else none
theorem qPP(s:Sat X v st env h){a:AV}{outs:List (AV × St)}(hs:sBox st a=some outs){x:CV}{r:Option (CV × H)}(hr:r=if aM x.cells then some (newC x.cells h) else none)(hx:∀w,Sat0 X w st env h→x=den w a):ae X v st env outs r:=by
 unfold sBox at hs;split at hs
 ·rename_i hc;simp only [aT] at hc;simp only [sI] at hs; subst hs;have e:∀u,Sat0 X u st env h→x.cells=aF u (eG a)∧aM x.cells=true:=fun u su=>by
   have e1:=ky su.fa hc.1;rw [←hx u su] at e1;exact ⟨e1,by rw [e1]; exact mT su.fa hc.2⟩
  exact f8 s (cs:=x.cells) (fun u hb su=>by rw [hr,aH (e u su).2]; simp only [newC,den,hb]) (fun u su=>(e u su).1)
 ·cases hs
def sBsl(st:St)(k:Nat)(z:List CV)(len:Nat)(ps:List (Nat × Opd)):Option (List (AV × St)) :=
 match jF z with
 | some l=>match qMB st k (zo l len) ps with
  | some c=>some [(.slc k st.n 0 ⟨0,0⟩ ⟨0,len⟩ ⟨0,len⟩,{ st with n:=st.n+1,bl:=.blk st.n (.cells c) false::st.bl })]
  | none=>none
 | none=>none
theorem qPO(s:Sat X v st env h){k len:Nat}{z:List CV}{ps:List (Nat × Opd)}{outs:List (AV × St)}(hs:sBsl st k z len ps=some outs){r:Option (CV × H)}(hr:r=match gU k (dQ z len) env ps with
  | some c=>some (.slc k h.n 0 len (some len),h.push (.cells c false))
  | none=>none):ae X v st env outs r:=by
 have s0:=s.now;unfold sBsl at hs;split at hs
 ·rename_i l hl;split at hs
  ·rename_i c hc;simp only [sI] at hs; subst hs;have e:∀u,Sat0 X u st env h→gU k (dQ z len) env ps=some (aF u c):=fun u su=>by
    have:=qC6 su k ps _ _ hc;rw [qCX,dR su.z z l hl] at this; exact this
   have e0:=e v s0;refine f8 s (cs:=aF v c) (fun u hb su=>?_) (fun u su=>?_)
   ·rw [hr,e0];simp only [den,hb,Lin.ev,su.z,Int.zero_add,fS,gN,d9,d8,eV]
   ·have e1:=e u su;rw [e0,sI] at e1; exact e1
  ·cases hs
 ·cases hs
def qHA(st:St):List (AV × St):=[(.map st.n,{ st with n:=st.n+1,bl:=.emap st.n::st.bl })]
theorem qCR(s:Sat X v st env h){r:Option (CV × H)}(hr:r=some (.map h.n,h.push (.map [] 0))):ae X v st env (qHA st) r:=by
 refine ae.mk' (w:=upB v st.n h.n) (c:=.map h.n) (h':=h.push (.map [] 0)) mS (bg _ _ _ _ _ _) (dZ _) rfl s.pos hr (fun u hu=>?_);obtain ⟨ha,_,_,hb,_⟩:=bQ hu;refine ⟨((s.all u ha).wk' (st.n+1)).push (q:=.emap st.n) (blk:=.map [] 0) (by simp only [adr,hb]) ⟨0,by rw [hb,eM,aH rfl]⟩,by simp only [den,hb]⟩
def qZT:CV→Option Ty
 | .int k n=>if kLo k≤n∧n≤kHi k then some (if 0≤n then .int k ⟨0,0⟩ ⟨0,kHi k⟩ else eU k) else none
 | .bool _=>some .bool
 | .str _=>some .str
 | _=>none
def p6:List CV→Option (List Ty)
 | []=>some []
 | c::cs=>match qZT c,p6 cs with
  | some T,some Ts=>some (T::Ts)
  | _,_=>none
theorem nP{w:V}(z:w.i 0=0):∀{cs:List CV} {R:List Ty},p6 cs=some R→a8 w R cs
 | [],R,h=>by simp only [p6,sI] at h; subst h; rfl
 | c::cs,R,h=>by
  simp only [p6] at h;split at h
  ·rename_i T Ts h1 h2;simp only [sI] at h; subst h;refine ⟨c,cs,rfl,?_,nP z h2⟩;cases c<;>simp only [qZT] at h1<;>(try (cases h1; done))
   ·simp only [sI] at h1; subst h1; exact ⟨_,rfl⟩
   ·split at h1
    ·rename_i hc;simp only [sI] at h1; subst h1;split
     ·exact ⟨_,rfl,by simp only [Lin.ev,z]; omega,by simp only [Lin.ev,z]; omega⟩
     ·exact wK z hc.1 hc.2
    ·cases h1
   ·simp only [sI] at h1; subst h1; exact ⟨_,rfl⟩
  ·cases h
theorem repl_len(z:List CV)(n:Nat):(dQ z n).length=n*z.length:=by
 induction n with
 | zero=>simp [dQ]
 | succ n ih=>simp only [dQ,jP,ih,dL]; omega
theorem jC{w:V}{k:Nat}{R:List Ty}{z:List CV}(hk:z.length=k)(hT:a8 w R z):∀n,aQ w k R (dQ z n) n:=by
 intro n
 induction n with
 | zero=>rfl
 | succ n ih =>
  simp only [dQ,aQ];refine ⟨by simp only [jP]; omega,?_,?_⟩
  ·rw [List.take_append_of_le_length (by omega),xI (by omega)]; exact hT
  ·rw [←hk,List.drop_left]; rw [hk]; exact ih
def qH9(st:St)(k bytes:Nat)(z:List CV)(l c:AV):Option (List (AV × St)) :=
 match asLin l,asLin c,p6 z with
 | some ll,some lc,some R=>if leL st.fa ⟨0,0⟩ ll 0&&leL st.fa ll lc 0&&leL st.fa lc ⟨0,(2 ^ 40 / (bytes+1):Nat)⟩ 0&&decide (0 < k)&&R.length==k then
   some [(.slc k st.n 0 ⟨0,0⟩ ll lc,{ st with n:=st.n+1,bl:=.blk st.n (.rows k R lc) false::st.bl })] else none
 | _,_,_=>none
theorem qH8(s:Sat X v st env h){k bytes:Nat}{z:List CV}{l c:AV}{outs:List (AV × St)}(hs:qH9 st k bytes z l c=some outs){cl cc:CV}{r:Option (CV × H)}(hr:r=mkslV k bytes z cl cc h)(hl:∀w,Sat0 X w st env h→cl=den w l)(hc:∀w,Sat0 X w st env h→cc=den w c):ae X v st env outs r:=by
 have s0:=s.now;unfold qH9 at hs;split at hs
 ·rename_i ll lc R h1 h2 h3;split at hs
  ·rename_i hg;simp only [aT,dT,aZ] at hg;obtain ⟨⟨⟨⟨g1,g2⟩,g3⟩,g4⟩,g5⟩:=hg;simp only [sI] at hs; subst hs;have vals:∀w,Sat0 X w st env h→∃k1 k2,cl=.int k1 (ll.ev w)∧cc=.int k2 (lc.ev w)∧0≤ll.ev w∧ll.ev w≤lc.ev w∧lc.ev w≤(2 ^ 40 / (bytes+1):Nat):=fun w sw=>by
    obtain ⟨k1,e1⟩:=dX (w:=w) h1;obtain ⟨k2,e2⟩:=dX (w:=w) h2;have q1:=aE sw.fa g1;have q2:=aE sw.fa g2;have q3:=aE sw.fa g3;simp only [Lin.ev,sw.z] at q1 q2 q3;refine ⟨k1,k2,by rw [hl w sw,e1],by rw [hc w sw,e2],?_,?_,?_⟩<;>simp only [Lin.ev]<;>omega
   obtain ⟨k1,k2,e1,e2,p1,p2,p3⟩:=vals v s0;have hsz:lc.ev v*(bytes+1)≤2 ^ 40:=by
    obtain ⟨m,hm⟩:=Int.eq_ofNat_of_zero_le (show 0≤lc.ev v by omega);rw [hm] at p3 ⊢;have h5:m≤2 ^ 40 / (bytes+1):=Int.ofNat_le.1 p3;have h6:m*(bytes+1)≤2 ^ 40:=cz (dA _ h5) (Nat.div_mul_le_self _ _);have h7:((m*(bytes+1):Nat):Int)≤((2 ^ 40:Nat):Int):=Int.ofNat_le.2 h6;have h8:((m*(bytes+1):Nat):Int)=(m:Int)*((bytes:Int)+1):=by rw [Int.natCast_mul,Int.natCast_add]; rfl
    have h9:((2 ^ 40:Nat):Int)=(2:Int) ^ 40:=rfl;rw [←h8,←h9]; exact h7
   have zl:z.length=k:=by
    have:=((bi v R z).1 (nP s0.z h3)).1; omega
   have same:∀u,Sat0 X u st env h→ll.ev u=ll.ev v∧lc.ev u=lc.ev v:=fun u su=>by
    obtain ⟨k3,k4,e3,e4,_⟩:=vals u su;rw [e1] at e3; rw [e2] at e4;simp only [CV.int.injEq] at e3 e4;exact ⟨e3.2.symm,e4.2.symm⟩
   refine f8 s (cs:=dQ z (lc.ev v).toNat) (fun u hb su=>?_) (fun u su=>?_)
   ·rw [hr,e1,e2];simp only [mkslV,aH (show 0≤ll.ev v∧ll.ev v≤lc.ev v∧lc.ev v*(bytes+1)≤2 ^ 40 from ⟨p1,p2,hsz⟩),den,hb,(same u su).1,(same u su).2];simp only [Lin.ev,su.z,gN,d9,d8,eV]
   ·simp only [cR,(same u su).2];exact ⟨g4,g5,by omega,jC zl (nP su.z h3) _⟩
  ·cases hs
 ·cases hs
def rD(st:St)(x:Option AV)(els:Lin)(y:Lin):Option Lin :=
 match x with
 | none=>some els
 | some a=>match asLin a with
  | some l=>if leL st.fa ⟨0,0⟩ l 0&&leL st.fa l y 0 then some l else none
  | none=>none
theorem kz{w:V}(sw:Sat0 X w st env h){a:Option AV}{x:Option CV}(hx:x=a.map (den w)){els y l:Lin}(hb:rD st a els y=some l){e:Nat}(he:els.ev w=e)(hy:0≤y.ev w):0≤l.ev w∧bnd x e (y.ev w).toNat=some (l.ev w).toNat∧(a=none∨l.ev w≤y.ev w):=by
 unfold rD at hb;split at hb
 ·simp only [sI] at hb; subst hb;subst hx;exact ⟨by omega,by simp only [kY,bnd]; congr 1; omega,.inl rfl⟩
 ·rename_i a;split at hb
  ·rename_i l' hl;split at hb
   ·rename_i hc;simp only [aT] at hc;simp only [sI] at hb; subst hb;obtain ⟨k,e1⟩:=dX (w:=w) hl;have h1:=aE sw.fa hc.1;have h2:=aE sw.fa hc.2;have h1':0≤l'.ev w:=by simp only [Lin.ev,sw.z] at h1 ⊢; omega
    subst hx;refine ⟨h1',?_,.inr (by omega)⟩;simp only [dh,bnd,e1,bf?,aH h1'];rw [aH (by omega)]
   ·cases hb
  ·cases hb
theorem gD(e y:Nat):bnd none e y=some e:=rfl
def sSlA(st:St)(n k:Nat)(x:AV)(lo hi mx:Option AV):Option (List (AV × St)) :=
 match x,lo,mx with
 | .ptr b off,none,none=>match ai b st.bl with
  | some (.blk _ (.cells l) _)=>if off+n*k≤l.length then (match rD st hi ⟨0,n⟩ ⟨0,n⟩ with
   | some hh=>some [(.slc k b off ⟨0,0⟩ hh ⟨0,n⟩,st)]
   | none=>none) else none
  | _=>none
 | _,_,_=>none
theorem qPA(s:Sat X v st env h){n k:Nat}{x:AV}{lo hi mx:Option AV}{outs:List (AV × St)}(hs:sSlA st n k x lo hi mx=some outs){cx:CV}{clo chi cmx:Option CV}{r:Option (CV × H)}(hr:r=match slA h cx n k clo chi cmx with
  | some v=>some (v,h)
  | none=>none)(hx:∀w,Sat0 X w st env h→cx=den w x)(hlo:∀w,Sat0 X w st env h→clo=lo.map (den w))(hhi:∀w,Sat0 X w st env h→chi=hi.map (den w))(hmx:∀w,Sat0 X w st env h→cmx=mx.map (den w)):ae X v st env outs r:=by
 unfold sSlA at hs;split at hs<;>(try (cases hs; done));rename_i b off;split at hs<;>(try (cases hs; done));rename_i b' l ro hb;split at hs
 ·rename_i hl;split at hs
  ·rename_i hh hhh;simp only [sI] at hs; subst hs;refine aJ s fun w sw=>?_
   obtain ⟨⟨cs,hcs,ho⟩,hk⟩:=sw.blk hb;simp only [dF] at hk; subst hk;simp only [cR] at ho;have hn0:(⟨0,n⟩:Lin).ev w=n:=by simp only [Lin.ev,sw.z]; omega
   obtain ⟨q1,q2,q3⟩:=kz sw (hhi w sw) hhh hn0 (by omega);have q4:hh.ev w≤n:=by
    rcases q3 with q3 | q3
    ·subst q3; simp only [rD,sI] at hhh; subst hhh; omega
    ·omega
   rw [hn0] at q2;simp only [fS] at q2;rw [hr,hx w sw,hlo w sw,hmx w sw];simp only [den,slA,hcs,ho,aq,aH hl,kY,gD,q2];rw [aH (by omega)];simp only [d9,d8,ite_self,Nat.sub_zero];simp only [Lin.ev,sw.z,Int.zero_add,gN,d9,d8,fS,eV]
  ·cases hs
 ·cases hs
def asLin?:Option AV→Option Lin
 | some a=>asLin a
 | none=>none
theorem oe{o:Option AV}{l:Lin}(h:asLin? o=some l):∃a,o=some a∧asLin a=some l:=by
 cases o with
 | none=>cases h
 | some a=>exact ⟨a,rfl,h⟩
def sSlS(st:St)(k:Nat)(x:AV)(lo hi mx:Option AV):Option (List (AV × St)) :=
 match x,mx with
 | .slc k' b off i len cap,none =>
  if k'=k∧leL st.fa ⟨0,0⟩ len 0=true∧leL st.fa len cap 0=true∧leL st.fa ⟨0,0⟩ i 0=true then
   match rD st hi len cap with
   | some hh=>match lo with
    | none=>some [(.slc k b off i hh cap,st)]
    | some _=>match rD st lo ⟨0,0⟩ hh with
     | some ll=>if leL st.fa ll cap (-1) then (match pb hh ll,pb cap ll,ug i ll with
      | some n,some c,some i'=>some [(.slc k b off i' n c,st)]
      | _,_,some i'=>some [(.slc k b off i' ⟨st.n,0⟩ ⟨st.n+1,0⟩,{ st with n:=st.n+2,fa:=[.sum ll.s st.n hh.s (hh.c - ll.c),.dc 0 st.n 0,.dc st.n hh.s hh.c,.dc 0 (st.n+1) 0,.dc (st.n+1) cap.s cap.c,.dc st.n (st.n+1) 0]++st.fa })]
      | _,_,_=>none) else none
     | none=>none
   | none=>none
  else none
 | .sym s1,none=>match lo,hi,kD s1 st.fa,iQ s1 st.fa with
  | none,some _,some (R,_,_),some t=>match rD st hi ⟨0,0⟩ ⟨t,0⟩ with
   | some hh=>if R.length=k then some [(.sym st.n,{ st with n:=st.n+2,fa:=[.ty st.n (.lst R hh hh),.len st.n (st.n+1),.dc (st.n+1) hh.s hh.c,.dc hh.s (st.n+1) (-hh.c),.dc 0 (st.n+1) 0]++st.fa })] else none
   | none=>none
  | _,_,_,_=>none
 | .vec k' b len,none=>if k'=k∧leL st.fa ⟨0,1⟩ len 0=true then (match rD st hi len len with
   | some hh=>(match lo with
    | none=>some [(.slv k b ⟨0,0⟩ hh,st)]
    | some _=>(match rD st lo ⟨0,0⟩ hh with
     | some ll=>if leL st.fa ll len (-1) then (match pb hh ll with
      | some n=>some [(.slv k b ll n,st)]
      | none=>none) else none
     | none=>none))
   | none=>none) else none
 | .nils,some m=>match lo,asLin? hi,asLin m with
  | none,some hh,some mm=>if be st.fa hh ⟨0,0⟩&&be st.fa mm ⟨0,0⟩ then some [(.nils,st)] else none
  | _,_,_=>none
 | .vec k' b len,some m=>match lo,asLin? hi,asLin m with
  | none,some hh,some mm=>if k'=k∧be st.fa hh len=true∧be st.fa mm len=true∧leL st.fa ⟨0,0⟩ len 0=true then
    some [(.nils,{ st with fa:=[.dc len.s 0 (-len.c)]++st.fa }),(.slc k b 0 ⟨0,0⟩ len len,{ st with fa:=[.dc 0 len.s (len.c - 1)]++st.fa })] else none
  | _,_,_=>none
 | _,_=>none
theorem tP{k:Nat}{rows:List (List CV)}(h:∀r,r∈rows→r.length=k):eO k rows=true:=by
 induction rows with
 | nil=>rfl
 | cons r rs ih=>simp only [eO,h r mS,lM,ih (fun r hr=>h r (mC _ hr)),eA]
theorem tj{w:V}(z:w.i 0=0){a b t:Lin}(h:pb a b=some t):t.ev w=a.ev w - b.ev w:=by
 unfold pb at h;split at h
 ·rename_i h0;simp only [sI] at h; subst h;simp only [Lin.ev,h0,z]; omega
 ·split at h
  ·rename_i h0;simp only [sI] at h; subst h;simp only [Lin.ev,h0,z]; omega
  ·cases h
theorem qP9(s:Sat X v st env h){k:Nat}{x:AV}{lo hi mx:Option AV}{outs:List (AV × St)}(hs:sSlS st k x lo hi mx=some outs){cx:CV}{clo chi cmx:Option CV}{r:Option (CV × H)}(hr:r=match slS cx k clo chi cmx with
  | some v=>some (v,h)
  | none=>none)(hx:∀w,Sat0 X w st env h→cx=den w x)(hlo:∀w,Sat0 X w st env h→clo=lo.map (den w))(hhi:∀w,Sat0 X w st env h→chi=hi.map (den w))(hmx:∀w,Sat0 X w st env h→cmx=mx.map (den w)):ae X v st env outs r:=by
 have s0:=s.now;unfold sSlS at hs;split at hs<;>(try (cases hs; done))
 ·rename_i k' b off i len cap;split at hs
  ·rename_i hg;obtain ⟨rfl,g1,g2,g3⟩:=hg;have basics:∀w,Sat0 X w st env h→0≤len.ev w∧len.ev w≤cap.ev w∧0≤i.ev w:=fun w sw=>by
    have q1:=aE sw.fa g1;have q2:=aE sw.fa g2;have q3:=aE sw.fa g3;simp only [Lin.ev,sw.z] at q1 q2 q3 ⊢; omega
   split at hs
   ·rename_i hh hhh;have hb:∀w,Sat0 X w st env h→0≤hh.ev w∧bnd chi (len.ev w).toNat (cap.ev w).toNat=some (hh.ev w).toNat∧hh.ev w≤cap.ev w:=fun w sw=>by
     have:=basics w sw;obtain ⟨q1,q2,q3⟩:=kz sw (hhi w sw) hhh (e:=(len.ev w).toNat) (by omega) (by omega);refine ⟨q1,q2,?_⟩;rcases q3 with q3 | q3
     ·subst q3; simp only [rD,sI] at hhh; subst hhh; omega
     ·exact q3
    split at hs
    ·simp only [sI] at hs; subst hs;refine aJ s fun w sw=>?_
     have hb1:=basics w sw;obtain ⟨q1,q2,q3⟩:=hb w sw;rw [hr,hx w sw,hlo w sw,hmx w sw];simp only [den,slS,dY,jk,bX,kY,gD,q2];rw [aH (by omega)];simp only [d9,d8,ite_self,Nat.sub_zero]
    ·rename_i la;split at hs
     ·rename_i ll hll;split at hs
      ·rename_i hlt;have val:∀w,Sat0 X w st env h→0≤ll.ev w∧ll.ev w≤hh.ev w∧r=some (.slc k' (w.b b) (off+((i.ev w).toNat+(ll.ev w).toNat)*k') (hh.ev w - ll.ev w).toNat (some (cap.ev w - ll.ev w).toNat),h):=fun w sw=>by
        have hb1:=basics w sw;obtain ⟨q1,q2,q3⟩:=hb w sw;have hz0:(⟨0,0⟩:Lin).ev w=(0:Nat):=by simp only [Lin.ev,sw.z]; rfl
        obtain ⟨r1,r2,r3⟩:=kz sw (hlo w sw) hll hz0 q1;have r4:ll.ev w≤hh.ev w:=by rcases r3 with r3 | r3; (· cases r3); exact r3
        have hlt:=aE sw.fa hlt;refine ⟨r1,r4,?_⟩;rw [hr,hx w sw,hmx w sw];simp only [den,slS,dY,jk,bX,kY,gD,q2,r2];rw [aH (by omega),aC (by omega)];rw [eH,nC,show (hh.ev w - ll.ev w).toNat=(hh.ev w).toNat - (ll.ev w).toNat by omega,show (cap.ev w - ll.ev w).toNat=(cap.ev w).toNat - (ll.ev w).toNat by omega]
       have offs:∀w,Sat0 X w st env h→∀i',ug i ll=some i'→(i'.ev w).toNat=(i.ev w).toNat+(ll.ev w).toNat:=fun w sw i' e3=>by
        have:=pY sw.z e3;have:=basics w sw;have:=(val w sw).1;omega
       split at hs
       ·rename_i n c i' e1 e2 e3;simp only [sI] at hs; subst hs;refine aJ s fun w sw=>?_
        rw [(val w sw).2.2];simp only [den];rw [tj sw.z e1,tj sw.z e2,offs w sw i' e3]
       ·rename_i i' e3 _;simp only [sI] at hs; subst hs;obtain ⟨v1,v2,v3⟩:=val v s0;have vb:=basics v s0;have vh:=hb v s0;refine ae.mk' (w:=upI (upI v st.n (hh.ev v - ll.ev v)) (st.n+1) (cap.ev v - ll.ev v)) (c:=.slc k' (v.b b) (off+((i.ev v).toNat+(ll.ev v).toNat)*k') (hh.ev v - ll.ev v).toNat (some (cap.ev v - ll.ev v).toNat)) (h':=h) mS ((bg _ _ _ _ _ _).trans (bg _ _ _ _ _ _) (dZ _)) (by simp) rfl s.pos v3 (fun u hu=>?_);obtain ⟨b1,b2,_⟩:=bQ hu;obtain ⟨b3,b4,_⟩:=bQ b1;have su:=s.all u b3;obtain ⟨u1,u2,u3⟩:=val u su;have ub:=basics u su;have uh:=hb u su;rw [v3] at u3;simp only [sI,pI,CV.slc.injEq,cZ,cQ] at u3;obtain ⟨p1,p2,p3,p4⟩:=u3;refine ⟨su.wk (st.n+2) [.sum ll.s st.n hh.s (hh.c - ll.c),.dc 0 st.n 0,.dc st.n hh.s hh.c,.dc 0 (st.n+1) 0,.dc (st.n+1) cap.s cap.c,.dc st.n (st.n+1) 0] (fun f hf=>?_),?_⟩
        ·have hz:=su.z;simp only [aS,bz,br] at hf;simp only [Lin.ev] at *;rcases hf with rfl | rfl | rfl | rfl | rfl | rfl<;>simp only [FOK,b2,b4]<;>omega
        ·simp only [den];rw [offs u su i' e3,←p1];have n1:(⟨st.n,0⟩:Lin).ev u=hh.ev v - ll.ev v:=by simp only [Lin.ev,b4,eV]
         have n2:(⟨st.n+1,0⟩:Lin).ev u=cap.ev v - ll.ev v:=by simp only [Lin.ev,b2,eV]
         rw [n1,n2];rw [p2]
       ·cases hs
      ·cases hs
     ·cases hs
   ·cases hs
  ·cases hs
 ·rename_i s1;split at hs<;>(try (cases hs; done));rename_i ha R lo1 hi1 t hl ht;split at hs
  ·rename_i hh hhh;split at hs
   ·rename_i hRk;simp only [sI] at hs; subst hs;obtain ⟨n,hn,hti⟩:=eo s0.fa ht;have hT:=dw s0.fa hl;have tl:∀w,Sat0 X w st env h→(⟨t,0⟩:Lin).ev w=n:=fun w sw=>by
     obtain ⟨m,hm,hmi⟩:=eo sw.fa ht;have e1:=hx w sw; rw [hx v s0] at e1; simp only [den] at e1;rw [←e1,hn,sI] at hm;simp only [Lin.ev,hmi,hm,eV]
    have hz0:∀w,Sat0 X w st env h→(⟨0,0⟩:Lin).ev w=(0:Nat):=fun w sw=>by simp only [Lin.ev,sw.z]; rfl
    have hb:∀w,Sat0 X w st env h→0≤hh.ev w∧hh.ev w≤n∧(∀els:Nat,bnd chi els n=some (hh.ev w).toNat):=fun w sw=>by
     obtain ⟨q1,q2,q3⟩:=kz sw (hhi w sw) hhh (hz0 w sw) (by rw [tl w sw]; omega);rw [tl w sw] at q2 q3;refine ⟨q1,?_,fun els=>?_⟩
     ·rcases q3 with q3 | q3; (· cases q3); exact q3
     ·rw [hhi w sw] at q2 ⊢;simp only [dh,bnd,fS] at q2 ⊢;exact q2
    obtain ⟨p1,p2,p3⟩:=hb v s0;have val:∃c',slS cx k clo chi cmx=some c'∧cV c'=some (hh.ev v).toNat∧∀w,Sat0 X w st env h→hh.ev w=hh.ev v→av w (.lst R hh hh) c':=by
     rw [hlo v s0,hmx v s0,hx v s0];simp only [den,av] at hT ⊢;rcases hT with ⟨hT,_⟩ | ⟨rows,ex,hT,_,_,hR⟩
     ·rw [hT] at hn; simp only [cV,sI] at hn; subst hn;refine ⟨.nils,?_,?_,fun w sw he=>.inl ⟨rfl,by omega,by omega⟩⟩
      ·have:bnd chi 0 0=some 0:=by rw [p3 0]; congr 1; omega
       rw [hT]; simp only [slS,kY,gD,this]
      ·simp only [cV]; congr 1; omega
     ·rw [hT] at hn; simp only [cV,sI] at hn; subst hn;have hall:eO k rows=true:=tP fun r hr=>by rw [←hRk]; exact ((bi v R r).1 (hR r hr)).1
      refine ⟨.lst (rows.take (hh.ev v).toNat) (ex&&(hh.ev v).toNat==rows.length),?_,?_,fun w sw he=>.inr ⟨_,_,rfl,?_,?_,fun r hr=>?_⟩⟩
      ·rw [hT]; simp only [slS,hall,Bool.not_true,bj,bX,kY,p3,gD];simp only [kX,Nat.sub_zero]
      ·simp only [cV,eh]; congr 1; omega
      ·simp only [eh]; omega
      ·simp only [eh]; omega
      ·have hTw:=dw sw.fa hl;simp only [av] at hTw;have e1:=hx w sw; rw [hx v s0] at e1; simp only [den] at e1;rw [←e1,hT] at hTw;rcases hTw with ⟨hTw,_⟩ | ⟨rows',ex',hTw,_,_,hR'⟩
       ·cases hTw
       ·cases hTw; exact hR' r (List.mem_of_mem_take hr)
    obtain ⟨c',hc',hlen',hty'⟩:=val;have a1:=bg v st.n (v.i st.n) c' (v.b st.n) (v.l st.n);refine ae.mk' (w:=upI (upC v st.n c') (st.n+1) (hh.ev v)) (c:=c') (h':=h) mS (a1.trans (bg _ _ _ _ _ _) (dZ _)) (by simp) rfl s.pos (by rw [hr,hc']) (fun u hu=>?_);obtain ⟨b1,b2,_⟩:=bQ hu;obtain ⟨b3,_,b4,_⟩:=bQ b1;have su:=s.all u b3;have hhs:hh.ev u=hh.ev v:=by
     have e1:=(hb u su).2.2 0;rw [p3 0,sI] at e1;have:=(hb u su).1; omega
    refine ⟨su.wk (st.n+2) [.ty st.n (.lst R hh hh),.len st.n (st.n+1),.dc (st.n+1) hh.s hh.c,.dc hh.s (st.n+1) (-hh.c),.dc 0 (st.n+1) 0] (fun f hf=>?_),b4⟩;simp only [aS,bz,br] at hf;have hz:=su.z;rcases hf with rfl | rfl | rfl | rfl | rfl
    ·simp only [FOK,b4]; exact hty' u su hhs
    ·exact ⟨_,by rw [b4]; exact hlen',by rw [b2]; omega⟩
    ·simp only [FOK,b2]; simp only [Lin.ev] at *; omega
    ·simp only [FOK,b2]; simp only [Lin.ev] at *; omega
    ·simp only [FOK,b2,hz]; omega
   ·cases hs
  ·cases hs
 ·rename_i k' b len;split at hs
  ·rename_i hg;obtain ⟨rfl,g1⟩:=hg;have l1:∀w,Sat0 X w st env h→1≤len.ev w:=fun w sw=>by
    have q:=aE sw.fa g1;simp only [Lin.ev,sw.z] at q ⊢; omega
   have hcv:∀w,Sat0 X w st env h→cx=.slc k' (w.b b) 0 (len.ev w).toNat none:=fun w sw=>by
    rw [hx w sw]; simp only [den]; rw [aC (by have:=l1 w sw; omega)]
   split at hs
   ·rename_i hh hhh;have hb:∀w,Sat0 X w st env h→0≤hh.ev w∧bnd chi (len.ev w).toNat (len.ev w).toNat=some (hh.ev w).toNat∧hh.ev w≤len.ev w:=fun w sw=>by
     have q0:=l1 w sw;obtain ⟨q1,q2,q3⟩:=kz sw (hhi w sw) hhh (e:=(len.ev w).toNat) (by omega) (by omega);refine ⟨q1,q2,?_⟩;rcases q3 with q3 | q3
     ·subst q3; simp only [rD,sI] at hhh; subst hhh; omega
     ·exact q3
    split at hs
    ·simp only [sI] at hs; subst hs;refine aJ s fun w sw=>?_
     obtain ⟨q1,q2,q3⟩:=hb w sw;rw [hr,hcv w sw,hlo w sw,hmx w sw];have hz0:(⟨0,0⟩:Lin).ev w=0:=by simp only [Lin.ev,sw.z]; omega
     simp only [slS,dY,jk,bX,kY,gD,q2,den,hz0];simp
    ·rename_i la;split at hs
     ·rename_i ll hll;split at hs
      ·rename_i hlt;split at hs
       ·rename_i n hn;simp only [sI] at hs; subst hs;refine aJ s fun w sw=>?_
        obtain ⟨q1,q2,q3⟩:=hb w sw;have hz0:(⟨0,0⟩:Lin).ev w=(0:Nat):=by simp only [Lin.ev,sw.z]; rfl
        obtain ⟨r1,r2,r3⟩:=kz sw (hlo w sw) hll hz0 q1;have hlt:=aE sw.fa hlt;have hnn:=tj sw.z hn;have q4:=l1 w sw;rw [hr,hcv w sw,hmx w sw];simp only [slS,dY,jk,bX,kY,q2,r2,den];have hcond:((ll.ev w).toNat=0 || decide ((ll.ev w).toNat < (len.ev w).toNat))=true:=by
         simp only [bU,dT]; right; omega
        rw [aH hcond];have e1:(n.ev w).toNat=(hh.ev w).toNat - (ll.ev w).toNat:=by rw [hnn]; omega
        rw [e1,dg]
       ·cases hs
      ·cases hs
     ·cases hs
   ·cases hs
  ·cases hs
 ·rename_i m;split at hs<;>(try (cases hs; done));rename_i hh mm e1 e2;split at hs
  ·rename_i he;simp only [aT] at he;simp only [sI] at hs; subst hs;refine aJ s fun w sw=>?_
   have q1:=aj sw.fa he.1;have q2:=aj sw.fa he.2;simp only [Lin.ev,sw.z] at q1 q2;obtain ⟨hA,rfl,e3⟩:=oe e1;obtain ⟨k1,p1⟩:=dX (w:=w) e3;obtain ⟨k2,p2⟩:=dX (w:=w) e2;have z1:hh.ev w=0:=by simp only [Lin.ev]; omega
   have z2:mm.ev w=0:=by simp only [Lin.ev]; omega
   rw [hr,hx w sw,hlo w sw,hhi w sw,hmx w sw];simp [den,slS,bnd,p1,p2,bf?,z1,z2]
  ·cases hs
 ·rename_i k' b len m;split at hs<;>(try (cases hs; done));rename_i hh mm e1 e2;split at hs
  ·rename_i hg;obtain ⟨rfl,g1,g2,g3⟩:=hg;simp only [sI] at hs; subst hs;obtain ⟨hA,rfl,e3⟩:=oe e1;have l0:∀w,Sat0 X w st env h→0≤len.ev w:=fun w sw=>by
    have q:=aE sw.fa g3;simp only [Lin.ev,sw.z] at q ⊢; omega
   have hcv:∀w,Sat0 X w st env h→cx=if len.ev w=0 then .nils else .slc k' (w.b b) 0 (len.ev w).toNat none:=fun w sw=>by
    rw [hx w sw]; simp only [den]
   have hlc:∀w,Sat0 X w st env h→lenOf cx=some (len.ev w).toNat:=fun w sw=>by
    rw [hcv w sw];by_cases h0:len.ev w=0
    ·rw [aH h0,h0]; rfl
    ·rw [aC h0]; rfl
   have hle:∀w,Sat0 X w st env h→len.ev w=len.ev v:=fun w sw=>by
    have e:=hlc w sw;rw [hlc v s0,sI] at e;have:=l0 w sw; have:=l0 v s0; omega
   have hb:∀w,Sat0 X w st env h→bnd cmx 0 0=(if len.ev w=0 then some 0 else none)∧(∀n:Nat,(len.ev w).toNat≤n→(∀e,bnd cmx e n=some (len.ev w).toNat)∧∀e,bnd chi e n=some (len.ev w).toNat)∧∃u,cmx=some u:=fun w sw=>by
    have q1:=aj sw.fa g1;have q2:=aj sw.fa g2;obtain ⟨k1,p1⟩:=dX (w:=w) e3;obtain ⟨k2,p2⟩:=dX (w:=w) e2;have hw:=l0 w sw;rw [hmx w sw,hhi w sw];simp only [dh,bnd,p1,p2,bf?,q1,q2,aH hw];refine ⟨?_,fun n hn=>?_,_,rfl⟩
    ·by_cases h0:len.ev w=0
     ·rw [aH h0,aH (by omega),h0]; rfl
     ·rw [aC h0,aC (by omega)]
    ·rw [aH hn]; exact ⟨fun _=>rfl,fun _=>rfl⟩
   have hlo0:clo=none:=by rw [hlo v s0]; rfl
   by_cases h0:len.ev v=0
   ·have s':=s.fact (fs:=[.dc len.s 0 (-len.c)]) (fun u su f hf=>by
     have:=hle u su;simp only [cM] at hf; subst hf;simp only [FOK,Lin.ev,su.z] at *; omega)
    refine ae.fact ((aJ s' (a:=.nils) fun w sw=>?_).sub (fun o ho=>by
     simp only [cM] at ho; subst ho; exact mS))
    have sw':Sat0 X w st env h:=⟨sw.z,sw.env,fun f hf=>sw.fa f (fF _ hf),sw.bl,sw.nd,sw.lt,sw.hn,sw.fr⟩;have hw0:len.ev w=0:=by rw [hle w sw',h0]
    obtain ⟨b1,b2,u,hu⟩:=hb w sw';obtain ⟨c1,c2⟩:=b2 0 (by omega);rw [hr,hcv w sw',aH hw0,hlo0];have c1':bnd cmx 0 0=some 0:=by rw [c1 0,hw0]; rfl
    have c2':bnd chi 0 0=some 0:=by rw [c2 0,hw0]; rfl
    simp only [slS,c1',c2',gD,den]
   ·have s':=s.fact (fs:=[.dc 0 len.s (len.c - 1)]) (fun u su f hf=>by
     have:=hle u su; have:=l0 u su;simp only [cM] at hf; subst hf;simp only [FOK,Lin.ev,su.z] at *; omega)
    refine ae.fact ((aJ s' (a:=.slc k' b 0 ⟨0,0⟩ len len) fun w sw=>?_).sub (fun o ho=>by
     simp only [cM] at ho; subst ho; exact mC _ mS))
    have sw':Sat0 X w st env h:=⟨sw.z,sw.env,fun f hf=>sw.fa f (fF _ hf),sw.bl,sw.nd,sw.lt,sw.hn,sw.fr⟩;have hw0:¬len.ev w=0:=by rw [hle w sw']; exact h0
    obtain ⟨b1,b2,u,hu⟩:=hb w sw';obtain ⟨c1,c2⟩:=b2 (len.ev w).toNat (aV _);have hz:(⟨0,0⟩:Lin).ev w=0:=by simp only [Lin.ev,sw.z]; rfl
    rw [hr,hcv w sw',aC hw0,hlo0];have d1:bnd (some u) 0 (len.ev w).toNat=some (len.ev w).toNat:=by rw [←hu]; exact c1 0
    rw [hu];simp only [slS,dY,jk,bX,d1,c2,gD,den,hz,gN,d9,d8,Nat.sub_zero,ite_self,aV,ac]
  ·cases hs
end
end
end Ce.S
namespace Ce.S
noncomputable section
open Go
section
variable {X:Cx} {v:V} {st:St} {env:List CV} {h:H}
def zu(fa:List Fact):AV→Bool
 | .agg _ | .tup _ | .slc _ _ _ _ _ _ | .vec _ _ _ | .slv _ _ _ _=>false
 | .sym s=>fL fa s rk fa
 | _=>true
def oR(fa:List Fact):List AV→Bool
 | []=>true
 | a::l=>zu fa a&&oR fa l
theorem rY{w:V}{T:Ty}{c:CV}(hT:av w T c)(hl:rk T=true)(n:Nat)(h:H):frz (n+1) c h=some (c,h):=by
 cases T with
 | int k lo hi=>obtain ⟨n,rfl,_⟩:=hT; rfl
 | bool=>obtain ⟨n,rfl⟩:=hT; rfl
 | str=>obtain ⟨n,rfl⟩:=hT; rfl
 | lst R lo hi =>
  simp only [av] at hT;rcases hT with ⟨rfl,_⟩ | ⟨rows,ex,rfl,_⟩<;>rfl
 | agg l=>cases hl
theorem pz{w:V}{fa:List Fact}(hf:∀f,f∈fa→FOK w f){a:AV}(hp:zu fa a=true)(n:Nat)(h:H):frz (n+1) (den w a) h=some (den w a,h):=by
 cases a with
 | agg l=>cases hp
 | tup l=>cases hp
 | slc=>cases hp
 | vec=>cases hp
 | slv=>cases hp
 | sym s =>
  obtain ⟨T,h1,h2⟩:=dV hf hp;exact rY h2 h1 n h
 | _=>rfl
theorem n7{w:V}{fa:List Fact}(hf:∀f,f∈fa→FOK w f):∀{l:List AV},oR fa l=true→∀(n:Nat) (h:H),frzL (frz (n+1)) (aF w l) h=some (aF w l,h)
 | [],_,n,h=>rfl
 | a::l,hp,n,h=>by
  simp only [oR,aT] at hp;simp only [aF,frzL,pz hf hp.1,n7 hf hp.2]
theorem qCA{f:CV→H→Option (CV × H)}:∀{l:List CV},(∀c,c∈l→∀h,f c h=some (c,h))→∀h,frzL f l h=some (l,h)
 | [],_,h=>rfl
 | c::cs,ha,h=>by
  simp only [frzL,ha c mS h,qCA (fun c hc=>ha c (mC _ hc))]
def hO:List Ty→Bool
 | []=>true
 | T::Ts=>rk T&&hO Ts
theorem zV{w:V}:∀{R:List Ty} {cs:List CV},a8 w R cs→hO R=true→∀c,c∈cs→∃T,rk T=true∧av w T c
 | [],cs,ht,_,c,hc=>by simp only [a8] at ht; subst ht; cases hc
 | T::Ts,cs,ht,hl,c,hc=>by
  obtain ⟨c1,cs',rfl,h1,h2⟩:=ht;simp only [hO,aT] at hl;rcases aS.1 hc with rfl | hc
  ·exact ⟨T,hl.1,h1⟩
  ·exact zV h2 hl.2 c hc
theorem pq{w:V}{k:Nat}{R:List Ty}(hl:hO R=true):∀{n:Nat} {cs:List CV},aQ w k R cs n→∀c,c∈cs→∃T,rk T=true∧av w T c
 | 0,cs,hr,c,hc=>by simp only [aQ] at hr; subst hr; cases hc
 | n+1,cs,hr,c,hc=>by
  simp only [aQ] at hr;rw [←List.take_append_drop k cs] at hc;rcases bP.1 hc with hc | hc
  ·exact zV hr.2.1 hl c hc
  ·exact pq hl hr.2.2 c hc
theorem qHQ{w:V}{k:Nat}{R:List Ty}(hl:hO R=true){n:Nat}{cs:List CV}(hr:aQ w k R cs n)(m:Nat)(h:H):frzL (frz (m+1)) cs h=some (cs,h) :=
 qCA (fun c hc h=>by obtain ⟨T,h1,h2⟩:=pq hl hr c hc; exact rY h2 h1 m h) h
theorem rows_chunk{w:V}{k:Nat}{R:List Ty}:∀{n:Nat} {cs:List CV},aQ w k R cs n→(cP k n cs).length=n∧∀r,r∈cP k n cs→a8 w R r
 | 0,cs,hr=>⟨rfl,fun r hm=>by cases hm⟩
 | n+1,cs,hr=>by
  simp only [aQ] at hr;obtain ⟨h1,h2⟩:=rows_chunk hr.2.2;refine ⟨by simp only [cP,eZ,h1],fun r hm=>?_⟩;rcases aS.1 hm with rfl | hm
  ·exact hr.2.1
  ·exact h2 r hm
theorem jx{w:V}{k:Nat}{R:List Ty}(hl:hO R=true){n:Nat}{cs:List CV}(hr:aQ w k R cs n):aM cs=true:=by
 have:∀l:List CV,(∀c,c∈l→c.one=true)→aM l=true:=by
  intro l
  induction l with
  | nil=>intro _; rfl
  | cons c l ih=>intro hc; simp only [aM,hc c mS,ih (fun c h=>hc c (mC _ h)),eA]
 exact this cs fun c hc=>by obtain ⟨T,h1,h2⟩:=pq hl hr c hc; exact nM h2 h1
def fP(k:Nat):Nat→List AV→List (List AV)
 | 0,_=>[]
 | n+1,c=>c.take k::fP k n (c.drop k)
theorem qz(w:V)(k:Nat):∀(n:Nat) (c:List AV),jJ w (fP k n c)=cP k n (aF w c)
 | 0,c=>rfl
 | n+1,c=>by simp only [fP,jJ,cP,oF,qz w k n,jK]
def gG(st:St)(R:List Ty)(n:Lin):AV × List Fact:=(.sym st.n,[.ty st.n (.lst R n n),.len st.n (st.n+1),.dc (st.n+1) n.s n.c,.dc n.s (st.n+1) (-n.c),.dc 0 (st.n+1) 0])
def frA(a:AV)(st:St):Option (AV × St) :=
 match a with
 | .agg l=>if oR st.fa l then some (a,st) else none
 | .slc k b off i len _=>match ai b st.bl with
  | some (.blk _ (.cells l) _)=>if i.s=0∧len.s=0∧0≤len.c then (match qu l (off+i.c.toNat*k) (len.c.toNat*k) with
   | some cs=>if oR st.fa cs then some (.lrows (fP k len.c.toNat cs) false,{ st with bl:=dS b [.blk b (.cells l) true] st.bl }) else none
   | none=>none) else none
  | some (.blk _ (.rows k' R n) _)=>if k'=k∧off=0∧i.s=0∧i.c=0∧be st.fa len n=true∧hO R=true then
    some ((gG st R n).1,{ st with n:=st.n+2,fa:=(gG st R n).2++st.fa,bl:=dS b [.blk b (.rows k R n) true] st.bl }) else none
  | _=>none
 | .vec k b len=>match ai b st.bl with
  | some (.blk _ (.cells l) _)=>if len.s=0∧0 < len.c then (match qu l 0 (len.c.toNat*k) with
   | some cs=>if oR st.fa cs then some (.lrows (fP k len.c.toNat cs) false,{ st with bl:=dS b [.blk b (.cells l) true] st.bl }) else none
   | none=>none) else none
  | some (.blk _ (.rows k' R n) _)=>if k'=k∧be st.fa len n=true∧hO R=true∧leL st.fa ⟨0,1⟩ len 0=true then
    some ((gG st R n).1,{ st with n:=st.n+2,fa:=(gG st R n).2++st.fa,bl:=dS b [.blk b (.rows k R n) true] st.bl }) else none
  | some (.vec _ k' R n _)=>if k'=k∧be st.fa len n=true∧hO R=true then
    some ((gG st R n).1,{ st with n:=st.n+2,fa:=(gG st R n).2++st.fa,bl:=dS b [.vec b k R n true] st.bl }) else none
  | _=>none
 | a=>if zu st.fa a then some (a,st) else none
theorem sU(s:Sat X v st env h){R:List Ty}{n:Lin}{c:CV}{m:Nat}(hn:∀w,Sat0 X w st env h→n.ev w=m)(hl:cV c=some m)(hT:∀w,Sat0 X w st env h→av w (.lst R n n) c) :
  ∃w,Agr st.n v w∧∀u,Agr (st.n+2) w u→Sat0 X u st env h∧u.c st.n=c∧Sat0 X u { st with n:=st.n+2,fa:=(gG st R n).2++st.fa } env h:=by
 have a1:=bg v st.n (v.i st.n) c (v.b st.n) (v.l st.n);refine ⟨upI (upC v st.n c) (st.n+1) m,a1.trans (bg _ _ _ _ _ _) (dZ _),fun u hu=>?_⟩;obtain ⟨b1,b2,_⟩:=bQ hu;obtain ⟨b3,_,b4,_⟩:=bQ b1;have su:=s.all u b3;refine ⟨su,b4,su.wk (st.n+2) _ (fun f hf=>?_)⟩;simp only [gG,aS,bz,br] at hf;have hz:=su.z;have hnu:=hn u su;rcases hf with rfl | rfl | rfl | rfl | rfl
 ·simp only [FOK,b4]; exact hT u su
 ·exact ⟨m,by rw [b4]; exact hl,b2⟩
 ·simp only [FOK,b2]; simp only [Lin.ev] at hnu; omega
 ·simp only [FOK,b2]; simp only [Lin.ev] at hnu; omega
 ·simp only [FOK,b2,hz]; omega
theorem cu{w:V}(sw:Sat0 X w st env h){a b:Lin}(he:be st.fa a b=true):a.ev w=b.ev w:=aj sw.fa he
theorem qLC{w:V}{k:Nat}{R:List Ty}{cs:List CV}{m r:Nat}{ro:Bool}{cap:Option Nat}(hg:h.get r=some (.cells cs ro))(hrw:aQ w k R cs m)(hk:R.length=k)(hl:hO R=true)(d:Nat) :
  frz (d+2) (.slc k r 0 m cap) h=some (.lst (cP k m cs) false,h.put r (.cells cs true)):=by
 have hlen:=((ab w k R hk m cs).1 hrw).1;have hcut:cut? cs 0 (m*k)=some cs:=by
  unfold cut?;rw [aH (by omega)];simp only [kX,xI (show cs.length≤m*k by omega)]
 unfold frz; simp only [hg,hcut,qHQ hl hrw]
theorem qFO{w:V}(sw:Sat0 X w st env h){k off:Nat}{l cs:List AV}{m r:Nat}{ro:Bool}{cap:Option Nat}(hg:h.get r=some (.cells (aF w l) ro))(hcut:qu l off (m*k)=some cs)(hp:oR st.fa cs=true)(d:Nat) :
  frz (d+2) (.slc k r off m cap) h=some (.lst (cP k m (aF w cs)) false,h.put r (.cells (aF w l) true)):=by
 unfold frz; simp only [hg,mh hcut,n7 sw.fa hp]
theorem qHP{w:V}{k:Nat}{R:List Ty}{cs:List CV}{n:Lin}{m:Nat}(hn:n.ev w=m)(hrw:aQ w k R cs m):av w (.lst R n n) (.lst (cP k m cs) false):=by
 obtain ⟨h1,h2⟩:=rows_chunk hrw;exact .inr ⟨_,_,rfl,by omega,by omega,h2⟩
theorem yV(s:Sat X v st env h){a a':AV}{st':St}(hs:frA a st=some (a',st')){c:CV}(hc:∀w,Sat0 X w st env h→c=den w a)(d:Nat):ae X v st env [(a',st')] (frz (d+2) c h):=by
 have s0:=s.now;have cellsCase:∀(k b off m:Nat) (l cs:List AV) (ro:Bool) (cap:Option Nat),ai b st.bl=some (.blk b (.cells l) ro)→qu l off (m*k)=some cs→oR st.fa cs=true→(∀w,Sat0 X w st env h→c=.slc k (w.b b) off m cap) →
   ae X v st env [(.lrows (fP k m cs) false,{ st with bl:=dS b [.blk b (.cells l) true] st.bl })] (frz (d+2) c h):=by
  intro k b off m l cs ro cap hb hcut hp hcc;refine qC s hb (fun u=>rfl) (cs:=aF v l) (fun u su=>?_) (fun u su=>?_)
  ·obtain ⟨⟨cs1,hcs1,ho1⟩,_⟩:=su.blk hb;obtain ⟨⟨cs0,hcs0,ho0⟩,_⟩:=s0.blk hb;simp only [cR] at ho1 ho0; subst ho1; subst ho0;have hbb:u.b b=v.b b:=by have h1:=hcc u su; rw [hcc v s0] at h1; simp only [CV.slc.injEq] at h1; exact h1.2.1.symm
   rw [hbb,hcs0] at hcs1;simp only [sI,Blk.cells.injEq,cZ] at hcs1;have:=qFO su (cap:=cap) (r:=u.b b) (by rw [hbb,hcs0,hcs1]) hcut hp d;rw [hcc u su,this,hcs1];simp only [den,qz]
  ·obtain ⟨⟨cs1,hcs1,ho1⟩,_⟩:=su.blk hb;obtain ⟨⟨cs0,hcs0,ho0⟩,_⟩:=s0.blk hb;simp only [cR] at ho1 ho0 ⊢; subst ho1; subst ho0;have hbb:u.b b=v.b b:=by have h1:=hcc u su; rw [hcc v s0] at h1; simp only [CV.slc.injEq] at h1; exact h1.2.1.symm
   rw [hbb,hcs0] at hcs1;simp only [sI,Blk.cells.injEq,cZ] at hcs1; exact hcs1
 have rowsCase:∀(k b:Nat) (R:List Ty) (n:Lin) (p q:BE) (ro:Bool) (cap:V→Option Nat),ai b st.bl=some p→hO R=true →
   (∀w,Sat0 X w st env h→adr w p=[w.b b]∧adr w q=[w.b b]∧0≤n.ev w∧c=.slc k (w.b b) 0 (n.ev w).toNat (cap w)∧∃cs,h.get (w.b b)=some (.cells cs ro)∧0 < k∧R.length=k∧aQ w k R cs (n.ev w).toNat) →
   (∀(w:V) (h':H) (cs:List CV),h'.get (w.b b)=some (.cells cs true)→cR w cs (.rows k R n)→BOK w h' q) →
   ae X v st env [((gG st R n).1,{ st with n:=st.n+2,fa:=(gG st R n).2++st.fa,bl:=dS b [q] st.bl })] (frz (d+2) c h):=by
  intro k b R n p q ro cap hb hlf hall hq;obtain ⟨_,_,hn0,hcv,cs,hcs,hk,hRk,hrows⟩:=hall v s0;have hsame:∀w,Sat0 X w st env h→w.b b=v.b b∧n.ev w=n.ev v∧aQ w k R cs (n.ev v).toNat:=fun w sw=>by
   obtain ⟨_,_,hn1,hcw,cs1,hcs1,_,_,hrows1⟩:=hall w sw;rw [hcv] at hcw;simp only [CV.slc.injEq,cQ] at hcw;obtain ⟨e1,e2,_⟩:=hcw;rw [←e1,hcs] at hcs1;simp only [sI,Blk.cells.injEq,cZ] at hcs1; subst hcs1;exact ⟨e1.symm,by omega,by rw [e2]; exact hrows1⟩
  obtain ⟨w,hw,hallu⟩:=sU s (R:=R) (n:=n) (c:=.lst (cP k (n.ev v).toNat cs) false) (m:=(n.ev v).toNat) (fun w sw=>by rw [(hsame w sw).2.1]; omega) (by simp only [cV,(rows_chunk hrows).1]) (fun w sw=>qHP (by rw [(hsame w sw).2.1]; omega) (hsame w sw).2.2);refine ae.mk' (w:=w) (c:=.lst (cP k (n.ev v).toNat cs) false) (h':=h.put (v.b b) (.cells cs true)) mS hw (by simp) rfl s.pos (by rw [hcv,qLC hcs hrows hRk hlf]) (fun u hu=>?_);obtain ⟨su,huc,su'⟩:=hallu u hu;refine ⟨?_,by simp only [gG,den,huc]⟩;have e:=hsame u su;have:=su'.put hb (q:=q) (blk:=.cells cs true) (hall u su).1 (hall u su).2.1 (hq u _ cs (by rw [get_put,aH rfl]) ⟨hk,hRk,by rw [e.2.1]; exact hn0,by rw [e.2.1]; exact e.2.2⟩);rw [e.1] at this;exact this
 unfold frA at hs;split at hs
 ·rename_i l;split at hs
  ·rename_i hp;simp only [sI,pI] at hs;obtain ⟨rfl,rfl⟩:=hs;refine aJ s fun w sw=>?_
   rw [hc w sw]; simp only [den]; unfold frz; simp only [n7 sw.fa hp]
  ·cases hs
 ·rename_i k b off i len cap;split at hs<;>(try (cases hs; done))
  ·rename_i b' l ro hb;have hkey:=(s0.blk hb).2;simp only [dF] at hkey; subst hkey;split at hs
   ·rename_i hg;obtain ⟨g1,g2,g3⟩:=hg;split at hs
    ·rename_i cs hcut;split at hs
     ·rename_i hp;simp only [sI,pI] at hs;obtain ⟨rfl,rfl⟩:=hs;refine cellsCase k b' (off+i.c.toNat*k) len.c.toNat l cs ro (some (cap.ev v).toNat) hb hcut hp (fun w sw=>?_);have h1:=hc w sw;rw [hc v s0] at h1;have h2:=h1;simp only [den,CV.slc.injEq,cQ] at h1;rw [hc w sw];simp only [den,h1.2.2.2];have e1:i.ev w=i.c:=by simp only [Lin.ev,g1,sw.z]; omega
      have e2:len.ev w=len.c:=by simp only [Lin.ev,g2,sw.z]; omega
      rw [e1,e2]
     ·cases hs
    ·cases hs
   ·cases hs
  ·rename_i b' k' R n ro hb;have hkey:=(s0.blk hb).2;simp only [dF] at hkey; subst hkey;split at hs
   ·rename_i hg;obtain ⟨rfl,rfl,g1,g2,g3,g4⟩:=hg;simp only [sI,pI] at hs;obtain ⟨rfl,rfl⟩:=hs;refine rowsCase k' b' R n _ (.blk b' (.rows k' R n) true) ro (fun w=>some (cap.ev w).toNat) hb g4 (fun w sw=>?_) (fun w h' cs h1 h2=>⟨cs,h1,h2⟩);obtain ⟨cs,hcs,hk,hRk,hn,hrows⟩:=(sw.blk hb).1;refine ⟨rfl,rfl,hn,?_,cs,hcs,hk,hRk,hrows⟩;have e1:i.ev w=0:=by simp only [Lin.ev,g1,g2,sw.z]; omega
    rw [hc w sw];simp only [den,e1,cu sw g3,gN,d9,d8]
   ·cases hs
 ·rename_i k b len;split at hs<;>(try (cases hs; done))
  ·rename_i b' l ro hb;have hkey:=(s0.blk hb).2;simp only [dF] at hkey; subst hkey;split at hs
   ·rename_i hg;obtain ⟨g2,g3⟩:=hg;split at hs
    ·rename_i cs hcut;split at hs
     ·rename_i hp;simp only [sI,pI] at hs;obtain ⟨rfl,rfl⟩:=hs;refine cellsCase k b' 0 len.c.toNat l cs ro none hb hcut hp (fun w sw=>?_);have e2:len.ev w=len.c:=by simp only [Lin.ev,g2,sw.z]; omega
      rw [hc w sw];simp only [den];rw [aC (by omega),e2]
     ·cases hs
    ·cases hs
   ·cases hs
  ·rename_i b' k' R n ro hb;have hkey:=(s0.blk hb).2;simp only [dF] at hkey; subst hkey;split at hs
   ·rename_i hg;obtain ⟨rfl,g3,g4,g5⟩:=hg;simp only [sI,pI] at hs;obtain ⟨rfl,rfl⟩:=hs;refine rowsCase k' b' R n _ (.blk b' (.rows k' R n) true) ro (fun w=>none) hb g4 (fun w sw=>?_) (fun w h' cs h1 h2=>⟨cs,h1,h2⟩);obtain ⟨cs,hcs,hk,hRk,hn,hrows⟩:=(sw.blk hb).1;refine ⟨rfl,rfl,hn,?_,cs,hcs,hk,hRk,hrows⟩;have g5:=aE sw.fa g5;have:len.ev w≠0:=by simp only [Lin.ev,sw.z] at g5 ⊢; omega
    rw [hc w sw];rw [cu sw g3] at this;simp only [den,cu sw g3,aC this]
   ·cases hs
  ·rename_i b' k' R n ro hb;have hkey:=(s0.blk hb).2;simp only [dF] at hkey; subst hkey;split at hs
   ·rename_i hg;obtain ⟨rfl,g3,g4⟩:=hg;simp only [sI,pI] at hs;obtain ⟨rfl,rfl⟩:=hs;by_cases h0:n.ev v=0
    ·
     have hcv:c=.nils:=by
      rw [hc v s0]; simp only [den]; rw [aH (by rw [cu s0 g3]; exact h0)]
     have hz:∀w,Sat0 X w st env h→n.ev w=0:=fun w sw=>by
      have h1:=hc w sw;rw [hcv] at h1;simp only [den] at h1;split at h1
      ·rename_i hh; rw [cu sw g3] at hh; exact hh
      ·cases h1
     obtain ⟨w,hw,hallu⟩:=sU s (R:=R) (n:=n) (c:=.nils) (m:=0) (fun w sw=>by rw [hz w sw]; rfl) rfl (fun w sw=>.inl ⟨rfl,by rw [hz w sw]; omega,by rw [hz w sw]; omega⟩);refine ae.mk' (w:=w) (c:=.nils) (h':=h) mS hw (by simp) rfl s.pos (by rw [hcv]; rfl) (fun u hu=>?_);obtain ⟨su,huc,su'⟩:=hallu u hu;refine ⟨?_,by simp only [gG,den,huc]⟩;obtain ⟨_,l1,l2,hbl,hm⟩:=dx hb;have hnu:=hz u su;have:=su'.upd (l1:=l1) (P:=[.vec b' k' R n ro]) (P':=[.vec b' k' R n true]) (l2:=l2) (h':=h) hbl (aV _) (fun j _ _=>rfl) (fun q hq=>by
      simp only [cM] at hq; subst hq; exact .inl hnu) (by simp [adr,hnu]) (fun a ha=>by simp [adr,hnu] at ha)
     rw [←hm] at this;exact this
    ·have hnz:∀w,Sat0 X w st env h→n.ev w≠0:=fun w sw he=>by
      have h1:=hc w sw;rw [hc v s0] at h1;simp only [den] at h1;rw [aC (by rw [cu s0 g3]; exact h0),aH (by rw [cu sw g3]; exact he)] at h1;cases h1
     refine rowsCase k' b' R n _ (.vec b' k' R n true) ro (fun w=>none) hb g4 (fun w sw=>?_) (fun w h' cs h1 h2=>.inr ⟨cs,h1,h2⟩);have hn0:=hnz w sw;rcases (sw.blk hb).1 with h1 | ⟨cs,hcs,hk,hRk,hn,hrows⟩
     ·exact absurd h1 hn0
     ·refine ⟨by simp only [adr,aC hn0],by simp only [adr,aC hn0],hn,?_,cs,hcs,hk,hRk,hrows⟩;rw [hc w sw];simp only [den,cu sw g3,aC hn0]
   ·cases hs
 ·split at hs
  ·rename_i hp;simp only [sI,pI] at hs;obtain ⟨rfl,rfl⟩:=hs;exact aJ s fun w sw=>by rw [hc w sw,pz sw.fa hp]
  ·cases hs
end
end
end Ce.S
namespace Ce.S
noncomputable section
open Go
section
variable {X:Cx} {v:V} {st:St} {env:List CV} {h:H}
def mW(st:St)(k:Nat)(x:AV):Option (Nat × List AV) :=
 match x with
 | .slc _ b off i len _=>match ai b st.bl with
  | some (.blk _ (.cells l) _)=>if i.s=0∧i.c=0∧len.s=0∧0 < len.c then (match qu l off (len.c.toNat*k) with
   | some cs=>if vd st.fa cs then some (len.c.toNat,cs) else none
   | none=>none) else none
  | _=>none
 | _=>none
theorem kB{w:V}(sw:Sat0 X w st env h){k m:Nat}{x:AV}{cs:List AV}(hn:mW st k x=some (m,cs)):0 < m∧cs.length=m*k∧lenOf (den w x)=some m∧cellsOf k m h (den w x)=some (aF w cs)∧aM (aF w cs)=true:=by
 unfold mW at hn;split at hn<;>(try (cases hn; done));rename_i k1 b off i len cap;split at hn<;>(try (cases hn; done));rename_i b' l ro hb;split at hn
 ·rename_i hg;obtain ⟨g1,g2,g3,g4⟩:=hg;split at hn
  ·rename_i cs' hcut;split at hn
   ·rename_i ho;simp only [sI,pI] at hn;obtain ⟨rfl,rfl⟩:=hn;obtain ⟨⟨cs1,hcs,ho1⟩,hk⟩:=sw.blk hb;simp only [dF] at hk; subst hk;simp only [cR] at ho1; subst ho1;have e1:i.ev w=0:=by simp only [Lin.ev,g1,g2,sw.z]; omega
    have e2:len.ev w=len.c:=by simp only [Lin.ev,g3,sw.z]; omega
    refine ⟨by omega,?_,by simp only [den,lenOf,e2],?_,mT sw.fa ho⟩
    ·have:=hcut;unfold qu at this;split at this
     ·simp only [sI] at this; subst this;simp only [eh,fX]; omega
     ·cases this
    ·simp only [den,cellsOf,e1,e2,gN,d9,d8,aV,ac,hcs,mh hcut]
   ·cases hn
  ·cases hn
 ·cases hn
def Lin.add(l:Lin)(n:Int):Lin:=⟨l.s,l.c+n⟩
theorem Lin.add_ev(w:V)(l:Lin)(n:Int):(l.add n).ev w=l.ev w+n:=by simp only [Lin.add,Lin.ev]; omega
theorem gX{w:V}{fa:List Fact}(z:w.i 0=0)(hf:∀f,f∈fa→FOK w f){k:Nat}{R:List Ty}:∀{m:Nat} {cs:List AV},cs.length=m*k→oj fa R (fP k m cs)=true→aQ w k R (aF w cs) m
 | 0,cs,hl,_=>by
  have:cs=[]:=List.length_eq_zero_iff.1 (by omega);subst this; rfl
 | m+1,cs,hl,ht=>by
  simp only [fP,oj,aT] at ht;rw [dL] at hl;refine ⟨by rw [aq]; omega,?_,?_⟩
  ·rw [←oF]; exact fm z hf _ _ ht.1
  ·rw [←jK]; exact gX z hf (by simp only [fX]; omega) ht.2
theorem jg{w:V}{k:Nat}{R:List Ty}:∀{n m:Nat} {a b:List CV},aQ w k R a n→aQ w k R b m→aQ w k R (a++b) (n+m)
 | 0,m,a,b,ha,hb=>by simp only [aQ] at ha; subst ha; simpa using hb
 | n+1,m,a,b,ha,hb=>by
  simp only [aQ] at ha;rw [show n+1+m=(n+m)+1 by omega];simp only [aQ];refine ⟨by simp only [jP]; omega,?_,?_⟩
  ·rw [List.take_append_of_le_length ha.1]; exact ha.2.1
  ·rw [List.drop_append_of_le_length ha.1]; exact jg ha.2.2 hb
def sApp(st:St)(k bytes:Nat)(s x:AV):Option (List (AV × St)) :=
 match mW st k x with
 | none=>none
 | some (m,new)=>match s with
  | .nils=>if m*(bytes+1)≤2 ^ 40 then some [(.vec k st.n ⟨0,m⟩,{ st with n:=st.n+1,bl:=.blk st.n (.cells new) false::st.bl })] else none
  | .vec k' b len=>match hiC st.fa len with
   | none=>none
   | some hi=>if k'=k∧leL st.fa ⟨0,0⟩ len 0=true∧(hi.toNat+m)*(bytes+1)≤2 ^ 40 then
     match ai b st.bl with
     | some (.blk _ (.cells l) false)=>if len.s=0∧0 < len.c∧len.c.toNat*k=l.length then
       some [(.vec k st.n (len.add m),{ st with n:=st.n+1,bl:=dS b [.blk st.n (.cells (l++new)) false] st.bl })] else none
     | some (.blk _ (.rows k2 R n) false)=>if k2=k∧be st.fa len n=true∧leL st.fa ⟨0,1⟩ len 0=true∧oj st.fa R (fP k m new)=true then
       some [(.vec k st.n (len.add m),{ st with n:=st.n+1,bl:=dS b [.blk st.n (.rows k R (len.add m)) false] st.bl })] else none
     | some (.vec _ k2 R n false)=>if k2=k∧be st.fa len n=true∧oj st.fa R (fP k m new)=true∧R.length=k∧0 < k then
       some [(.vec k st.n (len.add m),{ st with n:=st.n+1,bl:=dS b [.blk st.n (.rows k R (len.add m)) false] st.bl })] else none
     | _=>none
    else none
  | _=>none
theorem mw(s:Sat X v st env h){b k m:Nat}{p:BE}{ct:Ct}{cs:List CV}{len:Lin}{r:Option (CV × H)}(hb:ai b st.bl=some p)(dead:Bool)
  (hp:∀w,Sat0 X w st env h→adr w p=if dead then [w.b b] else []) (hlen:∀w,Sat0 X w st env h→len.ev w=(m:Int)) (hm:0 < m) (hct:∀w,Sat0 X w st env h→cR w cs ct)
  (hr:∀w,Sat0 X w st env h→r=some (.slc k h.n 0 m none,(if dead then h.put (w.b b) .dead else h).push (.cells cs false))) :
  ae X v st env [(.vec k st.n len,{ st with n:=st.n+1,bl:=dS b [.blk st.n ct false] st.bl })] r:=by
 have s0:=s.now;obtain ⟨_,l1,l2,hbl,hmod⟩:=dx hb;have same:∀w,Sat0 X w st env h→(if dead then h.put (w.b b) .dead else h)=(if dead then h.put (v.b b) .dead else h):=fun w sw=>by
  have h1:=hr w sw;rw [hr v s0] at h1;simp only [sI,pI,cQ] at h1;cases dead with
  | false=>rfl
  | true =>
   simp only [ac] at h1 ⊢;have hlt:v.b b < h.n:=(s0.lt p (lookB_mem hb).1 (v.b b) (by rw [hp v s0]; simp)).1;have hltw:w.b b < h.n:=(sw.lt p (lookB_mem hb).1 (w.b b) (by rw [hp w sw]; simp)).1;have hg:∀j,(( h.put (v.b b) .dead).push (.cells cs false)).get j=((h.put (w.b b) .dead).push (.cells cs false)).get j:=fun j=>by rw [h1]
   have:h.put (w.b b) .dead=h.put (v.b b) .dead:=by
    simp only [H.put,H.mk.injEq,cQ]
    funext j
    have:=hg j;by_cases hj:j=h.n
    ·subst hj;rw [aC (by omega),aC (by omega)]
    ·rw [eM,eM,aC (show ¬j=(h.put (v.b b) .dead).n from hj),aC (show ¬j=(h.put (w.b b) .dead).n from hj)] at this;exact this.symm
   exact this
 refine ae.mk' (w:=upB v st.n h.n) (c:=.slc k h.n 0 m none) (h':=(if dead then h.put (v.b b) .dead else h).push (.cells cs false)) mS (bg _ _ _ _ _ _) (dZ _) rfl s.pos (hr v s0) (fun u hu=>?_);obtain ⟨ha,_,_,hbu,_⟩:=bQ hu;have su:=s.all u ha;have hl:=hlen u su;refine ⟨?_,by simp only [den]; rw [aC (by omega),hl,hbu]; simp only [fS]⟩;rw [←same u su];have hn:(if dead=true then h.put (u.b b) Blk.dead else h).n=h.n:=by cases dead<;>rfl
 have:=(su.wk' (st.n+1)).upd (l1:=l1) (P:=[p]) (P':=[.blk st.n ct false]) (l2:=l2) (h':=(if dead then h.put (u.b b) .dead else h).push (.cells cs false)) hbl (by rw [lT,hn]; omega) (fun j hj hjp=>by
   rw [eM,hn,aC (by omega)];cases dead with
   | false=>rfl
   | true =>
    simp only [ac];rw [get_put,aC];rintro rfl;exact hjp (by simp [hp u su])) (fun q hq=>by
   simp only [cM] at hq; subst hq;exact ⟨cs,by rw [eM,hn,hbu,aH rfl],hct u su⟩) (by simp [adr]) (fun a ha'=>by
   simp only [i9,og,fR,adr,cM] at ha';rw [lT,hn]; right; omega)
 rw [hmod];exact this
theorem qPR(s:Sat X v st env h){k bytes:Nat}{a x:AV}{outs:List (AV × St)}(hs:sApp st k bytes a x=some outs){ca cx:CV}{r:Option (CV × H)}(hr:r=appV k bytes ca cx h)(ha:∀w,Sat0 X w st env h→ca=den w a)(hx:∀w,Sat0 X w st env h→cx=den w x):ae X v st env outs r:=by
 have s0:=s.now;unfold sApp at hs;split at hs
 ·cases hs
 ·rename_i m new hnew;have nw:∀w,Sat0 X w st env h→0 < m∧new.length=m*k∧lenOf cx=some m∧cellsOf k m h cx=some (aF v new)∧aM (aF v new)=true∧aF w new=aF v new:=fun w sw=>by
   obtain ⟨p1,p2,p3,p4,p5⟩:=kB sw hnew;obtain ⟨q1,q2,q3,q4,q5⟩:=kB s0 hnew;rw [←hx w sw] at p3 p4;rw [←hx v s0] at q3 q4;rw [p4,sI] at q4;exact ⟨p1,p2,p3,by rw [p4,q4],by rw [←q4]; exact p5,q4⟩
  obtain ⟨hm,hnl,hlx,hcx,hone,_⟩:=nw v s0;split at hs<;>(try (cases hs; done))
  ·split at hs
   ·rename_i hsz;simp only [sI] at hs; subst hs;refine f8 s (cs:=aF v new) (fun u hb su=>?_) (fun u su=>(nw u su).2.2.2.2.2.symm);rw [hr,ha v s0];simp only [den,appV,show lenOf CV.nils=some 0 from rfl,hlx,dg];simp only [aC (show ¬m=0 by omega),aC (show ¬m*(bytes+1)>2 ^ 46 by omega),hcx,hone,nI,bX];have:(⟨0,m⟩:Lin).ev u=m:=by simp only [Lin.ev,su.z]; omega
    rw [aC (by omega),this,hb]; simp only [fS]
   ·cases hs
  ·rename_i k' b len;split at hs
   ·cases hs
   ·rename_i hi hhi;split at hs
    ·rename_i hg;obtain ⟨rfl,g1,g2⟩:=hg;have lens:∀w,Sat0 X w st env h→0≤len.ev w∧len.ev w≤hi∧lenOf ca=some (len.ev w).toNat∧len.ev w=len.ev v:=fun w sw=>by
      have q1:=aE sw.fa g1;have q2:=eF sw.z sw.fa hhi;have q0:0≤len.ev w:=by simp only [Lin.ev,sw.z] at q1 ⊢; omega
      have lo:∀w,0≤len.ev w→lenOf (den w (.vec k' b len))=some (len.ev w).toNat:=fun w q0=>by
       simp only [den];split
       ·rename_i h0; rw [h0]; rfl
       ·rfl
      have e1:=lo w q0;rw [←ha w sw] at e1;have q1v:=aE s0.fa g1;have q0v:0≤len.ev v:=by simp only [Lin.ev,s0.z] at q1v ⊢; omega
      have e2:=lo v q0v;rw [←ha v s0,e1,sI] at e2;exact ⟨q0,q2,e1,by omega⟩
     obtain ⟨l0,l1',l2',_⟩:=lens v s0;have hsz:((len.ev v).toNat+m)*(bytes+1)≤2 ^ 40:=cz (dA _ (by omega)) g2;have hlen2:∀w,Sat0 X w st env h→(len.add m).ev w=(((len.ev v).toNat+m:Nat):Int):=fun w sw=>by
      rw [Lin.add_ev,(lens w sw).2.2.2]; omega
     split at hs<;>(try (cases hs; done))
     ·rename_i b' l hb;have hkey:=(s0.blk hb).2;simp only [dF] at hkey; subst hkey;split at hs
      ·rename_i hg;obtain ⟨g3,g4,g5⟩:=hg;simp only [sI] at hs; subst hs;have hlc:len.ev v=len.c:=by simp only [Lin.ev,g3,s0.z]; omega
       have same:∀w,Sat0 X w st env h→w.b b'=v.b b'∧aF w l=aF v l:=fun w sw=>by
        have h1:=ha w sw;rw [ha v s0] at h1;simp only [den] at h1;rw [aC (by omega),aC (by rw [(lens w sw).2.2.2]; omega)] at h1;simp only [CV.slc.injEq,cQ] at h1;obtain ⟨⟨cs1,hcs1,ho1⟩,_⟩:=sw.blk hb;obtain ⟨⟨cs0,hcs0,ho0⟩,_⟩:=s0.blk hb;simp only [cR] at ho1 ho0;rw [←h1.1,hcs0] at hcs1;simp only [sI,Blk.cells.injEq,cZ] at hcs1;exact ⟨h1.1.symm,by rw [←ho1,←ho0,hcs1]⟩
       refine mw s (m:=(len.ev v).toNat+m) (cs:=aF v l++aF v new) hb true (fun w sw=>rfl) hlen2 (by omega) (fun w sw=>?_) (fun w sw=>?_)
       ·simp only [cR,cX,(same w sw).2,(nw w sw).2.2.2.2.2]
       ·obtain ⟨⟨cs0,hcs0,ho0⟩,_⟩:=s0.blk hb;simp only [cR] at ho0; subst ho0;rw [hr];have hca:ca=.slc k' (v.b b') 0 (len.ev v).toNat none:=by rw [ha v s0]; simp only [den]; rw [aC (by omega)]
        rw [(same w sw).1];simp only [appV,l2',hlx,aC (show ¬m=0 by omega),aC (show ¬((len.ev v).toNat+m)*(bytes+1)>2 ^ 46 by omega),hcx,hone,nI,bX];rw [hca];simp only [dY,jk,bX,hcs0,ac,aq];rw [aH (by simp only [aT,dT]; exact ⟨trivial,by rw [hlc]; exact g5⟩)]
      ·cases hs
     ·rename_i b' k2 R n hb;have hkey:=(s0.blk hb).2;simp only [dF] at hkey; subst hkey;split at hs
      ·rename_i hg;obtain ⟨rfl,g3,g4,g5⟩:=hg;simp only [sI] at hs; subst hs;have pos1:∀w,Sat0 X w st env h→0 < len.ev w:=fun w sw=>by
        have:=aE sw.fa g4; simp only [Lin.ev,sw.z] at this ⊢; omega
       obtain ⟨cs0,hcs0,hk0,hRk0,hn0,hrows0⟩:=(s0.blk hb).1;have hca:∀w,Sat0 X w st env h→ca=.slc k2 (w.b b') 0 (len.ev w).toNat none:=fun w sw=>by
        have:=pos1 w sw;rw [ha w sw]; simp only [den]; rw [aC (by omega)]
       have same:∀w,Sat0 X w st env h→w.b b'=v.b b'∧aQ w k2 R cs0 (len.ev v).toNat:=fun w sw=>by
        have h1:=hca w sw;rw [hca v s0] at h1;simp only [CV.slc.injEq,cQ] at h1;obtain ⟨⟨cs1,hcs1,_,_,_,hrows1⟩,_⟩:=sw.blk hb;rw [←h1.1,hcs0] at hcs1;simp only [sI,Blk.cells.injEq,cZ] at hcs1; subst hcs1;rw [←cu sw g3,(lens w sw).2.2.2] at hrows1;exact ⟨h1.1.symm,hrows1⟩
       refine mw s (m:=(len.ev v).toNat+m) (cs:=cs0++aF v new) hb true (fun w sw=>rfl) hlen2 (by omega) (fun w sw=>?_) (fun w sw=>?_)
       ·refine ⟨hk0,hRk0,by rw [hlen2 w sw]; omega,?_⟩;rw [hlen2 w sw,fS];refine jg (same w sw).2 ?_;rw [←(nw w sw).2.2.2.2.2];exact gX sw.z sw.fa hnl g5
       ·rw [hr,(same w sw).1];have hlen0:=((ab v k2 R hRk0 _ _).1 hrows0).1;rw [←cu s0 g3] at hlen0;simp only [appV,l2',hlx,aC (show ¬m=0 by omega),aC (show ¬((len.ev v).toNat+m)*(bytes+1)>2 ^ 46 by omega),hcx,hone,nI,bX];rw [hca v s0];simp only [dY,jk,bX,hcs0,ac];rw [aH (by simp only [aT,dT]; exact ⟨trivial,hlen0.symm⟩)]
      ·cases hs
     ·rename_i b' k2 R n hb;have hkey:=(s0.blk hb).2;simp only [dF] at hkey; subst hkey;split at hs
      ·rename_i hg;obtain ⟨rfl,g3,g5,hRk0,hk0⟩:=hg;simp only [sI] at hs; subst hs;by_cases h0:len.ev v=0
       ·have hca:ca=.nils:=by rw [ha v s0]; simp only [den]; rw [aH h0]
        refine mw s (m:=m) (cs:=aF v new) hb false (fun w sw=>?_) (fun w sw=>by rw [hlen2 w sw,h0]; omega) hm (fun w sw=>?_) (fun w sw=>?_)
        ·have:=(lens w sw).2.2.2;rw [cu sw g3] at this;rw [cu s0 g3] at h0 this;simp only [adr]; rw [aH (by omega)]; rfl
        ·refine ⟨hk0,hRk0,by rw [hlen2 w sw]; omega,?_⟩;rw [hlen2 w sw,h0];rw [←(nw w sw).2.2.2.2.2];have:=gX sw.z sw.fa hnl g5
         simpa using this
        ·rw [hr,hca];simp only [appV,show lenOf CV.nils=some 0 from rfl,hlx,dg];rw [h0] at hsz;simp only [gN,dg] at hsz;simp only [aC (show ¬m=0 by omega),aC (show ¬m*(bytes+1)>2 ^ 46 by omega),hcx,hone,nI,bX];rfl
       ·have nz:∀w,Sat0 X w st env h→len.ev w≠0:=fun w sw=>by rw [(lens w sw).2.2.2]; exact h0
        have nzn:∀w,Sat0 X w st env h→n.ev w≠0:=fun w sw=>by rw [←cu sw g3]; exact nz w sw
        have bk:∀w,Sat0 X w st env h→∃cs,h.get (w.b b')=some (.cells cs false)∧cR w cs (.rows k2 R n):=fun w sw=>by
         rcases (sw.blk hb).1 with h1 | h1
         ·exact absurd h1 (nzn w sw)
         ·exact h1
        obtain ⟨cs0,hcs0,_,_,hn0,hrows0⟩:=bk v s0;have hca:∀w,Sat0 X w st env h→ca=.slc k2 (w.b b') 0 (len.ev w).toNat none:=fun w sw=>by
         rw [ha w sw]; simp only [den]; rw [aC (nz w sw)]
        have same:∀w,Sat0 X w st env h→w.b b'=v.b b'∧aQ w k2 R cs0 (len.ev v).toNat:=fun w sw=>by
         have h1:=hca w sw;rw [hca v s0] at h1;simp only [CV.slc.injEq,cQ] at h1;obtain ⟨cs1,hcs1,_,_,_,hrows1⟩:=bk w sw;rw [←h1.1,hcs0] at hcs1;simp only [sI,Blk.cells.injEq,cZ] at hcs1; subst hcs1;rw [←cu sw g3,(lens w sw).2.2.2] at hrows1;exact ⟨h1.1.symm,hrows1⟩
        refine mw s (m:=(len.ev v).toNat+m) (cs:=cs0++aF v new) hb true (fun w sw=>by simp only [adr]; rw [aC (nzn w sw)]; rfl) hlen2 (by omega) (fun w sw=>?_) (fun w sw=>?_)
        ·refine ⟨hk0,hRk0,by rw [hlen2 w sw]; omega,?_⟩;rw [hlen2 w sw,fS];refine jg (same w sw).2 ?_;rw [←(nw w sw).2.2.2.2.2];exact gX sw.z sw.fa hnl g5
        ·rw [hr,(same w sw).1];have hlen0:=((ab v k2 R hRk0 _ _).1 hrows0).1;rw [←cu s0 g3] at hlen0;simp only [appV,l2',hlx,aC (show ¬m=0 by omega),aC (show ¬((len.ev v).toNat+m)*(bytes+1)>2 ^ 46 by omega),hcx,hone,nI,bX];rw [hca v s0];simp only [dY,jk,bX,hcs0,ac];rw [aH (by simp only [aT,dT]; exact ⟨trivial,hlen0.symm⟩)]
      ·cases hs
    ·cases hs
end
end
end Ce.S
namespace Ce.S
noncomputable section
open Go
section
variable {X:Cx} {v:V} {st:St} {env:List CV} {h:H}
theorem nj{ag:Bool}{ks:List LK}{key:CV}(hk:ji ag ks key):∀{es:List (CV × CV × Nat)},(∀e,e∈es→ji ag ks e.1)→∃r,bp es key=some r∧∀v b,r=some (v,b)→∃e,e∈es∧e.2.1=v
 | [],_=>⟨none,rfl,fun v b hr=>by cases hr⟩
 | (k',v',b')::es,he=>by
  obtain ⟨t,ht⟩:=nr hk (he _ mS);cases t with
  | true=>exact ⟨some (v',b'),by simp only [bp,ht],fun v b hr=>by simp only [sI,pI] at hr; exact ⟨_,mS,hr.1⟩⟩
  | false =>
   obtain ⟨r,hr,hm⟩:=nj hk (es:=es) (fun e hm=>he e (mC _ hm));exact ⟨r,by simp only [bp,ht,hr],fun v b hv=>by
    obtain ⟨e,h1,h2⟩:=hm v b hv;exact ⟨e,mC _ h1,h2⟩⟩
theorem vE{key v:CV}:∀{es:List (CV × CV × Nat)} {e:CV × CV × Nat},e∈ra es key v→∃e',e'∈es∧e.1=e'.1∧(e.2.1=e'.2.1∨e.2.1=v)
 | [],e,h=>by cases h
 | (k',v',b')::es,e,h=>by
  simp only [ra] at h;split at h
  ·rcases aS.1 h with rfl | h
   ·exact ⟨_,mS,rfl,.inr rfl⟩
   ·exact ⟨e,mC _ h,rfl,.inl rfl⟩
  ·rcases aS.1 h with rfl | h
   ·exact ⟨_,mS,rfl,.inl rfl⟩
   ·obtain ⟨e',h1,h2,h3⟩:=vE h;exact ⟨e',mC _ h1,h2,h3⟩
def qAJ(ok:Bool)(z:CV):Option (CV × Nat)→CV
 | some (v,_)=>if ok then .tup [v,.bool true] else v
 | none=>if ok then .tup [z,.bool false] else z
def lkZ(ok:Bool)(zA:AV):AV:=if ok then .tup [zA,.bool false] else zA
def sLku(st:St)(ag:Bool)(ls:List Lf)(z:CV)(a i:AV)(ok:Bool):Option (List (AV × St)) :=
 match qX st.fa i,gy z,a with
 | some (ag',ks),some zA,.map b=>if ag'=ag∧ks.map LK.lf=ls then
   match ai b st.bl with
   | some (.emap _)=>some [(if ok then .tup [zA,.bool false] else zA,st)]
   | some (.map _ ag2 ks2 T _)=>if ag2=ag∧ks2=ks then
     let f:=frT st.n T
     let r1:AV:=if ok then .tup [f.1,.bool true] else f.1
     let r2:AV:=if ok then .tup [zA,.bool false] else zA
     some [(r1,{ st with n:=f.2.2,fa:=f.2.1++st.fa,bl:=dS b [.map b ag ks T (some (i,z,ok,r1))] st.bl }),(r2,{ st with bl:=dS b [.map b ag ks T (some (i,z,ok,r2))] st.bl })]
    else none
   | _=>none
  else none
 | _,_,_=>none
theorem nc{b:Nat}{p:BE}{l:List BE}(h:ai b l=some p):dS b [p] l=l:=by
 obtain ⟨_,l1,l2,he,hq⟩:=dx h;rw [hq]; exact he.symm
theorem Sat0.say{w:V}(sw:Sat0 X w st env h){b:Nat}{p q:BE}(hb:ai b st.bl=some p)(ha:adr w q=adr w p)(hq:BOK w h q):Sat0 X w { st with bl:=dS b [q] st.bl } env h:=by
 obtain ⟨_,l1,l2,he,hm⟩:=dx hb;rw [hm];have hnd:(adr w p).Nodup:=by
  have:=sw.nd;rw [he] at this;simp only [lN,i9,og,fR] at this;exact (cD.1 (cD.1 this).1).2.1
 exact sw.upd he (aV _) (fun j _ _=>rfl) (fun x hx=>by simp only [cM] at hx; subst hx; exact hq) (by simp only [i9,og,fR,ha]; exact hnd) (fun a hx=>by
  simp only [i9,og,fR,ha] at hx ⊢; exact .inl hx)
theorem qPC(s:Sat X v st env h){ag ok:Bool}{ls:List Lf}{z:CV}{a i:AV}{outs:List (AV × St)}(hs:sLku st ag ls z a i ok=some outs){ca ci:CV}{r:Option (CV × H)}(hr:r=match lkuV ag ls z ca ci ok h with
  | some v=>some (v,h)
  | none=>none)(ha:∀w,Sat0 X w st env h→ca=den w a)(hi:∀w,Sat0 X w st env h→ci=den w i):ae X v st env outs r:=by
 have s0:=s.now;unfold sLku at hs;split at hs<;>(try (cases hs; done));rename_i ag' ks zA b hk hz;split at hs
 ·rename_i hg;obtain ⟨rfl,rfl⟩:=hg;have key:ji ag' ks ci:=by rw [hi v s0]; exact i3 s0.fa hk
  have hkk:=gg key;have zden:∀w,Sat0 X w st env h→den w zA=z:=fun w sw=>mU sw.z z zA hz
  have hbb:∀w,Sat0 X w st env h→w.b b=v.b b:=fun w sw=>by
   have h1:=ha w sw; rw [ha v s0] at h1; simp only [den,CV.map.injEq] at h1; exact h1.symm
  split at hs<;>(try (cases hs; done))
  ·rename_i b' hb;have hkey:=(s0.blk hb).2;simp only [dF] at hkey; subst hkey;simp only [sI] at hs; subst hs;refine aJ s fun w sw=>?_
   obtain ⟨cl,hc⟩:=(sw.blk hb).1;rw [hr,ha w sw];simp only [den,lkuV,hkk,ac,hc,bp];cases ok<;>simp only [ac,bj,bX,den,aF,zden w sw]
  ·rename_i b' ag2 ks2 T m hb;have hkey:=(s0.blk hb).2;simp only [dF] at hkey; subst hkey;split at hs
   ·rename_i hg;obtain ⟨rfl,rfl⟩:=hg;simp only [sI] at hs;obtain ⟨es,cl,hc,hes,_⟩:=(s0.blk hb).1;obtain ⟨res,hres,hmem⟩:=nj key (fun e he=>(hes e he).1);have hlk:∀w,Sat0 X w st env h→lkuV ag2 (ks2.map LK.lf) z (.map (w.b b')) ci ok h=some (qAJ ok z res):=fun w sw=>by
     simp only [lkuV,hkk,ac,hbb w sw,hc,hres];cases res with
     | none=>rfl
     | some x=>rfl
    have hr2:r=some (qAJ ok z res,h):=by
     rw [hr,ha v s0]; simp only [den]; rw [hlk v s0]
    cases res with
    | none =>
     dsimp only [qAJ] at hlk hr2
     have den2:∀w,Sat0 X w st env h→den w (if ok then AV.tup [zA,.bool false] else zA)=if ok then CV.tup [z,.bool false] else z:=fun w sw=>by
      cases ok<;>simp only [ac,bj,bX,den,aF,zden w sw]
     subst hs;refine ae.mk' (w:=v) (c:=if ok then .tup [z,.bool false] else z) (h':=h) (mC _ mS) (Agr.refl _ _) (aV _) rfl s.pos hr2 (fun u hu=>?_);have su:=s.all u hu;obtain ⟨es',cl',hc',hes',_⟩:=(su.blk hb).1;refine ⟨su.say hb rfl ⟨es',cl',hc',hes',?_⟩,den2 u su⟩;simp only [kC,←hi u su,den2 u su];exact hlk u su
    | some x =>
     obtain ⟨xv,xb⟩:=x
     dsimp only [qAJ] at hlk hr2
     have hT:∀w,Agr st.n v w→av w T xv:=fun w hw=>by
      have sw:=s.all w hw;obtain ⟨es',cl',hc',hes',_⟩:=(sw.blk hb).1;rw [hbb w sw,hc] at hc';simp only [sI,Blk.map.injEq] at hc';obtain ⟨rfl,rfl⟩:=hc';obtain ⟨e,he,hev⟩:=hmem xv xb rfl;rw [←hev]; exact (hes' e he).2
     obtain ⟨hle,w,hw,hall⟩:=yU T st.n v xv hT;subst hs;refine ae.mk' (w:=w) (c:=if ok then .tup [xv,.bool true] else xv) (h':=h) mS hw hle rfl s.pos hr2 (fun u hu=>?_);obtain ⟨hd,hf⟩:=hall u hu;have su:=s.all u (hw.trans hu hle);have den1:den u (if ok then AV.tup [(frT st.n T).1,.bool true] else (frT st.n T).1)=if ok then CV.tup [xv,.bool true] else xv:=by
      cases ok<;>simp only [ac,bj,bX,den,aF,hd]
     obtain ⟨es',cl',hc',hes',_⟩:=(su.blk hb).1;refine ⟨(su.wk (frT st.n T).2.2 _ hf).say hb rfl ⟨es',cl',hc',hes',?_⟩,den1⟩;simp only [kC,←hi u su,den1];exact hlk u su
   ·cases hs
 ·cases hs
def tyOf(fa:List Fact):AV→Option Ty
 | .int k _ _=>some (eU k)
 | .bool _ | .cmp _ _ _ | .eqc _ _ _ _=>some .bool
 | .str _=>some .str
 | .sym s=>match kD s fa with
  | some (R,lo,hi)=>some (.lst R lo hi)
  | none=>if fL fa s (fun T=>sty fa T .bool) fa then some .bool else some .str
 | .agg l=>let rec go:List AV→Option (List Ty)
   | []=>some []
   | .int k _ _::l=>(go l).map (eU k::·)
   | .bool _::l=>(go l).map (.bool::·)
   | .cmp _ _ _::l=>(go l).map (.bool::·)
   | .eqc _ _ _ _::l=>(go l).map (.bool::·)
   | .str _::l=>(go l).map (.str::·)
   | _::_=>none
  (go l).map .agg
 | _=>none
def qH7(st:St)(ag:Bool)(ls:List Lf)(m k x:AV):Option (List (AV × St)) :=
 match qX st.fa k,m,frA x st with
 | some (ag',ks),.map b,some (x',st1)=>if ag'=ag∧ks.map LK.lf=ls then
   match ai b st1.bl with
   | some (.emap _)=>match tyOf st1.fa x' with
    | some T=>if tyA st1.fa T x' then some [(dE,{ st1 with bl:=dS b [.map b ag ks T none] st1.bl })] else none
    | none=>none
   | some (.map _ ag2 ks2 T _)=>if ag2=ag∧ks2=ks∧tyA st1.fa T x'=true then some [(dE,{ st1 with bl:=dS b [.map b ag ks T none] st1.bl })] else none
   | _=>none
  else none
 | _,_,_=>none
theorem qH6(s:Sat X v st env h){ag:Bool}{ls:List Lf}{m k x:AV}{outs:List (AV × St)}(hs:qH7 st ag ls m k x=some outs){cm ck cx:CV}{r:Option (CV × H)}(hr:r=if kOk ag ls ck then (match cm with
  | .map r=>match frz 20 cx h with
   | some (v,h)=>match h.get r with
    | some (.map es cl)=>match bp es ck with
     | some (some _)=>some (undef,h.put r (.map (ra es ck v) cl))
     | some none=>some (undef,h.put r (.map (es++[(ck,v,cl)]) (cl+1)))
     | none=>none
    | _=>none
   | none=>none
  | _=>none) else none)(hm:∀(w:V),w.i 0=0→env=aF w st.env→cm=den w m)(hk:∀(w:V),w.i 0=0→env=aF w st.env→ck=den w k)(hx:∀(w:V),w.i 0=0→env=aF w st.env→cx=den w x):ae X v st env outs r:=by
 have s0:=s.now;unfold qH7 at hs;split at hs<;>(try (cases hs; done));rename_i ag' ks b x' st1 hkA hfr;split at hs
 ·rename_i hg;obtain ⟨rfl,rfl⟩:=hg;have key:ji ag' ks ck:=by rw [hk v s0.z s0.env]; exact i3 s0.fa hkA
  have hkk:=gg key;obtain ⟨o,ho,w,hw,hn,he,c',h1,hfz,sw,hden⟩:=yV s hfr (c:=cx) (fun w sw=>hx w sw.z sw.env) 18;simp only [cM] at ho; subst ho
  dsimp only at hn he hden sw
  have hbb:∀u,Agr st1.n w u→cm=.map (u.b b):=fun u hu=>by
   have su:=sw.all u hu;rw [hm u su.z (by rw [su.env,he])]; rfl
  have fin:∀(p:BE) (T:Ty) (es:List (CV × CV × Nat)) (cl:Nat),ai b st1.bl=some p→(∀u,adr u p=[u.b b])→h1.get (w.b b)=some (.map es cl)→(∀u,Agr st1.n w u→∀e,e∈es→ji ag' ks e.1∧av u T e.2.1)→tyA st1.fa T x'=true →
    ae X v st env [(dE,{ st1 with bl:=dS b [.map b ag' ks T none] st1.bl })] r:=by
   intro p T es cl hb hp hget hes hty;obtain ⟨res,hres,_⟩:=nj key (fun e hm=>(hes w (Agr.refl _ _) e hm).1);have hxT:∀u,Agr st1.n w u→av u T c':=fun u hu=>by
    rw [←hden u hu]; exact gp (sw.all u hu).z (sw.all u hu).fa _ _ hty
   have go:∀(es':List (CV × CV × Nat)) (cl':Nat),r=some (undef,h1.put (w.b b) (.map es' cl'))→(∀u,Agr st1.n w u→∀e,e∈es'→ji ag' ks e.1∧av u T e.2.1)→ae X v st env [(dE,{ st1 with bl:=dS b [.map b ag' ks T none] st1.bl })] r:=by
    intro es' cl' hr' hes';refine ae.mk' (w:=w) (c:=undef) (h':=h1.put (w.b b) (.map es' cl')) mS hw hn he s.pos hr' (fun u hu=>⟨?_,rfl⟩);have su:=sw.all u hu;have e1:u.b b=w.b b:=by have h1:=hbb u hu; rw [hbb w (Agr.refl _ _)] at h1; simp only [CV.map.injEq] at h1; exact h1.symm
    have:=su.put hb (q:=.map b ag' ks T none) (blk:=.map es' cl') (hp u) rfl ⟨es',cl',by rw [get_put,aH rfl],hes' u hu,trivial⟩;rw [e1] at this;exact this
   have base:r=match res with
     | some _=>some (undef,h1.put (w.b b) (.map (ra es ck c') cl))
     | none=>some (undef,h1.put (w.b b) (.map (es++[(ck,c',cl)]) (cl+1))):=by
    rw [hr,hbb w (Agr.refl _ _)];simp only [hkk,ac,hfz,hget,hres];cases res<;>rfl
   cases res with
   | none =>
    refine go _ _ base (fun u hu e hm=>?_);rcases bP.1 hm with hm | hm
    ·exact hes u hu e hm
    ·simp only [cM] at hm; subst hm; exact ⟨key,hxT u hu⟩
   | some y =>
    refine go _ _ base (fun u hu e hm=>?_);obtain ⟨e',h2,h3,h4⟩:=vE hm;have:=hes u hu e' h2;refine ⟨by rw [h3]; exact this.1,?_⟩;rcases h4 with h4 | h4
    ·rw [h4]; exact this.2
    ·rw [h4]; exact hxT u hu
  split at hs<;>(try (cases hs; done))
  ·rename_i b' hb;have hkey:=(sw.now.blk hb).2;simp only [dF] at hkey; subst hkey;split at hs
   ·rename_i T hT;split at hs
    ·rename_i hty;simp only [sI] at hs; subst hs;obtain ⟨cl,hc⟩:=(sw.now.blk hb).1;exact fin _ T [] cl hb (fun u=>rfl) hc (fun u hu e hm=>by cases hm) hty
    ·cases hs
   ·cases hs
  ·rename_i b' ag2 ks2 T mm hb;have hkey:=(sw.now.blk hb).2;simp only [dF] at hkey; subst hkey;split at hs
   ·rename_i hg;obtain ⟨rfl,rfl,hty⟩:=hg;simp only [sI] at hs; subst hs;obtain ⟨es,cl,hc,hes,_⟩:=(sw.now.blk hb).1;refine fin _ T es cl hb (fun u=>rfl) hc (fun u hu e hm=>?_) hty;have e1:u.b b'=w.b b':=by have h1:=hbb u hu; rw [hbb w (Agr.refl _ _)] at h1; simp only [CV.map.injEq] at h1; exact h1.symm
    obtain ⟨es',cl',hc',hes',_⟩:=((sw.all u hu).blk hb).1;rw [e1,hc] at hc';simp only [sI,Blk.map.injEq] at hc';obtain ⟨rfl,rfl⟩:=hc';exact hes' e hm
   ·cases hs
 ·cases hs
mutual
def pu (fa:List Fact):AV→Bool
 | .rptr _ | .yld _=>false
 | .clo _ a b=>oQ fa a&&oQ fa b
 | .agg l=>oQ fa l
 | .tup l=>oQ fa l
 | .lrows rows _=>zn fa rows
 | .sym s=>fL fa s (fun _=>true) fa
 | _=>true
def oQ (fa:List Fact):List AV→Bool
 | []=>true
 | a::l=>pu fa a&&oQ fa l
def zn (fa:List Fact):List (List AV)→Bool
 | []=>true
 | a::l=>oQ fa a&&zn fa l
end
mutual
theorem qGJ {w:V}:∀(T:Ty) (c:CV),av w T c→bA c c=true
 | .int k lo hi,c,h=>by obtain ⟨n,rfl,_⟩:=h; simp [bA]
 | .bool,c,h=>by obtain ⟨n,rfl⟩:=h; simp [bA]
 | .str,c,h=>by obtain ⟨n,rfl⟩:=h; simp [bA]
 | .lst R lo hi,c,h=>by
  simp only [av] at h;rcases h with ⟨rfl,_⟩ | ⟨rows,ex,rfl,_,_,hr⟩
  ·rfl
  ·have:∀l:List (List CV),(∀r,r∈l→a8 w R r)→gV l l=true:=by
    intro l
    induction l with
    | nil=>intro _; rfl
    | cons r l ih=>intro hl; simp only [gV,td R r (hl r mS),ih (fun r h=>hl r (mC _ h)),eA]
   simp only [bA,this rows hr,lM,eA]
 | .agg l,c,h=>by obtain ⟨cs,rfl,hc⟩:=h; simp only [bA,td l cs hc]
theorem td {w:V}:∀(R:List Ty) (cs:List CV),a8 w R cs→ew cs cs=true
 | [],cs,h=>by simp only [a8] at h; subst h; rfl
 | T::Ts,cs,h=>by
  obtain ⟨c,cs',rfl,h1,h2⟩:=h;simp only [ew,qGJ T c h1,td Ts cs' h2,eA]
end
mutual
theorem pE {w:V} {fa:List Fact} (hf:∀f,f∈fa→FOK w f):∀(a:AV),pu fa a=true→bA (den w a) (den w a)=true
 | .bool _,_=>by simp [den,bA]
 | .cmp _ _ _,_=>by simp [den,bA]
 | .eqc _ _ _ _,_=>by simp [den,bA]
 | .int _ _ _,_=>by simp [den,bA]
 | .str _,_=>by simp [den,bA]
 | .nilp,_=>rfl
 | .nils,_=>rfl
 | .nilm,_=>rfl
 | .nilf,_=>rfl
 | .nili,_=>rfl
 | .ptr _ _,_=>by simp [den,bA]
 | .iptr _ _ _ _,_=>by simp [den,bA]
 | .slc _ _ _ _ _ _,_=>by simp [den,bA]
 | .vec _ _ _,_=>by simp only [den]; split<;>simp [bA]
 | .slv _ _ _ _,_=>by simp [den,bA]
 | .map _,_=>by simp [den,bA]
 | .rptr _,h=>by simp [pu] at h
 | .yld _,h=>by simp [pu] at h
 | .sym s,h=>by
  obtain ⟨T,_,hT⟩:=dV hf h;exact qGJ T _ hT
 | .clo f a b,h=>by
  simp only [pu,aT] at h;simp only [den,bA,jB hf a h.1,jB hf b h.2,lM,eA]
 | .agg l,h=>by
  simp only [pu] at h;simp only [den,bA,jB hf l h]
 | .tup l,h=>by
  simp only [pu] at h;simp only [den,bA,jB hf l h]
 | .lrows rows ex,h=>by
  simp only [pu] at h;simp only [den,bA,vO hf rows h,lM,eA]
theorem jB {w:V} {fa:List Fact} (hf:∀f,f∈fa→FOK w f):∀(a:List AV),oQ fa a=true→ew (aF w a) (aF w a)=true
 | [],_=>rfl
 | a::l,h=>by
  simp only [oQ,aT] at h;simp only [aF,ew,pE hf a h.1,jB hf l h.2,eA]
theorem vO {w:V} {fa:List Fact} (hf:∀f,f∈fa→FOK w f):∀(a:List (List AV)),zn fa a=true→gV (jJ w a) (jJ w a)=true
 | [],_=>rfl
 | a::l,h=>by
  simp only [zn,aT] at h;simp only [jJ,gV,jB hf a h.1,vO hf l h.2,eA]
end
def sCkl(st:St)(g:Option Nat)(a x:AV):Option (List (AV × St)) :=
 match ldD st g a with
 | some y=>if eqA st.fa y x&&pu st.fa y then some [(dE,st)] else none
 | none=>none
theorem qPN(s:Sat X v st env h){g:Option Nat}{a x:AV}{outs:List (AV × St)}(hs:sCkl st g a x=some outs){ca cx:CV}{r:Option (CV × H)}(hr:r=match ldV g ca h with
  | some v=>if bA v cx then some (undef,h) else none
  | none=>none)(ha:∀w,Sat0 X w st env h→ca=den w a)(hx:∀w,Sat0 X w st env h→cx=den w x):ae X v st env outs r:=by
 unfold sCkl at hs;split at hs
 ·rename_i y hy;split at hs
  ·rename_i hc;simp only [aT] at hc;simp only [sI] at hs; subst hs;refine aJ s fun w sw=>?_
   rw [hr,ha w sw,hx w sw,yN sw hy,←j9 sw.z sw.fa _ _ hc.1];simp only [pE sw.fa _ hc.2,ac]; rfl
  ·cases hs
 ·cases hs
def sCku(st:St)(ag:Bool)(ls:List Lf)(z:CV)(a i:AV)(ok:Bool)(d:AV):Option (List (AV × St)) :=
 match a with
 | .map b=>match ai b st.bl with
  | some (.map _ ag2 ks _ (some (k,z',ok',r)))=>if ag2=ag∧ks.map LK.lf=ls∧bA z' z=true∧ok'=ok∧eqA st.fa k i=true∧eqA st.fa r d=true∧pu st.fa r=true then some [(dE,st)] else none
  | some (.emap _)=>match qX st.fa i,gy z with
   | some (ag',ks),some zA =>
    if ag'=ag∧ks.map LK.lf=ls∧eqA st.fa (lkZ ok zA) d=true∧pu st.fa (lkZ ok zA)=true then some [(dE,st)] else none
   | _,_=>none
  | _=>none
 | _=>none
theorem qPM(s:Sat X v st env h){ag ok:Bool}{ls:List Lf}{z:CV}{a i d:AV}{outs:List (AV × St)}(hs:sCku st ag ls z a i ok d=some outs){ca ci cd:CV}{r:Option (CV × H)}(hr:r=match lkuV ag ls z ca ci ok h with
  | some v=>if bA v cd then some (undef,h) else none
  | none=>none)(ha:∀w,Sat0 X w st env h→ca=den w a)(hi:∀w,Sat0 X w st env h→ci=den w i)(hd:∀w,Sat0 X w st env h→cd=den w d):ae X v st env outs r:=by
 unfold sCku at hs;split at hs<;>(try (cases hs; done));rename_i b;split at hs<;>(try (cases hs; done))
 ·rename_i b' ag2 ks T k z' ok' rr hb;split at hs
  ·rename_i hg;obtain ⟨rfl,rfl,hz,rfl,g1,g2,g3⟩:=hg;simp only [sI] at hs; subst hs;have hz':=kU _ _ hz;subst hz';refine aJ s fun w sw=>?_
   have hkey:=(sw.blk hb).2;simp only [dF] at hkey; subst hkey;obtain ⟨es,cl,_,_,hm⟩:=(sw.blk hb).1;simp only [kC] at hm;rw [hr,ha w sw,hi w sw,hd w sw];simp only [den];rw [←j9 sw.z sw.fa _ _ g1,hm,←j9 sw.z sw.fa _ _ g2];simp only [pE sw.fa _ g3,ac]; rfl
  ·cases hs
 ·rename_i b' hb;split at hs<;>(try (cases hs; done));rename_i ag' ks zA hk hz;split at hs
  ·rename_i hg;obtain ⟨rfl,rfl,g2,g3⟩:=hg;simp only [sI] at hs; subst hs;refine aJ s fun w sw=>?_
   have hkey:=(sw.blk hb).2;simp only [dF] at hkey; subst hkey;obtain ⟨cl,hc⟩:=(sw.blk hb).1;have hkk:=gg (i3 sw.fa hk);have e2:=j9 sw.z sw.fa _ _ g2;have e3:=pE sw.fa _ g3;have zd:=mU sw.z z zA hz;rw [hr,ha w sw,hi w sw,hd w sw,←e2];simp only [den,lkuV,hkk,ac,hc,bp];have e4:den w (lkZ ok zA)=if ok then CV.tup [z,.bool false] else z:=by
    cases ok<;>simp only [lkZ,ac,bj,bX,den,aF,zd]
   rw [e4] at e3 ⊢;simp only [e3,ac]; rfl
  ·cases hs
end
end
end Ce.S
namespace Ce.S
noncomputable section
open Go
section
variable {X:Cx} {v:V} {st:St} {env:List CV} {h:H}
def St.more(st:St)(fs:List Fact):St:={ st with fa:=fs++st.fa }
def qXU(fa:List Fact)(eq:Bool)(x y:Nat)(c:Int):List Fact :=
 if eq then [.dc x y c,.dc y x (-c)] else if dle fa x y c then [.dc x y (c - 1)] else if dle fa y x (-c) then [.dc y x (-c - 1)] else []
def wa(st:St)(c:AV):Option (List St × List St) :=
 match c with
 | .bool true=>some ([st],[])
 | .bool false=>some ([],[st])
 | .cmp x y c=>some ([st.more [.dc x y c]],[st.more [.dc y x (-c - 1)]])
 | .eqc neg x y c=>some ([st.more (qXU st.fa (!neg) x y c)],[st.more (qXU st.fa neg x y c)])
 | .sym s=>if fL st.fa s (fun T=>sty st.fa T .bool) st.fa then some ([st],[st]) else none
 | _=>none
theorem pR{w:V}{fa:List Fact}(hf:∀f,f∈fa→FOK w f){eq:Bool}{x y:Nat}{c:Int}(he:decide (w.i x - w.i y=c)=eq):∀f,f∈qXU fa eq x y c→FOK w f:=by
 intro f hm;unfold qXU at hm;cases eq with
 | true =>
  simp only [dT] at he;simp only [ac,aS,bz,br] at hm;rcases hm with rfl | rfl<;>simp only [FOK]<;>omega
 | false =>
  simp only [decide_eq_false_iff_not] at he;simp only [bj,bX] at hm;split at hm
  ·rename_i hd;have:=kM hf hd;simp only [aS,bz,br] at hm; subst hm;simp only [FOK]; omega
  ·split at hm
   ·rename_i hd;have:=kM hf hd;simp only [aS,bz,br] at hm; subst hm;simp only [FOK]; omega
   ·cases hm
theorem qv(s:Sat X v st env h){c:AV}{T F:List St}(hc:wa st c=some (T,F)){cv:CV}(hx:∀u,Sat0 X u st env h→cv=den u c):∃b,cv=.bool b∧∃st',st'∈(if b then T else F)∧Sat X v st' env h∧st'.n=st.n∧st'.env=st.env:=by
 have s0:=s.now;unfold wa at hc;split at hc<;>(try (cases hc; done))
 ·simp only [sI,pI] at hc;obtain ⟨rfl,rfl⟩:=hc;exact ⟨true,hx v s0,st,by simp,s,rfl,rfl⟩
 ·simp only [sI,pI] at hc;obtain ⟨rfl,rfl⟩:=hc;exact ⟨false,hx v s0,st,by simp,s,rfl,rfl⟩
 ·rename_i x y c;simp only [sI,pI] at hc;obtain ⟨rfl,rfl⟩:=hc;have hv:=hx v s0;simp only [den] at hv;have same:∀u,Sat0 X u st env h→decide (u.i x - u.i y≤c)=decide (v.i x - v.i y≤c):=fun u su=>by
   have:=hx u su; simp only [den] at this; rw [hv] at this; simp only [CV.bool.injEq] at this; exact this.symm
  refine ⟨_,hv,?_⟩;by_cases hd:v.i x - v.i y≤c
  ·rw [fQ hd] at same ⊢;refine ⟨_,mS,s.fact (fun u su f hf=>?_),rfl,rfl⟩;have:=of_decide_eq_true (same u su);simp only [aS,bz,br] at hf; subst hf;exact this
  ·rw [eY hd] at same ⊢;refine ⟨_,mS,s.fact (fun u su f hf=>?_),rfl,rfl⟩;have:=of_decide_eq_false (same u su);simp only [aS,bz,br] at hf; subst hf;simp only [FOK]; omega
 ·rename_i neg x y c;simp only [sI,pI] at hc;obtain ⟨rfl,rfl⟩:=hc;have hv:=hx v s0;simp only [den] at hv;have same:∀u,Sat0 X u st env h→decide (u.i x - u.i y=c)=decide (v.i x - v.i y=c):=fun u su=>by
   have:=hx u su; simp only [den] at this; rw [hv] at this; simp only [CV.bool.injEq] at this
   revert this; cases decide (u.i x - u.i y=c)<;>cases decide (v.i x - v.i y=c)<;>cases neg<;>simp
  refine ⟨_,hv,?_⟩;cases hd:decide (v.i x - v.i y=c) with
  | true =>
   cases neg with
   | false=>exact ⟨_,mS,s.fact (fun u su f hf=>pR su.fa ((same u su).trans hd) f hf),rfl,rfl⟩
   | true=>exact ⟨_,mS,s.fact (fun u su f hf=>pR su.fa ((same u su).trans hd) f hf),rfl,rfl⟩
  | false =>
   cases neg with
   | false=>exact ⟨_,mS,s.fact (fun u su f hf=>pR su.fa ((same u su).trans hd) f hf),rfl,rfl⟩
   | true=>exact ⟨_,mS,s.fact (fun u su f hf=>pR su.fa ((same u su).trans hd) f hf),rfl,rfl⟩
 ·split at hc
  ·rename_i hh;simp only [sI,pI] at hc;obtain ⟨rfl,rfl⟩:=hc;obtain ⟨T,hp,hT⟩:=dV s0.fa hh;obtain ⟨b,hb⟩:=il s0.fa _ _ hp _ hT;exact ⟨b,by rw [hx v s0]; exact hb,st,by cases b<;>simp,s,rfl,rfl⟩
  ·cases hc
def qH3(st:St)(c a b:AV):Option (List (AV × St)) :=
 match wa st c with
 | some (T,F)=>some (T.map (fun s=>(a,s))++F.map (fun s=>(b,s)))
 | none=>none
theorem qH2(s:Sat X v st env h){c a b:AV}{outs:List (AV × St)}(hs:qH3 st c a b=some outs){cc ca cb:CV}{r:Option (CV × H)}(hr:r=match cc with
  | .bool true=>some (ca,h)
  | .bool false=>some (cb,h)
  | _=>none)(hc:∀(w:V),w.i 0=0→env=aF w st.env→cc=den w c)(ha:∀(w:V),w.i 0=0→env=aF w st.env→ca=den w a)(hb:∀(w:V),w.i 0=0→env=aF w st.env→cb=den w b):ae X v st env outs r:=by
 unfold qH3 at hs;split at hs
 ·rename_i T F hT;simp only [sI] at hs; subst hs;obtain ⟨t,ht,st',hm,s',hn,he⟩:=qv s hT (fun u su=>hc u su.z su.env);subst ht;cases t with
  | true =>
   refine ⟨(a,st'),ig _ (cI.2 ⟨st',by simpa using hm,rfl⟩),v,Agr.refl _ _,by rw [hn]; exact aV _,he,ca,h,hr,s',fun u hu=>?_⟩;have su:=s'.all u hu;exact (ha u su.z (by rw [su.env,he])).symm
  | false =>
   refine ⟨(b,st'),fF _ (cI.2 ⟨st',by simpa using hm,rfl⟩),v,Agr.refl _ _,by rw [hn]; exact aV _,he,cb,h,hr,s',fun u hu=>?_⟩;have su:=s'.all u hu;exact (hb u su.z (by rw [su.env,he])).symm
 ·cases hs
def zAJ:List AV→Option IntKind
 | .int k _ _::_=>some k
 | _=>none
def xE(fa:List Fact)(T:Ty):List AV→Bool
 | []=>true
 | a::l=>tyA fa T a&&xE fa T l
def wA(fa:List Fact)(k:IntKind)(cs:List AV):List Fact→Option Ty
 | []=>none
 | .len _ t::r=>if xE fa (.int k ⟨0,0⟩ ⟨t,-1⟩) cs then some (.int k ⟨0,0⟩ ⟨t,-1⟩) else wA fa k cs r
 | _::r=>wA fa k cs r
theorem qS{fa:List Fact}{k:IntKind}{cs:List AV}{T:Ty}:∀{l:List Fact},wA fa k cs l=some T→xE fa T cs=true
 | [],h=>by cases h
 | f::r,h=>by
  cases f with
  | len s t =>
   simp only [wA] at h;split at h
   ·rename_i hc; simp only [sI] at h; subst h; exact hc
   ·exact qS h
  | _=>exact qS (l:=r) h
def qM6(fa:List Fact)(k:IntKind)(cs:List AV):Option Ty:=if let some T:=wA fa k cs fa then some T else if xE fa (.int k ⟨0,0⟩ ⟨0,kHi k⟩) cs then some (.int k ⟨0,0⟩ ⟨0,kHi k⟩) else if xE fa (eU k) cs then some (eU k) else none
theorem qM5{fa:List Fact}{k:IntKind}{cs:List AV}{T:Ty}(h:qM6 fa k cs=some T):xE fa T cs=true:=by
 unfold qM6 at h;split at h
 ·rename_i hu; simp only [sI] at h; subst h; exact qS hu
 split at h
 ·rename_i hc; simp only [sI] at h; subst h; exact hc
 ·split at h
  ·rename_i hc; simp only [sI] at h; subst h; exact hc
  ·cases h
def xf(st:St)(k:Nat)(s:AV):Option (List Ty × Lin) :=
 match s with
 | .sym s1=>match kD s1 st.fa,iQ s1 st.fa with
  | some (R,_,_),some t=>if R.length=k then some (R,⟨t,0⟩) else none
  | _,_=>none
 | .slc k' b off i len _=>if k'=k∧i.s=0∧i.c=0 then (match ai b st.bl with
  | some (.blk _ (.cells l) _)=>if len.s=0∧0≤len.c∧k=1 then (match qu l off (len.c.toNat*k) with
   | some cs=>match zAJ cs with
    | some kk=>match qM6 st.fa kk cs with
     | some T=>some ([T],len)
     | none=>none
    | none=>none
   | none=>none) else none
  | some (.blk _ (.rows k2 R n) _)=>if k2=k∧off=0∧leL st.fa len n 0=true∧leL st.fa ⟨0,0⟩ len 0=true then some (R,len) else none
  | _=>none) else none
 | .vec k' b len=>if k'=k then (match lP st b with
  | some (k2,R,n,_)=>if k2=k∧R.length=k∧leL st.fa len n 0=true∧leL st.fa ⟨0,0⟩ len 0=true then some (R,len) else none
  | none=>none) else none
 | _=>none
theorem tO{w:V}{fa:List Fact}(z:w.i 0=0)(hf:∀f,f∈fa→FOK w f){T:Ty}:∀{cs:List AV},xE fa T cs=true→aQ w 1 [T] (aF w cs) cs.length
 | [],_=>rfl
 | c::cs,h=>by
  simp only [xE,aT] at h;simp only [aF,eZ,aQ];exact ⟨by omega,⟨_,_,rfl,gp z hf _ _ h.1,rfl⟩,by simpa using tO z hf h.2⟩
theorem ik{w:V}{k:Nat}{R:List Ty}(hk:R.length=k){m n:Nat}{cs:List CV}(h:aQ w k R cs m)(hn:n≤m):aQ w k R (cs.take (n*k)) n:=by
 obtain ⟨h1,h2⟩:=(ab w k R hk m cs).1 h;have hnk:n*k≤m*k:=dA k hn;refine (ab w k R hk n _).2 ⟨by simp only [eh]; omega,fun i hi j T hj=>?_⟩;have hjk:j < k:=by rw [←hk]; exact (fU.1 hj).1
 obtain ⟨c,hc,hT⟩:=h2 i (by omega) j T hj;have hik:i*k+k≤n*k:=by rw [←dL]; exact dA k hi
 exact ⟨c,by rw [ij (by omega)]; exact hc,hT⟩
theorem sn{w:V}{k:Nat}{R:List Ty}(hk:R.length=k):∀{rows:List (List CV)},(∀r,r∈rows→a8 w R r)→aQ w k R (bo rows) rows.length
 | [],_=>rfl
 | r::rows,h=>by
  have hr:=h r mS;have hl:=((bi w R r).1 hr).1;simp only [bo,eZ,aQ];refine ⟨by simp only [jP]; omega,?_,?_⟩
  ·rw [List.take_append_of_le_length (by omega),xI (by omega)]; exact hr
  ·rw [←hk,←hl,List.drop_left,hl,hk]; exact sn hk (fun r hm=>h r (mC _ hm))
theorem oy(s:Sat X v st env h){k:Nat}{a:AV}{R:List Ty}{len:Lin}(hs:xf st k a=some (R,len)){c:CV}(hc:∀w,Sat0 X w st env h→c=den w a) :
  ∃m:Nat,lenOf c=some m∧(∀w,Sat0 X w st env h→len.ev w=m)∧R.length=k∧∀n,n≤m→n≠0→∃new,cellsOf k n h c=some new∧∀w,Sat0 X w st env h→aQ w k R new n:=by
 have s0:=s.now;unfold xf at hs;split at hs<;>(try (cases hs; done))
 ·rename_i s1;split at hs<;>(try (cases hs; done));rename_i R' lo hi t hl ht;split at hs
  ·rename_i hk;simp only [sI,pI] at hs;obtain ⟨rfl,rfl⟩:=hs;obtain ⟨m,hm,hti⟩:=eo s0.fa ht;have hcv:=hc v s0;simp only [den] at hcv;have sym:∀w,Sat0 X w st env h→w.c s1=c:=fun w sw=>by have:=hc w sw; simp only [den] at this; exact this.symm
   refine ⟨m,by rw [hcv]; exact kF hm,fun w sw=>?_,hk,fun n hn hn0=>?_⟩
   ·obtain ⟨m',hm',hti'⟩:=eo sw.fa ht;rw [sym w sw,hcv,hm,sI] at hm';simp only [Lin.ev,hti',hm',eV]
   ·have hT:=dw s0.fa hl;rw [sym v s0] at hT;simp only [av] at hT;rcases hT with ⟨hT,_⟩ | ⟨rows,ex,hT,_,_,hR⟩
    ·rw [←hcv,hT] at hm; simp only [cV,sI] at hm; omega
    ·rw [←hcv,hT] at hm; simp only [cV,sI] at hm; subst hm;have hall:∀w,Sat0 X w st env h→∀r,r∈rows.take n→a8 w R' r:=fun w sw r hr=>by
      have hTw:=dw sw.fa hl;rw [sym w sw] at hTw;simp only [av] at hTw;rcases hTw with ⟨hTw,_⟩ | ⟨rows',ex',hTw,_,_,hR'⟩
      ·rw [hT] at hTw; cases hTw
      ·rw [hT] at hTw; cases hTw; exact hR' r (List.mem_of_mem_take hr)
     refine ⟨bo (rows.take n),?_,fun w sw=>?_⟩
     ·rw [hT];simp only [cellsOf];rw [aH];simp only [aT,dT];exact ⟨hn,tP fun r hr=>by rw [←hk]; exact ((bi v R' r).1 (hall v s0 r hr)).1⟩
     ·have:=sn hk (hall w sw);rw [eh,Nat.min_eq_left hn] at this;exact this
  ·cases hs
 ·rename_i k' b off i len' cap;split at hs
  ·rename_i hg;obtain ⟨rfl,g1,g2⟩:=hg;have hi0:∀w,Sat0 X w st env h→i.ev w=0:=fun w sw=>by simp only [Lin.ev,g1,g2,sw.z]; omega
   split at hs<;>(try (cases hs; done))
   ·rename_i b' l ro hb;have hkey:=(s0.blk hb).2;simp only [dF] at hkey; subst hkey;split at hs
    ·rename_i hg;obtain ⟨g3,g4,rfl⟩:=hg;split at hs
     ·rename_i cs hcut;split at hs
      ·rename_i kk hkk;split at hs
       ·rename_i T hT0;have hf:=qM5 hT0;simp only [sI,pI] at hs;obtain ⟨rfl,rfl⟩:=hs;have hlen:∀w,Sat0 X w st env h→len'.ev w=(len'.c.toNat:Int):=fun w sw=>by simp only [Lin.ev,g3,sw.z]; omega
        have hcl:cs.length=len'.c.toNat:=by
         have:=hcut;unfold qu at this;split at this
         ·simp only [sI] at this; subst this;simp only [eh,fX]; omega
         ·cases this
        have hcv:∀w,Sat0 X w st env h→c=.slc 1 (w.b b') off len'.c.toNat (some (cap.ev w).toNat):=fun w sw=>by
         rw [hc w sw]; simp only [den,hi0 w sw,hlen w sw,gN,d9,d8,fS]
        refine ⟨len'.c.toNat,by rw [hcv v s0]; rfl,hlen,rfl,fun n hn hn0=>?_⟩;obtain ⟨cs0,hcs0,ho0⟩:=(s0.blk hb).1;simp only [cR] at ho0;have hcut0:=mh (v:=v) hcut;refine ⟨(aF v cs).take (n*1),?_,fun w sw=>?_⟩
        ·rw [hcv v s0];simp only [cellsOf,aH hn,hcs0];unfold cut? at hcut0 ⊢;rw [←ho0] at hcut0;split at hcut0
         ·rename_i hle;rw [aH (by omega)];simp only [sI] at hcut0;rw [←hcut0,List.take_take,Nat.min_eq_left (by omega)]
         ·cases hcut0
        ·obtain ⟨cs1,hcs1,ho1⟩:=(sw.blk hb).1;simp only [cR] at ho1;have e1:=hcv w sw;rw [hcv v s0] at e1;simp only [CV.slc.injEq,cQ] at e1;rw [←e1.1,hcs0] at hcs1;simp only [sI,Blk.cells.injEq,cZ] at hcs1;have hcut1:=mh (v:=w) hcut;rw [←ho1,←hcs1,ho0,hcut0,sI] at hcut1;rw [hcut1];exact ik (k:=1) (R:=[T]) rfl (m:=cs.length) (tO sw.z sw.fa hf) (by omega)
       ·cases hs
      ·cases hs
     ·cases hs
    ·cases hs
   ·rename_i b' k2 R' n' ro hb;have hkey:=(s0.blk hb).2;simp only [dF] at hkey; subst hkey;split at hs
    ·rename_i hg;obtain ⟨rfl,rfl,g3,g4⟩:=hg;simp only [sI,pI] at hs;obtain ⟨rfl,rfl⟩:=hs;obtain ⟨cs0,hcs0,hk0,hRk,hn0,hrows0⟩:=(s0.blk hb).1;have hcv:∀w,Sat0 X w st env h→c=.slc k2 (w.b b') 0 (len'.ev w).toNat (some (cap.ev w).toNat):=fun w sw=>by
      rw [hc w sw]; simp only [den,hi0 w sw,gN,d9,d8]
     have l0:∀w,Sat0 X w st env h→0≤len'.ev w∧len'.ev w≤n'.ev w:=fun w sw=>by
      have q1:=aE sw.fa g3; have q2:=aE sw.fa g4;simp only [Lin.ev,sw.z] at q1 q2 ⊢; omega
     refine ⟨(len'.ev v).toNat,by rw [hcv v s0]; rfl,fun w sw=>?_,hRk,fun n hn hnz=>?_⟩
     ·have e1:=hcv w sw;rw [hcv v s0] at e1;simp only [CV.slc.injEq,cQ] at e1;have:=l0 w sw; have:=l0 v s0; omega
     ·have hv:=l0 v s0;have hlen:=((ab v k2 R' hRk _ _).1 hrows0).1;have hnk:n*k2≤(n'.ev v).toNat*k2:=dA _ (by omega);refine ⟨cs0.take (n*k2),?_,fun w sw=>?_⟩
      ·rw [hcv v s0];simp only [cellsOf,aH hn,hcs0];unfold cut?;rw [aH (by omega),kX]
      ·have e1:=hcv w sw;rw [hcv v s0] at e1;simp only [CV.slc.injEq,cQ] at e1;obtain ⟨cs1,hcs1,_,_,_,hrows1⟩:=(sw.blk hb).1;rw [←e1.1,hcs0] at hcs1;simp only [sI,Blk.cells.injEq,cZ] at hcs1; subst hcs1;have:=l0 w sw;exact ik hRk hrows1 (by omega)
    ·cases hs
  ·cases hs
 ·rename_i k' b len';split at hs
  ·rename_i hk';subst hk';split at hs<;>(try (cases hs; done));rename_i k2 R' n' ro hro;split at hs
   ·rename_i hg;obtain ⟨rfl,hRk,g3,g4⟩:=hg;simp only [sI,pI] at hs;obtain ⟨rfl,rfl⟩:=hs;have hcv:∀w,Sat0 X w st env h→c=if len'.ev w=0 then .nils else .slc k2 (w.b b) 0 (len'.ev w).toNat none:=fun w sw=>by
     rw [hc w sw]; simp only [den]
    have l0:∀w,Sat0 X w st env h→0≤len'.ev w∧len'.ev w≤n'.ev w:=fun w sw=>by
     have q1:=aE sw.fa g3; have q2:=aE sw.fa g4;simp only [Lin.ev,sw.z] at q1 q2 ⊢; omega
    have hlc:∀w,Sat0 X w st env h→lenOf c=some (len'.ev w).toNat:=fun w sw=>by
     rw [hcv w sw];by_cases h0:len'.ev w=0
     ·rw [aH h0,h0]; rfl
     ·rw [aC h0]; rfl
    have hle:∀w,Sat0 X w st env h→len'.ev w=len'.ev v:=fun w sw=>by
     have e1:=hlc w sw;rw [hlc v s0,sI] at e1;have:=l0 w sw; have:=l0 v s0; omega
    refine ⟨(len'.ev v).toNat,hlc v s0,fun w sw=>by rw [hle w sw]; have:=l0 v s0; omega,hRk,fun n hn hnz=>?_⟩;have hv:=l0 v s0;have hv0:¬len'.ev v=0:=by omega
    obtain ⟨cs0,hcs0,hk0,_,hn0,hrows0⟩:=f5 s0 hro (by omega);have hlen:=((ab v k2 R' hRk _ _).1 hrows0).1;have hnk:n*k2≤(n'.ev v).toNat*k2:=dA _ (by omega);refine ⟨cs0.take (n*k2),?_,fun w sw=>?_⟩
    ·rw [hcv v s0,aC hv0];simp only [cellsOf,aH hn,hcs0];unfold cut?;rw [aH (by omega),kX]
    ·have hw0:¬len'.ev w=0:=by rw [hle w sw]; exact hv0
     have e1:=hcv w sw;rw [hcv v s0,aC hv0,aC hw0] at e1;simp only [CV.slc.injEq,cQ] at e1;have hlw:=l0 w sw;have hlv:=hle w sw;obtain ⟨cs1,hcs1,_,_,_,hrows1⟩:=f5 sw hro (by omega);rw [←e1.1,hcs0] at hcs1;simp only [sI,Blk.cells.injEq,cZ] at hcs1;obtain ⟨rfl,_⟩:=hcs1;exact ik hRk hrows1 (by omega)
   ·cases hs
  ·cases hs
end
end
end Ce.S
namespace Ce.S
noncomputable section
open Go
section
variable {X:Cx} {v:V} {st:St} {env:List CV} {h:H}
theorem iO{w:V}{k:Nat}{R:List Ty}(hk:R.length=k){M n i:Nat}{cs new:List CV}(hd:aQ w k R cs M)(hn:aQ w k R new n)(hi:i+n≤M):i*k+new.length≤cs.length∧aQ w k R (splice cs (i*k) new) M:=by
 obtain ⟨h1,h2⟩:=(ab w k R hk M cs).1 hd;obtain ⟨h3,h4⟩:=(ab w k R hk n new).1 hn;have hM:(i+n)*k≤M*k:=dA k hi;rw [eH] at hM;have hl:i*k+new.length≤cs.length:=by omega
 refine ⟨hl,(ab w k R hk M _).2 ⟨by rw [splice_len _ _ _ hl,h1],fun r hr j T hj=>?_⟩⟩;have hjk:j < k:=by rw [←hk]; exact (fU.1 hj).1
 rw [di _ _ _ hl];by_cases hin:i≤r∧r < i+n
 ·have e1:i*k≤r*k:=dA k hin.1;have e2:r*k+k≤(i+n)*k:=by rw [←dL]; exact dA k hin.2
  rw [eH] at e2;rw [aH (by omega)];obtain ⟨c,hc,hT⟩:=h4 (r - i) (by omega) j T hj;refine ⟨c,?_,hT⟩;rw [Nat.mul_sub_right_distrib] at hc;rw [show r*k+j - i*k=r*k - i*k+j by omega]; exact hc
 ·have:r*k+k≤i*k∨(i+n)*k≤r*k:=by
   by_cases hlt:r < i
   ·left; rw [←dL]; exact dA k hlt
   ·right; exact dA k (by omega)
  rw [eH] at this;rw [aC (by omega)]; exact h2 r hr j T hj
def yb(st:St)(a b:Lin):List Fact:=[.dc 0 st.n 0,.dc st.n a.s a.c,.dc st.n b.s b.c]
def sCpy(st:St)(k:Nat)(d s:AV):Option (List (AV × St)) :=
 match xf st k s,d with
 | some (R,sl),.slc k' b off i len _ =>
  if k'=k∧leL st.fa ⟨0,0⟩ i 0=true∧leL st.fa ⟨0,0⟩ len 0=true then
   match ai b st.bl with
   | some (.blk _ (.rows k2 R2 n) false)=>(match qMR st i len with
    | some t=>if k2=k∧off=0∧leL st.fa t n 0=true∧jT st.fa R R2=true∧hO R2=true then
      some [qK st .i64 (yb st len sl)] else none
    | none=>none)
   | some (.blk _ (.cells l) false)=>if k=1∧i.s=0∧i.c=0∧len.s=0∧off+len.c.toNat≤l.length then (match zAJ ((l.drop off).take len.c.toNat) with
    | some kk=>if pW st.fa kk ((l.drop off).take len.c.toNat)&&jT st.fa R [eU kk] then
      let f:=bS (st.n+1) (List.replicate len.c.toNat (eU kk))
      some [(.int .i64 st.n 0,{ st with n:=f.2.2,fa:=f.2.1++(yb st len sl++st.fa),bl:=dS b [.blk b (.cells (dI l off f.1)) false] st.bl })]
     else none
    | none=>none) else none
   | _=>none
  else none
 | _,_=>none
theorem u9{w:V}{a b:Lin}{m:Nat}{x y:Nat}(z:w.i 0=0)(hn:w.i st.n=((min y x:Nat):Int))(ha:a.ev w=x)(hb:b.ev w=y):∀f,f∈yb st a b→FOK w f:=by
 intro f hf;simp only [yb,aS,bz,br] at hf;simp only [Lin.ev] at ha hb;rcases hf with rfl | rfl | rfl<;>simp only [FOK]<;>omega
theorem qBN{k:Nat}{d:CV}{cs:CV}{dl sl:Nat}(h1:lenOf d=some dl)(h2:lenOf cs=some sl):cpyV k d cs h=if min sl dl=0 then some (.int .i64 0,h) else match cellsOf k (min sl dl) h cs,d with
  | some new,.slc _ r off _ _=>match h.get r with
   | some (.cells cs false)=>if off+(min sl dl)*k≤cs.length&&aM new then some (.int .i64 (min sl dl:Nat),h.put r (.cells (splice cs off new) false)) else none
   | _=>none
  | _,_=>none:=by
 simp only [cpyV,h1,h2];rfl
theorem qPJ(s:Sat X v st env h){k:Nat}{a x:AV}{outs:List (AV × St)}(hs:sCpy st k a x=some outs){ca cx:CV}{r:Option (CV × H)}(hr:r=cpyV k ca cx h)(ha:∀w,Sat0 X w st env h→ca=den w a)(hx:∀w,Sat0 X w st env h→cx=den w x):ae X v st env outs r:=by
 have s0:=s.now;unfold sCpy at hs;split at hs<;>(try (cases hs; done));rename_i R sl k' b off i len cap hsrc;obtain ⟨m,hm,hsl,hRk,hnew⟩:=oy s hsrc hx;split at hs
 ·rename_i hg;obtain ⟨rfl,g1,g2⟩:=hg;have q:∀w,Sat0 X w st env h→0≤i.ev w∧0≤len.ev w:=fun w sw=>by
   have q1:=aE sw.fa g1; have q2:=aE sw.fa g2;simp only [Lin.ev,sw.z] at q1 q2 ⊢; omega
  have hlen:lenOf ca=some (len.ev v).toNat:=by rw [ha v s0]; rfl
  have same:∀w,Sat0 X w st env h→w.b b=v.b b∧(len.ev w).toNat=(len.ev v).toNat∧off+(i.ev w).toNat*k'=off+(i.ev v).toNat*k':=fun w sw=>by
   have e1:=ha w sw;rw [ha v s0] at e1;simp only [den,CV.slc.injEq,cQ] at e1;exact ⟨e1.1.symm,e1.2.2.1.symm,e1.2.1.symm⟩
  rw [qBN hlen hm] at hr;split at hs<;>(try (cases hs; done))
  ·rename_i b' k2 R2 n hb;have hkey:=(s0.blk hb).2;simp only [dF] at hkey; subst hkey;split at hs
   ·rename_i t ht;split at hs
    ·rename_i hg;obtain ⟨rfl,rfl,g3,g4,g5⟩:=hg;simp only [sI] at hs; subst hs;by_cases h0:min m (len.ev v).toNat=0
     ·rw [aH h0] at hr;refine kp s (m:=0) hr (fun w sw hn f hf=>u9 (m:=m) sw.z (x:=(len.ev v).toNat) (y:=m) (by rw [hn,h0]; rfl) ?_ (hsl w sw) f hf);have:=(same w sw).2.1; have:=(q w sw).2; omega
     ·rw [aC h0] at hr;obtain ⟨new,hcells,hrowsN⟩:=hnew (min m (len.ev v).toNat) (Nat.min_le_left _ _) h0;obtain ⟨cs0,hcs0,hk0,hRk2,hn0,hrows0⟩:=(s0.blk hb).1;have spl:∀w,Sat0 X w st env h→(i.ev w).toNat*k2+new.length≤cs0.length∧aQ w k2 R2 (splice cs0 ((i.ev w).toNat*k2) new) (n.ev w).toNat∧0≤n.ev w∧aM new=true:=fun w sw=>by
       obtain ⟨cs1,hcs1,_,_,hn1,hrows1⟩:=(sw.blk hb).1;rw [(same w sw).1,hcs0] at hcs1;simp only [sI,Blk.cells.injEq,cZ] at hcs1; subst hcs1;have hN:aQ w k2 R2 new (min m (len.ev v).toNat):=by
        have:=hrowsN w sw;obtain ⟨e1,e2⟩:=(ab w k2 R hRk _ _).1 this;refine (ab w k2 R2 hRk2 _ _).2 ⟨e1,fun r hr j T hj=>?_⟩;have hrow:a8 w R ((new.drop (r*k2)).take k2):=by
         refine (bi w R _).2 ⟨?_,fun j T hj=>?_⟩
         ·have:r*k2+k2≤(min m (len.ev v).toNat)*k2:=by rw [←dL]; exact dA _ hr
          simp only [eh,fX]; omega
         ·have hjk:j < k2:=by rw [←hRk]; exact (fU.1 hj).1
          obtain ⟨c,hc,hT⟩:=e2 r hr j T hj;exact ⟨c,by rw [ij hjk,dP]; exact hc,hT⟩
        have hrow2:=eQ sw.fa _ _ g4 _ hrow;have hjk:j < k2:=by rw [←hRk2]; exact (fU.1 hj).1
        obtain ⟨c,hc,hT⟩:=((bi w R2 _).1 hrow2).2 j T hj;rw [ij hjk,dP] at hc;exact ⟨c,hc,hT⟩
       have q3:=aE sw.fa g3;have q4:=qZN sw ht;have q5:=q w sw;have q6:=(same w sw).2.1;have:=iO hRk2 hrows1 hN (i:=(i.ev w).toNat) (by omega);exact ⟨this.1,this.2,hn1,jx g5 hN⟩
      have se:∀w,Sat0 X w st env h→(i.ev w).toNat*k2=(i.ev v).toNat*k2:=fun w sw=>by have:=(same w sw).2.2; omega
      refine ae.mk' (w:=upI v st.n ((min m (len.ev v).toNat:Nat):Int)) (c:=.int .i64 ((min m (len.ev v).toNat:Nat):Int)) (h':=h.put (v.b b') (.cells (splice cs0 ((i.ev v).toNat*k2) new) false)) mS (bg _ _ _ _ _ _) (dZ _) rfl s.pos ?_ (fun u hu=>?_)
      ·rw [hr,hcells,ha v s0];simp only [den,hcs0,dg];obtain ⟨e1,_,_,e2⟩:=spl v s0;have hnl:=((ab v k2 R hRk _ _).1 (hrowsN v s0)).1;rw [aH (by simp only [aT,dT]; exact ⟨by omega,e2⟩)]
      ·obtain ⟨hau,hiu,_⟩:=bQ hu;have su:=s.all u hau;refine ⟨?_,by simp only [qK,den,hiu,eV]⟩;obtain ⟨_,e3,e4,_⟩:=spl u su;have:=(su.wk (st.n+1) (yb st len sl) (u9 (m:=m) su.z (x:=(len.ev v).toNat) (y:=m) hiu (by have:=(same u su).2.1; have:=(q u su).2; omega) (hsl u su))).put hb (q:=.blk b' (.rows k2 R2 n) false) (blk:=.cells (splice cs0 ((i.ev u).toNat*k2) new) false) rfl rfl ⟨_,by rw [get_put,aH rfl],hk0,hRk2,e4,e3⟩;rw [nc hb,(same u su).1,se u su] at this;exact this
    ·cases hs
   ·cases hs
  ·rename_i b' l hb;have hkey:=(s0.blk hb).2;simp only [dF] at hkey; subst hkey;split at hs
   ·rename_i hg;obtain ⟨rfl,g3,g4,g5,g6⟩:=hg;split at hs
    ·rename_i kk hkk;split at hs
     ·rename_i hg;simp only [aT] at hg;obtain ⟨g7,g8⟩:=hg;simp only [sI] at hs; subst hs;have hl0:len.ev v=len.c:=by simp only [Lin.ev,g5,s0.z]; omega
      have hi0:∀w,Sat0 X w st env h→i.ev w=0:=fun w sw=>by simp only [Lin.ev,g3,g4,sw.z]; omega
      obtain ⟨cs0,hcs0,ho0⟩:=(s0.blk hb).1;simp only [cR] at ho0;have hcl:cs0.length=l.length:=by rw [ho0,aq]
      have hl0w:∀w,Sat0 X w st env h→cs0=aF w l:=fun w sw=>by
       obtain ⟨cs1,hcs1,ho1⟩:=(sw.blk hb).1;simp only [cR] at ho1;rw [(same w sw).1,hcs0] at hcs1;simp only [sI,Blk.cells.injEq,cZ] at hcs1;rw [hcs1,ho1]
      have fin:∀(new:List CV),new.length≤len.c.toNat→(∀w,Sat0 X w st env h→aQ w 1 [eU kk] new new.length)→∀(nn:Nat),nn=min m (len.ev v).toNat→∀h',(∀u:V,u.b b'=v.b b'→h'=h.put (u.b b') (.cells (splice cs0 off new) false)∨(h'=h∧new=[]))→r=some (.int .i64 (nn:Nat),h') →
        ae X v st env [(.int .i64 st.n 0,{ st with n:=(bS (st.n+1) (List.replicate len.c.toNat (eU kk))).2.2,fa:=(bS (st.n+1) (List.replicate len.c.toNat (eU kk))).2.1++(yb st len sl++st.fa),bl:=dS b' [.blk b' (.cells (dI l off (bS (st.n+1) (List.replicate len.c.toNat (eU kk))).1)) false] st.bl })] r:=by
       intro new hnl hnT nn hnn h' hh hrr;have hsl2:(splice cs0 off new).length=cs0.length:=splice_len _ _ _ (by omega);have htyp:∀w,Agr (st.n+1) (upI v st.n (nn:Int)) w→a8 w (List.replicate len.c.toNat (eU kk)) (((splice cs0 off new).drop off).take len.c.toNat):=fun w hw=>by
        obtain ⟨hau,_⟩:=bQ hw;have sw:=s.all w hau;refine (bi w _ _).2 ⟨by simp only [eh,fX,List.length_replicate]; omega,fun j T hj=>?_⟩;have hjlt:j < len.c.toNat:=by
         have:=(fU.1 hj).1
         simpa using this
        rw [List.getElem?_replicate,aH hjlt,sI] at hj;subst hj;rw [ij hjlt,dP,di _ _ _ (by omega)];by_cases he:j < new.length
        ·rw [aH (by omega),show off+j - off=j by omega];obtain ⟨_,e2⟩:=(ab w 1 [eU kk] rfl _ _).1 (hnT w sw);obtain ⟨c,hc,hT⟩:=e2 j he 0 (eU kk) rfl;simp only [Nat.mul_one,d8] at hc;exact ⟨c,hc,hT⟩
        ·rw [aC (by omega)];have hlj:l[off+j]?=some (l[off+j]'(by omega)):=ed (by omega);have hmem:l[off+j]'(by omega)∈(l.drop off).take len.c.toNat:=by
          refine rU (i:=j) ?_;rw [ij hjlt,dP]; exact hlj
         refine ⟨den w (l[off+j]'(by omega)),?_,gp sw.z sw.fa _ _ (yq g7 _ hmem)⟩;exact (congrArg (fun z:List CV=>z[off+j]?) (hl0w w sw)).trans (by
          rw [fD,List.getElem?_map,hlj]; rfl)
       obtain ⟨hle,w,hw,hall⟩:=i4 _ (st.n+1) (upI v st.n (nn:Int)) _ htyp;refine ae.mk' (w:=w) (c:=.int .i64 (nn:Nat)) (h':=h') mS ((bg _ _ _ _ _ _).trans hw (dZ _)) (by dsimp only; omega) rfl s.pos hrr (fun u hu=>?_);obtain ⟨hd,hf⟩:=hall u hu;obtain ⟨hau,hiu,_⟩:=bQ (hw.trans hu hle);have su:=s.all u hau;refine ⟨?_,by simp only [den,hiu,eV]⟩;have swk:=su.wk (bS (st.n+1) (List.replicate len.c.toNat (eU kk))).2.2 ((bS (st.n+1) (List.replicate len.c.toNat (eU kk))).2.1++yb st len sl) (fun f hm=>by
        rcases bP.1 hm with hm | hm
        ·exact hf f hm
        ·exact u9 (m:=m) su.z (x:=(len.ev v).toNat) (y:=m) (by rw [hiu,hnn]) (by have:=(same u su).2.1; have:=(q u su).2; omega) (hsl u su) f hm)
       rw [nH] at swk;have hcont:aF u (dI l off (bS (st.n+1) (List.replicate len.c.toNat (eU kk))).1)=splice cs0 off new:=by
        rw [db,hd,←hl0w u su];refine (lE cs0 off new _ (by simp only [eh,fX]; omega) 0 (by simp only [eh,fX]; omega) (fun j hj=>?_)).symm;simp only [eh,fX] at hj;rw [ij (by omega),dP]; rfl
       rcases hh u (same u su).1 with e | ⟨e,en⟩
       ·rw [e];exact swk.put hb (q:=.blk b' (.cells (dI l off (bS (st.n+1) (List.replicate len.c.toNat (eU kk))).1)) false) (blk:=.cells (splice cs0 off new) false) rfl rfl ⟨_,by rw [get_put,aH rfl],hcont.symm⟩
       ·rw [e];refine swk.say hb rfl ⟨cs0,by rw [(same u su).1]; exact hcs0,?_⟩;simp only [cR];rw [hcont,en];have:∀(c:List CV) (o:Nat),splice c o []=c:=by
         intro c
         induction c with
         | nil=>intro o; cases o<;>rfl
         | cons a c ih=>intro o; cases o with
          | zero=>rfl
          | succ o=>simp only [splice,ih]
        rw [this]
      by_cases h0:min m (len.ev v).toNat=0
      ·rw [aH h0] at hr;exact fin [] (by simp) (fun w sw=>rfl) 0 h0.symm h (fun u hu=>.inr ⟨rfl,rfl⟩) hr
      ·rw [aC h0] at hr;obtain ⟨new,hcells,hrowsN⟩:=hnew (min m (len.ev v).toNat) (Nat.min_le_left _ _) h0;have hnl:=((ab v 1 R hRk _ _).1 (hrowsN v s0)).1;have hNT:∀w,Sat0 X w st env h→aQ w 1 [eU kk] new new.length:=fun w sw=>by
        have h1:=hrowsN w sw;have e0:min m (len.ev v).toNat=new.length:=by omega
        rw [e0] at h1;have go:∀(n:Nat) (cs:List CV),aQ w 1 R cs n→aQ w 1 [eU kk] cs n:=by
         intro n
         induction n with
         | zero=>intro cs h; exact h
         | succ n ih=>intro cs h; exact ⟨h.1,eQ sw.fa _ _ g8 _ h.2.1,ih _ h.2.2⟩
        exact go _ _ h1
       have hone:aM new=true:=jx (R:=[eU kk]) rfl (hNT v s0);refine fin new (by omega) hNT _ rfl (h.put (v.b b') (.cells (splice cs0 off new) false)) (fun u hu=>.inl (by rw [hu])) ?_;rw [hr,hcells,ha v s0];simp only [den,hi0 v s0,gN,d9,d8,hcs0];rw [aH (by simp only [aT,dT]; exact ⟨by omega,hone⟩)]
     ·cases hs
    ·cases hs
   ·cases hs
 ·cases hs
end
end
end Ce.S
namespace Ce.S
noncomputable section
open Go
section
variable {X:Cx} {v:V} {st:St} {env:List CV} {h:H}
def qHN(st:St)(k bytes:Nat)(s x:AV):Option (List (AV × St)) :=
 match s,xf st k x with
 | .slc k' b off i len cap,some (R,xl)=>match ai b st.bl,hiC st.fa xl with
  | some (.blk _ (.cells l) _),some hi =>
   if k'=k∧i.s=0∧i.c=0∧len.s=0∧len.c=0∧cap.s=0∧cap.c=0∧off≤l.length∧leL st.fa ⟨0,1⟩ xl 0=true∧hO R=true∧0 < k∧hi.toNat*(bytes+1)≤2 ^ 40 then
    some [(.vec k st.n xl,{ st with n:=st.n+1,bl:=.blk st.n (.rows k R xl) false::st.bl })] else none
  | _,_=>none
 | _,_=>none
theorem qPU(s:Sat X v st env h){k bytes:Nat}{a x:AV}{outs:List (AV × St)}(hs:qHN st k bytes a x=some outs){ca cx:CV}{r:Option (CV × H)}(hr:r=appV k bytes ca cx h)(ha:∀w,Sat0 X w st env h→ca=den w a)(hx:∀w,Sat0 X w st env h→cx=den w x):ae X v st env outs r:=by
 have s0:=s.now;unfold qHN at hs;split at hs<;>(try (cases hs; done));rename_i k' b off i len cap R xl hsrc;obtain ⟨m,hm,hxl,hRk,hnew⟩:=oy s hsrc hx;split at hs<;>(try (cases hs; done));rename_i b' l ro hi hb hhi;split at hs
 ·rename_i hg;obtain ⟨rfl,g1,g2,g3,g4,g5,g6,g7,g8,g9,g10,g11⟩:=hg;simp only [sI] at hs; subst hs;have hkey:=(s0.blk hb).2;simp only [dF] at hkey; subst hkey;have h8:=aE s0.fa g8;have hup:=eF s0.z s0.fa hhi;have hmv:=hxl v s0;have hm1:1≤m:=by simp only [Lin.ev,s0.z] at h8 hmv; omega
  have hsz:m*(bytes+1)≤2 ^ 40:=cz (dA _ (by omega)) g11;obtain ⟨new,hcells,hrows⟩:=hnew m (aV _) (by omega);have hone:aM new=true:=jx g9 (hrows v s0);obtain ⟨cs0,hcs0,ho0⟩:=(s0.blk hb).1;simp only [cR] at ho0;have hcl:cs0.length=l.length:=by rw [ho0,aq]
  have hca:ca=.slc k' (v.b b') off 0 (some 0):=by
   rw [ha v s0];have e1:i.ev v=0:=by simp only [Lin.ev,g1,g2,s0.z]; omega
   have e2:len.ev v=0:=by simp only [Lin.ev,g3,g4,s0.z]; omega
   have e3:cap.ev v=0:=by simp only [Lin.ev,g5,g6,s0.z]; omega
   simp only [den,e1,e2,e3,gN,d9,d8]
  refine ae.mk' (w:=upB v st.n h.n) (c:=.slc k' h.n 0 m none) (h':=h.push (.cells new false)) mS (bg _ _ _ _ _ _) (dZ _) rfl s.pos ?_ (fun u hu=>?_)
  ·rw [hr,hca];have hlo:lenOf (CV.slc k' (v.b b') off 0 (some 0))=some 0:=rfl;simp only [appV,hlo,hm,dg,aC (show ¬m=0 by omega),aC (show ¬m*(bytes+1)>2 ^ 46 by omega),hcells,hone,nI,bX,dY,jk,hcs0];rw [aC (by omega)];simp only [d9,cut?,d8];rw [aH (by omega)];simp only [List.take_zero,eX]
  ·obtain ⟨hau,_,_,hbu,_⟩:=bQ hu;have su:=s.all u hau;have hxu:=hxl u su;refine ⟨(su.wk' (st.n+1)).push (q:=.blk st.n (.rows k' R xl) false) (blk:=.cells new false) (by simp only [adr,hbu]) ⟨new,by rw [hbu,eM,aH rfl],g10,hRk,by rw [hxu]; omega,by rw [hxu,fS]; exact hrows u su⟩,?_⟩;simp only [den];rw [aC (by omega),hxu,hbu,fS]
 ·cases hs
def mN(R:List Ty):Nat→List Ty
 | 0=>[]
 | n+1=>R++mN R n
theorem tY{w:V}:∀{A B:List Ty} {a b:List CV},a8 w A a→a8 w B b→a8 w (A++B) (a++b)
 | [],B,a,b,h1,h2=>by have:a=[]:=h1; subst this; exact h2
 | T::A,B,a,b,h1,h2=>by
  obtain ⟨c,cs,rfl,h3,h4⟩:=h1;exact ⟨c,cs++b,rfl,h3,tY h4 h2⟩
theorem pp{w:V}{k:Nat}{R:List Ty}:∀(n:Nat) (cs:List CV),aQ w k R cs n→a8 w (mN R n) cs
 | 0,cs,h=>h
 | n+1,cs,⟨h1,h2,h3⟩=>by
  have:=tY h2 (pp n _ h3)
  rwa [List.take_append_drop] at this
def qML(st:St)(k:Nat)(R:List Ty)(xl:Lin)(m:Nat):AV × St :=
 (.vec k st.n xl,{ st with n:=(bS (st.n+1) (mN R m)).2.2,fa:=[.dc xl.s 0 (m - xl.c),.dc 0 xl.s (xl.c - m)]++((bS (st.n+1) (mN R m)).2.1++st.fa),bl:=.blk st.n (.cells (bS (st.n+1) (mN R m)).1) false::st.bl })
def yn(st:St)(k:Nat)(R:List Ty)(xl:Lin):Nat→List (AV × St)
 | 0=>[]
 | m+1=>qML st k R xl (m+1)::yn st k R xl m
theorem rK{st:St}{k:Nat}{R:List Ty}{xl:Lin}:∀{n m:Nat},1≤m→m≤n→qML st k R xl m∈yn st k R xl n
 | 0,m,h1,h2=>by omega
 | n+1,m,h1,h2=>by
  by_cases h:m=n+1
  ·subst h; exact mS
  ·exact mC _ (rK h1 (by omega))
def qHM(st:St)(k bytes:Nat)(s x:AV):Option (List (AV × St)) :=
 match s,xf st k x with
 | .slc k' b off i len cap,some (R,xl)=>match ai b st.bl,hiC st.fa xl with
  | some (.blk _ (.cells l) _),some hi =>
   if k'=k∧i.s=0∧i.c=0∧len.s=0∧len.c=0∧cap.s=0∧cap.c=0∧off≤l.length∧leL st.fa ⟨0,1⟩ xl 0=true∧hO R=true∧2≤k∧hi.toNat≤4∧hi.toNat*(bytes+1)≤2 ^ 40 then
    some (yn st k R xl hi.toNat) else none
  | _,_=>none
 | _,_=>none
theorem qPT(s:Sat X v st env h){k bytes:Nat}{a x:AV}{outs:List (AV × St)}(hs:qHM st k bytes a x=some outs){ca cx:CV}{r:Option (CV × H)}(hr:r=appV k bytes ca cx h)(ha:∀w,Sat0 X w st env h→ca=den w a)(hx:∀w,Sat0 X w st env h→cx=den w x):ae X v st env outs r:=by
 have s0:=s.now;unfold qHM at hs;split at hs<;>(try (cases hs; done));rename_i k' b off i len cap R xl hsrc;obtain ⟨m,hm,hxl,hRk,hnew⟩:=oy s hsrc hx;split at hs<;>(try (cases hs; done));rename_i b' l ro hi hb hhi;split at hs
 ·rename_i hg;obtain ⟨rfl,g1,g2,g3,g4,g5,g6,g7,g8,g9,g10,g12,g11⟩:=hg;simp only [sI] at hs; subst hs;have hkey:=(s0.blk hb).2;simp only [dF] at hkey; subst hkey;have h8:=aE s0.fa g8;have hup:=eF s0.z s0.fa hhi;have hmv:=hxl v s0;have hm1:1≤m:=by simp only [Lin.ev,s0.z] at h8 hmv; omega
  have hmh:m≤hi.toNat:=by omega
  have hsz:m*(bytes+1)≤2 ^ 40:=cz (dA _ hmh) g11;obtain ⟨new,hcells,hrows⟩:=hnew m (aV _) (by omega);have hone:aM new=true:=jx g9 (hrows v s0);obtain ⟨cs0,hcs0,ho0⟩:=(s0.blk hb).1;simp only [cR] at ho0;have hcl:cs0.length=l.length:=by rw [ho0,aq]
  have hca:ca=.slc k' (v.b b') off 0 (some 0):=by
   rw [ha v s0];have e1:i.ev v=0:=by simp only [Lin.ev,g1,g2,s0.z]; omega
   have e2:len.ev v=0:=by simp only [Lin.ev,g3,g4,s0.z]; omega
   have e3:cap.ev v=0:=by simp only [Lin.ev,g5,g6,s0.z]; omega
   simp only [den,e1,e2,e3,gN,d9,d8]
  have hup0:∀w,Agr (st.n+1) (upB v st.n h.n) w→Sat0 X w st env h∧w.b st.n=h.n:=fun w hw=>by
   obtain ⟨hau,_,_,hbu,_⟩:=bQ hw;exact ⟨s.all w hau,hbu⟩
  obtain ⟨hle,w,hw,hall⟩:=i4 (mN R m) (st.n+1) (upB v st.n h.n) new (fun w hw=>pp m new (hrows w (hup0 w hw).1));refine ae.mk' (w:=w) (c:=.slc k' h.n 0 m none) (h':=h.push (.cells new false)) (rK hm1 hmh) ((bg _ _ _ _ _ _).trans hw (by omega)) (by show st.n≤(bS (st.n+1) (mN R m)).2.2; omega) rfl s.pos ?_ (fun u hu=>?_)
  ·rw [hr,hca];have hlo:lenOf (CV.slc k' (v.b b') off 0 (some 0))=some 0:=rfl;simp only [appV,hlo,hm,dg,aC (show ¬m=0 by omega),aC (show ¬m*(bytes+1)>2 ^ 46 by omega),hcells,hone,nI,bX,dY,jk,hcs0];rw [aC (by omega)];simp only [d9,cut?,d8];rw [aH (by omega)];simp only [List.take_zero,eX]
  ·have hu1:Agr (bS (st.n+1) (mN R m)).2.2 w u:=hu;obtain ⟨hd,hfs⟩:=hall u hu1;obtain ⟨su,hbu⟩:=hup0 u (hw.trans hu1 hle);have hxu:=hxl u su;have hz:=su.z;have h1:=su.push (q:=.blk st.n (.cells (bS (st.n+1) (mN R m)).1) false) (blk:=.cells new false) (by simp only [adr,hbu]) ⟨new,by rw [hbu,eM,aH rfl],hd.symm⟩;refine ⟨⟨h1.z,h1.env,fun f hf=>?_,h1.bl,h1.nd,h1.lt,h1.hn,h1.fr⟩,?_⟩
   ·rcases bP.1 hf with hf | hf
    ·simp only [aS,bz,br] at hf;simp only [Lin.ev] at hxu;rcases hf with rfl | rfl<;>simp only [FOK]<;>omega
    ·rcases bP.1 hf with hf | hf
     ·exact hfs f hf
     ·exact su.fa f hf
   ·simp only [qML,den];rw [aC (by omega),hxu,hbu,fS]
 ·cases hs
def kA(st1:St)(b off k:Nat)(t:Lin):Nat→Nat→List (AV × St)
 | _,0=>[]
 | j,c+1=>if lh st1.fa t j then kA st1 b off k t (j+1) c else (.ptr b (off+j*k),{ st1 with fa:=[.dc t.s 0 (j - t.c),.dc 0 t.s (t.c - j)]++st1.fa })::kA st1 b off k t (j+1) c
theorem jX{st1:St}{b off k:Nat}{t:Lin}:∀{c j0 j:Nat},j0≤j→j < j0+c→lh st1.fa t j=false→(AV.ptr b (off+j*k),({ st1 with fa:=[.dc t.s 0 (j - t.c),.dc 0 t.s (t.c - j)]++st1.fa }:St))∈kA st1 b off k t j0 c
 | 0,j0,j,h1,h2,_=>by omega
 | c+1,j0,j,h1,h2,hb=>by
  simp only [kA];by_cases h:j=j0
  ·subst h; simp only [hb,bj,bX]; exact mS
  ·split
   ·exact jX (by omega) (by omega) hb
   ·exact mC _ (jX (by omega) (by omega) hb)
def qQU(st:St)(b:Nat):Bool:=match ai b st.bl with
 | some (.blk _ (.cells _) _)=>true
 | _=>false
def iB(m:Int)(q:Nat):AV × St→List (AV × St)
 | (.iptr b off k t,st1)=>match hiC st1.fa t with
  | some hi=>if leL st1.fa ⟨0,0⟩ t 0=true∧hi≤m∧qQU st1 b=true∧q≤k∧0 < k then kA st1 b off k t 0 (hi.toNat+1) else [(.iptr b off k t,st1)]
  | none=>[(.iptr b off k t,st1)]
 | o=>[o]
theorem iV{m:Int}{q:Nat}{outs:List (AV × St)}{r:Option (CV × H)}(p:ae X v st env outs r):ae X v st env (outs.flatMap (iB m q)) r:=by
 obtain ⟨o,ho,w,hw,hn,he,c,h',hr,sat,hd⟩:=p;have keep:o∈iB m q o→ae X v st env (outs.flatMap (iB m q)) r:=fun hm=>⟨o,eg.2 ⟨o,ho,hm⟩,w,hw,hn,he,c,h',hr,sat,hd⟩
 obtain ⟨a,st1⟩:=o;cases a<;>try exact keep mS
 rename_i b off k t;simp only [iB] at keep;split at keep
 ·rename_i hi hhi;split at keep
  ·rename_i hg;obtain ⟨g1,g2,g3,g4',g4⟩:=hg;have s0:=sat.now;have z:=s0.z;have h1:=aE s0.fa g1;have h2:=eF z s0.fa hhi;have h0:0≤t.ev w:=by simp only [Lin.ev,z] at h1 ⊢; omega
   have hbad:lh st1.fa t (t.ev w).toNat=false:=by
    cases hb:lh st1.fa t (t.ev w).toNat with
    | false=>rfl
    | true =>
     simp only [lh,bU] at hb;rcases hb with hb | hb<;>(have:=aE s0.fa hb; simp only [Lin.ev,z] at this h0; omega)
   have hm:=jX (st1:=st1) (b:=b) (off:=off) (k:=k) (t:=t) (c:=hi.toNat+1) (j0:=0) (j:=(t.ev w).toNat) (by omega) (by omega) hbad;have hsame:∀u,Agr st1.n w u→t.ev u=t.ev w:=fun u hu=>by
    have e1:=hd u hu;have e2:=hd w (Agr.refl _ _);rw [←e2] at e1;simp only [den,CV.ptr.injEq] at e1;have su:=sat.all u hu;have h3:=aE su.fa g1;simp only [Lin.ev,su.z,z] at h3 h1;have hk:(t.ev u).toNat*k=(t.ev w).toNat*k:=by omega
    have hk':=Nat.eq_of_mul_eq_mul_right (show 0 < k by omega) hk;simp only [Lin.ev] at hk' ⊢; omega
   refine ⟨(AV.ptr b (off+(t.ev w).toNat*k),({ st1 with fa:=[.dc t.s 0 ((t.ev w).toNat - t.c),.dc 0 t.s (t.c - (t.ev w).toNat)]++st1.fa }:St)),eg.2 ⟨_,ho,?_⟩,w,hw,hn,he,c,h',hr,⟨sat.pos,fun u hu=>?_⟩,fun u hu=>?_⟩
   ·simp only [iB,hhi];rw [aH ⟨g1,g2,g3,g4',g4⟩];exact hm
   ·have su:=sat.all u hu;refine ⟨su.z,su.env,fun f hf=>?_,su.bl,su.nd,su.lt,su.hn,su.fr⟩;rcases bP.1 hf with hf | hf
    ·have hsm:=hsame u hu;have hz:=su.z;simp only [aS,bz,br] at hf;simp only [Lin.ev] at hsm h0;rcases hf with rfl | rfl<;>simp only [FOK]<;>(simp only [Lin.ev]; omega)
    ·exact su.fa f hf
   ·have e1:=hd u hu;rw [←e1];simp only [den,hsame u hu]
  ·exact keep mS
 ·exact keep mS
end
end
end Ce.S
namespace Ce.S
noncomputable section
open Go
section
variable {X:Cx} {v:V} {st:St} {env:List CV} {h:H}
def qQG(f:St→Option (List (Bool × St))):List St→Option (List (Bool × St))
 | []=>some []
 | s::ss=>match f s,qQG f ss with
  | some a,some b=>some (a++b)
  | _,_=>none
theorem vp{f:St→Option (List (Bool × St))}:∀{l:List St} {r:List (Bool × St)},qQG f l=some r→∀s,s∈l→∃a,f s=some a∧∀x,x∈a→x∈r
 | [],r,h,s,hs=>by cases hs
 | t::l,r,h,s,hs=>by
  simp only [qQG] at h;split at h
  ·rename_i a b ha hb;simp only [sI] at h; subst h;rcases aS.1 hs with rfl | hs
   ·exact ⟨a,ha,fun x hx=>ig _ hx⟩
   ·obtain ⟨c,hc,hm⟩:=vp hb s hs;exact ⟨c,hc,fun x hx=>fF _ (hm x hx)⟩
  ·cases h
def eqS:List AV→List AV→St→Option (List (Bool × St))
 | [],[],st=>some [(true,st)]
 | .int k s c::as,.int k' s' c'::bs,st=>if k=k' then match wa st (qDH st.fa false s s' (c' - c)) with
   | some (T,F)=>match qQG (eqS as bs) T with
    | some r=>some (F.map (fun x=>(false,x))++r)
    | none=>none
   | none=>none
  else none
 | _,_,_=>none
theorem qLJ:∀{as bs:List AV} {A B:List CV} {st:St} {outs:List (Bool × St)},eqS as bs st=some outs→Sat X v st env h →
  (∀(st2:St) (u:V),st2.env=st.env→Sat0 X u st2 env h→A=aF u as∧B=aF u bs) →
  ∃b st',(b,st')∈outs∧Sat X v st' env h∧st'.n=st.n∧st'.env=st.env∧cr A B=some b
 | [],[],A,B,st,outs,ho,s,hp=>by
  simp only [eqS,sI] at ho; subst ho;obtain ⟨rfl,rfl⟩:=hp st v rfl s.now;exact ⟨true,st,mS,s,rfl,rfl,rfl⟩
 | .int k sa c::as,.int k' sb c'::bs,A,B,st,outs,ho,s,hp=>by
  simp only [eqS] at ho;split at ho
  ·rename_i hk; subst hk;split at ho
   ·rename_i T F hc;split at ho
    ·rename_i r hr;simp only [sI] at ho; subst ho;have e0:=hp st v rfl s.now;have hcv:∀u,Sat0 X u st env h→CV.bool ((v.i sa+c)==(v.i sb+c'))=den u (qDH st.fa false sa sb (c' - c)):=fun u su=>by
      have e1:=hp st u rfl su;rw [e0.1,e0.2] at e1;simp only [aF,iJ,den,CV.int.injEq,cQ] at e1;rw [qL su.fa,e1.1.1,e1.2.1];have e:(u.i sa+c==u.i sb+c')=decide (u.i sa - u.i sb=c' - c):=by
       rw [Bool.eq_iff_iff,aZ,dT]; omega
      rw [e];cases decide (u.i sa - u.i sb=c' - c)<;>rfl
     obtain ⟨b,hb,st',hm,s',hn,he⟩:=qv s hc hcv;have hb2:(v.i sa+c==v.i sb+c')=b:=by simpa using hb
     have hev:cr A B=if b then cr (aF v as) (aF v bs) else some false:=by
      rw [e0.1,e0.2,←hb2];simp only [aF,den,cr,eqv,ac];cases (v.i sa+c==v.i sb+c')<;>rfl
     clear hb hb2;cases b with
     | false =>
      simp only [bj,bX] at hm;exact ⟨false,st',ig _ (cI.2 ⟨st',hm,rfl⟩),s',hn,he,hev⟩
     | true =>
      simp only [ac] at hm;obtain ⟨a,ha,hsub⟩:=vp hr st' hm;obtain ⟨b2,st2,hm2,s2,hn2,he2,hv2⟩:=qLJ (A:=aF v as) (B:=aF v bs) ha s' (fun st3 u h3 su=>by
       have e1:=hp st3 u (h3.trans he) su;rw [e0.1,e0.2] at e1;simp only [aF,iJ] at e1;exact ⟨e1.1.2,e1.2.2⟩)
      exact ⟨b2,st2,fF _ (hsub _ hm2),s2,hn2.trans hn,he2.trans he,hev.trans hv2⟩
    ·cases ho
   ·cases ho
  ·cases ho
 | [],_::_,_,_,_,_,ho,_,_=>by simp [eqS] at ho
def sEqA(neg:Bool)(e:EqK)(a b:AV)(st:St):Option (List (AV × St)) :=
 match e,a,b with
 | .leaf true ls,.agg la,.agg lb =>
  if Nat.ble la.length 3&&!(eqA st.fa a b) then
   match qX st.fa a,qX st.fa b,eqS la lb st with
   | some (_,ks1),some (_,ks2),some r=>if ks1=ks2∧ks1.map LK.lf=ls then some (r.map fun x=>(.bool (if neg then !x.1 else x.1),x.2)) else none
   | _,_,_=>sEq neg e a b st
  else sEq neg e a b st
 | _,_,_=>sEq neg e a b st
theorem qPI(s:Sat X v st env h){neg:Bool}{e:EqK}{a b:AV}{outs:List (AV × St)}(hs:sEqA neg e a b st=some outs){x y:CV}{r:Option (CV × H)}(hx:∀(st2:St) (w:V),st2.env=st.env→Sat0 X w st2 env h→x=den w a)(hy:∀(st2:St) (w:V),st2.env=st.env→Sat0 X w st2 env h→y=den w b)(hr:r=match eqK e x y with
  | some b=>some (.bool (if neg then !b else b),h)
  | none=>none):ae X v st env outs r:=by
 have base:sEq neg e a b st=some outs→ae X v st env outs r:=fun h1=>sEq_ok s h1 (fun w sw=>hx st w rfl sw) (fun w sw=>hy st w rfl sw) hr
 unfold sEqA at hs;split at hs
 ·rename_i ls la lb;split at hs
  ·split at hs
   ·rename_i a1 ks1 a2 ks2 r1 h1 h2 h3;split at hs
    ·rename_i hc;obtain ⟨rfl,rfl⟩:=hc;simp only [sI] at hs; subst hs;have s0:=s.now;have k1:=i3 s0.fa h1;have k2:=i3 s0.fa h2;have ag1:a1=true:=by
      simp only [qX,ez,pI] at h1;obtain ⟨_,_,q,_⟩:=h1;exact q.symm
     have ag2:a2=true:=by
      simp only [qX,ez,pI] at h2;obtain ⟨_,_,q,_⟩:=h2;exact q.symm
     subst ag1; subst ag2;obtain ⟨bb,st',hm,s',hn,he,hv⟩:=qLJ (A:=aF v la) (B:=aF v lb) h3 s (fun st2 u hu su=>by
      have e1:=hx st2 u hu su;have e2:=hy st2 u hu su;rw [hx st v rfl s0] at e1;rw [hy st v rfl s0] at e2;simp only [den,CV.agg.injEq] at e1 e2;exact ⟨e1,e2⟩)
     obtain ⟨b',hb'⟩:=nr k1 k2;have hbb:b'=bb:=by
      have this:=hb';unfold eqF at this;have e2:cr (den v (.agg la)).cells (den v (.agg lb)).cells=cr (aF v la) (aF v lb):=by simp only [den,CV.cells]
      split at this
      ·rw [e2,hv,sI] at this; exact this.symm
      ·cases this
     refine ⟨_,cI.2 ⟨(bb,st'),hm,rfl⟩,v,Agr.refl _ _,by rw [hn]; exact aV _,he,.bool (if neg then !bb else bb),h,?_,s',fun u hu=>rfl⟩;rw [hr,hx st v rfl s0,hy st v rfl s0];simp only [eqK,gg k1,ac,hb',hbb]
    ·cases hs
   ·exact base hs
  ·exact base hs
 ·exact base hs
end
end
end Ce.S
