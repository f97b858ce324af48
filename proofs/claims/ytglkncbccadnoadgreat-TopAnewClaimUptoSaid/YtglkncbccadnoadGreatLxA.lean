/- A part of a proof. -/
import Derived.Test.YtglkncbccadnoadGreatSxB
import Derived.ChangeArms
import Derived.ChangeOld
import Derived.ChangeSlices
import Derived.KernelRfl
import Derived.RowKit3
set_option linter.unusedVariables false
set_option linter.unusedSimpArgs false
set_option maxRecDepth 1000000
namespace Ce.L
open Go
def TB(P:Program)(f:Nat)(F:IF):Prop :=
 ∃fn cd,P.funcs[f]?=some fn∧fn.body=some cd∧(fn.name == "runtime.NumGoroutine")=false∧cY P cd=some F.body∧ot P fn.results.toList=some F.res∧F.ntmps=fn.ntmps
theorem aP{P:Program}{f:Nat}{fn:Func}{F:IF}(hf:P.funcs[f]?=some fn)(hn:(fn.name == "runtime.NumGoroutine")=false)(hc:qM9 P f=some { F with mode:=0 }):TB P f F :=
 let ⟨fn,cd,h1,h2,h3,h4,h5,h6,_⟩:=qIZ P (fun _=>0) (fun _ h=>by cases h) f { F with mode:=0 } (by unfold qJ0; rw [hf]; dsimp only; rw [hn,hc]; rfl)
 ⟨fn,cd,h1,h2,h3,h4,h5,h6⟩
def qGA(Q:Nat→IF→Prop):Tr IF→(Nat→Nat)→Prop
 | .nil,_=>True
 | .node l v r,n=>(∀F,v=some F→Q (n 0) F)∧qGA Q l (fun k=>n (2*k+1))∧qGA Q r (fun k=>n (2*k+2))
theorem nB{Q:Nat→IF→Prop}:∀{t:Tr IF} {n:Nat→Nat},qGA Q t n→∀f F,t.get f=some F→Q (n f) F
 | .nil,_,_,f,F,h=>by cases h
 | .node l v r,n,⟨h1,h2,h3⟩,f,F,h=>by
  simp only [Tr.get] at h;split at h
  ·rename_i h0; subst h0; exact h1 F h
  ·split at h
   ·have:=nB h2 (f / 2) F h;have e:2*(f / 2)+1=f:=by omega
    rwa [e] at this
   ·have:=nB h3 (f / 2 - 1) F h;have e:2*(f / 2 - 1)+2=f:=by omega
    rwa [e] at this
theorem qZM{P:Program}(t:Tr IF)(n:Nat→Nat)(hn:∀f,n f=f)(h:qGA (TB P) t n)(h3:qGA (fun f F=>F.mode=3→oi P f) t n):xS P t.get:=fun f F hf=>by
 have h1:=nB h f F hf;have h2:=nB h3 f F hf;rw [hn] at h1 h2;obtain ⟨fn,cd,a,b,c,d,e,g⟩:=h1;exact ⟨fn,cd,a,b,c,d,e,g,h2⟩
def m3:Tr IF→(Nat→Nat)→List Nat
 | .nil,_=>[]
 | .node l v r,n=>(match v with
  | some F=>if Nat.beq F.mode 3 then [n 0] else []
  | none=>[])++(m3 l (fun k=>n (2*k+1))++m3 r (fun k=>n (2*k+2)))
theorem m3ok{P:Program}:∀(t:Tr IF) (n:Nat→Nat),(∀f,f∈m3 t n→oi P f)→qGA (fun f F=>F.mode=3→oi P f) t n
 | .nil,_,_=>trivial
 | .node l v r,n,h=>by
  refine ⟨fun F hF h3=>?_,m3ok l _ fun f hf=>h f ?_,m3ok r _ fun f hf=>h f ?_⟩
  ·subst hF;have h4:Nat.beq F.mode 3=true:=by rw [h3]; rfl
   exact h _ (by simp [m3,h4])
  ·simp only [m3,bP]; exact .inr (.inl hf)
  ·simp only [m3,bP]; exact .inr (.inr hf)
end Ce.L
namespace Ce.L
open Go
abbrev Lg:=List CV × List CV
def Lg.cat(a b:Lg):Lg:=(a.1++b.1,a.2++b.2)
def Lg.len(a:Lg):Nat:=a.1.length+a.2.length
def Lg.nil:Lg:=([],[])
theorem Lg.cat_nil(a:Lg):a.cat Lg.nil=a:=by simp [Lg.cat,Lg.nil]
theorem Lg.nil_cat(a:Lg):Lg.nil.cat a=a:=by simp [Lg.cat,Lg.nil]
theorem Lg.cat_assoc(a b c:Lg):(a.cat b).cat c=a.cat (b.cat c):=by simp [Lg.cat]
theorem Lg.len_cat(a b:Lg):(a.cat b).len=a.len+b.len:=by simp [Lg.cat,Lg.len]; omega
theorem Lg.len_nil:Lg.nil.len=0:=rfl
structure LgB (d:Lg) (B:Nat):Prop where
 len:d.len≤B
 i:∀c,c∈d.1→∃k n,c=.int k n
 s:∀c,c∈d.2→∃b,c=.str b
theorem LgB.nil:LgB Lg.nil 0:=⟨aV _,(fun _ h=>by cases h),(fun _ h=>by cases h)⟩
theorem LgB.mono{d:Lg}{B C:Nat}(x:LgB d B)(h:B≤C):LgB d C:=⟨cz x.len h,x.i,x.s⟩
theorem LgB.cat{d e:Lg}{B C:Nat}(x:LgB d B)(y:LgB e C):LgB (d.cat e) (B+C):=by
 refine ⟨by rw [Lg.len_cat]; have:=x.len; have:=y.len; omega,fun c hc=>?_,fun c hc=>?_⟩
 ·rcases bP.1 hc with hc | hc
  ·exact x.i c hc
  ·exact y.i c hc
 ·rcases bP.1 hc with hc | hc
  ·exact x.s c hc
  ·exact y.s c hc
abbrev Pr:=Nat→Prop
structure Fr (P:Pr) (h h':H):Prop where
 n:h.n≤h'.n
 eq:∀i,P i→h'.get i=h.get i
theorem Fr.refl(P:Pr)(h:H):Fr P h h:=⟨aV _,fun _ _=>rfl⟩
theorem Fr.trans{P:Pr}{a b c:H}(x:Fr P a b)(y:Fr P b c):Fr P a c:=⟨cz x.n y.n,fun i hi=>(y.eq i hi).trans (x.eq i hi)⟩
theorem Fr.mono{P Q:Pr}{a b:H}(x:Fr P a b)(h:∀i,Q i→P i):Fr Q a b:=⟨x.n,fun i hi=>x.eq i (h i hi)⟩
inductive Acc (P:Pr) (h:H) (r:Nat):CV→List CV→Prop
 | nil:Acc P h r .nils []
 | slc (q n:Nat) (cs:List CV):n=cs.length→n≠0→h.get q=some (.cells cs false)→q < h.n→q≠r→¬P q→Acc P h r (.slc 1 q 0 n none) cs
def own:CV→List Nat
 | .slc _ q _ _ _=>[q]
 | _=>[]
structure HI (P:Pr) (h:H) (r:Nat) (L:Lg):Prop where
 pn:∀i,P i→i < h.n
 rn:r < h.n
 rP:¬P r
 blk:∃a b,h.get r=some (.cells [a,b] false)∧Acc P h r a L.1∧Acc P h r b L.2∧∀q,q∈own a→q∉own b
theorem Acc.mono{P Q:Pr}{h:H}{r:Nat}{a:CV}{cs:List CV}(x:Acc P h r a cs)(hq:∀i,Q i→P i):Acc Q h r a cs:=by
 cases x with
 | nil=>exact .nil
 | slc q n cs h1 h2 h3 h4 h5 h6=>exact .slc q n cs h1 h2 h3 h4 h5 fun c=>h6 (hq _ c)
theorem HI.mono{P Q:Pr}{h:H}{r:Nat}{L:Lg}(x:HI P h r L)(hq:∀i,Q i→P i):HI Q h r L:=by
 obtain ⟨a,b,h1,h2,h3,h4⟩:=x.blk;exact ⟨fun i hi=>x.pn i (hq i hi),x.rn,fun c=>x.rP (hq _ c),a,b,h1,h2.mono hq,h3.mono hq,h4⟩
theorem own_lt{P:Pr}{h:H}{r:Nat}{a:CV}{cs:List CV}(x:Acc P h r a cs):∀q,q∈own a→q < h.n∧q≠r∧¬P q:=by
 cases x with
 | nil=>intro q hq; cases hq
 | slc q n cs h1 h2 h3 h4 h5 h6=>intro q' hq; simp only [own,cM] at hq; subst hq; exact ⟨h4,h5,h6⟩
theorem Acc.keep{P Q:Pr}{h h':H}{r:Nat}{a:CV}{cs:List CV}(x:Acc P h r a cs)(hn:h.n≤h'.n)(he:∀q,q∈own a→h'.get q=h.get q)(hQ:∀q,q∈own a→¬Q q):Acc Q h' r a cs:=by
 cases x with
 | nil=>exact .nil
 | slc q n cs h1 h2 h3 h4 h5 h6=>exact .slc q n cs h1 h2 ((he q (by simp [own])).trans h3) (by omega) h5 (hQ q (by simp [own]))
def om(h:H)(r:Nat)(i:Nat):Prop:=i=r∨∃a b,h.get r=some (.cells [a,b] false)∧(i∈own a∨i∈own b)
theorem HI.own_lt{P:Pr}{h:H}{r:Nat}{L:Lg}(x:HI P h r L):∀i,om h r i→i < h.n∧¬P i:=by
 obtain ⟨a,b,h1,h2,h3,h4⟩:=x.blk;rintro i (rfl | ⟨a',b',e,hi⟩)
 ·exact ⟨x.rn,x.rP⟩
 ·rw [h1] at e;simp only [sI,Blk.cells.injEq,iJ,cZ] at e;obtain ⟨rfl,rfl⟩:=e;rcases hi with hi | hi
  ·have:=Ce.L.own_lt h2 i hi; exact ⟨this.1,this.2.2⟩
  ·have:=Ce.L.own_lt h3 i hi; exact ⟨this.1,this.2.2⟩
theorem HI.keep{P Q:Pr}{h h':H}{r:Nat}{L:Lg}(x:HI P h r L)(hn:h.n≤h'.n)(he:∀i,om h r i→h'.get i=h.get i)(hQ:∀i,Q i→i < h'.n∧¬om h r i):HI Q h' r L:=by
 obtain ⟨a,b,h1,h2,h3,h4⟩:=x.blk;refine ⟨fun i hi=>(hQ i hi).1,by have:=x.rn; omega,fun c=>(hQ r c).2 (.inl rfl),a,b,(he r (.inl rfl)).trans h1,?_,?_,h4⟩
 ·exact h2.keep hn (fun q hq=>he q (.inr ⟨a,b,h1,.inl hq⟩)) fun q hq c=>(hQ q c).2 (.inr ⟨a,b,h1,.inl hq⟩)
 ·exact h3.keep hn (fun q hq=>he q (.inr ⟨a,b,h1,.inr hq⟩)) fun q hq c=>(hQ q c).2 (.inr ⟨a,b,h1,.inr hq⟩)
theorem a9{h:H}{b:Blk}{i:Nat}(hi:i < h.n):(h.push b).get i=h.get i:=by
 simp only [H.push,H.get]; rw [aC (by omega)]
theorem bM{h:H}{b:Blk}:(h.push b).get h.n=some b:=by simp [H.push,H.get]
theorem ah{h:H}{b:Blk}{i j:Nat}(hi:i≠j):(h.put j b).get i=h.get i:=by
 simp only [H.put,H.get]; rw [aC hi]
theorem eT{h:H}{b:Blk}{j:Nat}:(h.put j b).get j=some b:=by simp [H.put,H.get]
@[simp] theorem lT{h:H}{b:Blk}:(h.push b).n=h.n+1:=rfl
@[simp] theorem put_n{h:H}{b:Blk}{j:Nat}:(h.put j b).n=h.n:=rfl
theorem qC8{P:Pr}{h:H}{r:Nat}{a:CV}{cs:List CV}(x:Acc P h r a cs)(hpn:∀i,P i→i < h.n)(hr:r < h.n)(v:CV)(bytes:Nat)(hv:v.one=true)(hsz:(cs.length+1)*(bytes+1)≤2 ^ 46) :
  ∃a' h',appV 1 bytes a (.slc 1 h.n 0 1 (some 1)) (h.push (.cells [v] false))=some (a',h')∧Acc P h' r a' (cs++[v])∧h.n≤h'.n∧(∀i,i < h.n→i∉own a→h'.get i=h.get i)∧(∀q,q∈own a'→h.n≤q):=by
 have hc:cellsOf 1 1 (h.push (.cells [v] false)) (.slc 1 h.n 0 1 (some 1))=some [v]:=by
  simp [cellsOf,bM,cut?]
 have ho:aM [v]=true:=by simp [aM,hv]
 cases x with
 | nil =>
  refine ⟨.slc 1 (h.n+1) 0 1 none,(h.push (.cells [v] false)).push (.cells [v] false),?_,?_,?_,?_,?_⟩
  ·simp only [appV,lenOf];rw [aC (by omega),aC (by simp at hsz; omega),hc];simp [ho]
  ·exact .slc _ _ _ rfl (by omega) bM (by simp) (by omega) (fun c=>by have:=hpn _ c; omega)
  ·simp; omega
  ·intro i hi _;rw [a9 (by simp; omega),a9 hi]
  ·intro q hq; simp only [own,cM] at hq; omega
 | slc q n cs h1 h2 h3 h4 h5 h6 =>
  subst h1;refine ⟨.slc 1 (h.n+1) 0 (cs.length+1) none,((h.push (.cells [v] false)).put q .dead).push (.cells (cs++[v]) false),?_,?_,?_,?_,?_⟩
  ·simp only [appV,lenOf];rw [aC (by omega),aC (by omega),hc];simp only [ho,a9 h4,h3];simp
  ·exact .slc _ _ _ (by simp) (by omega) (by simpa using bM (h:=(h.push (.cells [v] false)).put q .dead)) (by simp) (by omega) (fun c=>by have:=hpn _ c; omega)
  ·simp; omega
  ·intro i hi hq;simp only [own,cM] at hq;rw [a9 (by simp; omega),ah hq,a9 hi]
  ·intro q hq; simp only [own,cM] at hq; omega
end Ce.L
namespace Ce.L
open Go
inductive AV where
 | v (c:CV)
 | hp
 | bx (b off:Nat)
 | fs (k off len:Nat) (cap:Option Nat) (cs:List CV)
 | clo (f:Nat) (caps:List AV)
 | tup (l:List AV)
 | un
mutual
def R (P:Pr) (h:H) (r:Nat × Nat) (β:List Nat):AV→CV→Prop
 | .v c,x=>x=c
 | .hp,x=>x=.ptr r.1 0
 | .bx b off,x=>∃q,nth? β b=some q∧x=.ptr q off
 | .fs k off len cap cs,x=>∃q,x=.slc k q off len cap∧P q∧q∉β∧h.get q=some (.cells cs false)∧r.2≤q
 | .clo f caps,x=>∃xs,x=.clo f [] xs∧Rs P h r β caps xs
 | .tup l,x=>∃xs,x=.tup xs∧Rs P h r β l xs
 | .un,_=>True
def Rs (P:Pr) (h:H) (r:Nat × Nat) (β:List Nat):List AV→List CV→Prop
 | [],xs=>xs=[]
 | a::as,xs=>∃y ys,xs=y::ys∧R P h r β a y∧Rs P h r β as ys
end
theorem nth?_lt{α:Type}:∀{l:List α} {i:Nat} {a:α},nth? l i=some a→i < l.length
 | _::_,0,_,_=>by simp
 | _::l,i+1,a,h=>by have:=nth?_lt (l:=l) (i:=i) (a:=a) h; simp; omega
theorem nth?_mem{α:Type}:∀{l:List α} {i:Nat} {a:α},nth? l i=some a→a∈l
 | _::_,0,_,h=>by simp only [nth?,sI] at h; simp [h]
 | _::l,i+1,a,h=>by have:=nth?_mem (l:=l) (i:=i) (a:=a) h; simp [this]
theorem nth?_app{α:Type}:∀{l m:List α} {i:Nat} {a:α},nth? l i=some a→nth? (l++m) i=some a
 | _::_,_,0,_,h=>h
 | _::l,m,i+1,a,h=>nth?_app (l:=l) (m:=m) (i:=i) (a:=a) h
theorem nth?_last{α:Type}:∀{l:List α} {a:α},nth? (l++[a]) l.length=some a
 | [],_=>rfl
 | _::l,a=>nth?_last (l:=l) (a:=a)
theorem nth?_of_lt{α:Type}:∀{l:List α} {i:Nat},i < l.length→∃a,nth? l i=some a
 | a::_,0,_=>⟨a,rfl⟩
 | _::l,i+1,h=>nth?_of_lt (l:=l) (i:=i) (by simpa using h)
structure Ext (P:Pr) (h:H) (β:List Nat) (P':Pr) (h':H) (β':List Nat):Prop where
 p:∀i,P i→P' i
 g:∀i,P i→h'.get i=h.get i
 b:∃l,β'=β++l∧∀i,i∈l→¬P i
mutual
theorem R.ext {P P':Pr} {h h':H} {r:Nat × Nat} {β β':List Nat} (x:Ext P h β P' h' β'):∀(a:AV) (c:CV),R P h r β a c→R P' h' r β' a c
 | .v _,_,hr=>hr
 | .hp,_,hr=>hr
 | .bx b off,c,⟨q,h1,h2⟩=>by obtain ⟨l,rfl,_⟩:=x.b; exact ⟨q,nth?_app h1,h2⟩
 | .fs k off len cap cs,c,⟨q,h1,h2,h3,h4,h5⟩=>by
  obtain ⟨l,rfl,hl⟩:=x.b;exact ⟨q,h1,x.p q h2,fun c=>by rcases bP.1 c with c | c<;>(first | exact h3 c | exact hl q c h2),(x.g q h2).trans h4,h5⟩
 | .clo f caps,c,⟨xs,h1,h2⟩=>⟨xs,h1,Rs.ext x caps xs h2⟩
 | .tup l,c,⟨xs,h1,h2⟩=>⟨xs,h1,Rs.ext x l xs h2⟩
 | .un,_,_=>trivial
theorem Rs.ext {P P':Pr} {h h':H} {r:Nat × Nat} {β β':List Nat} (x:Ext P h β P' h' β'):∀(a:List AV) (c:List CV),Rs P h r β a c→Rs P' h' r β' a c
 | [],_,hr=>hr
 | a::as,c,⟨y,ys,h1,h2,h3⟩=>⟨y,ys,h1,R.ext x a y h2,Rs.ext x as ys h3⟩
end
mutual
theorem R.weak {P:Pr} {h:H} {r n m:Nat} {β:List Nat} (hm:m≤n):∀(a:AV) (c:CV),R P h (r,n) β a c→R P h (r,m) β a c
 | .v _,_,hr=>hr
 | .hp,_,hr=>hr
 | .bx b off,c,hr=>hr
 | .fs k off len cap cs,c,⟨q,h1,h2,h3,h4,h5⟩=>⟨q,h1,h2,h3,h4,cz hm h5⟩
 | .clo f caps,c,⟨xs,h1,h2⟩=>⟨xs,h1,Rs.weak hm caps xs h2⟩
 | .tup l,c,⟨xs,h1,h2⟩=>⟨xs,h1,Rs.weak hm l xs h2⟩
 | .un,_,_=>trivial
theorem Rs.weak {P:Pr} {h:H} {r n m:Nat} {β:List Nat} (hm:m≤n):∀(a:List AV) (c:List CV),Rs P h (r,n) β a c→Rs P h (r,m) β a c
 | [],_,hr=>hr
 | a::as,c,⟨y,ys,h1,h2,h3⟩=>⟨y,ys,h1,R.weak hm a y h2,Rs.weak hm as ys h3⟩
end
theorem Rs.len{P:Pr}{h:H}{r:Nat × Nat}{β:List Nat}:∀{a:List AV} {c:List CV},Rs P h r β a c→a.length=c.length
 | [],_,hr=>by subst hr; rfl
 | _::_,_,⟨y,ys,h1,_,h3⟩=>by subst h1; simp [Rs.len h3]
theorem Rs.nth{P:Pr}{h:H}{r:Nat × Nat}{β:List Nat}:∀{a:List AV} {c:List CV} {i:Nat} {y:AV},Rs P h r β a c→nth? a i=some y→∃x,nth? c i=some x∧R P h r β y x
 | a::_,_,0,y,⟨z,ys,h1,h2,_⟩,h=>by subst h1; simp only [nth?,sI] at h; subst h; exact ⟨z,rfl,h2⟩
 | _::as,_,i+1,y,⟨z,ys,h1,_,h3⟩,h=>by subst h1; exact Rs.nth (a:=as) (i:=i) h3 h
theorem Rs.app{P:Pr}{h:H}{r:Nat × Nat}{β:List Nat}:∀{a b:List AV} {c d:List CV},Rs P h r β a c→Rs P h r β b d→Rs P h r β (a++b) (c++d)
 | [],_,_,_,h1,h2=>by cases h1; exact h2
 | _::_,_,_,_,⟨y,ys,h1,h2,h3⟩,h4=>by subst h1; exact ⟨y,ys++_,rfl,h2,Rs.app h3 h4⟩
def dm:List AV→Nat→AV
 | [],_=>.v undef
 | a::_,0=>a
 | _::l,n+1=>dm l n
def du:List AV→Nat→AV→List AV
 | [],_,_=>[]
 | _::l,0,v=>v::l
 | a::l,n+1,v=>a::du l n v
def eE(e:List AV)(d:Option Nat)(a:AV):List AV:=match d with
 | none=>e
 | some d=>du e d a
def au:Nat→List AV
 | 0=>[]
 | n+1=>.v undef::au n
def aev(e:List AV):Opd→AV
 | .t i=>dm e i
 | .c v=>.v v
def dq(e:List AV):List Opd→List AV
 | []=>[]
 | o::os=>aev e o::dq e os
section
variable {P:Pr} {h:H} {r:Nat × Nat} {β:List Nat}
theorem uR:∀{e:List AV} {c:List CV} (i:Nat),Rs P h r β e c→R P h r β (dm e i) (aR c i)
 | [],_,_,hr=>by cases hr; exact rfl
 | _::_,_,0,⟨y,ys,h1,h2,_⟩=>by subst h1; exact h2
 | _::e,_,i+1,⟨y,ys,h1,_,h3⟩=>by subst h1; exact uR i h3
theorem z5:∀{e:List AV} {c:List CV} (i:Nat) {a:AV} {x:CV},Rs P h r β e c→R P h r β a x→Rs P h r β (du e i a) (aL c i x)
 | [],_,_,_,_,hr,_=>by cases hr; exact rfl
 | _::_,_,0,a,x,⟨y,ys,h1,h2,h3⟩,hx=>by subst h1; exact ⟨x,ys,rfl,hx,h3⟩
 | _::e,_,i+1,a,x,⟨y,ys,h1,h2,h3⟩,hx=>by subst h1; exact ⟨y,_,rfl,h2,z5 i h3 hx⟩
theorem qQ1{e:List AV}{c:List CV}(d:Option Nat){a:AV}{x:CV}(h1:Rs P h r β e c)(h2:R P h r β a x):Rs P h r β (eE e d a) (put? c d x):=by
 cases d with
 | none=>exact h1
 | some d=>exact z5 d h1 h2
theorem nY:∀n,Rs P h r β (au n) (cB n)
 | 0=>rfl
 | n+1=>⟨undef,cB n,rfl,rfl,nY n⟩
theorem gK{e:List AV}{c:List CV}(h1:Rs P h r β e c)(o:Opd):R P h r β (aev e o) (o.ev c):=by
 cases o with
 | t i=>exact uR i h1
 | c v=>exact rfl
theorem pX{e:List AV}{c:List CV}(h1:Rs P h r β e c):∀(os:List Opd),Rs P h r β (dq e os) (evs c os)
 | []=>rfl
 | o::os=>⟨_,_,rfl,gK h1 o,pX h1 os⟩
end
def unV:List AV→Option (List CV)
 | []=>some []
 | .v c::l=>match unV l with
  | some cs=>some (c::cs)
  | none=>none
 | _=>none
theorem xW{P:Pr}{h:H}{r:Nat × Nat}{β:List Nat}:∀{l:List AV} {cs c:List CV},unV l=some cs→Rs P h r β l c→c=cs
 | [],cs,c,h1,h2=>by simp only [unV,sI] at h1; subst h1; exact h2
 | .v x::l,cs,c,h1,⟨y,ys,h2,h3,h4⟩=>by
  simp only [unV] at h1;split at h1
  ·rename_i cs' hc;simp only [sI] at h1; subst h1;rw [h2,xW hc h4];have:y=x:=h3;rw [this]
  ·cases h1
def vs:List CV→List AV
 | []=>[]
 | c::cs=>.v c::vs cs
theorem zU{P:Pr}{h:H}{r:Nat × Nat}{β:List Nat}:∀(cs:List CV),Rs P h r β (vs cs) cs
 | []=>rfl
 | c::cs=>⟨c,cs,rfl,rfl,zU cs⟩
def bB:AV→Option (List AV)
 | .v c=>some (vs c.cells)
 | .hp=>some [.hp]
 | .bx b o=>some [.bx b o]
 | .fs k off len cap cs=>some [.fs k off len cap cs]
 | .clo f cs=>some [.clo f cs]
 | _=>none
def oneA:List AV→Prop
 | []=>True
 | .v c::l=>c.one=true∧oneA l
 | _::l=>oneA l
theorem df(c:CV)(cs:List CV):aM (c::cs)=(c.one&&aM cs):=rfl
theorem oneA_ok{P:Pr}{h:H}{r:Nat × Nat}{β:List Nat}:∀{l:List AV} {c:List CV},(∀a,a∈l→(∃x,a=.v x)∨(∀x,R P h r β a x→x.one=true))→oneA l→Rs P h r β l c→aM c=true
 | [],c,_,_,h2=>by cases h2; rfl
 | a::l,c,hh,ho,⟨y,ys,h2,h3,h4⟩=>by
  subst h2;have ho':oneA l:=by cases a<;>first | exact ho.2 | exact ho
  have:=oneA_ok (fun a ha=>hh a (by simp [ha])) ho' h4;rw [df,this];rcases hh a (by simp) with ⟨x,rfl⟩ | hx
  ·have:y=x:=h3;subst this;simp [ho.1]
  ·simp [hx y h3]
theorem tV{P:Pr}{h:H}{r:Nat × Nat}{β:List Nat}{a:AV}{l:List AV}{x:CV}(ha:bB a=some l)(hx:R P h r β a x)(ho:oneA l):Rs P h r β l x.cells∧aM x.cells=true:=by
 have key:Rs P h r β l x.cells∧(∀a,a∈l→(∃x,a=.v x)∨(∀x,R P h r β a x→x.one=true)):=by
  cases a<;>simp only [bB,sI] at ha<;>try (cases ha; done)
  ·subst ha;have:x=_:=hx;subst this;refine ⟨zU _,?_⟩;generalize x.cells=cs
   induction cs with
   | nil=>intro a ha; cases ha
   | cons c cs ih=>intro a ha; rcases aS.1 ha with rfl | ha<;>(first | exact .inl ⟨_,rfl⟩ | exact ih a ha)
  ·subst ha;have:x=_:=hx;subst this;refine ⟨⟨_,_,rfl,rfl,rfl⟩,?_⟩;intro a ha; simp only [cM] at ha; subst ha;exact .inr fun x hx=>by have:x=_:=hx; subst this; rfl
  ·subst ha;obtain ⟨q,h1,rfl⟩:=hx;refine ⟨⟨_,_,rfl,⟨q,h1,rfl⟩,rfl⟩,?_⟩;intro a ha; simp only [cM] at ha; subst ha;exact .inr fun x hx=>by obtain ⟨q,_,rfl⟩:=hx; rfl
  ·subst ha;obtain ⟨q,rfl,h2⟩:=hx;refine ⟨⟨_,_,rfl,⟨q,rfl,h2⟩,rfl⟩,?_⟩;intro a ha; simp only [cM] at ha; subst ha;exact .inr fun x hx=>by obtain ⟨q,rfl,_⟩:=hx; rfl
  ·subst ha;obtain ⟨q,rfl,h2⟩:=hx;refine ⟨⟨_,_,rfl,⟨q,rfl,h2⟩,rfl⟩,?_⟩;intro a ha; simp only [cM] at ha; subst ha;exact .inr fun x hx=>by obtain ⟨q,rfl,_⟩:=hx; rfl
 exact ⟨key.1,oneA_ok key.2 ho key.1⟩
structure M where
 ro:Nat
 bx:List (List AV)
 log:Lg
 nd:Nat
def iP(P:Pr)(h:H)(r:Nat × Nat)(β:List Nat):List (List AV)→List Nat→Prop
 | [],bs=>bs=[]
 | l::ls,bs=>∃q qs,bs=q::qs∧(∃cs ro,h.get q=some (.cells cs ro)∧Rs P h r β l cs∧aM cs=true)∧iP P h r β ls qs
end Ce.L
namespace Ce.L
open Go
variable {tbl:Nat→Option IF}
def dM(tbl:Nat→Option IF)(f:Nat)(rest:List AV)(d:Lg)(B:Nat):Prop :=
 LgB d B∧∀P h r L β xs,Rs P h (r,0) β rest xs→HI P h r L→L.len+B≤2 ^ 41→Wf tbl (.fn f) (.ptr r 0::xs) h fun _ h'=>HI P h' r (L.cat d)∧Fr P h h'
inductive Rv where
 | v (c:CV)
 | s (k off len:Nat) (cap:Option Nat) (cs:List CV)
def dK:List Rv→H→List CV × H
 | [],h=>([],h)
 | .v c::rs,h=>(c::(dK rs h).1,(dK rs h).2)
 | .s k off len cap cs::rs,h=>(.slc k h.n off len cap::(dK rs (h.push (.cells cs false))).1,(dK rs (h.push (.cells cs false))).2)
def rvA:List Rv→List AV
 | []=>[]
 | .v c::rs=>.v c::rvA rs
 | .s k off len cap cs::rs=>.fs k off len cap cs::rvA rs
def r6(tbl:Nat→Option IF)(f:Nat)(args:List CV)(rs:List Rv):Prop :=
 ∀h,Wf tbl (.fn f) args h fun v h'=>v=one? (dK rs h).1∧h'=(dK rs h).2
theorem np:∀(rs:List Rv) (h:H),h.n≤(dK rs h).2.n
 | [],_=>aV _
 | .v c::rs,h=>np rs h
 | .s k off len cap cs::rs,h=>by have:=np rs (h.push (.cells cs false)); simp only [dK,lT] at *; omega
theorem gA:∀(rs:List Rv) (h:H) (i:Nat),i < h.n→(dK rs h).2.get i=h.get i
 | [],_,_,_=>rfl
 | .v c::rs,h,i,hi=>gA rs h i hi
 | .s k off len cap cs::rs,h,i,hi=>by
  simp only [dK];rw [gA rs (h.push (.cells cs false)) i (by simp; omega),a9 hi]
theorem uM{β:List Nat}{r m:Nat}:∀(rs:List Rv) (h:H) (n:Nat),n≤h.n→m≤n→(∀q,q∈β→q < n)→Rs (fun i=>n≤i∧i < (dK rs h).2.n) (dK rs h).2 (r,m) β (rvA rs) (dK rs h).1
 | [],_,_,_,_,_=>rfl
 | .v c::rs,h,n,hn,hm,hb=>⟨c,_,rfl,rfl,uM rs h n hn hm hb⟩
 | .s k off len cap cs::rs,h,n,hn,hm,hb=>by
  refine ⟨_,_,rfl,⟨h.n,rfl,⟨hn,?_⟩,fun c=>by have:=hb _ c; omega,?_,by show m≤h.n; omega⟩,uM rs (h.push (.cells cs false)) n (by simp; omega) hm hb⟩
  ·have:=np rs (h.push (.cells cs false)); simp only [dK,lT] at *; omega
  ·show (dK rs (h.push (.cells cs false))).2.get h.n=_
   rw [gA rs _ _ (by simp),bM]
def bh:List AV→AV
 | [a]=>a
 | l=>.tup l
theorem qIO{P:Pr}{h:H}{r:Nat × Nat}{β:List Nat}:∀{l:List AV} {c:List CV},Rs P h r β l c→R P h r β (bh l) (one? c)
 | [],_,hr=>by cases hr; exact ⟨[],rfl,rfl⟩
 | [a],_,⟨y,ys,h1,h2,h3⟩=>by subst h1; cases h3; exact h2
 | a::b::l,_,⟨y,ys,h1,h2,y',ys',h4,h5,h6⟩=>by subst h1; subst h4; exact ⟨_,rfl,_,_,rfl,h2,_,_,rfl,h5,h6⟩
structure Sim (P0 P:Pr) (h0 h:H) (r:Nat × Nat) (β:List Nat) (L0:Lg) (m:M):Prop where
 p0:∀i,P0 i→P i
 hn:r.2≤h.n
 hi:HI (fun i=>P i∨i∈β) h r.1 (L0.cat m.log)
 fr:Fr P0 h0 h
 bxs:iP P h r β m.bx β
 own:∀b q,nth? β b=some q→m.ro≤b→¬P q∧∃cs,h.get q=some (.cells cs false)
 nd:β.Nodup
 ll:m.bx.length=β.length
theorem iP.ext{P P':Pr}{h h':H}{r:Nat × Nat}{β β':List Nat}(x:Ext P h β P' h' β'):∀(l:List (List AV)) (bs:List Nat),(∀q,q∈bs→h'.get q=h.get q)→iP P h r β l bs→iP P' h' r β' l bs
 | [],_,_,hb=>hb
 | l::ls,bs,hq,⟨q,qs,h1,⟨cs,ro,h2,h3,h4⟩,h5⟩=>by
  subst h1;exact ⟨q,qs,rfl,⟨cs,ro,(hq q (by simp)).trans h2,Rs.ext x l cs h3,h4⟩,iP.ext x ls qs (fun q' hq'=>hq q' (by simp [hq'])) h5⟩
theorem iP.nth{P:Pr}{h:H}{r:Nat × Nat}{β:List Nat}:∀{l:List (List AV)} {bs:List Nat} {b q:Nat} {a:List AV},iP P h r β l bs→nth? bs b=some q→nth? l b=some a→∃cs ro,h.get q=some (.cells cs ro)∧Rs P h r β a cs∧aM cs=true
 | l::ls,bs,0,q,a,⟨q',qs,h1,h2,_⟩,hq,ha=>by
  subst h1;simp only [nth?,sI] at hq ha; subst hq; subst ha; exact h2
 | l::ls,bs,b+1,q,a,⟨q',qs,h1,_,h3⟩,hq,ha=>by
  subst h1; exact iP.nth (l:=ls) (bs:=qs) (b:=b) h3 hq ha
theorem iP.app{P:Pr}{h:H}{r:Nat × Nat}{β:List Nat}{a:List AV}{q:Nat}{cs:List CV}{ro:Bool}(h1:h.get q=some (.cells cs ro))(h2:Rs P h r β a cs)(h3:aM cs=true):∀{l:List (List AV)} {bs:List Nat},iP P h r β l bs→iP P h r β (l++[a]) (bs++[q])
 | [],_,hb=>by cases hb; exact ⟨q,[],rfl,⟨cs,ro,h1,h2,h3⟩,rfl⟩
 | _::_,_,⟨q',qs,h4,h5,h6⟩=>by subst h4; exact ⟨q',qs++[q],rfl,h5,iP.app h1 h2 h3 h6⟩
def da{α:Type}:List α→Nat→α→List α
 | [],_,_=>[]
 | _::l,0,v=>v::l
 | a::l,n+1,v=>a::da l n v
theorem vC{α:Type}:∀(l:List α) (n:Nat) (a:α),(da l n a).length=l.length
 | [],_,_=>rfl
 | _::l,0,_=>rfl
 | _::l,n+1,a=>by simp [da,vC l n a]
theorem iP.set{P:Pr}{h:H}{r:Nat × Nat}{β:List Nat}{a:List AV}{q:Nat}{cs:List CV}(x:Ext P h β P (h.put q (.cells cs false)) β)(h2:Rs P h r β a cs)(h3:aM cs=true):∀{l:List (List AV)} {bs:List Nat} {b:Nat},bs.Nodup→nth? bs b=some q→iP P h r β l bs→iP P (h.put q (.cells cs false)) r β (da l b a) bs
 | [],_,_,_,hb,h0=>by cases h0; cases hb
 | l::ls,bs,0,hn,hb,⟨q',qs,h4,h5,h6⟩=>by
  subst h4;simp only [nth?,sI] at hb; subst hb;refine ⟨_,qs,rfl,⟨cs,false,eT,Rs.ext x _ _ h2,h3⟩,?_⟩;refine iP.ext x ls qs (fun q hq=>ah ?_) h6;rintro rfl; exact (nF.1 hn).1 hq
 | l::ls,bs,b+1,hn,hb,⟨q',qs,h4,⟨cs',ro,h5,h7,h8⟩,h6⟩=>by
  subst h4;have hne:q'≠q:=by rintro rfl; exact (nF.1 hn).1 (nth?_mem hb)
  exact ⟨q',qs,rfl,⟨cs',ro,(ah hne).trans h5,Rs.ext x _ _ h7,h8⟩,iP.set x h2 h3 (nF.1 hn).2 hb h6⟩
def dj:List AV→Nat→List AV→List AV
 | c,0,[]=>c
 | _::c,0,x::xs=>x::dj c 0 xs
 | a::c,n+1,xs=>a::dj c n xs
 | [],_,_=>[]
theorem tk{P:Pr}{h:H}{r:Nat × Nat}{β:List Nat}:∀{a:List AV} {c:List CV} (n:Nat) {b:List AV} {d:List CV},Rs P h r β a c→Rs P h r β b d→Rs P h r β (dj a n b) (splice c n d)
 | [],_,n,b,d,h1,h2=>by
  cases h1;cases n with
  | zero=>cases b with
   | nil=>cases h2; exact rfl
   | cons x xs=>obtain ⟨y,ys,rfl,_⟩:=h2; exact rfl
  | succ n=>exact rfl
 | x::xs,_,0,[],d,⟨y,ys,h1,h3,h4⟩,h2=>by cases h2; subst h1; exact ⟨y,ys,rfl,h3,h4⟩
 | x::xs,_,0,b::bs,_,⟨y,ys,h1,h3,h4⟩,⟨z,zs,h5,h6,h7⟩=>by
  subst h1; subst h5;exact ⟨z,_,rfl,h6,tk 0 h4 h7⟩
 | x::xs,_,n+1,b,d,⟨y,ys,h1,h3,h4⟩,h2=>by
  subst h1;cases b<;>cases d<;>exact ⟨y,_,rfl,h3,tk n h4 h2⟩
theorem lO:∀{c:List CV} (n:Nat) {d:List CV},aM c=true→aM d=true→aM (splice c n d)=true
 | [],n,d,_,h2=>by cases n<;>cases d<;>rfl
 | x::xs,0,[],h1,_=>h1
 | x::xs,0,y::ys,h1,h2=>by
  rw [df,aT] at h1 h2
  show aM (y::splice xs 0 ys)=true
  rw [df,h2.1,lO 0 h1.2 h2.2]; rfl
 | x::xs,n+1,d,h1,h2=>by
  rw [df,aT] at h1;have:splice (x::xs) (n+1) d=x::splice xs n d:=by cases d<;>rfl
  rw [this,df,h1.1,lO n h1.2 h2]; rfl
theorem lr:∀{c:List CV} {i:Nat} {x:CV},aM c=true→nth? c i=some x→x.one=true
 | _::_,0,x,h,hx=>by simp only [nth?,sI] at hx; subst hx; rw [df,aT] at h; exact h.1
 | _::c,i+1,x,h,hx=>by rw [df,aT] at h; exact lr (c:=c) (i:=i) h.2 hx
theorem Rs.drop{P:Pr}{h:H}{r:Nat × Nat}{β:List Nat}:∀(n:Nat) {a:List AV} {c:List CV},Rs P h r β a c→Rs P h r β (a.drop n) (c.drop n)
 | 0,_,_,h=>h
 | n+1,[],_,h=>by cases h; exact rfl
 | n+1,_::_,_,⟨y,ys,h1,_,h3⟩=>by subst h1; exact Rs.drop n h3
theorem Rs.take{P:Pr}{h:H}{r:Nat × Nat}{β:List Nat}:∀(n:Nat) {a:List AV} {c:List CV},Rs P h r β a c→Rs P h r β (a.take n) (c.take n)
 | 0,_,_,h=>rfl
 | n+1,[],_,h=>by cases h; exact rfl
 | n+1,_::_,_,⟨y,ys,h1,h2,h3⟩=>by subst h1; exact ⟨y,_,rfl,h2,Rs.take n h3⟩
def aI(tbl:Nat→Option IF)(o:Ins)(e:List AV)(m:M)(K:AV→M→Prop):Prop :=
 match o with
 | .mov x=>K (aev e x) m
 | .nilck x=>match aev e x with
  | .hp=>K .hp m
  | .bx b o=>K (.bx b o) m
  | .clo f c=>K (.clo f c) m
  | _=>False
 | .alloc z=>aM z=true∧K (.bx m.bx.length 0) { m with bx:=m.bx++[vs z] }
 | .box x=>match bB (aev e x) with
  | some cs=>oneA cs∧K (.bx m.bx.length 0) { m with bx:=m.bx++[cs] }
  | none=>False
 | .fad off x=>match aev e x with
  | .bx b o=>K (.bx b (o+off)) m
  | _=>False
 | .ld g a=>match aev e a with
  | .bx b o=>match nth? m.bx b with
   | some cs=>match g with
    | none=>match nth? cs o with
     | some a=>K a m
     | none=>False
    | some n=>o+n≤cs.length∧match unV ((cs.drop o).take n) with
     | some l=>K (.v (.agg l)) m
     | none=>False
   | none=>False
  | _=>False
 | .st n a x=>match aev e a,bB (aev e x) with
  | .bx b o,some l=>m.ro≤b∧l.length=n∧oneA l∧match nth? m.bx b with
   | some cs=>o+n≤cs.length∧K (.v undef) { m with bx:=da m.bx b (dj cs o l) }
   | none=>False
  | _,_=>False
 | .fld off g x=>match aev e x with
  | .v (.agg c)=>match cO g c off with
   | some v=>K (.v v) m
   | none=>False
  | _=>False
 | .ext t i=>match aev e t with
  | .tup l=>match nth? l i with
   | some a=>K a m
   | none=>False
  | _=>False
 | .mkf f [] caps=>K (.clo f (dq e caps)) m
 | .callF f as=>match dq e as with
  | .hp::rest=>∃d B,dM tbl f rest d B∧K .un { m with log:=m.log.cat d,nd:=m.nd+B }
  | as=>match unV as with
   | some args=>∃rs,r6 tbl f args rs∧K (bh (rvA rs)) m
   | none=>False
 | _=>False
def aW(tbl:Nat→Option IF):List IOp→List AV→M→(List AV→M→Prop)→Prop
 | [],e,m,Q=>Q e m
 | o::os,e,m,Q=>o.guard=none∧aI tbl o.op e m fun a m'=>aW tbl os (eE e o.dst a) m' Q
end Ce.L
namespace Ce.L
open Go
variable {tbl:Nat→Option IF}
theorem Ext.refl(P:Pr)(h:H)(β:List Nat):Ext P h β P h β:=⟨fun _ h=>h,fun _ _=>rfl,[],by simp,by simp⟩
theorem Ext.trans{P P' P'':Pr}{h h' h'':H}{β β' β'':List Nat}(x:Ext P h β P' h' β')(y:Ext P' h' β' P'' h'' β''):Ext P h β P'' h'' β'':=by
 obtain ⟨l,rfl,hl⟩:=x.b;obtain ⟨l',rfl,hl'⟩:=y.b;refine ⟨fun i hi=>y.p i (x.p i hi),fun i hi=>(y.g i (x.p i hi)).trans (x.g i hi),l++l',by simp,?_⟩;intro i hi;rcases bP.1 hi with hi | hi
 ·exact hl i hi
 ·exact fun c=>hl' i hi (x.p i c)
def Stp(tbl:Nat→Option IF)(o:Ins)(e:List AV)(m:M)(a:AV)(m':M):Prop :=
 m.nd≤m'.nd∧(LgB m.log m.nd→LgB m'.log m'.nd)∧∀(P0 P:Pr) (h0 h:H) (r:Nat × Nat) (β:List Nat) (L0:Lg) (env:List CV),Sim P0 P h0 h r β L0 m→Rs P h r β e env→L0.len+m'.nd≤2 ^ 41→LgB m.log m.nd→∀(d:Option Nat) (os:List IOp) (Q:List CV→H→Prop),
  (∀P' h' β' x,Sim P0 P' h0 h' r β' L0 m'→LgB m'.log m'.nd→Ext P h β P' h' β'→R P' h' r β' a x→Wo tbl os (put? env d x) h' Q)→Wo tbl (⟨d,o,none⟩::os) env h Q
theorem Stp.pure{o:Ins}{e:List AV}{m:M}{a:AV}(hs:∀(P:Pr) (h:H) (r:Nat × Nat) (β:List Nat) (env:List CV),Rs P h r β e env→∃x,stepO (fun _ _ _=>none) o env h=some (x,h)∧R P h r β a x):Stp tbl o e m a m:=by
 refine ⟨aV _,id,?_⟩;intro P0 P h0 h r β L0 env s he hb hl d os Q k;obtain ⟨x,h1,h2⟩:=hs P h _ β env he;exact aB rfl h1 (k P h β x s hl (Ext.refl _ _ _) h2)
theorem Sim.push{P0 P:Pr}{h0 h:H}{r:Nat × Nat}{β:List Nat}{L0:Lg}{m:M}(s:Sim P0 P h0 h r β L0 m){cs:List AV}{c:List CV}(h1:Rs P h r β cs c)(h2:aM c=true) :
  Sim P0 P h0 (h.push (.cells c false)) r (β++[h.n]) L0 { m with bx:=m.bx++[cs] }∧Ext P h β P (h.push (.cells c false)) (β++[h.n]):=by
 have hP:∀i,P i→i < h.n:=fun i hi=>s.hi.pn i (.inl hi)
 have hβ:∀i,i∈β→i < h.n:=fun i hi=>s.hi.pn i (.inr hi)
 have ex:Ext P h β P (h.push (.cells c false)) (β++[h.n]):=⟨fun _ h=>h,fun i hi=>a9 (hP i hi),[h.n],rfl,by
  intro i hi; simp only [cM] at hi; subst hi; intro c; have:=hP _ c; omega⟩
 refine ⟨⟨s.p0,(by have:=s.hn; simp; omega),?_,?_,?_,?_,?_,?_⟩,ex⟩
 ·refine s.hi.keep (by simp) (fun i hi=>a9 (s.hi.own_lt i hi).1) fun i hi=>?_
  rcases hi with hi | hi
  ·exact ⟨by have:=hP i hi; simp; omega,fun c=>(s.hi.own_lt i c).2 (.inl hi)⟩
  ·rcases bP.1 hi with hi | hi
   ·exact ⟨by have:=hβ i hi; simp; omega,fun c=>(s.hi.own_lt i c).2 (.inr hi)⟩
   ·simp only [cM] at hi; subst hi;exact ⟨by simp,fun c=>by have:=(s.hi.own_lt _ c).1; omega⟩
 ·exact s.fr.trans ⟨by simp,fun i hi=>a9 (hP i (s.p0 i hi))⟩
 ·exact iP.app bM (Rs.ext ex _ _ h1) h2 (iP.ext ex _ _ (fun q hq=>a9 (hβ q hq)) s.bxs)
 ·intro b q hb hr;by_cases hlt:b < β.length
  ·obtain ⟨q',hq'⟩:=nth?_of_lt hlt;have:q=q':=by have:=nth?_app (m:=[h.n]) hq'; rw [hb] at this; exact (lu this)
   subst this;obtain ⟨h3,cs',h4⟩:=s.own b q hq' hr;exact ⟨h3,cs',(a9 (hβ q (nth?_mem hq'))).trans h4⟩
  ·have hb':=nth?_lt hb;simp only [jP,List.length_singleton] at hb';have:b=β.length:=by omega
   subst this;have:=(nth?_last (l:=β) (a:=h.n)).symm.trans hb;simp only [sI] at this; subst this;exact ⟨fun c=>by have:=hP _ c; omega,c,bM⟩
 ·rw [List.nodup_append];refine ⟨s.nd,by simp,?_⟩;intro a ha b hb;simp only [cM] at hb; subst hb;have:=hβ a ha; omega
 ·simp [s.ll]
theorem Stp.push{o:Ins}{e:List AV}{m:M}{cs:List AV}(hs:∀(P:Pr) (h:H) (r:Nat × Nat) (β:List Nat) (env:List CV),Rs P h r β e env→∃c,stepO (fun _ _ _=>none) o env h=some (newC c h)∧Rs P h r β cs c∧aM c=true) :
  Stp tbl o e m (.bx m.bx.length 0) { m with bx:=m.bx++[cs] }:=by
 refine ⟨aV _,id,?_⟩;intro P0 P h0 h r β L0 env s he hb hl d os Q k;obtain ⟨c,h1,h2,h3⟩:=hs P h _ β env he;obtain ⟨s',ex⟩:=s.push h2 h3;exact aB rfl h1 (k P _ (β++[h.n]) _ s' hl ex ⟨h.n,by rw [s.ll]; exact nth?_last,rfl⟩)
theorem uY{c:List CV}{o n:Nat}(h:o+n≤c.length):cut? c o n=some ((c.drop o).take n):=by simp [cut?,h]
theorem aI_ok{o:Ins}{e:List AV}{m:M}{K:AV→M→Prop}(w:aI tbl o e m K):∃a m',K a m'∧Stp tbl o e m a m':=by
 cases o<;>simp only [aI] at w<;>try exact w.elim
 case mov x =>
  exact ⟨_,_,w,Stp.pure fun P h r β env he=>⟨_,rfl,gK he x⟩⟩
 case alloc z =>
  exact ⟨_,_,w.2,Stp.push fun P h r β env he=>⟨z,rfl,zU z,w.1⟩⟩
 case box x =>
  split at w
  ·rename_i cs hc;refine ⟨_,_,w.2,Stp.push fun P h r β env he=>?_⟩;obtain ⟨h1,h2⟩:=tV hc (gK he x) w.1;exact ⟨_,by simp only [stepO]; rw [aH h2],h1,h2⟩
  ·exact w.elim
 case ld g a =>
  split at w
  ·rename_i b o hb;split at w
   ·rename_i cs hcs;have key:∃y,K y m∧∀(P:Pr) (h:H) (r:Nat × Nat) (β:List Nat) (c:List CV),Rs P h r β cs c→aM c=true→∃x,cO g c o=some x∧R P h r β y x:=by
     split at w
     ·split at w
      ·rename_i y hy;refine ⟨y,w,?_⟩;intro P h r β c hr ho;obtain ⟨x,h1,h2⟩:=hr.nth hy;exact ⟨x,by simp only [cO,h1]; rw [aH (lr ho h1)],h2⟩
      ·exact w.elim
     ·rename_i n;obtain ⟨hle,w⟩:=w;split at w
      ·rename_i l hl;refine ⟨_,w,?_⟩;intro P h r β c hr ho;have hlen:=hr.len;refine ⟨.agg l,?_,rfl⟩;simp only [cO];rw [uY (by omega),xW hl ((hr.drop o).take n)];rfl
      ·exact w.elim
    obtain ⟨y,hK,hy⟩:=key;refine ⟨y,m,hK,aV _,id,?_⟩;intro P0 P h0 h r β L0 env s he hbd hl d os Q k;have ha:=gK he a;rw [hb] at ha;obtain ⟨q,h1,h2⟩:=ha;obtain ⟨c,ro,h3,h4,h5⟩:=s.bxs.nth h1 hcs;obtain ⟨x,h6,h7⟩:=hy P h _ β c h4 h5;refine aB (v:=x) (h':=h) rfl ?_ (k P h β x s hl (Ext.refl _ _ _) h7);simp only [stepO,h2,ldV,h3,h6]
   ·exact w.elim
  ·exact w.elim
 case st n a x =>
  split at w
  ·rename_i b o l hb hx;obtain ⟨hro,hln,hone,w⟩:=w;split at w
   ·rename_i cs hcs;obtain ⟨hle,w⟩:=w;refine ⟨_,_,w,aV _,id,?_⟩;intro P0 P h0 h r β L0 env s he hbd hl d os Q k;have ha:=gK he a;rw [hb] at ha;obtain ⟨q,h1,h2⟩:=ha;obtain ⟨hx1,hx2⟩:=tV hx (gK he x) hone;obtain ⟨hnP,cs0,hq0⟩:=s.own b q h1 hro;obtain ⟨c,ro,h3,h4,h5⟩:=s.bxs.nth h1 hcs;rw [h3] at hq0;simp only [sI,Blk.cells.injEq] at hq0;obtain ⟨rfl,rfl⟩:=hq0;have hlen:=h4.len;have hxl:=hx1.len;have hspl:=tk o h4 hx1;have ex:Ext P h β P (h.put q (.cells (splice c o (x.ev env).cells) false)) β:=⟨fun _ h=>h,fun i hi=>ah (by rintro rfl; exact hnP hi),[],by simp,by simp⟩;refine aB (v:=undef) (h':=h.put q (.cells (splice c o (x.ev env).cells) false)) rfl ?_ (k P _ β undef ?_ hl ex rfl)
    ·have hc1:((x.ev env).cells.length=n&&o+n≤c.length&&aM (x.ev env).cells)=true:=by
      simp only [hx2,Bool.and_true,aT,dT]; omega
     simp only [stepO,stV,h2,h3];rw [aH hc1]
    ·refine ⟨s.p0,s.hn,?_,s.fr.trans ⟨by simp,fun i hi=>ah (by rintro rfl; exact hnP (s.p0 _ hi))⟩,iP.set ex hspl (lO o h5 hx2) s.nd h1 s.bxs,?_,s.nd,by simp [vC,s.ll]⟩
     ·refine s.hi.keep (by simp) (fun i hi=>ah ?_) fun i hi=>⟨s.hi.pn i hi,fun c=>(s.hi.own_lt i c).2 hi⟩
      rintro rfl; exact (s.hi.own_lt _ hi).2 (.inr (nth?_mem h1))
     ·intro b' q' hb' hr';obtain ⟨h6,cs',h7⟩:=s.own b' q' hb' hr';refine ⟨h6,?_⟩;by_cases hqq:q'=q
      ·subst hqq; exact ⟨_,eT⟩
      ·exact ⟨cs',(ah hqq).trans h7⟩
   ·exact w.elim
  ·exact w.elim
 case nilck x =>
  split at w
  ·rename_i hx;refine ⟨_,_,w,Stp.pure fun P h r β env he=>?_⟩;have:=gK he x; rw [hx] at this;have h1:x.ev env=.ptr r.1 0:=this;exact ⟨.ptr r.1 0,by simp only [stepO,h1],rfl⟩
  ·rename_i b o hx;refine ⟨_,_,w,Stp.pure fun P h r β env he=>?_⟩;have:=gK he x; rw [hx] at this;obtain ⟨q,h1,h2⟩:=this;exact ⟨.ptr q o,by simp only [stepO,h2],⟨q,h1,rfl⟩⟩
  ·rename_i f c hx;refine ⟨_,_,w,Stp.pure fun P h r β env he=>?_⟩;have:=gK he x; rw [hx] at this;obtain ⟨xs,h1,h2⟩:=this;exact ⟨.clo f [] xs,by simp only [stepO,h1],⟨xs,rfl,h2⟩⟩
  ·exact w.elim
 case mkf f a b =>
  cases a with
  | nil=>exact ⟨_,_,w,Stp.pure fun P h r β env he=>⟨.clo f [] (evs env b),rfl,⟨_,rfl,pX he b⟩⟩⟩
  | cons=>exact w.elim
 case fad off x =>
  split at w
  ·rename_i b o hx;refine ⟨_,_,w,Stp.pure fun P h r β env he=>?_⟩;have:=gK he x; rw [hx] at this;obtain ⟨q,h1,h2⟩:=this;exact ⟨.ptr q (o+off),by simp only [stepO,h2],⟨q,h1,rfl⟩⟩
  ·exact w.elim
 case fld off g x =>
  split at w
  ·rename_i c hx;split at w
   ·rename_i v hv;refine ⟨_,_,w,Stp.pure fun P h r β env he=>?_⟩;have:=gK he x; rw [hx] at this;have h1:x.ev env=.agg c:=this;exact ⟨v,by simp only [stepO,h1,hv],rfl⟩
   ·exact w.elim
  ·exact w.elim
 case ext t i =>
  split at w
  ·rename_i l hx;split at w
   ·rename_i v hv;refine ⟨_,_,w,Stp.pure fun P h r β env he=>?_⟩;have:=gK he t; rw [hx] at this;obtain ⟨xs,h1,h2⟩:=this;obtain ⟨y,h3,h4⟩:=h2.nth hv;exact ⟨y,by simp only [stepO,h1,h3],h4⟩
   ·exact w.elim
  ·exact w.elim
 case callF f as =>
  split at w
  ·rename_i rest hr;obtain ⟨dd,B,hput,w⟩:=w;refine ⟨_,_,w,by show m.nd≤m.nd+B; omega,fun hl=>hl.cat hput.1,?_⟩;intro P0 P h0 h r β L0 env s he hbd hl d os Q k;have ha:=pX he as;rw [hr] at ha;obtain ⟨y,ys,h1,h2,h3⟩:=ha;have hy:y=.ptr r.1 0:=h2;subst hy;have ex0:Ext P h β (fun i=>P i∨i∈β) h β:=⟨fun i hi=>.inl hi,fun _ _=>rfl,[],by simp,by simp⟩;obtain ⟨hB,hput⟩:=hput;have hbd':(L0.cat m.log).len+B≤2 ^ 41:=by
    rw [Lg.len_cat];have:L0.len+(m.nd+B)≤2 ^ 41:=hbd;have:=hl.len;omega
   refine dB (.fn f) (.ptr r.1 0::ys) rfl (fun c=>by simp only [stepO,h1]) ((hput _ h r.1 _ β ys (Rs.weak (fV r.2) _ _ (Rs.ext ex0 _ _ h3)) s.hi hbd').mono ?_)
   ·rintro v h' ⟨hi',fr'⟩;have ex:Ext P h β P h' β:=⟨fun _ h=>h,fun i hi=>fr'.eq i (.inl hi),[],by simp,by simp⟩;refine k P h' β v ⟨s.p0,cz s.hn fr'.n,?_,s.fr.trans (fr'.mono fun i hi=>.inl (s.p0 i hi)),iP.ext ex _ _ (fun q hq=>fr'.eq q (.inr hq)) s.bxs,?_,s.nd,s.ll⟩ ?_ ex trivial
    ·rw [←Lg.cat_assoc]; exact hi'
    ·intro b q hb hr;obtain ⟨h6,cs',h7⟩:=s.own b q hb hr;exact ⟨h6,cs',(fr'.eq q (.inr (nth?_mem hb))).trans h7⟩
    ·exact hl.cat hB
  ·split at w
   ·rename_i args hargs;obtain ⟨rs,hap,w⟩:=w;refine ⟨_,_,w,aV _,id,?_⟩;intro P0 P h0 h r β L0 env s he hbd hl d os Q k;have ha:=pX he as;have hea:=xW hargs ha;refine dB (.fn f) args rfl (fun c=>by simp only [stepO,hea]) ((hap h).mono ?_);rintro v h' ⟨rfl,rfl⟩;have hP:∀i,P i→i < h.n:=fun i hi=>s.hi.pn i (.inl hi)
    have hβ:∀i,i∈β→i < h.n:=fun i hi=>s.hi.pn i (.inr hi)
    have ex:Ext P h β (fun i=>P i∨(h.n≤i∧i < (dK rs h).2.n)) (dK rs h).2 β:=⟨fun _ h=>.inl h,fun i hi=>gA rs h i (hP i hi),[],by simp,by simp⟩;refine k _ _ β _ ⟨fun i hi=>.inl (s.p0 i hi),cz s.hn (np rs h),?_,s.fr.trans ⟨np rs h,fun i hi=>gA rs h i (hP i (s.p0 i hi))⟩,iP.ext ex _ _ (fun q hq=>gA rs h q (hβ q hq)) s.bxs,?_,s.nd,s.ll⟩ hl ex (qIO ?_)
    ·have hnn:=np rs h;refine s.hi.keep hnn (fun i hi=>gA rs h i (s.hi.own_lt i hi).1) fun i hi=>?_
     rcases hi with (hi | hi) | hi
     ·exact ⟨by have:=hP i hi; omega,fun c=>(s.hi.own_lt i c).2 (.inl hi)⟩
     ·exact ⟨hi.2,fun c=>by have:=(s.hi.own_lt _ c).1; omega⟩
     ·exact ⟨by have:=hβ i hi; omega,fun c=>(s.hi.own_lt i c).2 (.inr hi)⟩
    ·intro b q hb hr;obtain ⟨h6,cs',h7⟩:=s.own b q hb hr;have:=hβ q (nth?_mem hb);exact ⟨fun c=>by rcases c with c | c<;>(first | exact h6 c | exact by omega),cs',(gA rs h q this).trans h7⟩
    ·have:=uM (β:=β) (r:=r.1) (m:=r.2) rs h h.n (aV _) s.hn hβ;exact Rs.ext ⟨fun i hi=>.inr hi,fun _ _=>rfl,[],by simp,by simp⟩ _ _ this
   ·exact w.elim
theorem qMT:∀(os:List IOp) {e:List AV} {m:M} {Q:List AV→M→Prop},aW tbl os e m Q→∃e' m',Q e' m'∧m.nd≤m'.nd∧(LgB m.log m.nd→LgB m'.log m'.nd) ∧
  ∀(P0 P:Pr) (h0 h:H) (r:Nat × Nat) (β:List Nat) (L0:Lg) (env:List CV),Sim P0 P h0 h r β L0 m→Rs P h r β e env→L0.len+m'.nd≤2 ^ 41→LgB m.log m.nd →
   Wo tbl os env h fun env' h'=>∃P' β',Sim P0 P' h0 h' r β' L0 m'∧Ext P h β P' h' β'∧LgB m'.log m'.nd∧Rs P' h' r β' e' env'
 | [],e,m,Q,w=>⟨e,m,w,aV _,id,fun P0 P h0 h r β L0 env s he hb hl=>ay ⟨P,β,s,Ext.refl _ _ _,hl,he⟩⟩
 | ⟨d,o,g⟩::os,e,m,Q,w=>by
  obtain ⟨hg,w⟩:=w;cases hg;obtain ⟨a,m1,w1,hn1,hg1,st⟩:=aI_ok w;obtain ⟨e',m',hQ,hn2,hg2,k⟩:=qMT os w1;refine ⟨e',m',hQ,by omega,fun x=>hg2 (hg1 x),?_⟩;intro P0 P h0 h r β L0 env s he hb hl;refine st P0 P h0 h r β L0 env s he (by omega) hl d os _ ?_;intro P' h' β' x s' hl' ex hx;obtain ⟨n,e2,h2,hr,P'',β'',s'',ex2,hl2,he2⟩:=k P0 P' h0 h' r β' L0 (put? env d x) s' (qQ1 d (Rs.ext ex _ _ he) hx) hb hl';exact ⟨n,e2,h2,hr,P'',β'',s'',ex.trans ex2,hl2,he2⟩
mutual
def noBx:AV→Bool
 | .bx _ _=>false
 | .clo _ caps=>jI caps
 | .tup l=>jI l
 | _=>true
def jI:List AV→Bool
 | []=>true
 | a::as=>noBx a&&jI as
end
mutual
theorem R.noBx {P:Pr} {h:H} {r:Nat × Nat} {β:List Nat}:∀(a:AV) (c:CV),noBx a=true→R P h r β a c→R P h r [] a c
 | .v _,_,_,hr=>hr
 | .hp,_,_,hr=>hr
 | .bx b off,c,hn,_=>by simp [Ce.L.noBx] at hn
 | .fs k off len cap cs,c,_,⟨q,h1,h2,h3,h4,h5⟩=>⟨q,h1,h2,by simp,h4,h5⟩
 | .clo f caps,c,hn,⟨xs,h1,h2⟩=>⟨xs,h1,Rs.noBx caps xs hn h2⟩
 | .tup l,c,hn,⟨xs,h1,h2⟩=>⟨xs,h1,Rs.noBx l xs hn h2⟩
 | .un,_,_,_=>trivial
theorem Rs.noBx {P:Pr} {h:H} {r:Nat × Nat} {β:List Nat}:∀(a:List AV) (c:List CV),jI a=true→Rs P h r β a c→Rs P h r [] a c
 | [],_,_,hr=>hr
 | a::as,c,hn,⟨y,ys,h1,h2,h3⟩=>by
  simp only [jI,aT] at hn;exact ⟨y,ys,h1,R.noBx a y hn.1 h2,Rs.noBx as ys hn.2 h3⟩
end
end Ce.L
namespace Ce.L
open Go
variable {tbl:Nat→Option IF}
def wO:IC→Option (List IOp)
 | .skip=>some []
 | .ops l=>some l
 | .seq a b=>match wO a,wO b with
  | some x,some y=>some (x++y)
  | _,_=>none
 | _=>none
def flatT:IC→Option (List IOp)
 | .ret=>some []
 | .seq a b=>match wO a,flatT b with
  | some x,some y=>some (x++y)
  | _,_=>none
 | c=>wO c
theorem qMV{env:List CV}{h:H}{Q:List CV→H→Prop}:∀{l m:List IOp},Wo tbl (l++m) env h Q→Wo tbl l env h fun e h=>Wo tbl m e h Q:=by
 have key:∀(c:cS) (l m:List IOp) (env:List CV) (h:H) (r:List CV × H),opsR c (l++m) env h=some r→∃x,opsR c l env h=some x∧opsR c m x.1 x.2=some r:=by
  intro c l
  induction l with
  | nil=>intro m env h r hr; exact ⟨_,rfl,hr⟩
  | cons o os ih =>
   intro m env h r hr;simp only [eI,opsR] at hr ⊢;cases hg:grd o.guard env with
   | true =>
    rw [hg] at hr
    dsimp only at hr ⊢
    cases hs:stepO c o.op env h with
    | none=>rw [hs] at hr; cases hr
    | some x=>rw [hs] at hr; exact ih m _ _ r hr
   | false=>rw [hg] at hr; exact ih m _ _ r hr
 rintro l m ⟨n,e,h',r,q⟩;obtain ⟨x,h1,h2⟩:=key _ _ _ _ _ _ r;exact ⟨n,x.1,x.2,h1,n,e,h',h2,q⟩
theorem m9:∀(c:IC) {l:List IOp} {env:List CV} {h:H} {Q:List CV→H→Prop},wO c=some l→Wo tbl l env h Q→Wc tbl c env h fun x e h=>x=.nor∧Q e h
 | .skip,l,env,h,Q,hf,w=>by
  simp only [wO,eB] at hf; subst hf;obtain ⟨n,e,h',r,q⟩:=w;simp only [opsR,eB,ke] at r;obtain ⟨rfl,rfl⟩:=r;exact fT ⟨rfl,q⟩
 | .ops o,l,env,h,Q,hf,w=>by
  simp only [wO,eB] at hf; subst hf;refine bE ?_;obtain ⟨n,e,h',r,q⟩:=w;exact ⟨n,e,h',r,rfl,q⟩
 | .seq a b,l,env,h,Q,hf,w=>by
  simp only [wO] at hf;split at hf
  ·rename_i x y hx hy;simp only [eB] at hf; subst hf;refine am ((m9 a hx (qMV w)).mono ?_);rintro ex e h' ⟨rfl,q⟩;exact m9 b hy q
  ·cases hf
 | .cond _ _ _,_,_,_,_,hf,_=>by cases hf
 | .block _ _,_,_,_,_,hf,_=>by cases hf
 | .loop _,_,_,_,_,hf,_=>by cases hf
 | .rangeF _ _ _ _,_,_,_,_,hf,_=>by cases hf
 | .exit _,_,_,_,_,hf,_=>by cases hf
 | .ret,_,_,_,_,hf,_=>by cases hf
theorem kI:∀(c:IC) {l:List IOp} {env:List CV} {h:H} {rs:List IRes} {Q:CV→H→Prop},flatT c=some l→Wo tbl l env h (fun e h=>∃vs,resV rs e h=some vs∧Q (one? vs) h)→Wc tbl c env h (qPY rs Q)
 | .ret,l,env,h,rs,Q,hf,w=>by
  simp only [flatT,eB] at hf; subst hf;obtain ⟨n,e,h',r,q⟩:=w;simp only [opsR,eB,ke] at r;obtain ⟨rfl,rfl⟩:=r;exact rX q
 | .seq a b,l,env,h,rs,Q,hf,w=>by
  simp only [flatT] at hf;split at hf
  ·rename_i x y hx hy;simp only [eB] at hf; subst hf;refine am ((m9 a hx (qMV w)).mono ?_);rintro ex e h' ⟨rfl,q⟩;exact kI b hy q
  ·cases hf
 | .skip,l,env,h,rs,Q,hf,w=>(m9 .skip hf w).mono fun ex e h' ⟨hx,q⟩=>by subst hx; exact q
 | .ops o,l,env,h,rs,Q,hf,w=>(m9 (.ops o) hf w).mono fun ex e h' ⟨hx,q⟩=>by subst hx; exact q
 | .cond _ _ _,_,_,_,_,_,hf,_=>by cases hf
 | .block _ _,_,_,_,_,_,hf,_=>by cases hf
 | .loop _,_,_,_,_,_,hf,_=>by cases hf
 | .rangeF _ _ _ _,_,_,_,_,_,hf,_=>by cases hf
 | .exit _,_,_,_,_,_,hf,_=>by cases hf
theorem qLD{f:Nat}{F:IF}{l:List IOp}{args:List AV}{B:Nat}(hF:tbl f=some F)(hm:F.mode=0)(hr:F.res=[])(hl:flatT F.body=some l)(hn:jI args=true)
  (w:aW tbl l (args++au (F.ntmps - args.length)) ⟨0,[],Lg.nil,0⟩ fun _ m=>m.nd≤B) :
  ∃d:Lg,LgB d B∧∀P h r L β xs,Rs P h (r,0) β args xs→HI P h r L→L.len+B≤2 ^ 41→Wf tbl (.fn f) xs h fun _ h'=>HI P h' r (L.cat d)∧Fr P h h':=by
 obtain ⟨e',m',hB,hnd,hg,k⟩:=qMT l w;have hlen:=hg LgB.nil;refine ⟨m'.log,hlen.mono hB,?_⟩;intro P h r L β xs hxs hi hL;have hxs':=Rs.noBx _ _ hn hxs;have s:Sim P P h h (r,0) [] L ⟨0,[],Lg.nil,0⟩:=⟨fun _ h=>h,fV _,by rw [Lg.cat_nil]; exact hi.mono (by simp),Fr.refl _ _,rfl,(by intro b q hb; cases hb),by simp,rfl⟩;have hln:=hxs.len;refine jR hF hm (kI F.body hl ?_);obtain ⟨n,e2,h2,hrun,P',β',s',ex,hl2,he2⟩:=k P P h h (r,0) [] L (xs++cB (F.ntmps - xs.length)) s (by rw [←hln]; exact Rs.app hxs' (nY _)) (by omega) LgB.nil;refine ⟨n,e2,h2,hrun,[],by rw [hr]; rfl,s'.hi.mono fun i hi=>.inl (ex.p i hi),s'.fr⟩
theorem iq{f:Nat}{F:IF}{l:List IOp}{rest:List AV}{B:Nat}(hF:tbl f=some F)(hm:F.mode=0)(hr:F.res=[])(hl:flatT F.body=some l)(hn:jI rest=true)
  (w:aW tbl l (.hp::rest++au (F.ntmps - (rest.length+1))) ⟨0,[],Lg.nil,0⟩ fun _ m=>m.nd≤B):∃d:Lg,dM tbl f rest d B:=by
 obtain ⟨d,h1,h2⟩:=qLD (args:=.hp::rest) hF hm hr hl (by simp [jI,noBx,hn]) w;exact ⟨d,h1,fun P h r L β xs hx hi hb=>h2 P h r L β (.ptr r 0::xs) ⟨_,_,rfl,rfl,hx⟩ hi hb⟩
end Ce.L
namespace Ce.L
open Go
variable {tbl:Nat→Option IF}
def lg0(v:CV):Lg:=([v],[])
def lg1(v:CV):Lg:=([],[v])
theorem Acc.one{P:Pr}{h:H}{r:Nat}{a:CV}{cs:List CV}(x:Acc P h r a cs):a.one=true:=by cases x<;>rfl
theorem Acc.cells1{P:Pr}{h:H}{r:Nat}{a:CV}{cs:List CV}(x:Acc P h r a cs):a.cells=[a]:=by cases x<;>rfl
theorem zZ{n:Nat}{a x:Opd}{env:List CV}{h h':H}{A X:CV}(ha:a.ev env=A)(hx:x.ev env=X)(hs:stV n A X h=some h'):stepO (fun _ _ _=>none) (.st n a x) env h=some (undef,h'):=by simp only [stepO,ha,hx,hs]
theorem de{g:Option Nat}{a:Opd}{env:List CV}{h:H}{A X:CV}(ha:a.ev env=A)(hs:ldV g A h=some X):stepO (fun _ _ _=>none) (.ld g a) env h=some (X,h):=by simp only [stepO,ha,hs]
theorem ym{k b:Nat}{a x:Opd}{env:List CV}{h:H}{A X:CV}{y:CV × H}(ha:a.ev env=A)(hx:x.ev env=X)(hs:appV k b A X h=some y)(hb:(Nat.beq b 24&&Nat.beq k 1)=false):stepO (fun _ _ _=>none) (.app k b a x) env h=some y:=by simp only [stepO,ha,hx,appW,hb,hs]
theorem yh{z:CV}{o:Opd}{env:List CV}{h:H}{X:CV}(hx:o.ev env=X)(h1:X.one=true)(hz:z.cells=[z]):stepO (fun _ _ _=>none) (.bsl 1 [z] 1 [(0,o)]) env h=some (.slc 1 h.n 0 1 (some 1),h.push (.cells [X] false)):=by
 have hc:X.cells=[X]:=by cases X<;>first | rfl | cases h1
 simp only [stepO,gU,hx,hc,dQ,aM,h1];simp [splice]
theorem qGC{P:Pr}{h:H}{r:Nat}{L:Lg}(x:HI P h r L)(v:CV)(hv:v.one=true)(bytes:Nat)(hsz:(L.1.length+1)*(bytes+1)≤2 ^ 46) :
  ∃a b,h.get r=some (.cells [a,b] false)∧a.one=true∧∃a' h',appV 1 bytes a (.slc 1 h.n 0 1 (some 1)) (h.push (.cells [v] false))=some (a',h')∧h'.get r=some (.cells [a,b] false)∧a'.one=true∧a'.cells=[a'] ∧
   HI P (h'.put r (.cells [a',b] false)) r (L.cat (lg0 v))∧Fr P h (h'.put r (.cells [a',b] false)):=by
 obtain ⟨a,b,h1,h2,h3,h4⟩:=x.blk;obtain ⟨a',h',h5,h6,h7,h8,h9⟩:=qC8 h2 x.pn x.rn v bytes hv hsz;have hra:r∉own a:=fun c=>(Ce.L.own_lt h2 r c).2.1 rfl
 have hb:∀q,q∈own b→h'.get q=h.get q:=fun q hq=>h8 q (Ce.L.own_lt h3 q hq).1 fun c=>h4 q c hq
 have hP:∀i,P i→h'.get i=h.get i:=fun i hi=>h8 i (x.pn i hi) fun c=>(Ce.L.own_lt h2 i c).2.2 hi
 refine ⟨a,b,h1,h2.one,a',h',h5,(h8 r x.rn hra).trans h1,h6.one,?_,⟨fun i hi=>by have:=x.pn i hi; simp; omega,by have:=x.rn; simp; omega,x.rP,a',b,eT,?_,?_,?_⟩,by simpa using h7,fun i hi=>?_⟩
 ·exact h6.cells1
 ·exact h6.keep (by simp) (fun q hq=>ah (Ce.L.own_lt h6 q hq).2.1) fun q hq=>(Ce.L.own_lt h6 q hq).2.2
 ·have:(L.cat (lg0 v)).2=L.2:=by simp [Lg.cat,lg0]
  rw [this];exact h3.keep (by simpa using h7) (fun q hq=>(ah (Ce.L.own_lt h3 q hq).2.1).trans (hb q hq)) fun q hq=>(Ce.L.own_lt h3 q hq).2.2
 ·intro q hq c; have:=h9 q hq; have:=(Ce.L.own_lt h3 q c).1; omega
 ·rw [ah (by rintro rfl; exact x.rP hi)]; exact hP i hi
theorem write1{P:Pr}{h:H}{r:Nat}{L:Lg}(x:HI P h r L)(v:CV)(hv:v.one=true)(bytes:Nat)(hsz:(L.2.length+1)*(bytes+1)≤2 ^ 46) :
  ∃a b,h.get r=some (.cells [a,b] false)∧b.one=true∧∃b' h',appV 1 bytes b (.slc 1 h.n 0 1 (some 1)) (h.push (.cells [v] false))=some (b',h')∧h'.get r=some (.cells [a,b] false)∧b'.one=true∧b'.cells=[b'] ∧
   HI P (h'.put r (.cells [a,b'] false)) r (L.cat (lg1 v))∧Fr P h (h'.put r (.cells [a,b'] false)):=by
 obtain ⟨a,b,h1,h2,h3,h4⟩:=x.blk;obtain ⟨b',h',h5,h6,h7,h8,h9⟩:=qC8 h3 x.pn x.rn v bytes hv hsz;have hra:r∉own b:=fun c=>(Ce.L.own_lt h3 r c).2.1 rfl
 have hb:∀q,q∈own a→h'.get q=h.get q:=fun q hq=>h8 q (Ce.L.own_lt h2 q hq).1 fun c=>h4 q hq c
 have hP:∀i,P i→h'.get i=h.get i:=fun i hi=>h8 i (x.pn i hi) fun c=>(Ce.L.own_lt h3 i c).2.2 hi
 refine ⟨a,b,h1,h3.one,b',h',h5,(h8 r x.rn hra).trans h1,h6.one,?_,⟨fun i hi=>by have:=x.pn i hi; simp; omega,by have:=x.rn; simp; omega,x.rP,a,b',eT,?_,?_,?_⟩,by simpa using h7,fun i hi=>?_⟩
 ·exact h6.cells1
 ·have:(L.cat (lg1 v)).1=L.1:=by simp [Lg.cat,lg1]
  rw [this];exact h2.keep (by simpa using h7) (fun q hq=>(ah (Ce.L.own_lt h2 q hq).2.1).trans (hb q hq)) fun q hq=>(Ce.L.own_lt h2 q hq).2.2
 ·exact h6.keep (by simp) (fun q hq=>ah (Ce.L.own_lt h6 q hq).2.1) fun q hq=>(Ce.L.own_lt h6 q hq).2.2
 ·intro q hq c; have:=h9 q c; have:=(Ce.L.own_lt h2 q hq).1; omega
 ·rw [ah (by rintro rfl; exact x.rP hi)]; exact hP i hi
theorem qG4{v:CV}(hv:v.one=true):v.cells=[v]:=by cases v<;>first | rfl | cases hv
def pG(slot bytes:Nat)(z:CV):List IOp:=[⟨(some 4),.mov (.t 0),none⟩,⟨(some 5),.mov (.t 0),none⟩,⟨(some 6),.nilck (.t 5),none⟩,⟨(some 7),.fad slot (.t 6),none⟩,⟨(some 8),.ld none (.t 7),none⟩,⟨(some 9),.mov (.t 1),none⟩,⟨(some 10),.bsl 1 [z] 1 [(0,(.t 9))],none⟩,⟨(some 11),.app 1 bytes (.t 8) (.t 10),none⟩,⟨(some 12),.nilck (.t 4),none⟩,⟨(some 13),.fad slot (.t 12),none⟩,⟨none,.st 1 (.t 13) (.t 11),none⟩]
def qIB:IF:=⟨14,[],.ops (pG 0 8 (.int .i64 0)),0⟩
def zA8:IF:=⟨14,[],.ops (pG 1 16 (.str ByteArray.empty)),0⟩
theorem sG{f:Nat}(hF:tbl f=some qIB)(k:IntKind)(n:Int):dM tbl f [.v (.int k n)] (lg0 (.int k n)) 1:=by
 have hv:(CV.int k n).one=true:=rfl;have hb:LgB (lg0 (.int k n)) 1:=⟨aV _,fun c hc=>by simp only [lg0,cM] at hc; exact ⟨k,n,hc⟩,(fun c hc=>by cases hc)⟩;refine ⟨hb,?_⟩;clear hb;generalize CV.int k n=v at hv;rintro P h r L β xs ⟨x,ys,rfl,hx,hys⟩ hi hL;have:x=v:=hx;subst this;have:ys=[]:=hys;subst this;have hsz:(L.1.length+1)*(8+1)≤2 ^ 46:=by simp only [Lg.len] at hL; omega
 obtain ⟨a,b,h1,h2,a',h',h3,h4,h5,h6,h7,h8⟩:=qGC hi x hv 8 hsz;refine jR hF rfl (bE (l:=pG 0 8 (.int .i64 0)) ?_);refine aB (v:=.ptr r 0) (h':=h) rfl rfl ?_;refine aB (v:=.ptr r 0) (h':=h) rfl rfl ?_;refine aB (v:=.ptr r 0) (h':=h) rfl rfl ?_;refine aB (v:=.ptr r 0) (h':=h) rfl rfl ?_;refine aB (v:=a) (h':=h) rfl (de (A:=.ptr r 0) rfl (by simp [ldV,h1,cO,nth?,h2])) ?_;refine aB (v:=x) (h':=h) rfl rfl ?_;refine aB (v:=.slc 1 h.n 0 1 (some 1)) (h':=h.push (.cells [x] false)) rfl (yh (X:=x) rfl hv rfl) ?_;refine aB (v:=a') (h':=h') rfl (ym (X:=.slc 1 h.n 0 1 (some 1)) rfl rfl h3 rfl) ?_;refine aB (v:=.ptr r 0) (h':=h') rfl rfl ?_;refine aB (v:=.ptr r 0) (h':=h') rfl rfl ?_;refine aB (v:=undef) (h':=h'.put r (.cells [a',b] false)) rfl (zZ (A:=.ptr r 0) (X:=a') rfl rfl (by simp [stV,h4,h6,aM,h5,splice])) (ay ?_);exact ⟨[],rfl,h7,h8⟩
theorem qD0{f:Nat}(hF:tbl f=some zA8)(b:ByteArray):dM tbl f [.v (.str b)] (lg1 (.str b)) 1:=by
 have hv:(CV.str b).one=true:=rfl;have hb:LgB (lg1 (.str b)) 1:=⟨aV _,(fun c hc=>by cases hc),fun c hc=>by simp only [lg1,cM] at hc; exact ⟨b,hc⟩⟩;refine ⟨hb,?_⟩;clear hb;generalize CV.str b=v at hv;rintro P h r L β xs ⟨x,ys,rfl,hx,hys⟩ hi hL;have:x=v:=hx;subst this;have:ys=[]:=hys;subst this;have hsz:(L.2.length+1)*(16+1)≤2 ^ 46:=by simp only [Lg.len] at hL; omega
 obtain ⟨a,b,h1,h2,a',h',h3,h4,h5,h6,h7,h8⟩:=write1 hi x hv 16 hsz;refine jR hF rfl (bE (l:=pG 1 16 (.str ByteArray.empty)) ?_);refine aB (v:=.ptr r 0) (h':=h) rfl rfl ?_;refine aB (v:=.ptr r 0) (h':=h) rfl rfl ?_;refine aB (v:=.ptr r 0) (h':=h) rfl rfl ?_;refine aB (v:=.ptr r 1) (h':=h) rfl rfl ?_;refine aB (v:=b) (h':=h) rfl (de (A:=.ptr r 1) rfl (by simp [ldV,h1,cO,nth?,h2])) ?_;refine aB (v:=x) (h':=h) rfl rfl ?_;refine aB (v:=.slc 1 h.n 0 1 (some 1)) (h':=h.push (.cells [x] false)) rfl (yh (X:=x) rfl hv rfl) ?_;refine aB (v:=a') (h':=h') rfl (ym (X:=.slc 1 h.n 0 1 (some 1)) rfl rfl h3 rfl) ?_;refine aB (v:=.ptr r 0) (h':=h') rfl rfl ?_;refine aB (v:=.ptr r 1) (h':=h') rfl rfl ?_;refine aB (v:=undef) (h':=h'.put r (.cells [a,a'] false)) rfl (zZ (A:=.ptr r 1) (X:=a') rfl rfl (by simp [stV,h4,h6,aM,h5,splice])) (ay ?_);exact ⟨[],rfl,h7,h8⟩
end Ce.L
namespace Ce.L
open Go
variable {tbl:Nat→Option IF}
def iaV(k:Nat)(x:CV)(i:Nat):Option CV :=
 match x with
 | .slc _ r off len _=>if i < len then some (.ptr r (off+i*k)) else none
 | .lst rows _=>match nth? rows i with
  | some row=>if row.length=k then some (.rptr row) else none
  | none=>none
 | _=>none
theorem s7{k i:Nat}{X I:Opd}{env:List CV}{h:H}{x a:CV}(hx:X.ev env=x)(hi:I.ev env=.int .i64 i)(ha:iaV k x i=some a):stepO (fun _ _ _=>none) (.iaS k X I) env h=some (a,h):=by
 have hn:bf? (.int .i64 (i:Int))=some i:=by simp [bf?]
 simp only [stepO,hx,hi,hn];unfold iaV at ha;split at ha
 ·split at ha
  ·rename_i hlt;simp only [eB] at ha; subst ha;simp only [aH hlt]
  ·cases ha
 ·split at ha
  ·rename_i row hr;split at ha
   ·rename_i hl;simp only [eB] at ha; subst ha;simp only [hr,aH hl]
   ·cases ha
  ·cases ha
 ·cases ha
def Src(P:Pr)(h:H)(x:CV)(k:Nat)(g:Option Nat)(us:List CV):Prop :=
 lenOf x=some us.length∧∀i u,nth? us i=some u→∃a,iaV k x i=some a∧∀h',Fr P h h'→ldV g a h'=some u
def zD(s:AV)(k:Nat)(g:Option Nat)(us:List CV):Prop:=∀P h r β x,R P h r β s x→Src P h x k g us
def mZ(D:CV→Lg):List CV→Nat→Lg
 | _,0=>Lg.nil
 | [],_=>Lg.nil
 | u::us,i+1=>(D u).cat (mZ D us i)
theorem sV(D:CV→Lg):∀(us:List CV) (i:Nat) (u:CV),nth? us i=some u→mZ D us (i+1)=(mZ D us i).cat (D u)
 | u'::us,0,u,h=>by
  simp only [nth?,eB] at h; subst h;cases us<;>simp [mZ,Lg.cat_nil,Lg.nil_cat]
 | u'::us,i+1,u,h=>by
  have:=sV D us i u h
  show (D u').cat (mZ D us (i+1))=_
  rw [this,←Lg.cat_assoc]; rfl
theorem qQ(D:CV→Lg)(B:Nat):∀(us:List CV) (i:Nat),(∀u,u∈us→LgB (D u) B)→LgB (mZ D us i) (i*B)
 | [],0,_=>by simpa [mZ] using LgB.nil
 | [],i+1,_=>by simpa [mZ] using LgB.nil.mono (fV _)
 | _::_,0,_=>by simpa [mZ] using LgB.nil
 | u::us,i+1,h=>by
  have h1:=h u (by simp);have h2:=qQ D B us i fun u hu=>h u (by simp [hu])
  exact (h1.cat h2).mono (by rw [eH]; omega)
def qI8(k:Nat)(g:Option Nat):IC:=.seq (.ops [⟨(some 7),.mov (.t 0),none⟩,⟨(some 8),.mov (.t 0),none⟩,⟨(some 9),.nilck (.t 8),none⟩,⟨(some 10),.fad 0 (.t 9),none⟩,⟨(some 11),.ld none (.t 10),none⟩,⟨(some 12),.mov (.t 1),none⟩,⟨(some 13),.lenS (.t 12),none⟩,⟨(some 14),.bsl 1 [(.int .i64 0)] 1 [(0,(.t 13))],none⟩,⟨(some 15),.app 1 8 (.t 11) (.t 14),none⟩,⟨(some 16),.nilck (.t 7),none⟩,⟨(some 17),.fad 0 (.t 16),none⟩,⟨none,.st 1 (.t 17) (.t 15),none⟩]) (.seq (.ops [⟨(some 6),.mov (.c (.int .i64 0)),none⟩]) (.block 0 (.loop (.seq (.seq (.ops [⟨(some 18),.mov (.t 6),none⟩,⟨(some 19),.mov (.t 1),none⟩,⟨(some 20),.lenS (.t 19),none⟩,⟨(some 21),.bin .lss (.t 18) (.t 20),none⟩]) (.cond (.t 21) .skip (.exit 0))) (.seq (.block 1 (.ops [⟨(some 24),.mov (.t 2),none⟩,⟨(some 25),.mov (.t 0),none⟩,⟨(some 26),.mov (.t 1),none⟩,⟨(some 27),.mov (.t 6),none⟩,⟨(some 28),.iaS k (.t 26) (.t 27),none⟩,⟨(some 29),.ld g (.t 28),none⟩,⟨(some 30),.callV (.t 24) [(.t 25),(.t 29)],none⟩])) (.ops [⟨(some 22),.mov (.t 6),none⟩,⟨(some 23),.bin .add (.t 22) (.c (.int .i64 1)),none⟩,⟨(some 6),.mov (.t 23),none⟩]))))))
def py(k:Nat)(g:Option Nat):IF:=⟨31,[],qI8 k g,0⟩
theorem j3{X:Opd}{env:List CV}{h:H}{x:CV}{n:Nat}(hx:X.ev env=x)(hn:lenOf x=some n):stepO (fun _ _ _=>none) (.lenS X) env h=some (.int .i64 n,h):=by simp only [stepO,hx,hn]
theorem kT{op:BinOp}{X Y:Opd}{env:List CV}{h:H}{x y z:CV}(hx:X.ev env=x)(hy:Y.ev env=y)(hn:bin op x y=some z):stepO (fun _ _ _=>none) (.bin op X Y) env h=some (z,h):=by simp only [stepO,hx,hy,hn]
theorem getl_setl:∀(l:List CV) (n:Nat) (v:CV) (m:Nat),aR (aL l n v) m=if n=m∧n < l.length then v else aR l m
 | [],n,v,m=>by simp [qGW]
 | a::l,0,v,0=>by simp [jA,fC]
 | a::l,0,v,m+1=>by simp [jA,bL]
 | a::l,n+1,v,0=>by simp [dG,fC]
 | a::l,n+1,v,m+1=>by rw [dG,bL,getl_setl l n v m]; simp [bL]
theorem aA:∀(l:List CV) (n:Nat) (v:CV),(aL l n v).length=l.length
 | [],_,_=>rfl
 | _::_,0,_=>rfl
 | a::l,n+1,v=>by simp [dG,aA l n v]
theorem ak{X:Opd}{env:List CV}{h:H}{x:CV}(hx:X.ev env=x):stepO (fun _ _ _=>none) (.mov X) env h=some (x,h):=by simp only [stepO,hx]
theorem vg{X:Opd}{env:List CV}{h:H}{r o:Nat}(hx:X.ev env=.ptr r o):stepO (fun _ _ _=>none) (.nilck X) env h=some (.ptr r o,h):=by simp only [stepO,hx]
theorem gI{X:Opd}{env:List CV}{h:H}{r o n:Nat}(hx:X.ev env=.ptr r o):stepO (fun _ _ _=>none) (.fad n X) env h=some (.ptr r (o+n),h):=by simp only [stepO,hx]
def pLoop(k:Nat)(g:Option Nat):IC:=.loop (.seq (.seq (.ops [⟨(some 18),.mov (.t 6),none⟩,⟨(some 19),.mov (.t 1),none⟩,⟨(some 20),.lenS (.t 19),none⟩,⟨(some 21),.bin .lss (.t 18) (.t 20),none⟩]) (.cond (.t 21) .skip (.exit 0))) (.seq (.block 1 (.ops [⟨(some 24),.mov (.t 2),none⟩,⟨(some 25),.mov (.t 0),none⟩,⟨(some 26),.mov (.t 1),none⟩,⟨(some 27),.mov (.t 6),none⟩,⟨(some 28),.iaS k (.t 26) (.t 27),none⟩,⟨(some 29),.ld g (.t 28),none⟩,⟨(some 30),.callV (.t 24) [(.t 25),(.t 29)],none⟩])) (.ops [⟨(some 22),.mov (.t 6),none⟩,⟨(some 23),.bin .add (.t 22) (.c (.int .i64 1)),none⟩,⟨(some 6),.mov (.t 23),none⟩])))
structure PE (env:List CV) (r:Nat) (x:CV) (gf i:Nat):Prop where
 len:env.length=31
 g0:aR env 0=.ptr r 0
 g1:aR env 1=x
 g2:aR env 2=.clo gf [] []
 g6:aR env 6=.int .i64 i
theorem qCZ{gf k N B r:Nat}{g:Option Nat}{us:List CV}{x:CV}{P:Pr}{h:H}{L:Lg}{D:CV→Lg}(hsrc:Src P h x k g us)(hN:us.length≤N)(hN2:N≤2 ^ 41)(hD:∀u,u∈us→dM tbl gf [.v u] (D u) B)(hL:L.len+N*B≤2 ^ 41)
  {env:List CV} {hb:H} (he:PE env r x gf 0) (hi:HI P hb r L) (hf:Fr P h hb) {Q:Ex→List CV→H→Prop} (hQ:∀e h2,HI P h2 r (L.cat (mZ D us us.length))→Fr P h h2→Q (.jmp (.exit 0)) e h2):Wc tbl (pLoop k g) env hb Q:=by
 obtain ⟨hlen,hel⟩:=hsrc;have hNB:∀i,i < us.length→i*B+B≤N*B:=fun i hi=>by
  have:=dA B (show i+1≤N by omega);rw [eH] at this; omega
 refine jf (fun m env h2=>∃i:Nat,PE env r x gf i∧m=us.length - i∧i≤us.length∧HI P h2 r (L.cat (mZ D us i))∧Fr P h h2) us.length ?_ ?_
 ·refine ⟨0,he,by omega,by omega,?_,hf⟩;have:mZ D us 0=Lg.nil:=by cases us<;>rfl
  rw [this,Lg.cat_nil]; exact hi
 rintro m env h2 ⟨i,he,rfl,hile,hi2,fr2⟩;obtain ⟨hln,g0,g1,g2,g6⟩:=he;refine am (am (bE ?_));refine aB (v:=.int .i64 i) (h':=h2) rfl (ak g6) ?_;refine aB (v:=x) (h':=h2) rfl (ak (by simp [Opd.ev,put?,getl_setl,aA,hln,g1])) ?_;refine aB (v:=.int .i64 us.length) (h':=h2) rfl (j3 (x:=x) (by simp [Opd.ev,put?,getl_setl,aA,hln]) hlen) ?_;refine aB (v:=.bool (decide ((i:Int) < (us.length:Int)))) (h':=h2) rfl (kT (x:=.int .i64 i) (y:=.int .i64 us.length) (by simp [Opd.ev,put?,getl_setl,aA,hln]) (by simp [Opd.ev,put?,getl_setl,aA,hln]) rfl) (ay ?_);simp only [bn,put?];refine eu (decide ((i:Int) < (us.length:Int))) (by simp [Opd.ev,getl_setl,aA,hln]) ?_ ?_
 ·intro ht;have hlt:i < us.length:=by simpa using ht
  obtain ⟨u,hu⟩:=nth?_of_lt hlt;obtain ⟨ad,had,hld⟩:=hel i u hu;refine fT ?_;simp only [bn];have q0:∀j,j < 18→aR (aL (aL (aL (aL env 18 (CV.int IntKind.i64 i)) 19 x) 20 (CV.int IntKind.i64 us.length)) 21 (CV.bool (decide ((i:Int) < us.length)))) j=aR env j:=by
   intro j hj;simp only [getl_setl];rw [aC (by omega),aC (by omega),aC (by omega),aC (by omega)]
  generalize hE:aL (aL (aL (aL env 18 (CV.int IntKind.i64 i)) 19 x) 20 (CV.int IntKind.i64 us.length)) 21 (CV.bool (decide ((i:Int) < us.length)))=E at q0;have hEl:E.length=31:=by rw [←hE]; simp [aA,hln]
  have e0:=(q0 0 (by omega)).trans g0;have e1:=(q0 1 (by omega)).trans g1;have e2:=(q0 2 (by omega)).trans g2;have e6:=(q0 6 (by omega)).trans g6;refine am (eP (bE ?_));refine aB (v:=.clo gf [] []) (h':=h2) rfl (ak e2) ?_;refine aB (v:=.ptr r 0) (h':=h2) rfl (ak (by simp [Opd.ev,put?,getl_setl,aA,hEl,e0])) ?_;refine aB (v:=x) (h':=h2) rfl (ak (by simp [Opd.ev,put?,getl_setl,aA,hEl,e1])) ?_;refine aB (v:=.int .i64 i) (h':=h2) rfl (ak (by simp [Opd.ev,put?,getl_setl,aA,hEl,e6])) ?_;refine aB (v:=ad) (h':=h2) rfl (s7 (x:=x) (by simp [Opd.ev,put?,getl_setl,aA,hEl]) (by simp [Opd.ev,put?,getl_setl,aA,hEl]) had) ?_;refine aB (v:=u) (h':=h2) rfl (de (A:=ad) (by simp [Opd.ev,put?,getl_setl,aA,hEl]) (hld h2 fr2)) ?_;have hbd:(L.cat (mZ D us i)).len+B≤2 ^ 41:=by
   have h9:=(qQ D B us i fun u hu=>(hD u hu).1).len;have h10:=hNB i hlt;rw [Lg.len_cat];omega
  refine dB (.fn gf) [.ptr r 0,u] rfl (fun c=>?_) (((hD u (nth?_mem hu)).2 P h2 r _ [] [u] ⟨u,[],rfl,rfl,rfl⟩ hi2 hbd).mono ?_)
  ·simp only [stepO];simp [Opd.ev,evs,put?,getl_setl,aA,hEl]
  rintro v h3 ⟨hi3,fr3⟩;refine ay ?_;simp only [iw,bn,put?];have r0:∀j,j < 18→aR (aL (aL (aL (aL (aL (aL (aL E 24 (CV.clo gf [] [])) 25 (CV.ptr r 0)) 26 x) 27 (CV.int IntKind.i64 i)) 28 ad) 29 u) 30 v) j=aR E j:=by
   intro j hj;simp only [getl_setl];rw [aC (by omega),aC (by omega),aC (by omega),aC (by omega),aC (by omega),aC (by omega),aC (by omega)]
  generalize hG:aL (aL (aL (aL (aL (aL (aL E 24 (CV.clo gf [] [])) 25 (CV.ptr r 0)) 26 x) 27 (CV.int IntKind.i64 i)) 28 ad) 29 u) 30 v=G at r0;have hGl:G.length=31:=by rw [←hG]; simp [aA,hEl]
  have f0:=(r0 0 (by omega)).trans e0;have f1:=(r0 1 (by omega)).trans e1;have f2:=(r0 2 (by omega)).trans e2;have f6:=(r0 6 (by omega)).trans e6;refine bE ?_;refine aB (v:=.int .i64 i) (h':=h3) rfl (ak f6) ?_;refine aB (v:=.int .i64 (i+1:Nat)) (h':=h3) rfl (kT (x:=.int .i64 i) (y:=.int .i64 1) (by simp [Opd.ev,put?,getl_setl,aA,hGl]) rfl ?_) ?_
  ·show some (CV.int .i64 (IntKind.i64.wrap ((i:Int)+1)))=_
   rw [gm _ (by omega) (by omega)]; simp
  refine aB (v:=.int .i64 (i+1:Nat)) (h':=h3) rfl (ak (by simp [Opd.ev,put?,getl_setl,aA,hGl])) (ay ?_);refine ⟨us.length - (i+1),by omega,i+1,?_,rfl,by omega,?_,fr2.trans fr3⟩
  ·constructor<;>simp [put?,getl_setl,aA,hGl,f0,f1,f2]
  ·rw [sV D us i u hu];rw [Lg.cat_assoc] at hi3;exact hi3
 ·intro ht;have hge:i=us.length:=by
   have:¬(i:Int) < us.length:=by simpa using ht
   omega
  subst hge;refine lB ?_;exact hQ _ _ hi2 fr2
theorem qI9{f gf k N B:Nat}{g:Option Nat}{s:AV}{us:List CV}(hF:tbl f=some (py k g))(hs:zD s k g us)(hN:us.length≤N)(hN2:N≤2 ^ 41)(hg:∀u,u∈us→∃d,dM tbl gf [.v u] d B):∃d,dM tbl f [s,.v (.clo gf [] [])] d (1+N*B):=by
 have hD:∃D:CV→Lg,∀u,u∈us→dM tbl gf [.v u] (D u) B:=by
  have:∀u,∃d:Lg,u∈us→dM tbl gf [.v u] d B:=fun u=>by
   by_cases hu:u∈us
   ·obtain ⟨d,hd⟩:=hg u hu; exact ⟨d,fun _=>hd⟩
   ·exact ⟨Lg.nil,fun c=>(hu c).elim⟩
  exact Classical.skolem.1 this
 obtain ⟨D,hD⟩:=hD;have hNB':∀i,i≤us.length→i*B≤N*B:=fun i hi=>dA B (by omega)
 have hl1:(lg0 (.int .i64 us.length)).len=1:=rfl;have hl2:LgB (lg0 (.int .i64 us.length)) 1:=⟨aV _,fun c hc=>by simp only [lg0,cM] at hc; exact ⟨_,_,hc⟩,fun c hc=>by cases hc⟩;refine ⟨(lg0 (.int .i64 us.length)).cat (mZ D us us.length),?_,?_⟩
 ·exact (hl2.cat (qQ D B us us.length fun u hu=>(hD u hu).1)).mono (by have h2:=hNB' us.length (aV _); omega)
 rintro P h r L β xs ⟨x,ys,rfl,hx,y,zs,rfl,hy,hz⟩ hi hL;have:y=.clo gf [] []:=hy;subst this;have:zs=[]:=hz;subst this;have hsrc:=hs P h _ β x hx;have hlen:=hsrc.1;have hsz:(L.1.length+1)*(8+1)≤2 ^ 46:=by simp only [Lg.len] at hL; omega
 obtain ⟨a,b,h1,h2,a',h',h3,h4,h5,h6,h7,h8⟩:=qGC hi (.int .i64 us.length) rfl 8 hsz;have e0:aR ([CV.ptr r 0,x,.clo gf [] []]++cB 28) 0=.ptr r 0:=rfl;have e1:aR ([CV.ptr r 0,x,.clo gf [] []]++cB 28) 1=x:=rfl;have e2:aR ([CV.ptr r 0,x,.clo gf [] []]++cB 28) 2=.clo gf [] []:=rfl;have hE:([CV.ptr r 0,x,.clo gf [] []]++cB 28).length=31:=rfl;refine jR hF rfl ?_
 show Wc tbl (qI8 k g) ([CV.ptr r 0,x,.clo gf [] []]++cB 28) h _
 generalize [CV.ptr r 0,x,.clo gf [] []]++cB 28=E at e0 e1 e2 hE;refine am (bE ?_);refine aB (v:=.ptr r 0) (h':=h) rfl (ak e0) ?_;refine aB (v:=.ptr r 0) (h':=h) rfl (ak (by simp [Opd.ev,put?,getl_setl,aA,hE,e0])) ?_;refine aB (v:=.ptr r 0) (h':=h) rfl (vg (by simp [Opd.ev,put?,getl_setl,aA,hE])) ?_;refine aB (v:=.ptr r 0) (h':=h) rfl (gI (by simp [Opd.ev,put?,getl_setl,aA,hE])) ?_;refine aB (v:=a) (h':=h) rfl (de (A:=.ptr r 0) (by simp [Opd.ev,put?,getl_setl,aA,hE]) (by simp [ldV,h1,cO,nth?,h2])) ?_;refine aB (v:=x) (h':=h) rfl (ak (by simp [Opd.ev,put?,getl_setl,aA,hE,e1])) ?_;refine aB (v:=.int .i64 us.length) (h':=h) rfl (j3 (x:=x) (by simp [Opd.ev,put?,getl_setl,aA,hE]) hlen) ?_;refine aB (v:=.slc 1 h.n 0 1 (some 1)) (h':=h.push (.cells [.int .i64 us.length] false)) rfl (yh (X:=.int .i64 us.length) (by simp [Opd.ev,put?,getl_setl,aA,hE]) rfl rfl) ?_;refine aB (v:=a') (h':=h') rfl (ym (X:=.slc 1 h.n 0 1 (some 1)) (A:=a) (by simp [Opd.ev,put?,getl_setl,aA,hE]) (by simp [Opd.ev,put?,getl_setl,aA,hE]) h3 rfl) ?_;refine aB (v:=.ptr r 0) (h':=h') rfl (vg (by simp [Opd.ev,put?,getl_setl,aA,hE])) ?_;refine aB (v:=.ptr r 0) (h':=h') rfl (gI (by simp [Opd.ev,put?,getl_setl,aA,hE])) ?_;refine aB (v:=undef) (h':=h'.put r (.cells [a',b] false)) rfl (zZ (A:=.ptr r 0) (X:=a') (by simp [Opd.ev,put?,getl_setl,aA,hE]) (by simp [Opd.ev,put?,getl_setl,aA,hE]) (by simp [stV,h4,h6,aM,h5,splice])) (ay ?_);refine am (bE ?_);refine aB (v:=.int .i64 0) (h':=h'.put r (.cells [a',b] false)) rfl rfl (ay ?_);refine eP ?_;refine qCZ (D:=D) hsrc hN hN2 hD ?_ ?_ h7 h8 ?_
 ·rw [Lg.len_cat]; omega
 ·constructor<;>simp [put?,getl_setl,aA,hE,e0,e1,e2]
 ·intro e h9 h10 h11;refine ⟨[],rfl,?_,h11⟩;rw [←Lg.cat_assoc]; exact h10
end Ce.L
namespace Ce.L
open Go
variable {tbl:Nat→Option IF}
theorem nth?_map{α β:Type}(f:α→β):∀{l:List α} {i:Nat} {b:β},nth? (l.map f) i=some b→∃a,nth? l i=some a∧f a=b
 | a::_,0,b,h=>by simp only [List.map,nth?,eB] at h; exact ⟨a,rfl,h⟩
 | _::l,i+1,b,h=>nth?_map f (l:=l) (i:=i) h
theorem uv{k:Nat}{g:Option Nat}:zD (.v .nils) k g []:=by
 intro P h r β x hx;have:x=.nils:=hx;subst this;exact ⟨rfl,fun i u hu=>by cases i<;>cases hu⟩
theorem qGS{rows:List (List CV)}{ex:Bool}{k:Nat}(hr:∀row,row∈rows→row.length=k):zD (.v (.lst rows ex)) k (some k) (rows.map .agg):=by
 intro P h r β x hx;have:x=.lst rows ex:=hx;subst this;refine ⟨by simp [lenOf],fun i u hu=>?_⟩;obtain ⟨row,h1,rfl⟩:=nth?_map _ hu;have hl:=hr row (nth?_mem h1);refine ⟨.rptr row,by simp [iaV,h1,hl],fun h' _=>?_⟩;simp only [ldV,cO];rw [uY (by omega)];simp [←hl]
def hd1:List CV→CV
 | [a]=>a
 | _=>undef
theorem qGR{rows:List (List CV)}{ex:Bool}(hr:∀row,row∈rows→∃u,row=[u]∧u.one=true):zD (.v (.lst rows ex)) 1 none (rows.map hd1):=by
 intro P h r β x hx;have:x=.lst rows ex:=hx;subst this;refine ⟨by simp [lenOf],fun i u hu=>?_⟩;obtain ⟨row,h1,h2⟩:=nth?_map _ hu;obtain ⟨u',rfl,h3⟩:=hr row (nth?_mem h1);simp only [hd1] at h2; subst h2;exact ⟨.rptr [u'],by simp [iaV,h1],fun h' _=>by simp [ldV,cO,nth?,h3]⟩
theorem nth?_drop:∀(o:Nat) {l:List CV} {i:Nat} {a:CV},nth? (l.drop o) i=some a→nth? l (o+i)=some a
 | 0,l,i,a,h=>by simpa using h
 | o+1,[],i,a,h=>by simp [nth?] at h
 | o+1,x::l,i,a,h=>by
  have:=nth?_drop o (l:=l) (i:=i) (a:=a) (by simpa using h);rw [Nat.add_right_comm]; exact this
theorem nth?_take:∀(n:Nat) {l:List CV} {i:Nat} {a:CV},nth? (l.take n) i=some a→nth? l i=some a
 | 0,l,i,a,h=>by simp [nth?] at h
 | n+1,[],i,a,h=>by simp [nth?] at h
 | n+1,x::l,0,a,h=>h
 | n+1,x::l,i+1,a,h=>nth?_take n (l:=l) (i:=i) h
theorem src_fs{off len:Nat}{cap:Option Nat}{cs:List CV}(hl:off+len≤cs.length)(ho:∀u,u∈cs→u.one=true):zD (.fs 1 off len cap cs) 1 none ((cs.drop off).take len):=by
 intro P h r β x ⟨q,hx,hP,hβ,hq,_⟩;subst hx;have hlen:((cs.drop off).take len).length=len:=by simp; omega
 refine ⟨by simp only [lenOf]; rw [hlen],fun i u hu=>?_⟩;have hi:=nth?_lt hu;rw [hlen] at hi;have h1:=nth?_drop off (nth?_take len hu);refine ⟨.ptr q (off+i*1),by simp [iaV,hi],fun h' hf=>?_⟩;have:h'.get q=some (.cells cs false):=(hf.eq q hP).trans hq;simp only [ldV,this,cO,Nat.mul_one,h1];rw [aH (ho u (nth?_mem h1))]
theorem uw{off len k:Nat}{cap:Option Nat}{cs:List CV}(hl:off+len*k≤cs.length):zD (.fs k off len cap cs) k (some k) ((cP k len (cs.drop off)).map .agg):=by
 have hch:∀(n:Nat) (cs:List CV) (i:Nat) (row:List CV),n*k≤cs.length→nth? (cP k n cs) i=some row→i < n∧row=(cs.drop (i*k)).take k:=by
  intro n
  induction n with
  | zero=>intro cs i row _ h; cases i<;>cases h
  | succ n ih =>
   intro cs i row hle h;cases i with
   | zero=>simp only [cP,nth?,eB] at h; subst h; exact ⟨by omega,by simp⟩
   | succ i =>
    rw [eH] at hle;obtain ⟨h1,h2⟩:=ih (cs.drop k) i row (by simp; omega) h;refine ⟨by omega,?_⟩;rw [h2,kW,eH,Nat.one_mul,Nat.add_comm k]
 have hcl:∀(n:Nat) (cs:List CV),(cP k n cs).length=n:=by
  intro n; induction n with
  | zero=>intro cs; rfl
  | succ n ih=>intro cs; simp [cP,ih]
 intro P h r β x ⟨q,hx,hP,hβ,hq,_⟩;subst hx;refine ⟨by simp [lenOf,hcl],fun i u hu=>?_⟩;obtain ⟨row,h1,rfl⟩:=nth?_map _ hu;obtain ⟨h2,h3⟩:=hch len (cs.drop off) i row (by simp; omega) h1;refine ⟨.ptr q (off+i*k),by simp [iaV,h2],fun h' hf=>?_⟩;have:h'.get q=some (.cells cs false):=(hf.eq q hP).trans hq;have hik:i*k+k≤len*k:=by
  have:=dA k (show i+1≤len by omega);rw [eH] at this; omega
 simp only [ldV,this,cO];rw [uY (by omega),h3,kW];simp
end Ce.L
namespace Ce.L
open Go
variable {tbl:Nat→Option IF}
structure WS (S:Pr) (h h':H):Prop where
 n:h.n≤h'.n
 eq:∀i,i < h.n→¬S i→h'.get i=h.get i
 ln:∀q,S q→∀cs,h.get q=some (.cells cs false)→∃cs',h'.get q=some (.cells cs' false)∧cs'.length=cs.length
theorem WS.refl(S:Pr)(h:H):WS S h h:=⟨aV _,fun _ _ _=>rfl,fun _ _ cs h=>⟨cs,h,rfl⟩⟩
theorem WS.trans{S:Pr}{a b c:H}(x:WS S a b)(y:WS S b c):WS S a c:=by
 refine ⟨cz x.n y.n,fun i hi hs=>(y.eq i (dD hi x.n) hs).trans (x.eq i hi hs),fun q hq cs hc=>?_⟩;obtain ⟨c1,h1,h2⟩:=x.ln q hq cs hc;obtain ⟨c2,h3,h4⟩:=y.ln q hq c1 h1;exact ⟨c2,h3,h4.trans h2⟩
def qMX(tbl:Nat→Option IF)(g k:Nat):Prop:=∀(S:Pr) h q o cs,S q→h.get q=some (.cells cs false)→o+k≤cs.length→Wf tbl (.fn g) [.ptr q o] h fun _ h'=>WS S h h'
inductive SlK (S:Pr) (k:Nat) (h:H):CV→Prop
 | nils:SlK S k h .nils
 | slc (k' q off len:Nat) (cap:Option Nat) (cs:List CV):S q→h.get q=some (.cells cs false)→off+len*k≤cs.length→len≤2 ^ 41→SlK S k h (.slc k' q off len cap)
theorem SlK.ws{S:Pr}{k:Nat}{h h':H}{x:CV}(s:SlK S k h x)(w:WS S h h'):SlK S k h' x:=by
 cases s with
 | nils=>exact .nils
 | slc k' q off len cap cs h1 h2 h3 h4 =>
  obtain ⟨cs',h5,h6⟩:=w.ln q h1 cs h2;exact .slc k' q off len cap cs' h1 h5 (by omega) h4
def qZU(k:Nat):IC:=.loop (.seq (.seq (.ops [⟨(some 5),.mov (.t 4),none⟩,⟨(some 6),.mov (.t 0),none⟩,⟨(some 7),.lenS (.t 6),none⟩,⟨(some 8),.bin .lss (.t 5) (.t 7),none⟩]) (.cond (.t 8) .skip (.exit 0))) (.seq (.block 1 (.ops [⟨(some 11),.mov (.t 1),none⟩,⟨(some 12),.mov (.t 0),none⟩,⟨(some 13),.mov (.t 4),none⟩,⟨(some 14),.iaS k (.t 12) (.t 13),none⟩,⟨(some 15),.callV (.t 11) [(.t 14)],none⟩])) (.ops [⟨(some 9),.mov (.t 4),none⟩,⟨(some 10),.bin .add (.t 9) (.c (.int .i64 1)),none⟩,⟨(some 4),.mov (.t 10),none⟩])))
def qGF(k:Nat):IF:=⟨16,[],.seq (.ops [⟨(some 4),.mov (.c (.int .i64 0)),none⟩]) (.block 0 (qZU k)),0⟩
theorem qGE{f g k:Nat}(hF:tbl f=some (qGF k))(hg:qMX tbl g k){S:Pr}{h:H}{x:CV}(hx:SlK S k h x):Wf tbl (.fn f) [x,.clo g [] []] h fun _ h'=>WS S h h':=by
 obtain ⟨n,hn,hn2,hel⟩:∃n,lenOf x=some n∧n≤2 ^ 41∧∀i,i < n→∀h',WS S h h'→∃q o cs,iaV k x i=some (.ptr q o)∧S q∧h'.get q=some (.cells cs false)∧o+k≤cs.length:=by
  cases hx with
  | nils=>exact ⟨0,rfl,by omega,fun i hi=>by omega⟩
  | slc k' q off len cap cs h1 h2 h3 h4 =>
   refine ⟨len,rfl,h4,fun i hi h' w=>?_⟩;obtain ⟨cs',h5,h6⟩:=w.ln q h1 cs h2;have:=dA k (show i+1≤len by omega);rw [eH] at this;exact ⟨q,off+i*k,cs',by simp [iaV,hi],h1,h5,by omega⟩
 refine jR hF rfl ?_;have e0:aR ([x,.clo g [] []]++cB 14) 0=x:=rfl;have e1:aR ([x,.clo g [] []]++cB 14) 1=.clo g [] []:=rfl;have hE:([x,.clo g [] []]++cB 14).length=16:=rfl
 show Wc tbl (.seq (.ops [⟨(some 4),.mov (.c (.int .i64 0)),none⟩]) (.block 0 (qZU k))) ([x,.clo g [] []]++cB 14) h _
 generalize [x,.clo g [] []]++cB 14=E at e0 e1 hE;refine am (bE ?_);refine aB (v:=.int .i64 0) (h':=h) rfl rfl (ay ?_);refine eP (jf (fun m env h2=>∃i:Nat,env.length=16∧aR env 0=x∧aR env 1=.clo g [] []∧aR env 4=.int .i64 i∧m=n - i∧i≤n∧WS S h h2) n ?_ ?_)
 ·exact ⟨0,by simp [put?,aA,hE],by simp [put?,getl_setl,e0],by simp [put?,getl_setl,e1],by simp [put?,getl_setl,hE],by omega,by omega,WS.refl _ _⟩
 rintro m env h2 ⟨i,hln,g0,g1,g4,rfl,hile,ws⟩;refine am (am (bE ?_));refine aB (v:=.int .i64 i) (h':=h2) rfl (ak g4) ?_;refine aB (v:=x) (h':=h2) rfl (ak (by simp [Opd.ev,put?,getl_setl,aA,hln,g0])) ?_;refine aB (v:=.int .i64 n) (h':=h2) rfl (j3 (x:=x) (by simp [Opd.ev,put?,getl_setl,aA,hln]) hn) ?_;refine aB (v:=.bool (decide ((i:Int) < (n:Int)))) (h':=h2) rfl (kT (x:=.int .i64 i) (y:=.int .i64 n) (by simp [Opd.ev,put?,getl_setl,aA,hln]) (by simp [Opd.ev,put?,getl_setl,aA,hln]) rfl) (ay ?_);simp only [bn,put?];refine eu (decide ((i:Int) < (n:Int))) (by simp [Opd.ev,getl_setl,aA,hln]) ?_ ?_
 ·intro ht;have hlt:i < n:=by simpa using ht
  obtain ⟨q,o,cs,h3,h4,h5,h6⟩:=hel i hlt h2 ws;refine fT ?_;simp only [bn];have q0:∀j,j < 5→aR (aL (aL (aL (aL env 5 (CV.int IntKind.i64 i)) 6 x) 7 (CV.int IntKind.i64 n)) 8 (CV.bool (decide ((i:Int) < n)))) j=aR env j:=by
   intro j hj;simp only [getl_setl];rw [aC (by omega),aC (by omega),aC (by omega),aC (by omega)]
  generalize hE:aL (aL (aL (aL env 5 (CV.int IntKind.i64 i)) 6 x) 7 (CV.int IntKind.i64 n)) 8 (CV.bool (decide ((i:Int) < n)))=E at q0;have hEl:E.length=16:=by rw [←hE]; simp [aA,hln]
  have e0:=(q0 0 (by omega)).trans g0;have e1:=(q0 1 (by omega)).trans g1;have e4:=(q0 4 (by omega)).trans g4;refine am (eP (bE ?_));refine aB (v:=.clo g [] []) (h':=h2) rfl (ak e1) ?_;refine aB (v:=x) (h':=h2) rfl (ak (by simp [Opd.ev,put?,getl_setl,aA,hEl,e0])) ?_;refine aB (v:=.int .i64 i) (h':=h2) rfl (ak (by simp [Opd.ev,put?,getl_setl,aA,hEl,e4])) ?_;refine aB (v:=.ptr q o) (h':=h2) rfl (s7 (x:=x) (by simp [Opd.ev,put?,getl_setl,aA,hEl]) (by simp [Opd.ev,put?,getl_setl,aA,hEl]) h3) ?_;refine dB (.fn g) [.ptr q o] rfl (fun c=>?_) ((hg S h2 q o cs h4 h5 h6).mono ?_)
  ·simp only [stepO];simp [Opd.ev,evs,put?,getl_setl,aA,hEl]
  intro v h7 ws2;refine ay ?_;simp only [iw,bn,put?];have r0:∀j,j < 5→aR (aL (aL (aL (aL (aL E 11 (CV.clo g [] [])) 12 x) 13 (CV.int IntKind.i64 i)) 14 (.ptr q o)) 15 v) j=aR E j:=by
   intro j hj;simp only [getl_setl];rw [aC (by omega),aC (by omega),aC (by omega),aC (by omega),aC (by omega)]
  generalize hG:aL (aL (aL (aL (aL E 11 (CV.clo g [] [])) 12 x) 13 (CV.int IntKind.i64 i)) 14 (.ptr q o)) 15 v=G at r0;have hGl:G.length=16:=by rw [←hG]; simp [aA,hEl]
  have f0:=(r0 0 (by omega)).trans e0;have f1:=(r0 1 (by omega)).trans e1;have f4:=(r0 4 (by omega)).trans e4;refine bE ?_;refine aB (v:=.int .i64 i) (h':=h7) rfl (ak f4) ?_;refine aB (v:=.int .i64 (i+1:Nat)) (h':=h7) rfl (kT (x:=.int .i64 i) (y:=.int .i64 1) (by simp [Opd.ev,put?,getl_setl,aA,hGl]) rfl ?_) ?_
  ·show some (CV.int .i64 (IntKind.i64.wrap ((i:Int)+1)))=_
   rw [gm _ (by omega) (by omega)]; simp
  refine aB (v:=.int .i64 (i+1:Nat)) (h':=h7) rfl (ak (by simp [Opd.ev,put?,getl_setl,aA,hGl])) (ay ?_);exact ⟨n - (i+1),by omega,i+1,by simp [put?,aA,hGl],by simp [put?,getl_setl,aA,hGl,f0],by simp [put?,getl_setl,aA,hGl,f1],by simp [put?,getl_setl,aA,hGl],rfl,by omega,ws.trans ws2⟩
 ·intro _;refine lB ?_;exact ⟨[],rfl,ws⟩
def wipe1(v:CV):IF:=⟨4,[],.ops [⟨(some 2),.mov (.t 0),none⟩,⟨(some 3),.nilck (.t 2),none⟩,⟨none,.st 1 (.t 3) (.c v),none⟩],0⟩
theorem splice_len:∀(c:List CV) (n:Nat) (d:List CV),(splice c n d).length=c.length
 | [],n,d=>by cases n<;>cases d<;>rfl
 | x::xs,0,[]=>rfl
 | x::xs,0,y::ys=>by show (y::splice xs 0 ys).length=_; simp [splice_len xs 0 ys]
 | x::xs,n+1,d=>by
  have:splice (x::xs) (n+1) d=x::splice xs n d:=by cases d<;>rfl
  rw [this]; simp [splice_len xs n d]
theorem iU{g:Nat}{v:CV}(hF:tbl g=some (wipe1 v))(hv:v.one=true):qMX tbl g 1:=by
 intro S h q o cs hS hq ho;have hc:=qG4 hv;refine jR hF rfl (bE ?_);refine aB (v:=.ptr q o) (h':=h) rfl rfl ?_;refine aB (v:=.ptr q o) (h':=h) rfl rfl ?_;refine aB (v:=undef) (h':=h.put q (.cells (splice cs o [v]) false)) rfl (zZ (A:=.ptr q o) (X:=v) rfl rfl (by simp [stV,hq,hc,aM,hv,ho])) (ay ?_);refine ⟨[],rfl,by simp,fun i hi hs=>ah (by rintro rfl; exact hs hS),fun q' hq' cs' hcs'=>?_⟩;by_cases hqq:q'=q
 ·subst hqq;rw [hq] at hcs';simp only [eB,Blk.cells.injEq,cZ] at hcs';subst hcs';exact ⟨_,eT,splice_len _ _ _⟩
 ·exact ⟨cs',(ah hqq).trans hcs',rfl⟩
def WipB(tbl:Nat→Option IF)(f k:Nat):Prop:=∀(S:Pr) h b o cs ro x,h.get b=some (.cells cs ro)→nth? cs o=some x→x.one=true→SlK S k h x→Wf tbl (.fn f) [.ptr b o] h fun _ h'=>WS S h h'
def wipeB0(f g:Nat):IF:=⟨6,[],.ops [⟨(some 2),.mov (.t 0),none⟩,⟨(some 3),.nilck (.t 2),none⟩,⟨(some 4),.ld none (.t 3),none⟩,⟨(some 5),.callF f [(.t 4),(.c (.clo g [] []))],none⟩],0⟩
theorem ft{f f' g k:Nat}(hF:tbl f=some (wipeB0 f' g))(hF':tbl f'=some (qGF k))(hg:qMX tbl g k):WipB tbl f k:=by
 intro S h b o cs ro x hb hx hx1 hs;refine jR hF rfl (bE ?_);refine aB (v:=.ptr b o) (h':=h) rfl rfl ?_;refine aB (v:=.ptr b o) (h':=h) rfl rfl ?_;refine aB (v:=x) (h':=h) rfl (de (A:=.ptr b o) rfl (by simp [ldV,hb,cO,hx,hx1])) ?_;refine dB (.fn f') [x,.clo g [] []] rfl (fun c=>rfl) ((qGE hF' hg hs).mono ?_);intro v h' ws;exact ay ⟨[],rfl,ws⟩
def qMW(tbl:Nat→Option IF)(a:AV)(m:M):Prop :=
 ∀P0 P h0 h r β L0 x,Sim P0 P h0 h r β L0 m→(∀i,P0 i→i < r.2)→R P h r β a x→∃fw caps,x=.clo fw [] caps∧Wf tbl (.fn fw) caps h fun _ h''=>HI P0 h'' r.1 (L0.cat m.log)∧Fr P0 h h''
def noth:IF:=⟨0,[],.skip,0⟩
theorem gP{f:Nat}{m:M}(hF:tbl f=some noth):qMW tbl (.v (.clo f [] [])) m:=by
 intro P0 P h0 h r β L0 x s _ hx;refine ⟨f,[],hx,jR hF rfl (fT ⟨[],rfl,s.hi.mono fun i hi=>.inl (s.p0 i hi),Fr.refl _ _⟩)⟩
def WipV(k:Nat):AV→Prop
 | .v x=>x=.nils
 | .fs _ off len _ cs=>off+len*k≤cs.length∧len≤2 ^ 41
 | _=>False
theorem WipV.slk{k:Nat}{a:AV}(w:WipV k a){P:Pr}{h:H}{r:Nat × Nat}{β:List Nat}{x:CV}(hx:R P h r β a x):SlK (fun i=>P i∧i∉β∧r.2≤i) k h x:=by
 cases a with
 | v c =>
  have:x=c:=hx;subst this;have:x=.nils:=w;subst this;exact .nils
 | fs k' off len cap cs =>
  obtain ⟨q,rfl,h1,h2,h3,h4⟩:=hx;exact .slc k' q off len cap cs ⟨h1,h2,h4⟩ h3 w.1 w.2
 | _=>exact w.elim
theorem ws_end{P0 P:Pr}{h0 h h':H}{r:Nat × Nat}{β:List Nat}{L0:Lg}{m:M}(s:Sim P0 P h0 h r β L0 m)(hP0:∀i,P0 i→i < r.2)(ws:WS (fun i=>P i∧i∉β∧r.2≤i) h h'):HI P0 h' r.1 (L0.cat m.log)∧Fr P0 h h':=by
 refine ⟨s.hi.keep ws.n (fun i hi=>ws.eq i (s.hi.own_lt i hi).1 fun c=>(s.hi.own_lt i hi).2 (.inl c.1)) fun i hi=>?_,ws.n,fun i hi=>ws.eq i (s.hi.pn i (.inl (s.p0 i hi))) fun c=>by have:=hP0 i hi; have:=c.2.2; omega⟩;exact ⟨dD (s.hi.pn i (.inl (s.p0 i hi))) ws.n,fun c=>(s.hi.own_lt i c).2 (.inl (s.p0 i hi))⟩
theorem fq{f g k b:Nat}{F:IF}{m:M}{l:List AV}{a:AV}(hF:tbl f=some F)(hm:F.mode=0)(hr:F.res=[])(hl:flatT F.body=some [⟨(some 1),.callF g [(.t 0)],none⟩])(hg:WipB tbl g k)(hb:nth? m.bx b=some l)(hl0:nth? l 0=some a)(ha:WipV k a):qMW tbl (.clo f [.bx b 0]) m:=by
 intro P0 P h0 h r β L0 x s hP0 hx;obtain ⟨xs,rfl,y,ys,rfl,⟨q,hq,rfl⟩,hys⟩:=hx;have:ys=[]:=hys;subst this;refine ⟨f,_,rfl,jR hF hm (kI _ hl ?_)⟩;obtain ⟨cs,ro,h1,h2,h3⟩:=s.bxs.nth hq hb;obtain ⟨x,h4,h5⟩:=h2.nth hl0;refine dB (.fn g) [.ptr q 0] rfl (fun c=>rfl) ((hg _ h q 0 cs ro x h1 h4 (lr h3 h4) (ha.slk h5)).mono ?_);intro v h' ws;exact ay ⟨[],by rw [hr]; rfl,ws_end s hP0 ws⟩
def CallOK(tbl:Nat→Option IF)(f:Nat)(cells:List CV)(d:Lg)(B:Nat):Prop :=
 LgB d B∧∀P h r L q ro,HI P h r L→P q→h.get q=some (.cells cells ro)→L.len+B≤2 ^ 41→Wf tbl (.fn f) [.ptr r 0,.ptr q 0] h fun w h' =>
  HI P h' r (L.cat d)∧Fr P h h'∧∃fw caps,w=.clo fw [] caps∧Wf tbl (.fn fw) caps h' fun _ h''=>HI P h'' r (L.cat d)∧Fr P h' h''
theorem ep{f t:Nat}{F:IF}{l:List IOp}{cells:List CV}{B:Nat}(hF:tbl f=some F)(hm:F.mode=0)(hr:F.res=[.tmp t])(hl:flatT F.body=some l)(ho:aM cells=true)
  (w:aW tbl l (.hp::.bx 0 0::au (F.ntmps - 2)) ⟨1,[vs cells],Lg.nil,0⟩ fun e m=>m.nd≤B∧qMW tbl (dm e t) m):∃d,CallOK tbl f cells d B:=by
 obtain ⟨e',m',⟨hB,hw⟩,hnd,hg,k⟩:=qMT l w;have hlen:=hg LgB.nil;refine ⟨m'.log,hlen.mono hB,?_⟩;intro P h r L q ro hi hPq hq hL;have hPn:∀i,P i→i < h.n:=hi.pn;have hmm:∀i,P i∨i∈[q]→P i:=fun i hi=>by
  rcases hi with hi | hi
  ·exact hi
  ·simp only [cM] at hi; subst hi; exact hPq
 have s:Sim P P h h (r,h.n) [q] L ⟨1,[vs cells],Lg.nil,0⟩:=by
  refine ⟨fun _ h=>h,aV _,by rw [Lg.cat_nil]; exact hi.mono hmm,Fr.refl _ _,⟨q,[],rfl,⟨cells,ro,hq,zU _,ho⟩,rfl⟩,?_,by simp,rfl⟩;intro b q' hb hb1;have:=nth?_lt hb;simp only [List.length_singleton] at this;have hb1:1≤b:=hb1;omega
 refine jR hF hm (kI F.body hl ?_);obtain ⟨n,e2,h2,hrun,P',β',s',ex,hl2,he2⟩:=k P P h h (r,h.n) [q] L ([.ptr r 0,.ptr q 0]++cB (F.ntmps - 2)) s ⟨_,_,rfl,rfl,_,_,rfl,⟨q,rfl,rfl⟩,nY _⟩ (by omega) LgB.nil;refine ⟨n,e2,h2,hrun,[aR e2 t],by rw [hr]; rfl,s'.hi.mono fun i hi=>.inl (ex.p i hi),s'.fr,?_⟩;exact hw P P' h h2 (r,h.n) β' L _ s' hPn (uR t he2)
end Ce.L
namespace Ce.L
open Go
variable {tbl:Nat→Option IF}
structure SE (env:List CV) (p2 p3:Nat):Prop where
 len:env.length=59
 g2:aR env 2=.ptr p2 0
 g3:aR env 3=.ptr p3 0
def Par(h:H)(a b:CV)(n:Nat)(lf:Lf):Prop:=lenOf a=some n∧lenOf b=some n∧n≤2 ^ 41∧∀i,i < n→∃ad bd u,iaV 1 a i=some ad∧iaV 1 b i=some bd∧ldV none ad h=some u∧ldV none bd h=some u∧eqK (.leaf false [lf]) u u=some true
theorem uV{neg b:Bool}{e:EqK}{X Y:Opd}{env:List CV}{h:H}{x y:CV}(hx:X.ev env=x)(hy:Y.ev env=y)(he:eqK e x y=some b):stepO (fun _ _ _=>none) (.eqo neg e X Y) env h=some (.bool (if neg then !b else b),h):=by simp only [stepO,hx,hy,he]
def qZZ:IC:=.loop (.seq (.seq (.ops [⟨(some 23),.mov (.t 5),none⟩,⟨(some 24),.fad 0 (.t 2),none⟩,⟨(some 25),.ld none (.t 24),none⟩,⟨(some 26),.lenS (.t 25),none⟩,⟨(some 27),.bin .lss (.t 23) (.t 26),none⟩]) (.cond (.t 27) .skip (.exit 0))) (.seq (.block 1 (.seq (.ops [⟨(some 30),.fad 0 (.t 2),none⟩,⟨(some 31),.ld none (.t 30),none⟩,⟨(some 32),.mov (.t 5),none⟩,⟨(some 33),.iaS 1 (.t 31) (.t 32),none⟩,⟨(some 34),.ld none (.t 33),none⟩,⟨(some 35),.fad 0 (.t 3),none⟩,⟨(some 36),.ld none (.t 35),none⟩,⟨(some 37),.mov (.t 5),none⟩,⟨(some 38),.iaS 1 (.t 36) (.t 37),none⟩,⟨(some 39),.ld none (.t 38),none⟩,⟨(some 40),.eqo true (.leaf false [.i]) (.t 34) (.t 39),none⟩]) (.cond (.t 40) (.seq (.ops [⟨(some 4),.mov (.c (.bool false)),none⟩]) (.ret)) .skip))) (.ops [⟨(some 28),.mov (.t 5),none⟩,⟨(some 29),.bin .add (.t 28) (.c (.int .i64 1)),none⟩,⟨(some 5),.mov (.t 29),none⟩])))
theorem sl1{a0 a1 b0 b1:CV}{p2 p3 n:Nat}{hh:H}(h2:hh.get p2=some (.cells [a0,a1] false))(h3:hh.get p3=some (.cells [b0,b1] false))(o1:a0.one=true)(o2:b0.one=true)(hp:Par hh a0 b0 n .i)
  {env:List CV} (hs:SE env p2 p3) (h0:aR env 5=.int .i64 (0:Nat)) {Q:Ex→List CV→H→Prop} (hQ:∀e,SE e p2 p3→Q (.jmp (.exit 0)) e hh):Wc tbl qZZ env hh Q:=by
 obtain ⟨hla,hlb,hn2,hel⟩:=hp;refine jf (fun m e h=>h=hh∧∃i:Nat,SE e p2 p3∧aR e 5=.int .i64 i∧m=n - i∧i≤n) n ⟨rfl,0,hs,h0,by omega,by omega⟩ ?_;rintro m env h ⟨rfl,i,⟨hln,g2,g3⟩,gc,rfl,hile⟩;refine am (am (bE ?_));refine aB (v:=.int .i64 i) (h':=h) rfl (ak gc) ?_;refine aB (v:=.ptr p2 0) (h':=h) rfl (gI (r:=p2) (o:=0) (n:=0) (by simp [Opd.ev,put?,getl_setl,aA,hln,g2,g3,gc])) ?_;refine aB (v:=a0) (h':=h) rfl (de (A:=.ptr p2 0) (by simp [Opd.ev,put?,getl_setl,aA,hln,g2,g3,gc]) (by simp [ldV,h2,cO,nth?,o1])) ?_;refine aB (v:=.int .i64 n) (h':=h) rfl (j3 (x:=a0) (by simp [Opd.ev,put?,getl_setl,aA,hln,g2,g3,gc]) hla) ?_;refine aB (v:=.bool (decide ((i:Int) < (n:Int)))) (h':=h) rfl (kT (x:=.int .i64 i) (y:=.int .i64 n) (by simp [Opd.ev,put?,getl_setl,aA,hln,g2,g3,gc]) (by simp [Opd.ev,put?,getl_setl,aA,hln,g2,g3,gc]) rfl) (ay ?_);simp only [bn,put?];refine eu (decide ((i:Int) < (n:Int))) (by simp [Opd.ev,getl_setl,aA,hln]) ?_ ?_
 ·intro ht;have hlt:i < n:=by simpa using ht
  obtain ⟨ad,bd,u,k1,k2,k3,k4,k5⟩:=hel i hlt;refine fT ?_;simp only [bn];have q0:∀j,j < 7→aR (aL (aL (aL (aL (aL (env) 23 (CV.int IntKind.i64 i)) 24 (.ptr p2 0)) 25 (a0)) 26 (CV.int IntKind.i64 n)) 27 (CV.bool (decide ((i:Int) < n)))) j=aR env j:=by
   intro j hj;simp only [getl_setl];rw [aC (by omega),aC (by omega),aC (by omega),aC (by omega),aC (by omega)]
  generalize hE:aL (aL (aL (aL (aL (env) 23 (CV.int IntKind.i64 i)) 24 (.ptr p2 0)) 25 (a0)) 26 (CV.int IntKind.i64 n)) 27 (CV.bool (decide ((i:Int) < n)))=E at q0;have hEl:E.length=59:=by rw [←hE]; simp [aA,hln]
  have e2:=(q0 2 (by omega)).trans g2;have e3:=(q0 3 (by omega)).trans g3;have ec:=(q0 5 (by omega)).trans gc;refine am (eP (am (bE ?_)));refine aB (v:=.ptr p2 0) (h':=h) rfl (gI (r:=p2) (o:=0) (n:=0) (by simp [Opd.ev,put?,getl_setl,aA,hEl,e2,e3,ec])) ?_;refine aB (v:=a0) (h':=h) rfl (de (A:=.ptr p2 0) (by simp [Opd.ev,put?,getl_setl,aA,hEl,e2,e3,ec]) (by simp [ldV,h2,cO,nth?,o1])) ?_;refine aB (v:=.int .i64 i) (h':=h) rfl (ak (by simp [Opd.ev,put?,getl_setl,aA,hEl,e2,e3,ec])) ?_;refine aB (v:=ad) (h':=h) rfl (s7 (x:=a0) (by simp [Opd.ev,put?,getl_setl,aA,hEl,e2,e3,ec]) (by simp [Opd.ev,put?,getl_setl,aA,hEl,e2,e3,ec]) k1) ?_;refine aB (v:=u) (h':=h) rfl (de (A:=ad) (by simp [Opd.ev,put?,getl_setl,aA,hEl,e2,e3,ec]) k3) ?_;refine aB (v:=.ptr p3 0) (h':=h) rfl (gI (r:=p3) (o:=0) (n:=0) (by simp [Opd.ev,put?,getl_setl,aA,hEl,e2,e3,ec])) ?_;refine aB (v:=b0) (h':=h) rfl (de (A:=.ptr p3 0) (by simp [Opd.ev,put?,getl_setl,aA,hEl,e2,e3,ec]) (by simp [ldV,h3,cO,nth?,o2])) ?_;refine aB (v:=.int .i64 i) (h':=h) rfl (ak (by simp [Opd.ev,put?,getl_setl,aA,hEl,e2,e3,ec])) ?_;refine aB (v:=bd) (h':=h) rfl (s7 (x:=b0) (by simp [Opd.ev,put?,getl_setl,aA,hEl,e2,e3,ec]) (by simp [Opd.ev,put?,getl_setl,aA,hEl,e2,e3,ec]) k2) ?_;refine aB (v:=u) (h':=h) rfl (de (A:=bd) (by simp [Opd.ev,put?,getl_setl,aA,hEl,e2,e3,ec]) k4) ?_;refine aB (v:=.bool false) (h':=h) rfl (uV (x:=u) (y:=u) (b:=true) (neg:=true) (by simp [Opd.ev,put?,getl_setl,aA,hEl,e2,e3,ec]) (by simp [Opd.ev,put?,getl_setl,aA,hEl,e2,e3,ec]) k5) (ay ?_);simp only [bn,put?];have r0:∀j,j < 7→aR (aL (aL (aL (aL (aL (aL (aL (aL (aL (aL (aL (E) 30 (.ptr p2 0)) 31 (a0)) 32 (CV.int IntKind.i64 i)) 33 (ad)) 34 (u)) 35 (.ptr p3 0)) 36 (b0)) 37 (CV.int IntKind.i64 i)) 38 (bd)) 39 (u)) 40 (CV.bool false)) j=aR E j:=by
   intro j hj;simp only [getl_setl];rw [aC (by omega),aC (by omega),aC (by omega),aC (by omega),aC (by omega),aC (by omega),aC (by omega),aC (by omega),aC (by omega),aC (by omega),aC (by omega)]
  refine eu false (by simp [Opd.ev,getl_setl,aA,hEl]) (fun c=>by cases c) fun _=>?_
  generalize hG:aL (aL (aL (aL (aL (aL (aL (aL (aL (aL (aL (E) 30 (.ptr p2 0)) 31 (a0)) 32 (CV.int IntKind.i64 i)) 33 (ad)) 34 (u)) 35 (.ptr p3 0)) 36 (b0)) 37 (CV.int IntKind.i64 i)) 38 (bd)) 39 (u)) 40 (CV.bool false)=G at r0;have hGl:G.length=59:=by rw [←hG]; simp [aA,hEl]
  have f2:=(r0 2 (by omega)).trans e2;have f3:=(r0 3 (by omega)).trans e3;have fc:=(r0 5 (by omega)).trans ec;refine fT ?_;simp only [iw,bn];refine bE ?_;refine aB (v:=.int .i64 i) (h':=h) rfl (ak fc) ?_;refine aB (v:=.int .i64 (i+1:Nat)) (h':=h) rfl (kT (x:=.int .i64 i) (y:=.int .i64 1) (by simp [Opd.ev,put?,getl_setl,aA,hGl]) rfl ?_) ?_
  ·show some (CV.int .i64 (IntKind.i64.wrap ((i:Int)+1)))=_
   rw [gm _ (by omega) (by omega)]; simp
  refine aB (v:=.int .i64 (i+1:Nat)) (h':=h) rfl (ak (by simp [Opd.ev,put?,getl_setl,aA,hGl])) (ay ?_);refine ⟨n - (i+1),by omega,rfl,i+1,⟨?_,?_,?_⟩,?_,rfl,by omega⟩
  ·simp [put?,aA,hGl]
  ·simp [put?,getl_setl,aA,hGl,f2]
  ·simp [put?,getl_setl,aA,hGl,f3]
  ·simp [put?,getl_setl,aA,hGl]
 ·intro _;refine lB (hQ _ ⟨?_,?_,?_⟩)
  ·simp [aA,hln]
  ·simp [getl_setl,aA,hln,g2]
  ·simp [getl_setl,aA,hln,g3]
def qZY:IC:=.loop (.seq (.seq (.ops [⟨(some 41),.mov (.t 6),none⟩,⟨(some 42),.fad 1 (.t 2),none⟩,⟨(some 43),.ld none (.t 42),none⟩,⟨(some 44),.lenS (.t 43),none⟩,⟨(some 45),.bin .lss (.t 41) (.t 44),none⟩]) (.cond (.t 45) .skip (.exit 2))) (.seq (.block 3 (.seq (.ops [⟨(some 48),.fad 1 (.t 2),none⟩,⟨(some 49),.ld none (.t 48),none⟩,⟨(some 50),.mov (.t 6),none⟩,⟨(some 51),.iaS 1 (.t 49) (.t 50),none⟩,⟨(some 52),.ld none (.t 51),none⟩,⟨(some 53),.fad 1 (.t 3),none⟩,⟨(some 54),.ld none (.t 53),none⟩,⟨(some 55),.mov (.t 6),none⟩,⟨(some 56),.iaS 1 (.t 54) (.t 55),none⟩,⟨(some 57),.ld none (.t 56),none⟩,⟨(some 58),.eqo true (.leaf false [.s]) (.t 52) (.t 57),none⟩]) (.cond (.t 58) (.seq (.ops [⟨(some 4),.mov (.c (.bool false)),none⟩]) (.ret)) .skip))) (.ops [⟨(some 46),.mov (.t 6),none⟩,⟨(some 47),.bin .add (.t 46) (.c (.int .i64 1)),none⟩,⟨(some 6),.mov (.t 47),none⟩])))
theorem sl2{a0 a1 b0 b1:CV}{p2 p3 n:Nat}{hh:H}(h2:hh.get p2=some (.cells [a0,a1] false))(h3:hh.get p3=some (.cells [b0,b1] false))(o1:a1.one=true)(o2:b1.one=true)(hp:Par hh a1 b1 n .s)
  {env:List CV} (hs:SE env p2 p3) (h0:aR env 6=.int .i64 (0:Nat)) {Q:Ex→List CV→H→Prop} (hQ:∀e,SE e p2 p3→Q (.jmp (.exit 2)) e hh):Wc tbl qZY env hh Q:=by
 obtain ⟨hla,hlb,hn2,hel⟩:=hp;refine jf (fun m e h=>h=hh∧∃i:Nat,SE e p2 p3∧aR e 6=.int .i64 i∧m=n - i∧i≤n) n ⟨rfl,0,hs,h0,by omega,by omega⟩ ?_;rintro m env h ⟨rfl,i,⟨hln,g2,g3⟩,gc,rfl,hile⟩;refine am (am (bE ?_));refine aB (v:=.int .i64 i) (h':=h) rfl (ak gc) ?_;refine aB (v:=.ptr p2 1) (h':=h) rfl (gI (r:=p2) (o:=0) (n:=1) (by simp [Opd.ev,put?,getl_setl,aA,hln,g2,g3,gc])) ?_;refine aB (v:=a1) (h':=h) rfl (de (A:=.ptr p2 1) (by simp [Opd.ev,put?,getl_setl,aA,hln,g2,g3,gc]) (by simp [ldV,h2,cO,nth?,o1])) ?_;refine aB (v:=.int .i64 n) (h':=h) rfl (j3 (x:=a1) (by simp [Opd.ev,put?,getl_setl,aA,hln,g2,g3,gc]) hla) ?_;refine aB (v:=.bool (decide ((i:Int) < (n:Int)))) (h':=h) rfl (kT (x:=.int .i64 i) (y:=.int .i64 n) (by simp [Opd.ev,put?,getl_setl,aA,hln,g2,g3,gc]) (by simp [Opd.ev,put?,getl_setl,aA,hln,g2,g3,gc]) rfl) (ay ?_);simp only [bn,put?];refine eu (decide ((i:Int) < (n:Int))) (by simp [Opd.ev,getl_setl,aA,hln]) ?_ ?_
 ·intro ht;have hlt:i < n:=by simpa using ht
  obtain ⟨ad,bd,u,k1,k2,k3,k4,k5⟩:=hel i hlt;refine fT ?_;simp only [bn];have q0:∀j,j < 7→aR (aL (aL (aL (aL (aL (env) 41 (CV.int IntKind.i64 i)) 42 (.ptr p2 1)) 43 (a1)) 44 (CV.int IntKind.i64 n)) 45 (CV.bool (decide ((i:Int) < n)))) j=aR env j:=by
   intro j hj;simp only [getl_setl];rw [aC (by omega),aC (by omega),aC (by omega),aC (by omega),aC (by omega)]
  generalize hE:aL (aL (aL (aL (aL (env) 41 (CV.int IntKind.i64 i)) 42 (.ptr p2 1)) 43 (a1)) 44 (CV.int IntKind.i64 n)) 45 (CV.bool (decide ((i:Int) < n)))=E at q0;have hEl:E.length=59:=by rw [←hE]; simp [aA,hln]
  have e2:=(q0 2 (by omega)).trans g2;have e3:=(q0 3 (by omega)).trans g3;have ec:=(q0 6 (by omega)).trans gc;refine am (eP (am (bE ?_)));refine aB (v:=.ptr p2 1) (h':=h) rfl (gI (r:=p2) (o:=0) (n:=1) (by simp [Opd.ev,put?,getl_setl,aA,hEl,e2,e3,ec])) ?_;refine aB (v:=a1) (h':=h) rfl (de (A:=.ptr p2 1) (by simp [Opd.ev,put?,getl_setl,aA,hEl,e2,e3,ec]) (by simp [ldV,h2,cO,nth?,o1])) ?_;refine aB (v:=.int .i64 i) (h':=h) rfl (ak (by simp [Opd.ev,put?,getl_setl,aA,hEl,e2,e3,ec])) ?_;refine aB (v:=ad) (h':=h) rfl (s7 (x:=a1) (by simp [Opd.ev,put?,getl_setl,aA,hEl,e2,e3,ec]) (by simp [Opd.ev,put?,getl_setl,aA,hEl,e2,e3,ec]) k1) ?_;refine aB (v:=u) (h':=h) rfl (de (A:=ad) (by simp [Opd.ev,put?,getl_setl,aA,hEl,e2,e3,ec]) k3) ?_;refine aB (v:=.ptr p3 1) (h':=h) rfl (gI (r:=p3) (o:=0) (n:=1) (by simp [Opd.ev,put?,getl_setl,aA,hEl,e2,e3,ec])) ?_;refine aB (v:=b1) (h':=h) rfl (de (A:=.ptr p3 1) (by simp [Opd.ev,put?,getl_setl,aA,hEl,e2,e3,ec]) (by simp [ldV,h3,cO,nth?,o2])) ?_;refine aB (v:=.int .i64 i) (h':=h) rfl (ak (by simp [Opd.ev,put?,getl_setl,aA,hEl,e2,e3,ec])) ?_;refine aB (v:=bd) (h':=h) rfl (s7 (x:=b1) (by simp [Opd.ev,put?,getl_setl,aA,hEl,e2,e3,ec]) (by simp [Opd.ev,put?,getl_setl,aA,hEl,e2,e3,ec]) k2) ?_;refine aB (v:=u) (h':=h) rfl (de (A:=bd) (by simp [Opd.ev,put?,getl_setl,aA,hEl,e2,e3,ec]) k4) ?_;refine aB (v:=.bool false) (h':=h) rfl (uV (x:=u) (y:=u) (b:=true) (neg:=true) (by simp [Opd.ev,put?,getl_setl,aA,hEl,e2,e3,ec]) (by simp [Opd.ev,put?,getl_setl,aA,hEl,e2,e3,ec]) k5) (ay ?_);simp only [bn,put?];have r0:∀j,j < 7→aR (aL (aL (aL (aL (aL (aL (aL (aL (aL (aL (aL (E) 48 (.ptr p2 1)) 49 (a1)) 50 (CV.int IntKind.i64 i)) 51 (ad)) 52 (u)) 53 (.ptr p3 1)) 54 (b1)) 55 (CV.int IntKind.i64 i)) 56 (bd)) 57 (u)) 58 (CV.bool false)) j=aR E j:=by
   intro j hj;simp only [getl_setl];rw [aC (by omega),aC (by omega),aC (by omega),aC (by omega),aC (by omega),aC (by omega),aC (by omega),aC (by omega),aC (by omega),aC (by omega),aC (by omega)]
  refine eu false (by simp [Opd.ev,getl_setl,aA,hEl]) (fun c=>by cases c) fun _=>?_
  generalize hG:aL (aL (aL (aL (aL (aL (aL (aL (aL (aL (aL (E) 48 (.ptr p2 1)) 49 (a1)) 50 (CV.int IntKind.i64 i)) 51 (ad)) 52 (u)) 53 (.ptr p3 1)) 54 (b1)) 55 (CV.int IntKind.i64 i)) 56 (bd)) 57 (u)) 58 (CV.bool false)=G at r0;have hGl:G.length=59:=by rw [←hG]; simp [aA,hEl]
  have f2:=(r0 2 (by omega)).trans e2;have f3:=(r0 3 (by omega)).trans e3;have fc:=(r0 6 (by omega)).trans ec;refine fT ?_;simp only [iw,bn];refine bE ?_;refine aB (v:=.int .i64 i) (h':=h) rfl (ak fc) ?_;refine aB (v:=.int .i64 (i+1:Nat)) (h':=h) rfl (kT (x:=.int .i64 i) (y:=.int .i64 1) (by simp [Opd.ev,put?,getl_setl,aA,hGl]) rfl ?_) ?_
  ·show some (CV.int .i64 (IntKind.i64.wrap ((i:Int)+1)))=_
   rw [gm _ (by omega) (by omega)]; simp
  refine aB (v:=.int .i64 (i+1:Nat)) (h':=h) rfl (ak (by simp [Opd.ev,put?,getl_setl,aA,hGl])) (ay ?_);refine ⟨n - (i+1),by omega,rfl,i+1,⟨?_,?_,?_⟩,?_,rfl,by omega⟩
  ·simp [put?,aA,hGl]
  ·simp [put?,getl_setl,aA,hGl,f2]
  ·simp [put?,getl_setl,aA,hGl,f3]
  ·simp [put?,getl_setl,aA,hGl]
 ·intro _;refine lB (hQ _ ⟨?_,?_,?_⟩)
  ·simp [aA,hln]
  ·simp [getl_setl,aA,hln,g2]
  ·simp [getl_setl,aA,hln,g3]
theorem yD{C A B:Opd}{env:List CV}{h:H}{b:CV}(hc:C.ev env=.bool false)(hb:B.ev env=b):stepO (fun _ _ _=>none) (.pick C A B) env h=some (b,h):=by simp only [stepO,hc,hb]
theorem yi{X:Opd}{env:List CV}{h:H}{x:CV}(hx:X.ev env=x)(ho:aM x.cells=true):stepO (fun _ _ _=>none) (.box X) env h=some (.ptr h.n 0,h.push (.cells x.cells false)):=by
 simp only [stepO,hx]; rw [aH ho]; rfl
def mH:IF:=⟨59,[.tmp 4],.seq (.ops [⟨(some 2),.box (.t 0),none⟩,⟨(some 3),.box (.t 1),none⟩,⟨(some 4),.mov (.c (.bool false)),none⟩]) (.seq (.seq (.ops [⟨(some 7),.fad 0 (.t 2),none⟩,⟨(some 8),.ld none (.t 7),none⟩,⟨(some 9),.lenS (.t 8),none⟩,⟨(some 10),.fad 0 (.t 3),none⟩,⟨(some 11),.ld none (.t 10),none⟩,⟨(some 12),.lenS (.t 11),none⟩,⟨(some 13),.eqo true (.leaf false [.i]) (.t 9) (.t 12),none⟩,⟨(some 14),.mov (.t 13),none⟩,⟨(some 15),.fad 1 (.t 2),(some (14,false))⟩,⟨(some 16),.ld none (.t 15),(some (14,false))⟩,⟨(some 17),.lenS (.t 16),(some (14,false))⟩,⟨(some 18),.fad 1 (.t 3),(some (14,false))⟩,⟨(some 19),.ld none (.t 18),(some (14,false))⟩,⟨(some 20),.lenS (.t 19),(some (14,false))⟩,⟨(some 21),.eqo true (.leaf false [.i]) (.t 17) (.t 20),(some (14,false))⟩,⟨(some 22),.pick (.t 14) (.c (.bool true)) (.t 21),none⟩]) (.cond (.t 22) (.seq (.ops [⟨(some 4),.mov (.c (.bool false)),none⟩]) (.ret)) .skip)) (.seq (.seq (.ops [⟨(some 5),.mov (.c (.int .i64 0)),none⟩]) (.block 0 qZZ)) (.seq (.seq (.ops [⟨(some 6),.mov (.c (.int .i64 0)),none⟩]) (.block 2 qZY)) (.seq (.ops [⟨(some 4),.mov (.c (.bool true)),none⟩]) (.ret))))),0⟩
theorem qP8{f n m:Nat}(hF:tbl f=some mH){h:H}{a0 a1 b0 b1:CV}(oa0:a0.one=true)(oa1:a1.one=true)(ob0:b0.one=true)(ob1:b1.one=true)
  (h1:∀h',(∀i,i < h.n→h'.get i=h.get i)→Par h' a0 b0 n .i) (h2:∀h',(∀i,i < h.n→h'.get i=h.get i)→Par h' a1 b1 m .s):Wf tbl (.fn f) [.agg [a0,a1],.agg [b0,b1]] h fun v h'=>v=.bool true∧h.n≤h'.n∧∀i,i < h.n→h'.get i=h.get i:=by
 refine jR hF rfl ?_;have e0:aR ([CV.agg [a0,a1],.agg [b0,b1]]++cB 57) 0=.agg [a0,a1]:=rfl;have e1:aR ([CV.agg [a0,a1],.agg [b0,b1]]++cB 57) 1=.agg [b0,b1]:=rfl;have hE:([CV.agg [a0,a1],.agg [b0,b1]]++cB 57).length=59:=rfl
 show Wc tbl mH.body ([CV.agg [a0,a1],.agg [b0,b1]]++cB 57) h _
 generalize [CV.agg [a0,a1],.agg [b0,b1]]++cB 57=E at e0 e1 hE;refine am (bE ?_);refine aB (v:=.ptr h.n 0) (h':=h.push (.cells [a0,a1] false)) rfl (yi (x:=.agg [a0,a1]) (show Opd.ev E (.t 0)=_ from e0) (by simp [CV.cells,aM,oa0,oa1])) ?_;refine aB (v:=.ptr (h.n+1) 0) (h':=(h.push (.cells [a0,a1] false)).push (.cells [b0,b1] false)) rfl (yi (x:=.agg [b0,b1]) (by simp [Opd.ev,put?,getl_setl,e1]) (by simp [CV.cells,aM,ob0,ob1])) ?_;have hp2:((h.push (.cells [a0,a1] false)).push (.cells [b0,b1] false)).get h.n=some (.cells [a0,a1] false):=by rw [a9 (by simp),bM]
 have hp3:((h.push (.cells [a0,a1] false)).push (.cells [b0,b1] false)).get (h.n+1)=some (.cells [b0,b1] false):=bM (h:=h.push (.cells [a0,a1] false));have hold:∀i,i < h.n→((h.push (.cells [a0,a1] false)).push (.cells [b0,b1] false)).get i=h.get i:=fun i hi=>by rw [a9 (by simp; omega),a9 hi]
 have hnn:h.n≤((h.push (.cells [a0,a1] false)).push (.cells [b0,b1] false)).n:=by simp; omega
 generalize (h.push (.cells [a0,a1] false)).push (.cells [b0,b1] false)=hh at hp2 hp3 hold hnn;have P1:=h1 hh hold;have P2:=h2 hh hold;have la0:=P1.1;have lb0:=P1.2.1;have la1:=P2.1;have lb1:=P2.2.1;refine aB (v:=.bool false) (h':=hh) rfl rfl (ay ?_);simp only [bn,put?];refine am (am (bE ?_));refine aB (v:=.ptr h.n 0) (h':=hh) rfl (gI (r:=h.n) (o:=0) (n:=0) (by simp [Opd.ev,put?,getl_setl,aA,hE,e0,e1])) ?_;refine aB (v:=a0) (h':=hh) rfl (de (A:=.ptr h.n 0) (by simp [Opd.ev,put?,getl_setl,aA,hE,e0,e1]) (by simp [ldV,hp2,cO,nth?,oa0])) ?_;refine aB (v:=.int .i64 n) (h':=hh) rfl (j3 (x:=a0) (by simp [Opd.ev,put?,getl_setl,aA,hE,e0,e1]) la0) ?_;refine aB (v:=.ptr (h.n+1) 0) (h':=hh) rfl (gI (r:=h.n+1) (o:=0) (n:=0) (by simp [Opd.ev,put?,getl_setl,aA,hE,e0,e1])) ?_;refine aB (v:=b0) (h':=hh) rfl (de (A:=.ptr (h.n+1) 0) (by simp [Opd.ev,put?,getl_setl,aA,hE,e0,e1]) (by simp [ldV,hp3,cO,nth?,ob0])) ?_;refine aB (v:=.int .i64 n) (h':=hh) rfl (j3 (x:=b0) (by simp [Opd.ev,put?,getl_setl,aA,hE,e0,e1]) lb0) ?_;refine aB (v:=.bool false) (h':=hh) rfl (uV (x:=.int .i64 n) (y:=.int .i64 n) (b:=true) (neg:=true) (by simp [Opd.ev,put?,getl_setl,aA,hE,e0,e1]) (by simp [Opd.ev,put?,getl_setl,aA,hE,e0,e1]) (by simp [eqK,kOk,cK,eS,CV.cells,eqF,cr,eqv])) ?_;refine aB (v:=.bool false) (h':=hh) rfl (ak (by simp [Opd.ev,put?,getl_setl,aA,hE,e0,e1])) ?_;refine aB (v:=.ptr h.n 1) (h':=hh) (by simp [grd,put?,getl_setl,aA,hE,eL]) (gI (r:=h.n) (o:=0) (n:=1) (by simp [Opd.ev,put?,getl_setl,aA,hE,e0,e1])) ?_;refine aB (v:=a1) (h':=hh) (by simp [grd,put?,getl_setl,aA,hE,eL]) (de (A:=.ptr h.n 1) (by simp [Opd.ev,put?,getl_setl,aA,hE,e0,e1]) (by simp [ldV,hp2,cO,nth?,oa1])) ?_
 refine aB (v:=.int .i64 m) (h':=hh) (by simp [grd,put?,getl_setl,aA,hE,eL]) (j3 (x:=a1) (by simp [Opd.ev,put?,getl_setl,aA,hE,e0,e1]) la1) ?_;refine aB (v:=.ptr (h.n+1) 1) (h':=hh) (by simp [grd,put?,getl_setl,aA,hE,eL]) (gI (r:=h.n+1) (o:=0) (n:=1) (by simp [Opd.ev,put?,getl_setl,aA,hE,e0,e1])) ?_;refine aB (v:=b1) (h':=hh) (by simp [grd,put?,getl_setl,aA,hE,eL]) (de (A:=.ptr (h.n+1) 1) (by simp [Opd.ev,put?,getl_setl,aA,hE,e0,e1]) (by simp [ldV,hp3,cO,nth?,ob1])) ?_;refine aB (v:=.int .i64 m) (h':=hh) (by simp [grd,put?,getl_setl,aA,hE,eL]) (j3 (x:=b1) (by simp [Opd.ev,put?,getl_setl,aA,hE,e0,e1]) lb1) ?_;refine aB (v:=.bool false) (h':=hh) (by simp [grd,put?,getl_setl,aA,hE,eL]) (uV (x:=.int .i64 m) (y:=.int .i64 m) (b:=true) (neg:=true) (by simp [Opd.ev,put?,getl_setl,aA,hE,e0,e1]) (by simp [Opd.ev,put?,getl_setl,aA,hE,e0,e1]) (by simp [eqK,kOk,cK,eS,CV.cells,eqF,cr,eqv])) ?_;refine aB (v:=.bool false) (h':=hh) rfl (yD (by simp [Opd.ev,put?,getl_setl,aA,hE,e0,e1]) (by simp [Opd.ev,put?,getl_setl,aA,hE,e0,e1])) (ay ?_);simp only [bn,put?];refine eu false (by simp [Opd.ev,getl_setl,aA,hE]) (fun c=>by cases c) fun _=>fT ?_
 simp only [bn];refine am (am (bE (aB (v:=.int .i64 0) (h':=hh) rfl rfl (ay ?_))));simp only [bn,put?];refine eP (sl1 hp2 hp3 oa0 ob0 P1 ⟨?_,?_,?_⟩ ?_ ?_)
 ·simp [aA,hE]
 ·simp [getl_setl,aA,hE]
 ·simp [getl_setl,aA,hE]
 ·simp [getl_setl,aA,hE]
 rintro e ⟨l1,l2,l3⟩;simp only [iw,bn];refine am (am (bE (aB (v:=.int .i64 0) (h':=hh) rfl rfl (ay ?_))));simp only [bn,put?];refine eP (sl2 hp2 hp3 oa1 ob1 P2 ⟨?_,?_,?_⟩ ?_ ?_)
 ·simp [aA,l1]
 ·simp [getl_setl,aA,l2]
 ·simp [getl_setl,aA,l3]
 ·simp [getl_setl,aA,l1]
 rintro e' ⟨l4,l5,l6⟩;simp only [iw,bn];refine am (bE (aB (v:=.bool true) (h':=hh) rfl rfl (ay (rX ⟨[.bool true],?_,rfl,hnn,hold⟩))));simp [mH,resV,put?,getl_setl,l4]
end Ce.L
namespace Ce.L
open Go
variable {tbl:Nat→Option IF}
def tc(tbl:Nat→Option IF)(f:Nat)(x:CV)(d:Lg)(B:Nat):Prop :=
 LgB d B∧∀P h r L,HI P h r L→L.len+B≤2 ^ 41→Wf tbl (.fn f) [x,.ptr r 0] h fun _ h'=>HI P h' r (L.cat d)∧Fr P h h'
theorem all_of{f:Nat}{F:IF}{l:List IOp}{x:CV}{B:Nat}(hF:tbl f=some F)(hm:F.mode=0)(hr:F.res=[])(hl:flatT F.body=some l)
  (w:aW tbl l (.v x::.hp::au (F.ntmps - 2)) ⟨0,[],Lg.nil,0⟩ fun _ m=>m.nd≤B):∃d:Lg,tc tbl f x d B:=by
 obtain ⟨d,h1,h2⟩:=qLD (args:=[.v x,.hp]) hF hm hr hl rfl w;exact ⟨d,h1,fun P h r L hi hb=>h2 P h r L [] [x,.ptr r 0] ⟨_,_,rfl,rfl,_,_,rfl,rfl,rfl⟩ hi hb⟩
inductive Rd (h:H):CV→List CV→Prop
 | nil:Rd h .nils []
 | slc (q n:Nat) (cs:List CV) (ro:Bool):n=cs.length→h.get q=some (.cells cs ro)→Rd h (.slc 1 q 0 n none) cs
theorem Acc.rd{P:Pr}{h h':H}{r:Nat}{a:CV}{cs:List CV}(x:Acc P h r a cs)(he:∀q,q∈own a→h'.get q=h.get q):Rd h' a cs:=by
 cases x with
 | nil=>exact .nil
 | slc q n cs h1 h2 h3 h4 h5 h6=>exact .slc q n cs false h1 ((he q (by simp [own])).trans h3)
theorem Rd.at{h:H}{a:CV}{cs:List CV}(x:Rd h a cs)(ho:∀c,c∈cs→c.one=true):lenOf a=some cs.length∧∀i u,nth? cs i=some u→∃ad,iaV 1 a i=some ad∧ldV none ad h=some u:=by
 cases x with
 | nil=>exact ⟨rfl,fun i u hu=>by cases i<;>cases hu⟩
 | slc q n cs ro h1 h2 =>
  subst h1;refine ⟨rfl,fun i u hu=>⟨.ptr q (0+i*1),by simp [iaV,nth?_lt hu],?_⟩⟩;simp only [ldV,h2,cO,Nat.mul_one,dg,hu];rw [aH (ho u (nth?_mem hu))]
theorem qIF{h:H}{a b:CV}{cs:List CV}{lf:Lf}(xa:Rd h a cs)(xb:Rd h b cs)(hl:cs.length≤2 ^ 41)(ho:∀c,c∈cs→c.one=true)(he:∀c,c∈cs→eqK (.leaf false [lf]) c c=some true):Par h a b cs.length lf:=by
 obtain ⟨h1,h2⟩:=xa.at ho;obtain ⟨h3,h4⟩:=xb.at ho;refine ⟨h1,h3,hl,fun i hi=>?_⟩;obtain ⟨u,hu⟩:=nth?_of_lt hi;obtain ⟨ad,h5,h6⟩:=h2 i u hu;obtain ⟨bd,h7,h8⟩:=h4 i u hu;exact ⟨ad,bd,u,h5,h7,h6,h8,he u (nth?_mem hu)⟩
theorem qb{f B:Nat}(hF:tbl f=some mH){h:H}{a0 a1 b0 b1:CV}{d:Lg}(hd:LgB d B)(hB:B≤2 ^ 41)
  (x0:∀h',(∀i,i < h.n→h'.get i=h.get i)→Rd h' a0 d.1∧Rd h' a1 d.2∧Rd h' b0 d.1∧Rd h' b1 d.2) :
  Wf tbl (.fn f) [.agg [a0,a1],.agg [b0,b1]] h fun v h'=>v=.bool true∧h.n≤h'.n∧∀i,i < h.n→h'.get i=h.get i:=by
 have one:∀{h':H} {a:CV} {cs:List CV},Rd h' a cs→a.one=true:=by intro h' a cs x; cases x<;>rfl
 obtain ⟨r0,r1,r2,r3⟩:=x0 h fun _ _=>rfl
 have hl:=hd.len;simp only [Lg.len] at hl;refine qP8 hF (one r0) (one r1) (one r2) (one r3) (n:=d.1.length) (m:=d.2.length) (fun h' hh=>?_) (fun h' hh=>?_)
 ·obtain ⟨y0,y1,y2,y3⟩:=x0 h' hh;refine qIF y0 y2 (by omega) (fun c hc=>?_) (fun c hc=>?_)
  ·obtain ⟨k,n,rfl⟩:=hd.i c hc; rfl
  ·obtain ⟨k,n,rfl⟩:=hd.i c hc; simp [eqK,kOk,cK,eS,CV.cells,eqF,cr,eqv]
 ·obtain ⟨y0,y1,y2,y3⟩:=x0 h' hh;refine qIF y1 y3 (by omega) (fun c hc=>?_) (fun c hc=>?_)
  ·obtain ⟨b,rfl⟩:=hd.s c hc; rfl
  ·obtain ⟨b,rfl⟩:=hd.s c hc; simp [eqK,kOk,cK,eS,CV.cells,eqF,cr,eqv]
theorem HI.fresh{P:Pr}{h:H}{r:Nat}(hp:∀i,P i→i < h.n)(hr:r < h.n)(hP:¬P r)(hg:h.get r=some (.cells [.nils,.nils] false)):HI P h r Lg.nil:=⟨hp,hr,hP,.nils,.nils,hg,.nil,.nil,by simp [own]⟩
def lw(fs:Nat):IF:=⟨21,[.tmp 4],.seq (.ops [⟨(some 4),.mov (.c (.bool false)),none⟩]) (.seq (.ops [⟨(some 5),.alloc [.nils,.nils],none⟩,⟨(some 6),.alloc [.nils,.nils],none⟩]) (.seq (.ops [⟨(some 8),.mov (.t 0),none⟩,⟨(some 9),.callV (.t 8) [(.t 5)],none⟩]) (.seq (.ops [⟨(some 10),.mov (.t 1),none⟩,⟨(some 11),.callV (.t 10) [(.t 5)],none⟩,⟨(some 7),.mov (.t 11),none⟩]) (.seq (.ops [⟨(some 12),.mov (.t 7),none⟩,⟨(some 13),.callV (.t 12) [],none⟩]) (.seq (.ops [⟨(some 14),.mov (.t 0),none⟩,⟨(some 15),.callV (.t 14) [(.t 6)],none⟩]) (.seq (.ops [⟨(some 16),.mov (.t 1),none⟩,⟨(some 17),.callV (.t 16) [(.t 6)],none⟩]) (.seq (.ops [⟨(some 18),.ld (some 2) (.t 5),none⟩,⟨(some 19),.ld (some 2) (.t 6),none⟩,⟨(some 20),.callF fs [(.t 18),(.t 19)],none⟩,⟨(some 4),.mov (.t 20),none⟩]) (.ret)))))))),0⟩
theorem mz{z:List CV}{env:List CV}{h:H}:stepO (fun _ _ _=>none) (.alloc z) env h=some (.ptr h.n 0,h.push (.cells z false)):=rfl
theorem qMP{f fs fa fc B0 B:Nat}{x:CV}{cells:List CV}{d0 d:Lg}(hF:tbl f=some (lw fs))(hS:tbl fs=some mH)(ha:tc tbl fa x d0 B0)(hc:CallOK tbl fc cells d B)(hB:B0+B≤2 ^ 41)
  {P:Pr} {h:H} {q:Nat} {ro:Bool} (hPn:∀i,P i→i < h.n) (hq:P q) (hg:h.get q=some (.cells cells ro)) :
  Wf tbl (.fn f) [.clo fa [x] [],.clo fc [] [.ptr q 0]] h fun v h'=>v=.bool true∧Fr P h h':=by
 refine jR hF rfl ?_;have e0:aR ([CV.clo fa [x] [],.clo fc [] [.ptr q 0]]++cB 19) 0=.clo fa [x] []:=rfl;have e1:aR ([CV.clo fa [x] [],.clo fc [] [.ptr q 0]]++cB 19) 1=.clo fc [] [.ptr q 0]:=rfl;have hE:([CV.clo fa [x] [],.clo fc [] [.ptr q 0]]++cB 19).length=21:=rfl
 show Wc tbl (lw fs).body ([CV.clo fa [x] [],.clo fc [] [.ptr q 0]]++cB 19) h _
 generalize [CV.clo fa [x] [],.clo fc [] [.ptr q 0]]++cB 19=E at e0 e1 hE;refine am (bE (aB (v:=.bool false) (h':=h) rfl rfl (ay ?_)));refine am (bE ?_);refine aB (v:=.ptr h.n 0) (h':=h.push (.cells [.nils,.nils] false)) rfl mz ?_;refine aB (v:=.ptr (h.n+1) 0) (h':=(h.push (.cells [.nils,.nils] false)).push (.cells [.nils,.nils] false)) rfl mz (ay ?_);have hra:((h.push (.cells [.nils,.nils] false)).push (.cells [.nils,.nils] false)).get h.n=some (.cells [.nils,.nils] false):=by rw [a9 (by simp),bM]
 have hrb:((h.push (.cells [.nils,.nils] false)).push (.cells [.nils,.nils] false)).get (h.n+1)=some (.cells [.nils,.nils] false):=bM (h:=h.push (.cells [.nils,.nils] false));have hold:∀i,i < h.n→((h.push (.cells [.nils,.nils] false)).push (.cells [.nils,.nils] false)).get i=h.get i:=fun i hi=>by rw [a9 (by simp; omega),a9 hi]
 have hnn:h.n+2=((h.push (.cells [.nils,.nils] false)).push (.cells [.nils,.nils] false)).n:=by simp
 generalize (h.push (.cells [.nils,.nils] false)).push (.cells [.nils,.nils] false)=h2 at hra hrb hold hnn;have fr2:Fr P h h2:=⟨by omega,fun i hi=>hold i (hPn i hi)⟩;simp only [bn,put?];have hiA:HI (fun i=>P i∨i=h.n+1) h2 h.n Lg.nil:=HI.fresh (fun i hi=>by rcases hi with hi | hi; (have:=hPn i hi; omega); omega) (by omega) (fun c=>by rcases c with c | c; (have:=hPn _ c; omega); omega) hra;refine am (bE ?_);refine aB (v:=.clo fa [x] []) (h':=h2) rfl (ak (by simp [Opd.ev,put?,getl_setl,aA,hE,e0,e1])) ?_;refine dB (.fn fa) [x,.ptr h.n 0] rfl (fun c=>by simp only [stepO]; simp [Opd.ev,evs,put?,getl_setl,aA,hE,e0]) ((ha.2 _ h2 h.n Lg.nil hiA (by rw [Lg.len_nil]; omega)).mono ?_);rintro v1 h3 ⟨hi3,fr3⟩;rw [Lg.nil_cat] at hi3;refine ay ?_;simp only [bn,put?];have hq3:h3.get q=some (.cells cells ro):=(fr3.eq q (.inl hq)).trans ((fr2.eq q hq).trans hg);refine am (bE ?_);refine aB (v:=.clo fc [] [.ptr q 0]) (h':=h3) rfl (ak (by simp [Opd.ev,put?,getl_setl,aA,hE,e0,e1])) ?_;refine dB (.fn fc) [.ptr h.n 0,.ptr q 0] rfl (fun c=>by simp only [stepO]; simp [Opd.ev,evs,put?,getl_setl,aA,hE]) ((hc.2 _ h3 h.n d0 q ro hi3 (.inl hq) hq3 (by have:=ha.1.len; omega)).mono ?_);rintro w h4 ⟨hi4,fr4,fw,caps,rfl,hw⟩;refine aB (v:=.clo fw [] caps) (h':=h4) rfl (ak (by simp [Opd.ev,put?,getl_setl,aA,hE,e0,e1])) (ay ?_);simp only [bn,put?];refine am (bE ?_);refine aB (v:=.clo fw [] caps) (h':=h4) rfl (ak (by simp [Opd.ev,put?,getl_setl,aA,hE,e0,e1])) ?_;refine dB (.fn fw) caps rfl (fun c=>by simp only [stepO]; simp [Opd.ev,evs,put?,getl_setl,aA,hE]) (hw.mono ?_);rintro v5 h5 ⟨hi5,fr5⟩;refine ay ?_;simp only [bn,put?];have frA:Fr (fun i=>P i∨i=h.n+1) h2 h5:=fr3.trans (fr4.trans fr5);have hrb5:h5.get (h.n+1)=some (.cells [.nils,.nils] false):=(frA.eq _ (.inr rfl)).trans hrb
 have hq5:h5.get q=some (.cells cells ro):=(frA.eq q (.inl hq)).trans ((fr2.eq q hq).trans hg);have hn5:=frA.n;obtain ⟨a0,a1,hab,acc0,acc1,_⟩:=hi5.blk;have own5:=hi5.own_lt;have hiB:HI (fun i=>P i∨om h5 h.n i) h5 (h.n+1) Lg.nil:=HI.fresh (fun i hi=>by rcases hi with hi | hi; (have:=hPn i hi; omega); exact (own5 i hi).1) (by omega) (fun c=>by rcases c with c | c; (have:=hPn _ c; omega); exact (own5 _ c).2 (.inr rfl)) hrb5;refine am (bE ?_);refine aB (v:=.clo fa [x] []) (h':=h5) rfl (ak (by simp [Opd.ev,put?,getl_setl,aA,hE,e0,e1])) ?_;refine dB (.fn fa) [x,.ptr (h.n+1) 0] rfl (fun c=>by simp only [stepO]; simp [Opd.ev,evs,put?,getl_setl,aA,hE]) ((ha.2 _ h5 (h.n+1) Lg.nil hiB (by rw [Lg.len_nil]; omega)).mono ?_);rintro v6 h6 ⟨hi6,fr6⟩;rw [Lg.nil_cat] at hi6;refine ay ?_;simp only [bn,put?];have hq6:h6.get q=some (.cells cells ro):=(fr6.eq q (.inl hq)).trans hq5;refine am (bE ?_);refine aB (v:=.clo fc [] [.ptr q 0]) (h':=h6) rfl (ak (by simp [Opd.ev,put?,getl_setl,aA,hE,e0,e1])) ?_;refine dB (.fn fc) [.ptr (h.n+1) 0,.ptr q 0] rfl (fun c=>by simp only [stepO]; simp [Opd.ev,evs,put?,getl_setl,aA,hE]) ((hc.2 _ h6 (h.n+1) d0 q ro hi6 (.inl hq) hq6 (by have:=ha.1.len; omega)).mono ?_);rintro w7 h7 ⟨hi7,fr7,_⟩;refine ay ?_;simp only [bn,put?];have frB:=fr6.trans fr7;obtain ⟨b0,b1,hbb,bcc0,bcc1,_⟩:=hi7.blk;have hab7:h7.get h.n=some (.cells [a0,a1] false):=(frB.eq h.n (.inr (.inl rfl))).trans hab;refine am (bE ?_);refine aB (v:=.agg [a0,a1]) (h':=h7) rfl (de (A:=.ptr h.n 0) (by simp [Opd.ev,put?,getl_setl,aA,hE,e0,e1]) (by simp [ldV,hab7,cO,cut?])) ?_;refine aB (v:=.agg [b0,b1]) (h':=h7) rfl (de (A:=.ptr (h.n+1) 0) (by simp [Opd.ev,put?,getl_setl,aA,hE,e0,e1]) (by simp [ldV,hbb,cO,cut?])) ?_;refine dB (.fn fs) [.agg [a0,a1],.agg [b0,b1]] rfl (fun c=>by simp only [stepO]; simp [Opd.ev,evs,put?,getl_setl,aA,hE]) ((qb hS (ha.1.cat hc.1) hB (fun h' hh=>?_)).mono ?_)
 ·refine ⟨acc0.rd fun q' hq'=>?_,acc1.rd fun q' hq'=>?_,bcc0.rd fun q' hq'=>?_,bcc1.rd fun q' hq'=>?_⟩
  ·have hlt:=(own_lt acc0 q' hq').1;have:=frB.n;exact (hh q' (by omega)).trans (frB.eq q' (.inr (.inr ⟨a0,a1,hab,.inl hq'⟩)))
  ·have hlt:=(own_lt acc1 q' hq').1;have:=frB.n;exact (hh q' (by omega)).trans (frB.eq q' (.inr (.inr ⟨a0,a1,hab,.inr hq'⟩)))
  ·exact hh q' (own_lt bcc0 q' hq').1
  ·exact hh q' (own_lt bcc1 q' hq').1
 rintro v8 h8 ⟨rfl,hn8,hh8⟩;refine aB (v:=.bool true) (h':=h8) rfl (ak (by simp [Opd.ev,put?,getl_setl,aA,hE,e0,e1])) (ay ?_);refine rX ⟨[.bool true],by simp [lw,resV,put?,getl_setl,aA,hE],rfl,?_⟩;have fr8:Fr P h7 h8:=⟨hn8,fun i hi=>hh8 i (by have:=hPn i hi; have:=frB.n; omega)⟩;exact fr2.trans ((frA.mono fun i hi=>.inl hi).trans ((frB.mono fun i hi=>.inl hi).trans fr8))
end Ce.L
namespace Ce.L
open Go Ce.S
variable {tbl:Nat→Option IF}
def Tv(T:Ty)(c:CV):Prop:=∀v:V,v.i 0=0→av v T c
def Tvs(Ts:List Ty)(cs:List CV):Prop:=∀v:V,v.i 0=0→a8 v Ts cs
def tI:Ty:=eU .i64
def tL(R:List Ty):Ty:=.lst R ⟨0,0⟩ ⟨0,1048576⟩
theorem v0z:S.v0.i 0=0:=rfl
theorem cJ{cs:List CV}(h:Tvs [] cs):cs=[]:=h S.v0 v0z
theorem aD{T:Ty}{Ts:List Ty}{cs:List CV}(h:Tvs (T::Ts) cs):∃c cs',cs=c::cs'∧Tv T c∧Tvs Ts cs':=by
 obtain ⟨c,cs',rfl,_,_⟩:=h S.v0 v0z;refine ⟨c,cs',rfl,fun v hv=>?_,fun v hv=>?_⟩
 ·obtain ⟨a,b,e,h1,h2⟩:=h v hv;simp only [iJ] at e; obtain ⟨rfl,rfl⟩:=e; exact h1
 ·obtain ⟨a,b,e,h1,h2⟩:=h v hv;simp only [iJ] at e; obtain ⟨rfl,rfl⟩:=e; exact h2
theorem aG{T:Ty}{Ts:List Ty}{c:CV}{cs:List CV}(h:Tv T c)(h':Tvs Ts cs):Tvs (T::Ts) (c::cs):=fun v hv=>⟨c,cs,rfl,h v hv,h' v hv⟩
theorem aw:Tvs [] []:=fun _ _=>rfl
theorem kf{l:List Ty}{c:CV}(h:Tv (.agg l) c):∃cs,c=.agg cs∧Tvs l cs:=by
 obtain ⟨cs,rfl,_⟩:=h S.v0 v0z;refine ⟨cs,rfl,fun v hv=>?_⟩;obtain ⟨cs',e,h'⟩:=h v hv;simp only [CV.agg.injEq] at e; subst e; exact h'
theorem cf{l:List Ty}{cs:List CV}(h:Tvs l cs):Tv (.agg l) (.agg cs):=fun v hv=>⟨cs,rfl,h v hv⟩
theorem qN0{k:IntKind}{lo hi:Lin}{c:CV}(h:Tv (.int k lo hi) c):∃n,c=.int k n:=by
 obtain ⟨n,rfl,_⟩:=h S.v0 v0z; exact ⟨n,rfl⟩
theorem Tv_str{c:CV}(h:Tv .str c):∃n,c=.str n:=by
 obtain ⟨n,rfl⟩:=h S.v0 v0z; exact ⟨n,rfl⟩
theorem qMZ{R:List Ty}{N:Nat}{c:CV}(h:Tv (.lst R ⟨0,0⟩ ⟨0,N⟩) c):c=.nils∨∃rows ex,c=.lst rows ex∧rows.length≤N∧∀r,r∈rows→Tvs R r:=by
 rcases h S.v0 v0z with ⟨rfl,_⟩ | ⟨rows,ex,rfl,_,hl,_⟩
 ·exact .inl rfl
 ·refine .inr ⟨rows,ex,rfl,?_,fun r hr v hv=>?_⟩
  ·have:(rows.length:Int)≤0+(N:Int):=hl;omega
  ·rcases h v hv with ⟨c,_⟩ | ⟨rows',ex',e,_,_,h'⟩
   ·cases c
   ·simp only [CV.lst.injEq] at e; obtain ⟨rfl,rfl⟩:=e; exact h' r hr
def qGZ:Ty→Bool
 | .agg _=>false
 | _=>true
theorem aK{T:Ty}{c:CV}(h:Tv T c)(hs:qGZ T=true):c.one=true:=by
 have h0:=h S.v0 v0z;cases T with
 | int k lo hi=>obtain ⟨n,rfl,_⟩:=h0; rfl
 | bool=>obtain ⟨n,rfl⟩:=h0; rfl
 | str=>obtain ⟨n,rfl⟩:=h0; rfl
 | lst R lo hi =>
  rcases h0 with ⟨rfl,_⟩ | ⟨rows,ex,rfl,_⟩<;>rfl
 | agg l=>cases hs
theorem uj:∀{Ts:List Ty} {cs:List CV},Tvs Ts cs→cs.length=Ts.length
 | [],cs,h=>by rw [cJ h]; rfl
 | T::Ts,cs,h=>by obtain ⟨c,cs',rfl,_,h'⟩:=aD h; simp [uj h']
def ElT(g:Option Nat)(R:List Ty)(u:CV):Prop:=match g with
 | some _=>Tv (.agg R) u
 | none=>∃T,R=[T]∧Tv T u
def rt(R:List Ty)(k:Nat)(g:Option Nat)(s:AV)(N:Nat):Prop:=∃us,zD s k g us∧us.length≤N∧∀u,u∈us→ElT g R u
theorem oM{R:List Ty}{k:Nat}{x:CV}(h:Tv (tL R) x)(hk:R.length=k):rt R k (some k) (.v x) 1048576:=by
 rcases qMZ h with rfl | ⟨rows,ex,rfl,hl,hr⟩
 ·exact ⟨[],uv,by simp,fun u hu=>by cases hu⟩
 ·refine ⟨_,qGS (fun row hrow=>by rw [uj (hr row hrow),hk]),by simpa using hl,fun u hu=>?_⟩;obtain ⟨row,h1,rfl⟩:=cI.1 hu;exact cf (hr row h1)
theorem tZ{T:Ty}{x:CV}(h:Tv (tL [T]) x)(hs:qGZ T=true):rt [T] 1 none (.v x) 1048576:=by
 rcases qMZ h with rfl | ⟨rows,ex,rfl,hl,hr⟩
 ·exact ⟨[],uv,by simp,fun u hu=>by cases hu⟩
 ·have key:∀row,row∈rows→∃u,row=[u]∧Tv T u:=fun row hrow=>by
   obtain ⟨c,cs,rfl,h1,h2⟩:=aD (hr row hrow);rw [cJ h2]; exact ⟨c,rfl,h1⟩
  refine ⟨_,qGR (fun row hrow=>?_),by simpa using hl,fun u hu=>?_⟩
  ·obtain ⟨u,h1,h2⟩:=key row hrow; exact ⟨u,h1,aK h2 hs⟩
  ·obtain ⟨row,h1,rfl⟩:=cI.1 hu;obtain ⟨u,rfl,h2⟩:=key row h1;exact ⟨T,rfl,h2⟩
theorem jz{f gf k N B:Nat}{g:Option Nat}{R:List Ty}{s:AV}(hF:tbl f=some (py k g))(hs:rt R k g s N)(hN:N≤2 ^ 30)(hg:∀u,ElT g R u→∃d,dM tbl gf [.v u] d B):∃d,dM tbl f [s,.v (.clo gf [] [])] d (1+N*B):=by
 obtain ⟨us,h1,h2,h3⟩:=hs;exact qI9 hF h1 h2 (by omega) fun u hu=>hg u (h3 u hu)
inductive Sh where
 | v (T:Ty)
 | l (k:Nat) (g:Option Nat) (R:List Ty)
def ShOK:Sh→Rv→Prop
 | .v T,r=>∃c,r=.v c∧Tv T c
 | .l k g R,r=>r=.v .nils∨∃k' off len cap cs,r=.s k' off len cap cs∧rt R k g (.fs k' off len cap cs) (2 ^ 30)∧off+len*k≤cs.length∧len≤2 ^ 30
def gF:List Sh→List Rv→Prop
 | [],rs=>rs=[]
 | s::ss,rs=>∃r rs',rs=r::rs'∧ShOK s r∧gF ss rs'
end Ce.L
namespace Ce.L
open Go Ce.S
variable {tbl:Nat→Option IF}
end Ce.L
namespace Ce.L
noncomputable section
open Go Ce.S
variable {tbl:Nat→Option IF}
mutual
def r9:Ty→Bool
 | .int _ lo hi=>decide (lo.s=0)&&decide (hi.s=0)
 | .bool=>true
 | .str=>true
 | .lst _ _ _=>false
 | .agg l=>iz l
def iz:List Ty→Bool
 | []=>true
 | T::Ts=>r9 T&&iz Ts
end
mutual
theorem z4 {v w:V} (hz:v.i 0=w.i 0):∀(T:Ty) (c:CV),r9 T=true→av v T c→av w T c
 | .int k lo hi,c,hs,h=>by
  simp only [r9,aT,dT] at hs;obtain ⟨n,rfl,h1,h2⟩:=h;refine ⟨n,rfl,?_,?_⟩
  ·simp only [Lin.ev,hs.1] at *; omega
  ·simp only [Lin.ev,hs.2] at *; omega
 | .bool,c,_,h=>h
 | .str,c,_,h=>h
 | .lst R lo hi,c,hs,h=>by simp [r9] at hs
 | .agg l,c,hs,h=>by
  obtain ⟨cs,rfl,h'⟩:=h;exact ⟨cs,rfl,mE hz l cs hs h'⟩
theorem mE {v w:V} (hz:v.i 0=w.i 0):∀(T:List Ty) (c:List CV),iz T=true→a8 v T c→a8 w T c
 | [],c,_,h=>h
 | T::Ts,c,hs,h=>by
  simp only [iz,aT] at hs;obtain ⟨a,b,rfl,h1,h2⟩:=h;exact ⟨a,b,rfl,z4 hz T a hs.1 h1,mE hz Ts b hs.2 h2⟩
end
theorem z7{v:V}{T:Ty}{c:CV}(h:av v T c)(hs:r9 T=true)(hn:qGZ T=true)(k:Nat)(p:H × H):xp (k+1) c p=some (c,p):=by
 cases T with
 | int k lo hi=>obtain ⟨n,rfl,_⟩:=h; rfl
 | bool=>obtain ⟨n,rfl⟩:=h; rfl
 | str=>obtain ⟨n,rfl⟩:=h; rfl
 | lst R lo hi=>simp [r9] at hs
 | agg l=>cases hn
def gw:List Ty→Bool
 | []=>true
 | T::Ts=>qGZ T&&gw Ts
theorem xu{v:V}:∀{T:List Ty} {c:List CV},a8 v T c→iz T=true→gw T=true→∀(k:Nat) (p:H × H),xpL (xp (k+1)) c p=some (c,p)
 | [],c,h,_,_,_,_=>by have:c=[]:=h; subst this; rfl
 | T::Ts,c,h,hs,hn,k,p=>by
  simp only [iz,gw,aT] at hs hn;obtain ⟨a,b,rfl,h1,h2⟩:=h;simp only [xpL,z7 h1 hs.1 hn.1,xu h2 hs.2 hn.2]
theorem zT(f:CV→H × H→Option (CV × H × H)):∀{a b a' b':List CV} {p p' p'':H × H},xpL f a p=some (a',p')→xpL f b p'=some (b',p'')→xpL f (a++b) p=some (a'++b',p'')
 | [],b,a',b',p,p',p'',h1,h2=>by
  simp only [xpL,sI,pI] at h1;obtain ⟨rfl,rfl⟩:=h1; exact h2
 | x::a,b,a',b',p,p',p'',h1,h2=>by
  simp only [xpL] at h1;cases hf:f x p with
  | none=>rw [hf] at h1; cases h1
  | some y =>
   rw [hf] at h1;obtain ⟨y1,y2⟩:=y
   dsimp only at h1
   cases hg:xpL f a y2 with
   | none=>rw [hg] at h1; cases h1
   | some z =>
    rw [hg] at h1;obtain ⟨z1,z2⟩:=z;simp only [sI,pI] at h1;obtain ⟨rfl,rfl⟩:=h1;simp only [eI,xpL,hf,zT f hg h2]
theorem zk{v:V}{k:Nat}{R:List Ty}(h1:iz R=true)(h2:gw R=true):∀(n:Nat) (cs:List CV),aQ v k R cs n→∀(m:Nat) (p:H × H),xpL (xp (m+1)) cs p=some (cs,p)
 | 0,cs,h,_,_=>by have:cs=[]:=h; subst this; rfl
 | n+1,cs,⟨h3,h4,h5⟩,m,p=>by
  have hcs:cs=cs.take k++cs.drop k:=(List.take_append_drop k cs).symm;rw [hcs];exact zT _ (xu h4 h1 h2 m p) (zk h1 h2 n _ h5 m p)
theorem rows_chunk{v:V}{k:Nat}{R:List Ty}(h1:iz R=true)(hz:v.i 0=0):∀(n:Nat) (cs:List CV),aQ v k R cs n→cs.length=n*k∧∀row,row∈cP k n cs→Tvs R row
 | 0,cs,h=>by have:cs=[]:=h; subst this; exact ⟨by simp,fun row hr=>by cases hr⟩
 | n+1,cs,⟨h3,h4,h5⟩=>by
  obtain ⟨h6,h7⟩:=rows_chunk h1 hz n _ h5;refine ⟨?_,fun row hr=>?_⟩
  ·simp only [fX] at h6;rw [eH]; omega
  ·rcases aS.1 hr with rfl | hr
   ·exact fun u hu=>mE (hz.trans hu.symm) R _ h1 h4
   ·exact h7 row hr
theorem qLX:∀(n:Nat) (cs:List CV),cs.length=n→∀u,u∈cs→[u]∈cP 1 n cs
 | 0,cs,h,u,hu=>by have:cs=[]:=jQ h; subst this; cases hu
 | n+1,c::cs,h,u,hu=>by
  show [u]∈[c]::cP 1 n cs
  rcases aS.1 hu with rfl | hu
  ·exact mS
  ·exact mC _ (qLX n cs (by simpa using h) u hu)
theorem jy{v:V}{k:Nat}{R:List Ty}(h1:iz R=true)(hz:v.i 0=0):∀(n N:Nat) (cs:List CV),aQ v k R cs N→n≤N→n*k≤cs.length∧∀row,row∈cP k n cs→Tvs R row
 | 0,_,cs,_,_=>⟨by simp,fun row hr=>by cases hr⟩
 | n+1,0,cs,_,h=>by omega
 | n+1,N+1,cs,⟨h3,h4,h5⟩,h=>by
  obtain ⟨h6,h7⟩:=jy h1 hz n N _ h5 (by omega);refine ⟨?_,fun row hr=>?_⟩
  ·simp only [fX] at h6;rw [eH]; omega
  ·rcases aS.1 hr with rfl | hr
   ·exact fun u hu=>mE (hz.trans hu.symm) R _ h1 h4
   ·exact h7 row hr
theorem qZS{v:V}{k n N k':Nat}{cap:Option Nat}{g:Option Nat}{R:List Ty}{cs:List CV}(hz:v.i 0=0)(h1:iz R=true)(h2:gw R=true)(hk:R.length=k)(hr:aQ v k R cs N)(hnN:n≤N)(hn:n≤2 ^ 30)(hkk:k'=k)(hg:g=some k∨(g=none∧k=1)):rt R k g (.fs k' 0 n cap cs) (2 ^ 30):=by
 obtain ⟨h3,h4⟩:=jy h1 hz n N cs hr hnN;subst hkk;rcases hg with rfl | ⟨rfl,hk1⟩
 ·refine ⟨_,uw (by omega),?_,fun u hu=>?_⟩
  ·simp only [kX,lK];have hcl:∀(n:Nat) (cs:List CV),(cP k' n cs).length=n:=by
    intro n; induction n with
    | zero=>intro cs; rfl
    | succ n ih=>intro cs; simp [cP,ih]
   rw [hcl]; exact hn
  ·obtain ⟨row,h5,rfl⟩:=cI.1 hu;exact cf (h4 row h5)
 ·subst hk1;have hT:∃T,R=[T]:=by
   match R,hk with
   | [T],_=>exact ⟨T,rfl⟩
  obtain ⟨T,rfl⟩:=hT;obtain ⟨h6,h7⟩:=rows_chunk h1 hz N cs hr;have hel:∀u,u∈cs→Tv T u:=fun u hu=>by
   obtain ⟨c,cs',e,h5,_⟩:=aD (h7 [u] (qLX N cs (by omega) u hu));simp only [iJ] at e;rw [e.1]; exact h5
  simp only [gw,Bool.and_true] at h2;refine ⟨_,src_fs (by omega) (fun u hu=>aK (hel u hu) h2),by simp; omega,fun u hu=>⟨T,rfl,hel u (List.mem_of_mem_drop (List.mem_of_mem_take hu))⟩⟩
def gk(g:Option Nat)(k:Nat):Bool:=match g with
 | some k'=>decide (k'=k)
 | none=>decide (k=1)
theorem zBS{g:Option Nat}{k:Nat}(h:gk g k=true):g=some k∨(g=none∧k=1):=by
 cases g with
 | none=>exact .inr ⟨rfl,by simpa [gk] using h⟩
 | some k'=>left; simp only [gk,dT] at h; rw [h]
def leD(fa:List Fact)(a b:Lin)(d:Int):Bool:=leL fa a b d || ent fa 5 a.s b.s (d - a.c+b.c)
theorem qJJ{v:V}{fa:List Fact}(hf:∀f,f∈fa→FOK v f){a b:Lin}{d:Int}(h:leD fa a b d=true):a.ev v - b.ev v≤d:=by
 simp only [leD,bU] at h;rcases h with h | h
 ·exact aE hf h
 ·have:=yZ hf _ _ _ _ h; simp only [Lin.ev]; omega
def pVec(st:St)(k:Nat)(g:Option Nat)(R:List Ty)(k' b:Nat)(len:Lin):Bool :=
 match ai b st.bl with
 | some (.vec b' k'' R' len' false)=>decide (b'=b)&&decide (k'=k)&&decide (k''=k)&&be st.fa len len'&&jT st.fa R' R&&iz R&&gw R&&decide (R.length=k)&&leD st.fa len ⟨0,2 ^ 30⟩ 0&&gk g k
 | _=>false
def pSlc(st:St)(k:Nat)(g:Option Nat)(R:List Ty)(k' b off:Nat)(i len:Lin):Bool :=
 match ai b st.bl with
 | some (.blk b' (.rows k'' R' len') false)=>decide (b'=b)&&decide (k'=k)&&decide (k''=k)&&decide (off=0)&&decide (i.s=0)&&decide (i.c=0)&&leL st.fa len len' 0&&leL st.fa ⟨0,0⟩ len 0&&jT st.fa R' R&&iz R&&gw R&&decide (R.length=k)&&leD st.fa len ⟨0,2 ^ 30⟩ 0&&gk g k
 | _=>false
def aggS:Ty→Bool
 | .agg l=>gw l
 | _=>true
def pSh(st:St):Sh→S.AV→Bool
 | .v T,a=>r9 T&&tyA st.fa T a&&aggS T
 | .l k g R,.nils=>true
 | .l k g R,.vec k' b len=>pVec st k g R k' b len
 | .l k g R,.slc k' b off i len _=>pSlc st k g R k' b off i len
 | _,_=>false
def vW(st:St):List Sh→List S.AV→Bool
 | [],[]=>true
 | s::ss,a::as=>pSh st s a&&vW st ss as
 | _,_=>false
def lC:List S.AV→List Nat
 | []=>[]
 | .vec _ b _::l=>b::lC l
 | .slc _ b _ _ _ _::l=>b::lC l
 | _::l=>lC l
def ndB:List Nat→Bool
 | []=>true
 | a::l=>!(l.contains a)&&ndB l
theorem qNC{v:V}{T:Ty}{c:CV}(h:av v T c)(hs:r9 T=true)(hn:aggS T=true)(k:Nat)(p:H × H):xp (k+2) c p=some (c,p):=by
 cases T with
 | agg l =>
  obtain ⟨cs,rfl,h'⟩:=h;simp only [r9] at hs;unfold xp;simp only [xu h' hs hn]
 | lst R lo hi=>simp [r9] at hs
 | int k lo hi=>exact z7 h hs rfl _ _
 | bool=>exact z7 h hs rfl _ _
 | str=>exact z7 h hs rfl _ _
theorem qIV{v:V}:∀{l:List BE} {p p':BE} {x:Nat},(l.flatMap (adr v)).Nodup→p∈l→p'∈l→p≠p'→x∈adr v p→x∉adr v p'
 | [],_,_,_,_,h,_,_,_=>by cases h
 | q::l,p,p',x,hn,h1,h2,hne,hx=>by
  simp only [i9,List.nodup_append] at hn;obtain ⟨_,hn2,hn3⟩:=hn;intro hx';rcases aS.1 h1 with e1 | h1'
  ·rcases aS.1 h2 with e2 | h2'
   ·exact hne (e1.trans e2.symm)
   ·subst e1; exact hn3 x hx x (eg.2 ⟨p',h2',hx'⟩) rfl
  ·rcases aS.1 h2 with e2 | h2'
   ·subst e2; exact hn3 x hx' x (eg.2 ⟨p,h1',hx⟩) rfl
   ·exact qIV hn2 h1' h2' hne hx hx'
theorem lookB_mem{b:Nat}{p:BE}{l:List BE}(h:ai b l=some p):p∈l∧dF p=b:=by
 obtain ⟨h1,l1,l2,rfl,_⟩:=dx h;exact ⟨by simp,h1⟩
theorem yA{w:V}{st:St}{h':H}(s:Sat0 ⟨H.empty,[]⟩ w st [] h'):∀{shs:List Sh} {l:List S.AV},vW st shs l=true→ndB (lC l)=true →
  ∃rs,gF shs rs∧∀(m:Nat) (hs h1:H),(∀b,b∈lC l→∀p,ai b st.bl=some p→∀a,a∈adr w p→hs.get a=h'.get a)→∃hs',xpL (xp (m+2)) (aF w l) (hs,h1)=some ((dK rs h1).1,hs',(dK rs h1).2)
 | [],[],_,_=>⟨[],rfl,fun m hs h1 _=>⟨hs,rfl⟩⟩
 | [],_::_,h,_=>by cases h
 | _::_,[],h,_=>by cases h
 | sh::shs,a::as,hp,hnd=>by
  simp only [vW,aT] at hp;obtain ⟨hp1,hp2⟩:=hp;have hnd':ndB (lC as)=true:=by
   cases a<;>first | exact hnd | (simp only [lC,ndB,aT] at hnd; exact hnd.2)
  obtain ⟨rs,hrs,hx⟩:=yA s hp2 hnd';have hsub:∀b,b∈lC as→b∈lC (a::as):=by
   intro b hb; cases a<;>first | exact hb | exact mC _ hb
  have plain:∀(c:CV),den w a=c→ShOK sh (.v c)→(∀m p,xp (m+2) c p=some (c,p))→∃rs,gF (sh::shs) rs∧∀(m:Nat) (hs h1:H),(∀b,b∈lC (a::as)→∀p,ai b st.bl=some p→∀x,x∈adr w p→hs.get x=h'.get x)→∃hs',xpL (xp (m+2)) (aF w (a::as)) (hs,h1)=some ((dK rs h1).1,hs',(dK rs h1).2):=by
   intro c hc hsh hxp;refine ⟨.v c::rs,⟨_,_,rfl,hsh,hrs⟩,fun m hs h1 hh=>?_⟩;obtain ⟨hs',h2⟩:=hx m hs h1 fun b hb=>hh b (hsub b hb)
   refine ⟨hs',?_⟩;simp only [aF,xpL,hc,hxp,h2];rfl
  cases sh with
  | v T =>
   simp only [pSh,aT] at hp1;obtain ⟨⟨h1,h2⟩,h3⟩:=hp1;have hT:=gp s.z s.fa T a h2;exact plain (den w a) rfl ⟨_,rfl,fun v hv=>z4 (s.z.trans hv.symm) T _ h1 hT⟩ fun m p=>qNC hT h1 h3 m p
  | l k g R =>
   have slice:∀(b' n N:Nat) (cap:Option Nat) (q:BE) (cs:List CV),lC (a::as)=b'::lC as→den w a=.slc k (w.b b') 0 n cap→ai b' st.bl=some q→adr w q=[w.b b']→h'.get (w.b b')=some (.cells cs false)→aQ w k R cs N→n≤N→n≤2 ^ 30→iz R=true→gw R=true→R.length=k→(g=some k∨(g=none∧k=1))→∃rs,gF (.l k g R::shs) rs∧∀(m:Nat) (hs h1:H),(∀b,b∈lC (a::as)→∀p,ai b st.bl=some p→∀x,x∈adr w p→hs.get x=h'.get x)→∃hs',xpL (xp (m+2)) (aF w (a::as)) (hs,h1)=some ((dK rs h1).1,hs',(dK rs h1).2):=by
    intro b' n N cap q cs hvec hd hl hadr h12 hR hnN hn30 h5 h6 h7 hg;have hlen:=(jy h5 s.z n N cs hR hnN).1;refine ⟨.s k 0 n cap cs::rs,⟨_,_,rfl,.inr ⟨k,0,n,cap,cs,rfl,qZS s.z h5 h6 h7 hR hnN hn30 rfl hg,by omega,hn30⟩,hrs⟩,fun m hs h1 hh=>?_⟩;rw [hvec] at hh hnd;have hget:hs.get (w.b b')=some (.cells cs false):=(hh b' (by simp) _ hl _ (by rw [hadr]; simp)).trans h12;obtain ⟨hm,hkq⟩:=lookB_mem hl;obtain ⟨hs',h2⟩:=hx m (hs.put (w.b b') .dead) (h1.push (.cells cs false)) (fun b hb p hp x hxx=>by
     have hne:b≠b':=by
      rintro rfl;simp only [ndB,aT,Bool.not_eq_true'] at hnd;have:=hnd.1;rw [List.contains_eq_mem,decide_eq_false_iff_not] at this;exact this hb
     obtain ⟨hm',hk'⟩:=lookB_mem hp;have hxn:x≠w.b b':=by
      rintro rfl;refine qIV s.nd hm' hm ?_ hxx (by rw [hadr]; simp);rintro rfl; exact hne (hk'.symm.trans hkq)
     rw [ah hxn];exact hh b (mC _ hb) p hp x hxx)
    refine ⟨hs',?_⟩;have hx1:xp (m+2) (.slc k (w.b b') 0 n cap) (hs,h1)=some (.slc k h1.n 0 n cap,hs.put (w.b b') .dead,h1.push (.cells cs false)):=by
     unfold xp;simp only [hget,zk h5 h6 N cs hR m]
    simp only [aF,xpL,hd,hx1,h2];rfl
   have stysR:∀{R':List Ty},jT st.fa R' R=true→∀(n:Nat) (cs:List CV),aQ w k R' cs n→aQ w k R cs n:=by
    intro R' h4 n; induction n with
    | zero=>intro cs h; exact h
    | succ n ih=>intro cs ⟨a1,a2,a3⟩; exact ⟨a1,eQ s.fa _ _ h4 _ a2,ih _ a3⟩
   cases a<;>simp only [pSh] at hp1<;>try (cases hp1; done)
   case nils=>exact plain .nils rfl (.inl rfl) fun m p=>rfl
   case vec k' b len =>
    unfold pVec at hp1;split at hp1
    ·rename_i b' k'' R' len' hl;simp only [aT,dT] at hp1;obtain ⟨⟨⟨⟨⟨⟨⟨⟨⟨rfl,rfl⟩,rfl⟩,h3⟩,h4⟩,h5⟩,h6⟩,h7⟩,h8⟩,h9⟩:=hp1;obtain ⟨hm,_⟩:=lookB_mem hl;have h10:=aj s.fa h3;have h11:len.ev w≤2 ^ 30:=by
      have:=qJJ s.fa h8;simp only [Lin.ev,s.z] at *; omega
     by_cases h0:len.ev w=0
     ·exact plain .nils (by simp only [den]; rw [aH h0]) (.inl rfl) fun m p=>rfl
     ·have hbl:=s.bl _ hm;simp only [BOK] at hbl;rcases hbl with hbl | ⟨cs,h12,h13,h14,h15,h16⟩
      ·exact (h0 (h10.trans hbl)).elim
      rw [←h10] at h15 h16;obtain ⟨n,hn⟩:∃n:Nat,len.ev w=n:=⟨(len.ev w).toNat,by omega⟩;have hnn:(len.ev w).toNat=n:=by omega
      rw [hnn] at h16;exact slice b' n n none _ cs rfl (by simp only [den]; rw [aC h0,hnn]) hl (by simp only [adr]; rw [aC (by rw [←h10]; exact h0)]) h12 (stysR h4 n cs h16) (aV _) (by omega) h5 h6 h7 (zBS h9)
    ·cases hp1
   case slc k' b off i len cap =>
    unfold pSlc at hp1;split at hp1
    ·rename_i b' k'' R' len' hl;simp only [aT,dT] at hp1;obtain ⟨⟨⟨⟨⟨⟨⟨⟨⟨⟨⟨⟨⟨rfl,rfl⟩,rfl⟩,rfl⟩,hi1⟩,hi2⟩,h3⟩,h3'⟩,h4⟩,h5⟩,h6⟩,h7⟩,h8⟩,h9⟩:=hp1;obtain ⟨hm,_⟩:=lookB_mem hl;have h10:=aE s.fa h3;have h10':=aE s.fa h3';have h11:=qJJ s.fa h8;have hbl:=s.bl _ hm;simp only [BOK] at hbl;obtain ⟨cs,h12,h13,h14,h15,h16⟩:=hbl;have e1:i.ev w=0:=by simp only [Lin.ev,hi1,hi2,s.z]; omega
     simp only [Lin.ev,s.z] at h10 h10' h11 h15 h16;refine slice b' (len.ev w).toNat (len'.ev w).toNat (some (cap.ev w).toNat) _ cs rfl (by simp only [den,e1,gN,d9,d8]) hl (by simp only [adr]) h12 (stysR h4 _ cs h16) ?_ ?_ h5 h6 h7 (zBS h9)
     ·simp only [Lin.ev]; omega
     ·simp only [Lin.ev]; omega
    ·cases hp1
def cj(shs:List Sh)(o:S.AV × St):Bool:=match o.1 with
 | .tup l=>decide (2≤l.length)&&vW o.2 shs l&&ndB (lC l)
 | a=>vW o.2 shs [a]&&ndB (lC [a])
theorem qW:∀{shs:List Sh} {rs:List Rv} (h:H),gF shs rs→(dK rs h).1.length=shs.length
 | [],rs,h,hs=>by have:rs=[]:=hs; subst this; rfl
 | s::ss,rs,h,⟨r,rs',e,h1,h2⟩=>by
  subst e;cases r<;>simp [dK,qW _ h2]
theorem qF{st:St}:∀{shs:List Sh} {l:List S.AV},vW st shs l=true→shs.length=l.length
 | [],[],_=>rfl
 | [],_::_,h=>by cases h
 | _::_,[],h=>by cases h
 | _::_,_::_,h=>by simp only [vW,aT] at h; simp [qF h.2]
theorem one?_tup:∀{l:List CV},2≤l.length→one? l=.tup l
 | [],h=>by simp at h
 | [_],h=>by simp at h
 | _::_::_,_=>rfl
theorem qA2{shs:List Sh}{o:S.AV × St}(h:cj shs o=true){w:V}{h':H}(s:Sat0 ⟨H.empty,[]⟩ w o.2 [] h'):∃rs,gF shs rs∧∀h1,∃hs',xp 20 (den w o.1) (h',h1)=some (one? (dK rs h1).1,hs',(dK rs h1).2):=by
 have single:∀a,o.1=a→vW o.2 shs [a]=true→ndB (lC [a])=true→∃rs,gF shs rs∧∀h1,∃hs',xp 20 (den w o.1) (h',h1)=some (one? (dK rs h1).1,hs',(dK rs h1).2):=by
  intro a ha hp hn;obtain ⟨rs,hrs,hx⟩:=yA s hp hn;refine ⟨rs,hrs,fun h1=>?_⟩;obtain ⟨hs',h2⟩:=hx 18 h' h1 fun _ _ _ _ _ _=>rfl
  refine ⟨hs',?_⟩;rw [ha];have hl:=qW h1 hrs;rw [qF hp] at hl;simp only [aF,xpL] at h2;cases hxx:xp (18+2) (den w a) (h',h1) with
  | none=>rw [hxx] at h2; cases h2
  | some y =>
   rw [hxx] at h2;obtain ⟨y1,y2⟩:=y;simp only [sI,pI] at h2;obtain ⟨h3,rfl⟩:=h2;rw [←h3]; rfl
 unfold cj at h;split at h
 ·rename_i l hl;simp only [aT,dT] at h;obtain ⟨⟨h1,h2⟩,h3⟩:=h;obtain ⟨rs,hrs,hx⟩:=yA s h2 h3;refine ⟨rs,hrs,fun h4=>?_⟩;obtain ⟨hs',h5⟩:=hx 17 h' h4 fun _ _ _ _ _ _=>rfl
  refine ⟨hs',?_⟩;rw [hl,one?_tup (by rw [qW h4 hrs,qF h2]; exact h1)];simp only [den];unfold xp;simp only [h5]
 ·rename_i a _;simp only [aT] at h;exact single _ rfl h.1 h.2
def frzT:Ty→Bool
 | .agg l=>gw l
 | _=>true
theorem Tv_frz{T:Ty}{c:CV}(h:Tv T c)(hs:frzT T=true)(n:Nat)(hh:H):frz (n+2) c hh=some (c,hh):=by
 have one:∀{T:Ty} {c:CV} (m:Nat),av S.v0 T c→qGZ T=true→frz (m+1) c hh=some (c,hh):=by
  intro T c m h0 hs;cases T with
  | int k lo hi=>obtain ⟨n,rfl,_⟩:=h0; rfl
  | bool=>obtain ⟨n,rfl⟩:=h0; rfl
  | str=>obtain ⟨n,rfl⟩:=h0; rfl
  | lst R lo hi=>rcases h0 with ⟨rfl,_⟩ | ⟨rows,ex,rfl,_⟩<;>rfl
  | agg l=>cases hs
 have h0:=h S.v0 v0z;cases T with
 | agg l =>
  obtain ⟨cs,rfl,h'⟩:=h0;have key:∀(l:List Ty) (cs:List CV),gw l=true→a8 S.v0 l cs→frzL (frz (n+1)) cs hh=some (cs,hh):=by
   intro l
   induction l with
   | nil=>intro cs _ h; have:cs=[]:=h; subst this; rfl
   | cons T Ts ih =>
    intro cs hs h;simp only [gw,aT] at hs;obtain ⟨a,b,rfl,h1,h2⟩:=h;simp only [frzL,one n h1 hs.1,ih b hs.2 h2]
  unfold frz;simp only [key l cs hs h']
 | int k lo hi=>exact one (n+1) h0 rfl
 | bool=>exact one (n+1) h0 rfl
 | str=>exact one (n+1) h0 rfl
 | lst R lo hi=>exact one (n+1) h0 rfl
theorem Tv_cln{T:Ty}{c:CV}(h:Tv T c):cln c=true:=te T c (h S.v0 v0z)
def wL:List Ty→Bool
 | []=>true
 | T::Ts=>frzT T&&wL Ts
theorem uk:∀{Ts:List Ty} {cs:List CV},Tvs Ts cs→wL Ts=true→(∀(n:Nat) (hh:H),frzL (frz (n+2)) cs hh=some (cs,hh))∧iD cs=true
 | [],cs,h,_=>by rw [cJ h]; exact ⟨fun _ _=>rfl,rfl⟩
 | T::Ts,cs,h,hs=>by
  simp only [wL,aT] at hs;obtain ⟨c,cs',rfl,h1,h2⟩:=aD h;obtain ⟨h3,h4⟩:=uk h2 hs.2;exact ⟨fun n hh=>by simp only [frzL,Tv_frz h1 hs.1,h3],by simp only [iD,Tv_cln h1,h4,eA]⟩
end
end Ce.L
namespace Ce.L
open Go Ce.S
variable {tbl:Nat→Option IF}
theorem bK{l:List CV}{n m:Nat}{v:CV}(h:n≠m):aR (aL l n v) m=aR l m:=by rw [getl_setl,aC (fun c=>h c.1)]
theorem dy{l:List CV}{n:Nat}{v:CV}(h:n < l.length):aR (aL l n v) n=v:=by rw [getl_setl,aH ⟨rfl,h⟩]
theorem rZ:∀{Ts:List Ty} {cs:List CV},Tvs Ts cs→gw Ts=true→aM cs=true
 | [],cs,h,_=>by rw [cJ h]; rfl
 | T::Ts,cs,h,hs=>by
  simp only [gw,nG] at hs;obtain ⟨c,cs',rfl,h1,h2⟩:=aD h;rw [df,aK h1 hs.1,rZ h2 hs.2]; rfl
theorem kG{h:H}{q n:Nat}{cs:List CV}{ro:Bool}(hg:h.get q=some (.cells cs ro))(hn:cs.length=n):ldV (some n) (.ptr q 0) h=some (.agg cs):=by
 simp only [ldV,hg,cO];rw [uY (by omega),kX,←hn,List.take_length]; rfl
theorem kH{env:List CV}{g:Nat}(h:aR env g=.bool true):grd (some (g,true)) env=true:=by simp [grd,h,eL]
theorem n8{C A B:Opd}{env:List CV}{h:H}{a:CV}(hc:C.ev env=.bool true)(ha:A.ev env=a):stepO (fun _ _ _=>none) (.pick C A B) env h=some (a,h):=by simp only [stepO,hc,ha]
def g5(n fa fg fc a:Nat)(g:Option (Nat × Bool)):List IOp:=[⟨some a,.ld (some n) (.t 1),g⟩,⟨some (a+1),.mkf fa [.t a] [],g⟩,⟨some (a+2),.mkf fc [] [.t 1],g⟩,⟨some (a+3),.callF fg [.t (a+1),.t (a+2)],g⟩]
def uP(n fa fg:Nat):Nat→Nat→List Nat→List IOp
 | _,_,[]=>[]
 | a,g,fc::rest=>g5 n fa fg fc a (some (g,true))++[⟨some (a+4),.pick (.t g) (.t (a+3)) (.c (.bool false)),none⟩,⟨some (if rest.isEmpty then 5 else a+5),.mov (.t (a+4)),none⟩]++uP n fa fg (a+6) (a+5) rest
def qNG(n fa fs fw a:Nat):List IOp:=[⟨some a,.ld (some n) (.t 1),none⟩,⟨some (a+1),.callF fa [.t a,.t 4],none⟩,⟨some (a+2),.mov (.t 5),none⟩,⟨some (a+3),.mov (.t (a+2)),none⟩,⟨some (a+4),.ld (some 2) (.t 3),some (a+3,true)⟩,⟨some (a+5),.ld (some 2) (.t 4),some (a+3,true)⟩,⟨some (a+6),.callF fs [.t (a+4),.t (a+5)],some (a+3,true)⟩,⟨some (a+7),.pick (.t (a+3)) (.t (a+6)) (.c (.bool false)),none⟩,⟨some (a+8),.mov (.t (a+7)),none⟩,⟨some (a+9),.callF fw [],some (a+8,true)⟩,⟨some (a+10),.pick (.t (a+8)) (.t (a+9)) (.c (.bool false)),none⟩,⟨some 2,.mov (.t (a+10)),none⟩]
def qAS(n fa:Nat):List IOp:=[⟨some 1,.box (.t 0),none⟩,⟨some 2,.mov (.c (.bool false)),none⟩,⟨some 3,.alloc [.nils,.nils],none⟩,⟨some 4,.alloc [.nils,.nils],none⟩,⟨some 6,.ld (some n) (.t 1),none⟩,⟨some 7,.callF fa [.t 6,.t 3],none⟩]
def topOps(n fa fg fs fw fc:Nat)(fcs:List Nat):List IOp:=qAS n fa++(g5 n fa fg fc 8 none++(⟨some (if fcs.isEmpty then 5 else 12),.mov (.t 11),none⟩::(uP n fa fg 13 12 fcs++qNG n fa fs fw (12+6*fcs.length+(if fcs.isEmpty then 0 else 0)))))
section
variable {n fa fg fs:Nat} {cells:List CV} {d0:Lg} {B0:Nat}
theorem g5ok{fc a:Nat}{g:Option (Nat × Bool)}(hF:tbl fg=some (lw fs))(hS:tbl fs=some mH)(ha:tc tbl fa (.agg cells) d0 B0){d:Lg}{B:Nat}(hc:CallOK tbl fc cells d B)(hB:B0+B≤2 ^ 41)(hn:cells.length=n)
  {P:Pr} {h:H} {q:Nat} {ro:Bool} {env:List CV} (hPn:∀i,P i→i < h.n) (hq:P q) (hg:h.get q=some (.cells cells ro)) (e1:aR env 1=.ptr q 0) (hl:a+5 < env.length) (h5:5 < a) (hgr:∀env',(∀j,j < a→aR env' j=aR env j)→grd g env'=true) {os:List IOp} {Q:List CV→H→Prop}
  (k:∀env' h',env'.length=env.length→(∀j,j < a→aR env' j=aR env j)→aR env' (a+3)=.bool true→Fr P h h'→Wo tbl os env' h' Q):Wo tbl (g5 n fa fg fc a g++os) env h Q:=by
 refine aB (v:=.agg cells) (h':=h) (hgr _ fun _ _=>rfl) (de (A:=.ptr q 0) e1 (kG hg hn)) ?_;simp only [put?];refine aB (v:=.clo fa [.agg cells] []) (h':=h) (hgr _ fun j hj=>bK (by omega)) (by simp only [stepO,evs,Opd.ev]; rw [dy (by omega)]) ?_;simp only [put?];refine aB (v:=.clo fc [] [.ptr q 0]) (h':=h) (hgr _ fun j hj=>by rw [bK (by omega),bK (by omega)]) (by simp only [stepO,evs,Opd.ev]; rw [bK (by omega),bK (by omega),e1]) ?_;simp only [put?];refine dB (.fn fg) [.clo fa [.agg cells] [],.clo fc [] [.ptr q 0]] (hgr _ fun j hj=>by rw [bK (by omega),bK (by omega),bK (by omega)]) (fun c=>?_) ((qMP hF hS ha hc hB hPn hq hg).mono ?_)
 ·simp only [stepO,evs,Opd.ev];rw [dy (by simp [aA]; omega),bK (by omega),dy (by simp [aA]; omega)]
 rintro v h' ⟨rfl,fr⟩;simp only [put?];refine k _ h' (by simp [aA]) (fun j hj=>by rw [bK (by omega),bK (by omega),bK (by omega),bK (by omega)]) (dy (by simp [aA]; omega)) fr
theorem sf(hF:tbl fg=some (lw fs))(hS:tbl fs=some mH)(ha:tc tbl fa (.agg cells) d0 B0)(hB:B0+2 ^ 34≤2 ^ 41)(hn:cells.length=n)
  {P:Pr} {q:Nat} {ro:Bool} (hq:P q) {Q:List CV→H→Prop} {os:List IOp}:∀{fcs:List Nat} {a g:Nat} {h:H} {env:List CV},(∀fc,fc∈fcs→∃d,CallOK tbl fc cells d (2 ^ 34))→(∀i,P i→i < h.n)→h.get q=some (.cells cells ro)→aR env 1=.ptr q 0 →
   a+6*fcs.length < env.length→g < a→5 < a→(if fcs.isEmpty then aR env 5 else aR env g)=.bool true →
   (∀env' h',env'.length=env.length→(∀j,j < 5→aR env' j=aR env j)→aR env' 5=.bool true→Fr P h h'→Wo tbl os env' h' Q)→Wo tbl (uP n fa fg a g fcs++os) env h Q
 | [],a,g,h,env,_,_,_,_,_,_,_,hb,k=>k env h rfl (fun _ _=>rfl) hb (Fr.refl _ _)
 | fc::rest,a,g,h,env,hc,hPn,hg,e1,hl,hga,h5,hb,k=>by
  obtain ⟨d,hcd⟩:=hc fc (by simp);have hb':aR env g=.bool true:=hb;simp only [eZ] at hl;simp only [uP,nH];refine g5ok hF hS ha hcd hB hn hPn hq hg e1 (by omega) (by omega) (fun env' he=>kH ((he g hga).trans hb')) ?_;intro env' h' hl' he' hr fr;refine aB (v:=.bool true) (h':=h') rfl (n8 (by simp only [Opd.ev]; rw [he' g hga,hb']) hr) ?_;simp only [put?];refine aB (v:=.bool true) (h':=h') rfl (ak (by simp only [Opd.ev]; exact dy (by omega))) ?_;simp only [put?];have fr':=fr;refine sf hF hS ha hB hn hq (fun f hf=>hc f (by simp [hf])) (fun i hi=>dD (hPn i hi) fr.n) ((fr.eq q hq).trans hg) ?_ (by simp only [aA]; omega) (by omega) (by omega) ?_ ?_
  ·by_cases hr:rest.isEmpty=true
   ·rw [aH hr,bK (by omega),bK (by omega),he' 1 (by omega),e1]
   ·rw [aC hr,bK (by omega),bK (by omega),he' 1 (by omega),e1]
  ·by_cases hr:rest.isEmpty=true
   ·simp only [hr,ac]; exact dy (by simp only [aA]; omega)
   ·simp only [hr,bj,bX]; exact dy (by simp only [aA]; omega)
  ·intro env2 h2 hl2 he2 hr2 fr2;refine k env2 h2 (by rw [hl2]; simp [aA,hl']) (fun j hj=>?_) hr2 (fr.trans fr2);rw [he2 j hj];by_cases hr:rest.isEmpty=true
   ·rw [aH hr,bK (by omega),bK (by omega),he' j (by omega)]
   ·rw [aC hr,bK (by omega),bK (by omega),he' j (by omega)]
end
theorem top_ok{f n fa fg fs fw fc B0:Nat}{F:IF}{fcs:List Nat}{cells:List CV}(hf:tbl f=some F)(hm:F.mode=0)(hr:F.res=[.tmp 2])(hnt:F.ntmps=23+6*fcs.length)(hl:flatT F.body=some (topOps n fa fg fs fw fc fcs))(hF:tbl fg=some (lw fs))(hS:tbl fs=some mH)
  (ha:∃d0,tc tbl fa (.agg cells) d0 B0) (hB:B0+2 ^ 34≤2 ^ 41) (hn:cells.length=n) (ho:aM cells=true) (hc:∀g,g∈fc::fcs→∃d,CallOK tbl g cells d (2 ^ 34)) (hw:∀h,Wf tbl (.fn fw) [] h fun v _=>v=.bool true) (h:H) :
  Wf tbl (.fn f) [.agg cells] h fun v _=>v=.bool true:=by
 obtain ⟨d0,ha⟩:=ha;refine jR hf hm (kI F.body hl ?_);have hE:([CV.agg cells]++cB (F.ntmps - [CV.agg cells].length)).length=23+6*fcs.length:=by
  have:∀n,(cB n).length=n:=by intro n; induction n with
   | zero=>rfl
   | succ n ih=>simp [cB,ih]
  simp [this,hnt]; omega
 have e0:aR ([CV.agg cells]++cB (F.ntmps - [CV.agg cells].length)) 0=.agg cells:=rfl;generalize [CV.agg cells]++cB (F.ntmps - [CV.agg cells].length)=E at hE e0
 show Wo tbl (qAS n fa++_) E h _
 refine aB (v:=.ptr h.n 0) (h':=h.push (.cells cells false)) rfl (yi (x:=.agg cells) e0 ho) ?_;simp only [put?];refine aB (v:=.bool false) (h':=h.push (.cells cells false)) rfl rfl ?_;simp only [put?];refine aB (v:=.ptr (h.n+1) 0) (h':=(h.push (.cells cells false)).push (.cells [.nils,.nils] false)) rfl mz ?_;simp only [put?];refine aB (v:=.ptr (h.n+2) 0) (h':=((h.push (.cells cells false)).push (.cells [.nils,.nils] false)).push (.cells [.nils,.nils] false)) rfl mz ?_;simp only [put?];have hq:(((h.push (.cells cells false)).push (.cells [.nils,.nils] false)).push (.cells [.nils,.nils] false)).get h.n=some (.cells cells false):=by rw [a9 (by simp; omega),a9 (by simp),bM]
 have hra:(((h.push (.cells cells false)).push (.cells [.nils,.nils] false)).push (.cells [.nils,.nils] false)).get (h.n+1)=some (.cells [.nils,.nils] false):=by rw [a9 (by simp)]; exact bM (h:=h.push (.cells cells false))
 have hrb:(((h.push (.cells cells false)).push (.cells [.nils,.nils] false)).push (.cells [.nils,.nils] false)).get (h.n+2)=some (.cells [.nils,.nils] false):=bM (h:=(h.push (.cells cells false)).push (.cells [.nils,.nils] false));have hnn:(((h.push (.cells cells false)).push (.cells [.nils,.nils] false)).push (.cells [.nils,.nils] false)).n=h.n+3:=by simp
 generalize ((h.push (.cells cells false)).push (.cells [.nils,.nils] false)).push (.cells [.nils,.nils] false)=h1 at hq hra hrb hnn;have f1:aR (aL (aL (aL (aL E 1 (.ptr h.n 0)) 2 (.bool false)) 3 (.ptr (h.n+1) 0)) 4 (.ptr (h.n+2) 0)) 1=.ptr h.n 0:=by rw [bK (by omega),bK (by omega),bK (by omega),dy (by omega)]
 have f3:aR (aL (aL (aL (aL E 1 (.ptr h.n 0)) 2 (.bool false)) 3 (.ptr (h.n+1) 0)) 4 (.ptr (h.n+2) 0)) 3=.ptr (h.n+1) 0:=by rw [bK (by omega),dy (by simp only [aA]; omega)]
 have f4:aR (aL (aL (aL (aL E 1 (.ptr h.n 0)) 2 (.bool false)) 3 (.ptr (h.n+1) 0)) 4 (.ptr (h.n+2) 0)) 4=.ptr (h.n+2) 0:=by rw [dy (by simp only [aA]; omega)]
 have fl:(aL (aL (aL (aL E 1 (.ptr h.n 0)) 2 (.bool false)) 3 (.ptr (h.n+1) 0)) 4 (.ptr (h.n+2) 0)).length=23+6*fcs.length:=by simp only [aA]; exact hE
 generalize aL (aL (aL (aL E 1 (.ptr h.n 0)) 2 (.bool false)) 3 (.ptr (h.n+1) 0)) 4 (.ptr (h.n+2) 0)=E1 at f1 f3 f4 fl;clear e0 hE;have hiA:HI (fun i=>i=h.n∨i=h.n+2) h1 (h.n+1) Lg.nil:=HI.fresh (fun i hi=>by omega) (by omega) (fun c=>by omega) hra;refine aB (v:=.agg cells) (h':=h1) rfl (de (A:=.ptr h.n 0) f1 (kG hq hn)) ?_;simp only [put?];refine dB (.fn fa) [.agg cells,.ptr (h.n+1) 0] rfl (fun c=>by simp only [stepO,evs,Opd.ev]; rw [dy (by omega),bK (by omega),f3]) ((ha.2 _ h1 (h.n+1) Lg.nil hiA (by rw [Lg.len_nil]; omega)).mono ?_);rintro v2 h2 ⟨hi2,fr2⟩;rw [Lg.nil_cat] at hi2;simp only [put?];have q2:=(fr2.eq h.n (.inl rfl)).trans hq;have rb2:=(fr2.eq (h.n+2) (.inr rfl)).trans hrb;have n2:=fr2.n;have own2':=hi2.own_lt;obtain ⟨a0,a1,hab,acc0,acc1,_⟩:=hi2.blk;have E2:∀j,j < 5→aR (aL (aL E1 6 (.agg cells)) 7 v2) j=aR E1 j:=fun j hj=>by rw [bK (by omega),bK (by omega)]
 have E2l:(aL (aL E1 6 (.agg cells)) 7 v2).length=23+6*fcs.length:=by simp only [aA]; exact fl
 generalize aL (aL E1 6 (.agg cells)) 7 v2=E2' at E2 E2l;have hPn:∀i,(i=h.n∨i=h.n+2∨om h2 (h.n+1) i)→i < h2.n:=fun i hi=>by
  rcases hi with hi | hi | hi
  ·omega
  ·omega
  ·exact (own2' i hi).1
 obtain ⟨d,hcd⟩:=hc fc (by simp);refine g5ok (a:=8) hF hS ha hcd hB hn (P:=fun i=>i=h.n∨i=h.n+2∨om h2 (h.n+1) i) hPn (.inl rfl) q2 ((E2 1 (by omega)).trans f1) (by omega) (by omega) (fun _ _=>rfl) ?_;intro E3 h3 l3 e3 r3 fr3;refine aB (v:=.bool true) (h':=h3) rfl (ak r3) ?_;simp only [put?];refine sf hF hS ha hB hn (P:=fun i=>i=h.n∨i=h.n+2∨om h2 (h.n+1) i) (q:=h.n) (ro:=false) (.inl rfl) (fun g hg=>hc g (by simp [hg])) (fun i hi=>dD (hPn i hi) fr3.n) ((fr3.eq h.n (.inl rfl)).trans q2) ?_ (by simp only [aA]; omega) (by omega) (by omega) ?_ ?_
 ·by_cases hr:fcs.isEmpty=true
  ·rw [aH hr,bK (by omega),e3 1 (by omega),E2 1 (by omega),f1]
  ·rw [aC hr,bK (by omega),e3 1 (by omega),E2 1 (by omega),f1]
 ·by_cases hr:fcs.isEmpty=true
  ·simp only [hr,ac]; exact dy (by omega)
  ·simp only [hr,bj,bX]; exact dy (by omega)
 intro E4 h4 l4 e4 r4 fr4;simp only [aA] at l4;have e4':∀j,j < 5→aR E4 j=aR E1 j:=fun j hj=>by
  rw [e4 j hj];by_cases hr:fcs.isEmpty=true
  ·rw [aH hr,bK (by omega),e3 j (by omega),E2 j hj]
  ·rw [aC hr,bK (by omega),e3 j (by omega),E2 j hj]
 have g1:=(e4' 1 (by omega)).trans f1;have g3:=(e4' 3 (by omega)).trans f3;have g4:=(e4' 4 (by omega)).trans f4;have frA:=fr3.trans fr4;have n4:=frA.n;have rb4:=(frA.eq (h.n+2) (.inr (.inl rfl))).trans rb2;have q4:=(frA.eq h.n (.inl rfl)).trans q2;have ra4:=(frA.eq (h.n+1) (.inr (.inr (.inl rfl)))).trans hab;obtain ⟨A,hA⟩:∃A,A=12+6*fcs.length:=⟨_,rfl⟩;have hA':12+6*fcs.length+(if fcs.isEmpty=true then 0 else 0)=A:=by rw [hA]; simp
 rw [hA'];have l4':E4.length=A+11:=by omega
 have hiB:HI (fun i=>i=h.n∨om h2 (h.n+1) i) h4 (h.n+2) Lg.nil:=HI.fresh (fun i hi=>by
  rcases hi with hi | hi
  ·omega
  ·exact dD (own2' i hi).1 n4) (by omega) (fun c=>by
   rcases c with c | c
   ·omega
   ·exact (own2' _ c).2 (.inr rfl)) rb4
 refine aB (v:=.agg cells) (h':=h4) rfl (de (A:=.ptr h.n 0) g1 (kG q4 hn)) ?_;simp only [put?];refine dB (.fn fa) [.agg cells,.ptr (h.n+2) 0] rfl (fun c=>by simp only [stepO,evs,Opd.ev]; rw [dy (by omega),bK (by omega),g4]) ((ha.2 _ h4 (h.n+2) Lg.nil hiB (by rw [Lg.len_nil]; omega)).mono ?_);rintro v5 h5 ⟨hi5,fr5⟩;rw [Lg.nil_cat] at hi5;obtain ⟨b0,b1,hbb,bcc0,bcc1,_⟩:=hi5.blk;have ra5:=(fr5.eq (h.n+1) (.inr (.inl rfl))).trans ra4;simp only [put?];refine aB (v:=.bool true) (h':=h5) rfl (ak (by simp only [Opd.ev]; rw [bK (by omega),bK (by omega),r4])) ?_;simp only [put?];refine aB (v:=.bool true) (h':=h5) rfl (ak (by simp only [Opd.ev]; rw [dy (by simp only [aA]; omega)])) ?_;simp only [put?];have k0:∀j,j < 5→aR (aL (aL (aL (aL E4 A (.agg cells)) (A+1) v5) (A+2) (.bool true)) (A+3) (.bool true)) j=aR E4 j:=fun j hj=>by rw [bK (by omega),bK (by omega),bK (by omega),bK (by omega)]
 have k1:aR (aL (aL (aL (aL E4 A (.agg cells)) (A+1) v5) (A+2) (.bool true)) (A+3) (.bool true)) (A+3)=.bool true:=dy (by simp only [aA]; omega);have kl:(aL (aL (aL (aL E4 A (.agg cells)) (A+1) v5) (A+2) (.bool true)) (A+3) (.bool true)).length=A+11:=by simp only [aA]; exact l4'
 generalize aL (aL (aL (aL E4 A (.agg cells)) (A+1) v5) (A+2) (.bool true)) (A+3) (.bool true)=E5 at k0 k1 kl;refine aB (v:=.agg [a0,a1]) (h':=h5) (kH k1) (de (A:=.ptr (h.n+1) 0) ((k0 3 (by omega)).trans g3) (kG ra5 rfl)) ?_;simp only [put?];refine aB (v:=.agg [b0,b1]) (h':=h5) (kH (by rw [bK (by omega),k1])) (de (A:=.ptr (h.n+2) 0) (by simp only [Opd.ev]; rw [bK (by omega),k0 4 (by omega),g4]) (kG hbb rfl)) ?_;simp only [put?];refine dB (.fn fs) [.agg [a0,a1],.agg [b0,b1]] (kH (by rw [bK (by omega),bK (by omega),k1])) (fun c=>by simp only [stepO,evs,Opd.ev]; rw [dy (by simp only [aA]; omega),bK (by omega),dy (by omega)]) ((qb hS ha.1 (by omega) (fun h' hh=>?_)).mono ?_)
 ·have fr25:∀i,om h2 (h.n+1) i→h5.get i=h2.get i:=fun i hi=>(fr5.eq i (.inr hi)).trans (frA.eq i (.inr (.inr hi)))
  have lt5:∀i,om h2 (h.n+1) i→i < h5.n:=fun i hi=>dD (dD (own2' i hi).1 n4) fr5.n
  refine ⟨acc0.rd fun q' hq'=>?_,acc1.rd fun q' hq'=>?_,bcc0.rd fun q' hq'=>?_,bcc1.rd fun q' hq'=>?_⟩
  ·have ho:om h2 (h.n+1) q':=.inr ⟨a0,a1,hab,.inl hq'⟩;exact (hh q' (lt5 q' ho)).trans (fr25 q' ho)
  ·have ho:om h2 (h.n+1) q':=.inr ⟨a0,a1,hab,.inr hq'⟩;exact (hh q' (lt5 q' ho)).trans (fr25 q' ho)
  ·exact hh q' (own_lt bcc0 q' hq').1
  ·exact hh q' (own_lt bcc1 q' hq').1
 rintro v6 h6 ⟨rfl,_,_⟩;simp only [put?];refine aB (v:=.bool true) (h':=h6) rfl (n8 (by simp only [Opd.ev]; rw [bK (by omega),bK (by omega),bK (by omega),k1]) (by simp only [Opd.ev]; rw [dy (by simp only [aA]; omega)])) ?_;simp only [put?];refine aB (v:=.bool true) (h':=h6) rfl (ak (by simp only [Opd.ev]; rw [dy (by simp only [aA]; omega)])) ?_;simp only [put?];refine dB (.fn fw) [] (kH (by rw [dy (by simp only [aA]; omega)])) (fun c=>rfl) ((hw h6).mono ?_);rintro v7 h7 rfl;simp only [put?];refine aB (v:=.bool true) (h':=h7) rfl (n8 (by simp only [Opd.ev]; rw [bK (by omega),dy (by simp only [aA]; omega)]) (by simp only [Opd.ev]; rw [dy (by simp only [aA]; omega)])) ?_;simp only [put?];refine aB (v:=.bool true) (h':=h7) rfl (ak (by simp only [Opd.ev]; rw [dy (by simp only [aA]; omega)])) (ay ?_);simp only [put?];exact ⟨[.bool true],by rw [hr]; simp only [resV]; rw [dy (by simp only [aA]; omega)],rfl⟩
end Ce.L
namespace Ce.L
open Go Ce.S
def rFs(r:TypeId→Option (List Ty))(P:Program):List Field→Nat→Option (List Ty)
 | [],_=>some []
 | f::fs,o=>match r f.type with
  | some Ts=>if f.offset=o∧Ts.length=P.cellsOf f.type then (match rFs r P fs (o+Ts.length) with
   | some Us=>some (Ts++Us)
   | none=>none) else none
  | none=>none
def rT(P:Program):Nat→TypeId→Option (List Ty)
 | 0,_=>none
 | n+1,t=>match P.underlying t with
  | some .bool=>some [.bool]
  | some (.int k)=>some [eU k]
  | some .string=>some [.str]
  | some (.slice e)=>match rT P n e with
   | some R=>if R.length=P.cellsOf e∧0 < P.cellsOf e then some [tL R] else none
   | none=>none
  | some (.struct fs)=>match rFs (rT P n) P fs.toList 0 with
   | some Ts=>if Ts.length=P.cellsOf t then some Ts else none
   | none=>none
  | _=>none
structure BP {H:Type} (B:DataW H→Prop):Prop where
 slice:∀e s,B (.slice e s)→e.length≤1048576∧∀d,d∈e→B d
 agg:∀ps,B (.agg ps)→∀p,p∈ps→B p
def VRL(c:Ce.Cx)(W:World)(xs:List CV)(cs:List Value):Prop:=xs.length=cs.length∧∀(i:Nat) (x:CV) (v:Value),xs[i]?=some x→cs[i]?=some v→VR c 0 W x v
theorem qMQ{a:Addr}(hs:a.spot=none)(n:Nat):a.add n=⟨a.block,a.off+n,none⟩:=by
 unfold Addr.add;split
 ·rename_i h; subst h; cases a; simp_all
 ·rfl
theorem kLo_eq(k:IntKind):kLo k=k.min∧kHi k=k.max:=by cases k<;>decide
theorem qZR{k:IntKind}{n:Int}(h:(Lit.int k n).wf=true):Tv (eU k) (.int k n):=by
 have h':k.min≤n∧n≤k.max:=by simpa [Lit.wf] using h
 obtain ⟨e1,e2⟩:=kLo_eq k;exact fun v hv=>wK hv (by omega) (by omega)
theorem qCE:∀{Ts Us:List Ty} {xs ys:List CV},Tvs Ts xs→Tvs Us ys→Tvs (Ts++Us) (xs++ys)
 | [],_,xs,_,h,h'=>by rw [cJ h]; exact h'
 | T::Ts,Us,xs,ys,h,h'=>by
  obtain ⟨c,cs,rfl,h1,h2⟩:=aD h;exact aG h1 (qCE h2 h')
theorem nN{T:Ty}{c:CV}(h:Tv T c):Tvs [T] [c]:=aG h aw
theorem nL{c:Ce.Cx}{W:World}{x:CV}{v:Value}(h:VR c 0 W x v):VRL c W [x] [v]:=by
 refine ⟨rfl,fun i x' v' hx hv=>?_⟩;cases i with
 | zero=>simp only [rV,eB] at hx hv; subst hx; subst hv; exact h
 | succ i=>simp at hx
section
variable {H:Type} {enc:TypeId × Value→H} {P:Program} {W:World} {B:DataW H→Prop}
def RdOK(enc:TypeId × Value→H)(P:Program)(W:World)(B:DataW H→Prop)(t:TypeId)(Ts:List Ty):Prop :=
 ∀fuel cs x,DataW.trod enc P W 0 (fun _=>true) true fuel t cs=some x→B x.1→∃xs,Tvs Ts xs∧VRL (c0 W) W xs cs
theorem sr{r:TypeId→Option (List Ty)}(hr:∀t Ts,r t=some Ts→RdOK enc P W B t Ts){n:Nat}{cs:List Value}:∀(fl:List Field) (o:Nat) (Ts:List Ty) (xr:List (DataW H × List MemPlace)),rFs r P fl o=some Ts→o+Ts.length=cs.length →
  (∀y,y∈xr→B y.1)→xr.length=fl.length→(∀(i:Nat) (f:Field),fl[i]?=some f→DataW.trod enc P W 0 (fun _=>true) true n f.type ((cs.drop f.offset).take (P.cellsOf f.type))=xr[i]?)→∃xs,Tvs Ts xs∧VRL (c0 W) W xs (cs.drop o)
 | [],o,Ts,xr,h,hl,_,_,_=>by
  simp only [rFs,eB] at h; subst h;simp only [lL,d8] at hl;refine ⟨[],aw,?_⟩;rw [List.drop_eq_nil_of_le (by omega)];exact ⟨rfl,fun i x v hx=>by simp at hx⟩
 | f::fl,o,Ts,xr,h,hl,hB,hxl,hf=>by
  simp only [rFs] at h;split at h
  ·rename_i Us hU;split at h
   ·rename_i hc;obtain ⟨hoff,hUl⟩:=hc;split at h
    ·rename_i Vs hV;simp only [eB] at h; subst h
     match xr,hxl with
     | y::xr,hxl =>
      have h0:=hf 0 f rfl;simp only [rV] at h0;rw [hoff] at h0;obtain ⟨xs,h1,h2⟩:=hr _ _ hU n _ y h0 (hB y (by simp));simp only [jP] at hl;obtain ⟨ys,h3,h4⟩:=sr hr fl (o+Us.length) Vs xr hV (by omega) (fun y hy=>hB y (by simp [hy])) (by simpa using hxl) (fun i f hf'=>hf (i+1) f hf');refine ⟨xs++ys,qCE h1 h3,?_⟩;have hsplit:cs.drop o=(cs.drop o).take (P.cellsOf f.type)++cs.drop (o+Us.length):=by
       rw [hUl,←kW,List.take_append_drop]
      rw [hsplit];refine ⟨by simp only [jP,h2.1,h4.1],fun i x v hx hv=>?_⟩;have hxl:=h2.1;by_cases hi:i < xs.length
      ·rw [fY hi] at hx;rw [fY (by omega)] at hv;exact h2.2 i x v hx hv
      ·rw [iM (by omega)] at hx;rw [iM (by omega),←hxl] at hv;exact h4.2 _ x v hx hv
    ·cases h
   ·cases h
  ·cases h
theorem qHW(hB:BP B):∀(n:Nat) (t:TypeId) (Ts:List Ty),rT P n t=some Ts→RdOK enc P W B t Ts
 | 0,_,_,h=>by cases h
 | n+1,t,Ts,h=>by
  intro fuel cs x hx hb;simp only [rT] at h;split at h
  ·rename_i hu;simp only [eB] at h; subst h;obtain ⟨b,rfl,_⟩:=DataW.trod_bool hu hx;exact ⟨[.bool b],nN fun v hv=>⟨b,rfl⟩,nL (.bool b)⟩
  ·rename_i k hu;simp only [eB] at h; subst h;obtain ⟨m,rfl,_,hw⟩:=DataW.trod_int hu hx;exact ⟨[.int k m],nN (qZR hw),nL (.int k m)⟩
  ·rename_i hu;simp only [eB] at h; subst h;obtain ⟨s,rfl,_⟩:=DataW.trod_string hu hx;exact ⟨[.str s],nN fun v hv=>⟨s,rfl⟩,nL (.str s)⟩
  ·rename_i e hu;split at h
   ·rename_i R hR;split at h
    ·rename_i hc;simp only [eB] at h; subst h;have ih:=qHW hB n e R hR;rcases DataW.trod_slice hu hx with ⟨rfl,_⟩ | ⟨a,len,cap,elems,rest,m,rfl,rfl,rfl,h0,hlc,hcm,hel,he,_,_⟩
     ·exact ⟨[.nils],nN fun v hv=>.inl ⟨rfl,by simp [Lin.ev,hv],by simp [Lin.ev,hv]⟩,nL .nils⟩
     ·have hsl:0 < len→a.spot=none∧a.block < W.heap.size:=fun hp=>by
       have h1:=he 0 hp;obtain ⟨y,hy⟩:∃y,elems[0]?=some y:=⟨elems[0]'(by omega),ed (by omega)⟩;rw [hy] at h1;simp only [Option.bind_eq_some_iff] at h1;obtain ⟨csi,h2,_⟩:=h1;obtain ⟨_,h4,h5⟩:=World.cells?_some h2;have h6:=h5 0 hc.2;rw [ed (by omega)] at h6;have h7:W.cell? a=some (csi[0]'(by omega)):=by simpa [Addr.add] using h6
       exact ⟨World.cell?_spot h7,by simpa [Addr.add] using World.cells?_block h2 hc.2⟩
      obtain ⟨hb1,hb2⟩:=hB.slice _ _ hb;simp only [lK] at hb1;have key:∀i,∃p:List CV × List Value,i < len→Tvs R p.1∧VRL (c0 W) W p.1 p.2∧p.2.length=P.cellsOf e∧∀j,j < P.cellsOf e→W.cell? ⟨a.block,a.off+i*P.cellsOf e+j,none⟩=p.2[j]?:=by
       intro i;by_cases hi:i < len
       ·have h1:=he i hi;obtain ⟨y,hy⟩:∃y,elems[i]?=some y:=⟨elems[i]'(by omega),ed (by omega)⟩;rw [hy] at h1;simp only [Option.bind_eq_some_iff] at h1;obtain ⟨csi,h2,h3⟩:=h1;obtain ⟨_,h4,h5⟩:=World.cells?_some h2;have hcell:∀j,j < P.cellsOf e→W.cell? ⟨a.block,a.off+i*P.cellsOf e+j,none⟩=csi[j]?:=by
         intro j hj;rw [←h5 j hj,qMQ (hsl (by omega)).1,qMQ rfl]
        obtain ⟨xs,h6,h7⟩:=ih m csi y h3 (hb2 _ (cI.2 ⟨y,rU hy,rfl⟩));exact ⟨(xs,csi),fun _=>⟨h6,h7,h4,hcell⟩⟩
       ·exact ⟨([],[]),fun c=>(hi c).elim⟩
      obtain ⟨F,hF⟩:=Classical.skolem.1 key;have hrows:∀(i:Nat) (row:List CV),((List.range len).map fun i=>(F i).1)[i]?=some row→i < len∧row=(F i).1:=by
       intro i row hrow;have hi:i < len:=by have:=(fU.1 hrow).1; simpa using this
       refine ⟨hi,?_⟩;simp only [List.getElem?_map,List.getElem?_range hi,dh,eB] at hrow;exact hrow.symm
      refine ⟨[.lst ((List.range len).map fun i=>(F i).1) false],nN fun v hv=>.inr ⟨_,_,rfl,by simp [Lin.ev,hv],by simp [Lin.ev,hv]; omega,fun row hrow=>?_⟩,nL ?_⟩
      ·obtain ⟨i,hi⟩:=List.mem_iff_getElem?.1 hrow;obtain ⟨hil,rfl⟩:=hrows i row hi;exact (hF i hil).1 v hv
      ·have hval:=VR.lst (c:=c0 W) (n:=0) (w:=W) ((List.range len).map fun i=>(F i).1) false (P.cellsOf e) a.block a.off a.spot cap (fun i j=>((F i).2[j]?).getD (.bool false)) (by simpa using hlc) (fun hne=>(hsl (Nat.pos_of_ne_zero (by rintro rfl; simp at hne))).1) (fun c=>by cases c) (fun hne=>(hsl (Nat.pos_of_ne_zero (by rintro rfl; simp at hne))).2) (fun i row hrow=>by
         obtain ⟨hil,rfl⟩:=hrows i row hrow;rw [(hF i hil).2.1.1,(hF i hil).2.2.1]) (fun i row j y hrow hy=>by
         obtain ⟨hil,rfl⟩:=hrows i row hrow;have hj:j < P.cellsOf e:=by
          have:=(fU.1 hy).1;rw [(hF i hil).2.1.1,(hF i hil).2.2.1] at this; exact this
         obtain ⟨u,hu⟩:∃u,(F i).2[j]?=some u:=⟨(F i).2[j]'(by rw [(hF i hil).2.2.1]; exact hj),ed _⟩;rw [(hF i hil).2.2.2 j hj,hu]; rfl) (fun i row j y hrow hy=>by
         obtain ⟨hil,rfl⟩:=hrows i row hrow;have hj:j < P.cellsOf e:=by
          have:=(fU.1 hy).1;rw [(hF i hil).2.1.1,(hF i hil).2.2.1] at this; exact this
         obtain ⟨u,hu⟩:∃u,(F i).2[j]?=some u:=⟨(F i).2[j]'(by rw [(hF i hil).2.2.1]; exact hj),ed _⟩;rw [hu];exact (hF i hil).2.1.2 j y u hy hu)
       simp only [lK,List.length_range] at hval;have ha:a=⟨a.block,a.off,a.spot⟩:=by cases a; rfl
       rw [ha]; exact hval
    ·cases h
   ·cases h
  ·rename_i fs hu;split at h
   ·rename_i Us hU;split at h
    ·rename_i hl;simp only [eB] at h; subst h;obtain ⟨xr,m,rfl,rfl,hcl,hxl,hf⟩:=DataW.trod_struct hu hx;obtain ⟨xs,h1,h2⟩:=sr (n:=m) (fun t Ts ht=>qHW hB n t Ts ht) fs.toList 0 Us xr hU (by omega) (fun y hy=>hB.agg _ hb _ (cI.2 ⟨y,hy,rfl⟩)) (by simpa using hxl) (fun i f hf'=>hf i f (by simpa using hf'));exact ⟨xs,h1,by simpa using h2⟩
    ·cases h
   ·cases h
  ·cases h
end
end Ce.L
namespace Ce.L
open Go Ce.S Go.ChangeShapes
theorem gz{α:Type}(d:α){f:Nat→Option α}{n:Nat}{l:List α}(hl:l.length=n)(h:∀i,i < n→f i=l[i]?):(List.range n).mapM f=some l:=by
 rw [mapM_range_of (g:=fun i=>(l[i]?).getD d) n (fun i hi=>by rw [h i hi,ed (by omega)]; rfl)]
 congr 1
 apply List.ext_getElem
 ·simp [hl]
 ·intro i h1 h2;simp [ed h2]
theorem vo{α β:Type}{f:α→Option β}:∀{l:List α} {xs:List β},xs.length=l.length→(∀(i:Nat) (a:α),l[i]?=some a→f a=xs[i]?)→l.mapM f=some xs
 | [],[],_,_=>rfl
 | [],_::_,h,_=>by cases h
 | _::_,[],h,_=>by cases h
 | a::l,x::xs,hl,h=>by
  have h0:=h 0 a rfl;simp only [rV] at h0;have ih:=vo (f:=f) (l:=l) (xs:=xs) (by simpa using hl) (fun i b hb=>h (i+1) b hb);rw [List.mapM_cons,h0,ih]; rfl
theorem zq{r:TypeId→Option (List Ty)}{P:Program}:∀{fl:List Field} {o:Nat} {Ts:List Ty},rFs r P fl o=some Ts→∀f,f∈fl→∃Us,r f.type=some Us
 | [],_,_,_,f,hf=>by cases hf
 | g::fl,o,Ts,h,f,hf=>by
  simp only [rFs] at h;split at h
  ·rename_i Us hU;rcases aS.1 hf with rfl | hf
   ·exact ⟨Us,hU⟩
   ·split at h
    ·split at h
     ·rename_i Vs hV;exact zq hV f hf
     ·cases h
    ·cases h
  ·cases h
section
variable {H:Type} {enc:TypeId × Value→H} {P:Program} {W W':World}
theorem yf(hk:∀a v,W.cell? a=some v→W'.cell? a=some v){a:Addr}{n:Nat}{cs:List Value}(h:W.cells? 0 a n=some cs):W'.cells? 0 a n=some cs:=by
 obtain ⟨_,h2,h3⟩:=World.cells?_some h;unfold World.cells?;rw [aH (fV _)];refine gz (.bool false) h2 fun i hi=>?_
 have h4:=h3 i hi;rw [ed (by omega)] at h4 ⊢;exact hk _ _ h4
theorem nR(hk:∀a v,W.cell? a=some v→W'.cell? a=some v):∀(n:Nat) (t:TypeId) (Ts:List Ty),rT P n t=some Ts→∀(fuel:Nat) (cs:List Value) (x:DataW H × List MemPlace) (sp:Nat→Bool),
  DataW.trod enc P W 0 (fun _=>true) true fuel t cs=some x→(∀p,p∈x.2→sp p.block=true)→DataW.trod enc P W' 0 sp true fuel t cs=some x
 | 0,_,_,h=>by cases h
 | n+1,t,Ts,h=>by
  intro fuel cs x sp hx hp;simp only [rT] at h;split at h
  ·rename_i hu;obtain ⟨b,rfl,rfl⟩:=DataW.trod_bool hu hx;cases fuel with
   | zero=>simp [DataW.trod] at hx
   | succ m=>unfold DataW.trod; rw [hu]
  ·rename_i k hu;obtain ⟨m,rfl,rfl,hw⟩:=DataW.trod_int hu hx;cases fuel with
   | zero=>simp [DataW.trod] at hx
   | succ m=>unfold DataW.trod; rw [hu]; simp [hw]
  ·rename_i hu;obtain ⟨s,rfl,rfl,hs⟩:=DataW.trod_string hu hx;cases fuel with
   | zero=>simp [DataW.trod] at hx
   | succ m=>unfold DataW.trod; rw [hu]; simp [hs]
  ·rename_i e hu;split at h
   ·rename_i R hR;split at h
    ·rename_i hc;have ih:=nR hk n e R hR;rcases DataW.trod_slice hu hx with ⟨rfl,rfl⟩ | ⟨a,len,cap,elems,rest,m,rfl,rfl,rfl,h0,hlc,hcm,hel,he,hsp,_⟩
     ·cases fuel with
      | zero=>simp [DataW.trod] at hx
      | succ m=>unfold DataW.trod; rw [hu]; rfl
     ·obtain ⟨hrl,hre⟩:=hsp rfl;have each:∀(i:Nat) (y:DataW H × List MemPlace),y∈elems++rest→(W.cells? 0 (a.add (i*P.cellsOf e)) (P.cellsOf e)).bind (DataW.trod enc P W 0 (fun _=>true) true m e)=some y →
        (W'.cells? 0 (a.add (i*P.cellsOf e)) (P.cellsOf e)).bind (DataW.trod enc P W' 0 sp true m e)=some y:=by
       intro i y hy h1;simp only [Option.bind_eq_some_iff] at h1;obtain ⟨csi,h2,h3⟩:=h1;rw [yf hk h2];exact ih m csi y sp h3 fun p hpp=>hp p (fF _ (eg.2 ⟨y,hy,hpp⟩))
      have m1:(List.range len).mapM (fun i=>(W'.cells? 0 (a.add (i*P.cellsOf e)) (P.cellsOf e)).bind (DataW.trod enc P W' 0 sp true m e))=some elems:=by
       refine gz (.nil,[]) hel fun i hi=>?_
       have h1:=he i hi;rw [ed (by omega)] at h1 ⊢;exact each i _ (ig _ (List.getElem_mem _)) h1
      have m2:(if sp a.block then (List.range (cap - len)).mapM (fun j=>(W'.cells? 0 (a.add ((len+j)*P.cellsOf e)) (P.cellsOf e)).bind (DataW.trod enc P W' 0 sp true m e)) else some [])=some rest:=by
       split
       ·refine gz (.nil,[]) hrl fun j hj=>?_
        have h1:=hre j hj;rw [ed (by omega)] at h1 ⊢;exact each (len+j) _ (fF _ (List.getElem_mem _)) h1
       ·rename_i hns;have hz:(elems.length+rest.length)*P.cellsOf e=0:=by
         by_cases hz:(elems.length+rest.length)*P.cellsOf e=0
         ·exact hz
         ·exfalso;apply hns;exact hp (.cell a.block (a.off+0)) (ig _ (cI.2 ⟨0,by simp; omega,rfl⟩))
        have:rest.length=0:=by
         rcases Nat.mul_eq_zero.1 hz with hz | hz
         ·omega
         ·have:=hc.2; omega
        rw [jQ this]
      unfold DataW.trod;rw [hu];simp only [];rw [aH ⟨fV _,hlc,hcm⟩,m1];simp only [Option.bind_some];rw [m2];rfl
    ·cases h
   ·cases h
  ·rename_i fs hu;split at h
   ·rename_i Us hU;obtain ⟨xr,m,rfl,rfl,hcl,hxl,hf⟩:=DataW.trod_struct hu hx;refine trod_struct_mk hu hcl (vo (by simpa using hxl) fun i f hf'=>?_);have h1:=hf i f (by simpa using hf');have hi:i < xr.length:=by
     have:=(fU.1 hf').1;simp at this; omega
    rw [ed hi] at h1 ⊢;obtain ⟨Vs,hV⟩:=zq hU f (rU hf');exact nR hk n f.type Vs hV m _ _ sp h1 fun p hpp=>hp p (eg.2 ⟨_,List.getElem_mem hi,hpp⟩)
   ·cases h
  ·cases h
theorem rc{H:Type}{enc:TypeId × Value→H}{P:Program}{f:Func}{s:ChangeSpec}{apart fresh handsOn again:Bool}{W W':World}{args:Array Value}{v:Value}{ds gs:List (DataW H)}{before pa pv:List MemPlace}
  (hW:DataW.Whole enc P f.params.toList s.vars apart W args.toList ds gs before)
  (hres:∀(b:Nat) (sp:Nat→Bool) (hd:Bool),DataW.TrodAll enc P W' b sp hd f.resultTypes.toList (v.resultList f.resultTypes.size) (s.fn H (ds++gs)).results [])
  (hargs:∀sp:Nat→Bool,(∀p∈before,sp p.block=true)→DataW.TrodAll enc P W' 0 sp true f.params.toList args.toList (s.fn H (ds++gs)).args pa)
  (hvars:∀sp:Nat→Bool,(∀p∈before,sp p.block=true)→DataW.TrodVars enc P W' sp s.vars (s.fn H (ds++gs)).vars pv)
  (hps:before=pa++pv) (hg:r5 W W')
  (hok:∀(j:Nat) (t:TypeId) (r:Value),f.resultTypes[j]?=some t→(v.resultList f.resultTypes.size)[j]?=some r→Value.okWide P W' .any 0 t r) :
  s.post enc P f apart fresh handsOn again W args v W':=by
 have lt:∀p∈before,p.block < W.heap.size:=fun p hp=>hW.lt p hp
 have all1:=hargs (fun _=>true) fun _ _=>rfl
 have res1:=hres 0 (fun _=>true) true;refine ⟨ds,gs,before,[],pa,pv,hW,hres _ _ _,hargs _ fun p hp=>by simpa using lt p hp,hvars _ fun p hp=>by simpa using lt p hp,World.keptBut_mono (fun p hp=>hp.elim) hg.1,fun _=>?_⟩;obtain ⟨_,_,_,_,_,hz,hn⟩:=hW;refine ⟨hok,_,_,([]++pa)++pv,⟨[]++pa,pv,trodAll_append all1 res1,hvars _ fun _ _=>rfl,rfl,fun b off hp=>?_,fun ha=>?_⟩,fun p hp _=>?_⟩
 ·have hb:MemPlace.cell b off∈before:=by rw [hps]; simpa using hp
  rw [hg.2.1 ⟨b,off,none⟩ (lt _ hb)];exact hz b off hb
 ·have:=hn ha;rw [hps] at this
  simpa using this
 ·rw [hps]; simpa using hp
theorem yS(hg:r5 W W')(a:Addr)(v:Value)(h:W.cell? a=some v):W'.cell? a=some v:=by
 have hs:=World.cell?_spot h;have hb:a.block < W.heap.size:=World.cells?_block (base:=0) (n:=1) (cells?_one (fV _) h) (by omega);have ha:a=⟨a.block,a.off,none⟩:=by cases a; simp_all
 rw [ha] at h ⊢;rw [hg.1.cell hb (fun c=>c)]; exact h
end
end Ce.L
namespace Ce.L
open Go
structure ME where
 f:Nat
 args:List CV
 rs:List Rv
def ApB(tbl:Nat→Option IF)(k:Nat)(e:ME):Prop:=∃F v hs,tbl e.f=some F∧F.mode=2∧bodyR (exec (run tbl k) k F.body) F e.args H.empty=some (v,hs)∧∀h1,∃hs',xp 20 v (hs,h1)=some (one? (dK e.rs h1).1,hs',(dK e.rs h1).2)
def qBF(f:Nat)(args:List CV):List ME→Option (List Rv)
 | []=>none
 | e::m=>if Nat.beq e.f f&&ew e.args args then some e.rs else qBF f args m
noncomputable def qPW(memo:List ME)(tbl:Nat→Option IF):Nat→Tgt→List CV→H→Option (CV × H)
 | 0,_,_,_=>none
 | n+1,.fn f,args,h=>match tbl f with
  | some F =>
   if F.mode=2 then
    match frzL (frz 20) args h with
    | some (args,h)=>if iD args=false then none else
     match qBF f args memo with
     | some rs=>some (one? (dK rs h).1,(dK rs h).2)
     | none=>none
    | none=>none
   else match Nat.beq F.mode 3&&big args with
    | true=>match srtV args h with
     | some h=>some (.tup [],h)
     | none=>none
    | false=>match bodyR (exec (qPW memo tbl n) n F.body) F args h with
     | some (v,h)=>if F.mode=1 then frz 20 v h else some (v,h)
     | none=>none
  | none=>none
 | _+1,.yl _,_,_=>none
theorem lg{c d:cS}(hle:cS.le c d){n m:Nat}(hnm:n≤m){F:IF}{a:List CV}{h:H}{r:CV × H}(hr:bodyR (exec c n F.body) F a h=some r):bodyR (exec d m F.body) F a h=some r:=by
 simp only [bodyR] at hr ⊢;cases hb:exec c n F.body (a++cB (F.ntmps - a.length)) h with
 | none=>rw [hb] at hr; cases hr
 | some x=>rw [hb] at hr; rw [eD hle hnm _ _ _ _ hb]; exact hr
theorem ApB.mono{tbl:Nat→Option IF}{k k':Nat}(hk:k≤k'){e:ME}(h:ApB tbl k e):ApB tbl k' e:=by
 obtain ⟨F,v,hs,h1,h2,h3,h4⟩:=h;exact ⟨F,v,hs,h1,h2,lg (eJ tbl k k' hk) hk h3,h4⟩
theorem wP{f:Nat}{args:List CV}{rs:List Rv}:∀{memo:List ME},qBF f args memo=some rs→∃e,e∈memo∧e.f=f∧e.args=args∧e.rs=rs
 | [],h=>by cases h
 | e::m,h=>by
  simp only [qBF] at h;split at h
  ·rename_i hc;simp only [aT] at hc;simp only [sI] at h;exact ⟨e,by simp,nQ hc.1,fE _ _ hc.2,h⟩
  ·obtain ⟨e',h1,h2⟩:=wP h;exact ⟨e',by simp [h1],h2⟩
theorem zj{memo:List ME}{tbl:Nat→Option IF}{k:Nat}(hM:∀e,e∈memo→ApB tbl k e):∀n,cS.le (qPW memo tbl n) (run tbl (k+n))
 | 0=>fun t a h r hr=>by cases t<;>cases hr
 | n+1=>by
  intro t a h r hr;have ih:=zj hM n;cases t with
  | yl l=>cases hr
  | fn f =>
   rw [←nC];simp only [qPW] at hr;simp only [run];cases hf:tbl f with
   | none=>rw [hf] at hr; cases hr
   | some F =>
    rw [hf] at hr
    dsimp only at hr ⊢
    split at hr
    ·rename_i h2;rw [aH h2];split at hr
     ·rename_i a' h' hz;split at hr
      ·cases hr
      ·rename_i hc;rw [hz]
       dsimp only
       rw [aC hc];split at hr
       ·rename_i rs hrs;obtain ⟨e,h3,h4,h5,h6⟩:=wP hrs;obtain ⟨F',v,hs,h7,h8,h9,h10⟩:=(hM e h3).mono (show k≤k+n by omega);rw [h4,hf,sI] at h7;subst h7;rw [h5] at h9;rw [h6] at h10;obtain ⟨hs',h11⟩:=h10 h';rw [h9]
        dsimp only
        rw [h11];exact hr
       ·cases hr
     ·cases hr
    ·rename_i h2;rw [aC h2];cases hbg:Nat.beq F.mode 3&&big a with
     | true=>rw [hbg] at hr; exact hr
     | false =>
     rw [hbg] at hr
     dsimp only at hr ⊢
     split at hr
     ·rename_i v h' hb;rw [lg ih (show n≤k+n by omega) hb];exact hr
     ·cases hr
theorem qMJ{memo:List ME}{tbl:Nat→Option IF}{k n f:Nat}{F:IF}(hM:∀e,e∈memo→ApB tbl k e)(hF:tbl f=some F)(hm:F.mode=2)
  (hr:(match bodyR (exec (qPW memo tbl n) n F.body) F [] H.empty with
   | some (.bool true,_)=>true
   | _=>false)=true) (h:H):Wf tbl (.fn f) [] h fun v _=>v=.bool true:=by
 split at hr
 ·rename_i hs hb;refine rW hF hm rfl rfl ⟨k+n,.bool true,hs,lg (zj hM n) (by omega) hb,.bool true,hs,h,rfl,rfl⟩
 ·cases hr
def scV:CV→Bool
 | .bool _ | .int _ _ | .str _=>true
 | _=>false
def qH0:List CV→Bool
 | []=>true
 | c::cs=>scV c&&qH0 cs
def scA:CV→Bool
 | .agg cs=>qH0 cs
 | .nils=>true
 | c=>scV c
def rvL(h:HK):List CV→List Rv→List Nat→Bool
 | [],[],_=>true
 | .slc k r off len cap::vs,.s k' off' len' cap' cs::rs,used=>decide (k=k')&&decide (off=off')&&decide (len=len')&&decide (cap=cap')&&!(used.contains r)&&(match h.get r with
  | some (.cells c false)=>ew c cs&&qH0 cs
  | _=>false)&&rvL h vs rs (r::used)
 | v::vs,.v c::rs,used=>bA v c&&scA c&&rvL h vs rs used
 | _,_,_=>false
def rvC(rs:List Rv)(v:CV)(k:HK):Bool:=match v with
 | .tup vs=>decide (2≤vs.length)&&rvL k vs rs []
 | v=>rvL k [v] rs []
theorem sc_xp1{c:CV}(h:scV c=true)(m:Nat)(p:H × H):xp (m+1) c p=some (c,p):=by cases c<;>first | rfl | cases h
theorem tm:∀{cs:List CV},qH0 cs=true→∀(m:Nat) (p:H × H),xpL (xp (m+1)) cs p=some (cs,p)
 | [],_,_,_=>rfl
 | c::cs,h,m,p=>by
  simp only [qH0,aT] at h;simp only [xpL,sc_xp1 h.1,tm h.2]
theorem scA_xp{c:CV}(h:scA c=true)(m:Nat)(p:H × H):xp (m+2) c p=some (c,p):=by
 cases c<;>try (first | rfl | cases h)
 rename_i cs;unfold xp;simp only [tm h]
theorem tr{k:HK}:∀{vs:List CV} {rs:List Rv} {used:List Nat},rvL k vs rs used=true→vs.length=rs.length∧∀(m:Nat) (hs h1:H),(∀i,i∉used→∀b,(φ k).get i=some b→hs.get i=some b)→∃hs',xpL (xp (m+2)) vs (hs,h1)=some ((dK rs h1).1,hs',(dK rs h1).2)
 | [],[],_,_=>⟨rfl,fun m hs h1 _=>⟨hs,rfl⟩⟩
 | [],.v _::_,_,h=>by cases h
 | [],.s _ _ _ _ _::_,_,h=>by cases h
 | v::vs,[],used,h=>by cases v<;>cases h
 | v::vs,.v c::rs,used,h=>by
  have h':(bA v c&&scA c&&rvL k vs rs used)=true:=by cases v<;>exact h
  simp only [aT] at h';obtain ⟨⟨h1,h2⟩,h3⟩:=h';have:=kU _ _ h1;subst this;obtain ⟨h4,h5⟩:=tr h3;refine ⟨by simp [h4],fun m hs h6 hh=>?_⟩;obtain ⟨hs',h7⟩:=h5 m hs h6 hh;exact ⟨hs',by simp only [xpL,scA_xp h2,h7]; rfl⟩
 | v::vs,.s k' off' len' cap' cs::rs,used,h=>by
  cases v<;>try (cases h; done)
  rename_i kk r off len cap;simp only [rvL,aT,dT] at h;obtain ⟨⟨⟨⟨⟨⟨rfl,rfl⟩,rfl⟩,rfl⟩,h1⟩,h2⟩,h3⟩:=h;split at h2
  ·rename_i c hg;simp only [aT] at h2;obtain ⟨h4,h5⟩:=h2;have:=fE _ _ h4;subst this;obtain ⟨h6,h7⟩:=tr h3;refine ⟨by simp [h6],fun m hs hc hh=>?_⟩;have hr:r∉used:=by
    rw [List.contains_eq_mem] at h1
    simpa using h1
   have hgr:hs.get r=some (.cells c false):=hh r hr _ hg;obtain ⟨hs',h8⟩:=h7 m (hs.put r .dead) (hc.push (.cells c false)) (fun i hi=>by
    simp only [aS,not_or] at hi;rw [ah hi.1]; exact hh i hi.2)
   refine ⟨hs',?_⟩;have hx:xp (m+2) (.slc kk r off len cap) (hs,hc)=some (.slc kk hc.n off len cap,hs.put r .dead,hc.push (.cells c false)):=by
    unfold xp;simp only [hgr,tm h5]
   simp only [xpL,hx,h8];rfl
  ·cases h2
theorem nq:∀(rs:List Rv) (h:H),(dK rs h).1.length=rs.length
 | [],_=>rfl
 | .v _::rs,h=>by simp [dK,nq rs]
 | .s _ _ _ _ _::rs,h=>by simp [dK,nq rs]
theorem qPV{rs:List Rv}{v:CV}{k:HK}(h:rvC rs v k=true){hk:H}(hL:∀i b,(φ k).get i=some b→hk.get i=some b):∀h1,∃hs',xp 20 v (hk,h1)=some (one? (dK rs h1).1,hs',(dK rs h1).2):=by
 intro h1;have single:rvL k [v] rs []=true→∃hs',xp 20 v (hk,h1)=some (one? (dK rs h1).1,hs',(dK rs h1).2):=by
  intro h;obtain ⟨h2,h3⟩:=tr h;obtain ⟨hs',h4⟩:=h3 18 hk h1 fun i _=>hL i
  refine ⟨hs',?_⟩;simp only [xpL] at h4;cases hx:xp (18+2) v (hk,h1) with
  | none=>rw [hx] at h4; cases h4
  | some y =>
   rw [hx] at h4;obtain ⟨y1,y2⟩:=y;simp only [sI,pI] at h4;obtain ⟨h5,rfl⟩:=h4;rw [←h5]; rfl
 unfold rvC at h;split at h
 ·rename_i vs;simp only [aT,dT] at h;obtain ⟨h2,h3⟩:=tr h.2;obtain ⟨hs',h4⟩:=h3 17 hk h1 fun i _=>hL i
  refine ⟨hs',?_⟩;have hl:=nq rs h1;have:one? (dK rs h1).1=.tup (dK rs h1).1:=one?_tup (by omega);rw [this];unfold xp;simp only [h4]
 ·exact single h
end Ce.L
namespace Ce.Q
noncomputable section
open Go
abbrev qG9:=Nat→List CV→HK→KV→Bool→Bool
def noM:qG9:=fun _ _ _ _ els=>els
def MOKs(tbl:Nat→Option IF)(kk:Nat)(M:qG9):Prop:=∀f a k K els,M f a k K els=true→els=true∨∀h,Le k h→∃v h' k',run tbl kk (.fn f) a h=some (v,h')∧Le k' h'∧K v k'=true
theorem noM_ok(tbl:Nat→Option IF):MOKs tbl 0 noM:=fun _ _ _ _ _ h=>.inl h
def tJ(cq:fZ)(n nt:Nat)(rs:List IRes)(body:IC)(a:List CV)(k:HK)(K:KV):Bool:=match Ce.K.frzL (Ce.K.frz 20) a k with
 | some (a,k')=>Bool.rec (motive:=fun _=>Bool) false (lH (fN cq nt n body) nt rs a HK.empty fun v hs=>match Ce.K.xp 20 v (hs,k') with
  | some (v,_,k2)=>K v k2
  | none=>false) (iD a)
 | none=>false
def xA(cq:fZ)(n nt:Nat)(rs:List IRes)(body:IC)(a:List CV)(k:HK)(K:KV):Bool:=lH (fN cq nt n body) nt rs a k fun v k'=>match Ce.K.frz 20 v k' with
 | some (v,k2)=>K v k2
 | none=>false
def qCM(a:List CV)(k:HK)(K:KV):Bool:=match Ce.K.srtV a k with
 | some k2=>K (.tup []) k2
 | none=>false
theorem m_srtV(a:List CV){k:HK}{h:H}(L:Le k h):∀k',Ce.K.srtV a k=some k'→∃h',srtV a h=some h'∧Le k' h':=by
 intro k' e;unfold Ce.K.srtV at e;split at e<;>(try (cases e; done));rename_i kk r off len cap;split at e<;>(try (cases e; done));rename_i cs hg;split at e<;>(try (cases e; done));rename_i xs hc;split at e<;>(try (cases e; done));rename_i zs hz;split at e<;>(try (cases e; done));rename_i hb;simp only [sI] at e; subst e;exact ⟨_,by simp only [srtV,L.g _ _ hg,hc,hz,hb],L.put _ _⟩
def qMD(cq:fZ)(n:Nat)(F:IF)(a:List CV)(k:HK)(K:KV):Bool:=IF.rec (motive:=fun _=>Bool) (fun nt rs body mode =>
 Bool.rec (motive:=fun _=>Bool) (Bool.rec (motive:=fun _=>Bool) (Bool.rec (motive:=fun _=>Bool) (lH (fN cq nt n body) nt rs a k K) (qCM a k K) (Nat.beq mode 3&&big a)) (xA cq n nt rs body a k K) (Nat.beq mode 1)) (tJ cq n nt rs body a k K) (Nat.beq mode 2)) F
def yEnd(l:Nat)(j:Option Jump)(K:KV)(k:HK):Bool:=qFN k l fun _ _ env ps a b=>Option.rec (motive:=fun _=>Bool) (K (.bool true) (putQ k l (.loop .ready none env ps a b))) (fun j=>K (.bool false) (putQ k l (.loop .done (some j) env ps a b))) j
def rdyQ(st:LSt)(x:Bool):Bool:=LSt.rec (motive:=fun _=>Bool) x false false false st
def y_body(cq:fZ)(n nt l:Nat)(b:IC)(K:KV)(E:Env)(k:HK):Bool:=qFN k l fun st pend env ps a' b'=>rdyQ st (fN cq nt n b E (putQ k l (.loop .busy pend env ps a' b')) (fun _ k2=>yEnd l none K k2) (fun j _ k2=>yEnd l (some j) K k2))
def qGX(ps:List Nat)(nt:Nat):List CV→Env→(Env→Bool)→Bool:=List.rec (motive:=fun _=>List CV→Env→(Env→Bool)→Bool) (fun vs E f=>List.rec (motive:=fun _=>Bool) (f E) (fun _ _ _=>false) vs)
 (fun p _ ih vs E f=>List.rec (motive:=fun _=>Bool) false (fun v vs _=>putQ? nt (some p) v E fun E'=>ih vs E' f) vs) ps
theorem vA{nt:Nat}(h64:nt≤512):∀(ps:List Nat) (vs:List CV) (E:Env) (l:List CV) (f:Env→Bool),EL nt E l→qGX ps nt vs E f=true→∃E' l',gv l ps vs=some l'∧EL nt E' l'∧f E'=true
 | [],[],E,l,f,hE,h=>⟨E,l,by simp only [gv],hE,h⟩
 | [],_::_,E,l,f,hE,h=>by cases h
 | p::ps,[],E,l,f,hE,h=>by cases h
 | p::ps,v::vs,E,l,f,hE,h=>by
  have h':putQ? nt (some p) v E (fun E'=>qGX ps nt vs E' f)=true:=h;obtain ⟨E',hE',h2⟩:=putQ?_ok h64 hE h';obtain ⟨E2,l2,h3,h4,h5⟩:=vA h64 ps vs E' _ f hE' h2;exact ⟨E2,l2,by simp only [gv]; exact h3,h4,h5⟩
def yl1(cq:fZ)(n l:Nat)(env:List CV)(ps:List Nat)(a b:IC)(as:List CV)(k:HK)(K:KV)(nt:Nat):Bool :=
 Bool.rec (motive:=fun _=>Bool) false (qGX ps nt as (ofL env) fun E=>fN cq nt n a E k (y_body cq n nt l b K) (fun _ _ _=>false)) (Nat.ble nt 512)
def ylQ(cq:fZ)(n l:Nat)(as:List CV)(k:HK)(K:KV):Bool:=qFN k l fun st _ env ps a b=>rdyQ st (yl1 cq n l env ps a b as k K (nk env))
def runQ(tbl:Nat→Option IF)(M:qG9)(n:Nat):fZ:=Nat.rec (motive:=fun _=>fZ) (fun _ _ _ _=>false)
 (fun n ih t a k K=>Tgt.rec (motive:=fun _=>Bool) (fun f=>M f a k K (Option.rec (motive:=fun _=>Bool) false (fun F=>qMD ih n F a k K) (tbl f))) (fun l=>ylQ ih n l a k K) t) n
theorem nK{nt n m:Nat}{c d:cS}(hle:cS.le c d)(hnm:n≤m){x:XC}{code:IC}(h:XOK nt x (exec c n code)):XOK nt x (exec d m code):=by
 intro E l k kn kj hE h0 h1 L;obtain ⟨e,l',h',e1,r⟩:=h E l k kn kj hE h0 h1 L;exact ⟨e,l',h',eD hle hnm _ _ _ _ e1,r⟩
theorem qMC{cq:fZ}{tbl:Nat→Option IF}{kk n:Nat}(hc:SQ cq (run tbl (kk+n))){F:IF}{a:List CV}{k:HK}{K:KV}(h0:qMD cq n F a k K=true){h:H}(L:Le k h){f:Nat}(hF:tbl f=some F):∃v h' k',run tbl (kk+n+1) (.fn f) a h=some (v,h')∧Le k' h'∧K v k'=true:=by
 have hX:F.ntmps≤512→XOK F.ntmps (fN cq F.ntmps n F.body) (exec (run tbl (kk+n)) (kk+n) F.body):=fun h64=>nK (fun t a h r hr=>hr) (by omega) (md hc h64 n F.body)
 simp only [run,hF];by_cases h2:F.mode=2
 ·simp only [aH h2];have h1:tJ cq n F.ntmps F.res F.body a k K=true:=by
   have:(Bool.rec (motive:=fun _=>Bool) (Bool.rec (motive:=fun _=>Bool) (Bool.rec (motive:=fun _=>Bool) (lH (fN cq F.ntmps n F.body) F.ntmps F.res a k K) (qCM a k K) (Nat.beq F.mode 3&&big a)) (xA cq n F.ntmps F.res F.body a k K) (Nat.beq F.mode 1)) (tJ cq n F.ntmps F.res F.body a k K) (Nat.beq F.mode 2):Bool)=true:=h0;rw [nbeq F.mode 2,nbeq F.mode 1,fQ h2] at this;exact this
  unfold tJ at h1;split at h1
  ·rename_i a' k' hz;obtain ⟨h',e1,L'⟩:=yK (vq 20) a k h L a' k' hz;rw [e1]
   dsimp only
   cases hcl:iD a' with
   | false=>rw [hcl] at h1; cases h1
   | true =>
    rw [hcl] at h1;rw [aC (by decide)];obtain ⟨v,hs,ks,e2,L2,h3⟩:=mr hX h1 (Le.refl HK.empty);rw [φ_empty] at e2;rw [e2]
    dsimp only at h3 ⊢
    split at h3
    ·rename_i v' ks' k2 hx;obtain ⟨hs2,h2',e3,L3,L4⟩:=m_xp 20 v ks k' hs h' L2 L' v' ks' k2 hx;rw [e3];exact ⟨v',h2',k2,rfl,L4,h3⟩
    ·cases h3
  ·cases h1
 ·simp only [aC h2];by_cases hm:F.mode=1
  ·have h1:xA cq n F.ntmps F.res F.body a k K=true:=by
    have:(Bool.rec (motive:=fun _=>Bool) (Bool.rec (motive:=fun _=>Bool) (Bool.rec (motive:=fun _=>Bool) (lH (fN cq F.ntmps n F.body) F.ntmps F.res a k K) (qCM a k K) (Nat.beq F.mode 3&&big a)) (xA cq n F.ntmps F.res F.body a k K) (Nat.beq F.mode 1)) (tJ cq n F.ntmps F.res F.body a k K) (Nat.beq F.mode 2):Bool)=true:=h0;rw [nbeq F.mode 2,nbeq F.mode 1,eY h2,fQ hm] at this;exact this
   obtain ⟨v,h',k',e1,L',h3⟩:=mr hX h1 L;have hbg:(Nat.beq F.mode 3&&big a)=false:=by rw [hm]; rfl
   rw [hbg,e1]
   dsimp only at h3 ⊢
   rw [aH hm];split at h3
   ·rename_i v' k2 hz;obtain ⟨h2',e2,L2⟩:=vq 20 v k' h' L' v' k2 hz;exact ⟨v',h2',k2,e2,L2,h3⟩
   ·cases h3
  ·have h1:((Nat.beq F.mode 3&&big a)=false∧lH (fN cq F.ntmps n F.body) F.ntmps F.res a k K=true)∨((Nat.beq F.mode 3&&big a)=true∧qCM a k K=true):=by
    have:(Bool.rec (motive:=fun _=>Bool) (Bool.rec (motive:=fun _=>Bool) (Bool.rec (motive:=fun _=>Bool) (lH (fN cq F.ntmps n F.body) F.ntmps F.res a k K) (qCM a k K) (Nat.beq F.mode 3&&big a)) (xA cq n F.ntmps F.res F.body a k K) (Nat.beq F.mode 1)) (tJ cq n F.ntmps F.res F.body a k K) (Nat.beq F.mode 2):Bool)=true:=h0;rw [nbeq F.mode 2,nbeq F.mode 1,eY h2,eY hm] at this;cases hbg:Nat.beq F.mode 3&&big a with
    | true=>rw [hbg] at this; exact .inr ⟨rfl,this⟩
    | false=>rw [hbg] at this; exact .inl ⟨rfl,this⟩
   rcases h1 with h1 | ⟨h1,h4⟩
   case inr =>
    unfold qCM at h4;split at h4
    ·rename_i k2 hk2;obtain ⟨h2',e1,L'⟩:=m_srtV a L k2 hk2;rw [h1,e1];exact ⟨_,_,_,rfl,L',h4⟩
    ·cases h4
   obtain ⟨v,h',k',e1,L',h3⟩:=mr hX h1.2 L;rw [h1.1,e1];exact ⟨v,h',k',by dsimp only; rw [aC hm],L',h3⟩
theorem zp{st:LSt}{x:Bool}(h:rdyQ st x=true):st=.ready∧x=true:=by cases st<;>first | exact ⟨rfl,h⟩ | cases h
theorem zS{l:Nat}{j:Option Jump}{K:KV}{k:HK}(h0:yEnd l j K k=true){h:H}(L:Le k h):∃st pend env ps a b,h.get l=some (.loop st pend env ps a b)∧(match (generalizing:=false) j with
  | none=>∃k',Le k' (h.put l (.loop .ready none env ps a b))∧K (.bool true) k'=true
  | some j=>∃k',Le k' (h.put l (.loop .done (some j) env ps a b))∧K (.bool false) k'=true):=by
 obtain ⟨st,pend,env,ps,a,b,h1,h2⟩:=pO h0;refine ⟨st,pend,env,ps,a,b,L.g _ _ h1,?_⟩;cases j with
 | none =>
  have h3:K (.bool true) (putQ k l (.loop .ready none env ps a b))=true:=h2;rw [mP] at h3;exact ⟨_,L.put _ _,h3⟩
 | some j =>
  have h3:K (.bool false) (putQ k l (.loop .done (some j) env ps a b))=true:=h2;rw [mP] at h3;exact ⟨_,L.put _ _,h3⟩
theorem ylQ_ok{cq:fZ}{tbl:Nat→Option IF}{kk n:Nat}(hc:SQ cq (run tbl (kk+n))){l:Nat}{as:List CV}{k:HK}{K:KV}(h0:ylQ cq n l as k K=true){h:H}(L:Le k h):∃v h' k',run tbl (kk+n+1) (.yl l) as h=some (v,h')∧Le k' h'∧K v k'=true:=by
 obtain ⟨st,pend,env,ps,a,b,h1,h2⟩:=pO h0;obtain ⟨rfl,h3⟩:=zp h2;unfold yl1 at h3;rw [gS] at h3;cases h4:Nat.ble env.length 512 with
 | false=>rw [h4] at h3; cases h3
 | true =>
  rw [h4] at h3;have h64:env.length≤512:=el h4;obtain ⟨E',l',h5,hE',h6⟩:=vA h64 ps as _ env _ (zC2 h64) h3;obtain ⟨e,l2,h',e1,E2,k2,hE2,L2,h7⟩:=nK (d:=run tbl (kk+n)) (m:=kk+n) (fun t a h r hr=>hr) (by omega) (md hc h64 n a) _ _ _ _ _ hE' h6 h L;simp only [run,L.g _ _ h1,h5,e1];cases e with
  | jmp j=>cases h7
  | nor =>
   obtain ⟨st2,pend2,env2,ps2,a2,b2,h8,h9⟩:=pO h7;obtain ⟨rfl,h10⟩:=zp h9;rw [mP] at h10;obtain ⟨e',l3,h3',e2,E3,k3,hE3,L3,h11⟩:=nK (d:=run tbl (kk+n)) (m:=kk+n) (fun t a h r hr=>hr) (by omega) (md hc h64 n b) _ _ _ _ _ hE2 h10 _ (L2.put l _);simp only [L2.g _ _ h8,e2];cases e' with
   | nor =>
    obtain ⟨st3,pend3,env3,ps3,a3,b3,h12,k4,L4,h13⟩:=zS h11 L3;simp only [h12];exact ⟨_,_,k4,rfl,L4,h13⟩
   | jmp j =>
    obtain ⟨st3,pend3,env3,ps3,a3,b3,h12,k4,L4,h13⟩:=zS h11 L3;simp only [h12];exact ⟨_,_,k4,rfl,L4,h13⟩
theorem zh{tbl:Nat→Option IF}{M:qG9}{kk:Nat}(hM:MOKs tbl kk M):∀n,SQ (runQ tbl M n) (run tbl (kk+n))
 | 0=>fun t a k K h0=>by cases h0
 | n+1=>by
  intro t a k K h0 h L;have ih:=zh hM n;rw [←nC];cases t with
  | yl l=>exact ylQ_ok ih h0 L
  | fn f =>
   have h1:M f a k K (Option.rec (motive:=fun _=>Bool) false (fun F=>qMD (runQ tbl M n) n F a k K) (tbl f))=true:=h0;rcases hM _ _ _ _ _ h1 with h2 | h2
   ·cases hF:tbl f with
    | none=>rw [hF] at h2; cases h2
    | some F=>rw [hF] at h2; exact qMC ih h2 L hF
   ·obtain ⟨v,h',k',e,r⟩:=h2 h L;exact ⟨v,h',k',eJ tbl kk (kk+n+1) (by omega) _ _ _ _ e,r⟩
open Ce.L
def chkQ(tbl:Nat→Option IF)(M:qG9)(n:Nat)(e:ME):Bool:=match tbl e.f with
 | some F=>Bool.rec (motive:=fun _=>Bool) false (lH (fN (runQ tbl M n) F.ntmps n F.body) F.ntmps F.res e.args HK.empty fun v k=>rvC e.rs v k) (Nat.beq F.mode 2)
 | none=>false
theorem chkQ_ok{tbl:Nat→Option IF}{M:qG9}{kk n:Nat}(hM:MOKs tbl kk M){e:ME}(h:chkQ tbl M n e=true):ApB tbl (kk+n) e:=by
 unfold chkQ at h;split at h
 ·rename_i F hF;rw [nbeq] at h;by_cases hm:F.mode=2
  ·rw [fQ hm] at h;obtain ⟨v,h',k',e1,L,h2⟩:=mr (fun h64=>nK (d:=run tbl (kk+n)) (m:=kk+n) (fun t a h r hr=>hr) (by omega) (md (zh hM n) h64 n F.body)) h (Le.refl HK.empty);rw [φ_empty] at e1;exact ⟨F,v,h',hF,hm,e1,qPV h2 L.g⟩
  ·rw [eY hm] at h; cases h
 ·cases h
end
end Ce.Q
namespace Ce.L
noncomputable section
open Go Ce.S
variable {tbl:Nat→Option IF}
def mB:Nat→Nat→List S.AV
 | _,0=>[]
 | k,n+1=>.sym k::mB (k+1) n
theorem nS{v:V}:∀(n k:Nat) (E:List CV),E.length=n→(∀i,i < n→v.c (k+i)=aR E i)→aF v (mB k n)=E
 | 0,k,E,hl,_=>by rw [jQ hl]; rfl
 | n+1,k,E,hl,h=>by
  match E,hl with
  | e::E,hl =>
   have h0:=h 0 (by omega);have ih:=nS (v:=v) n (k+1) E (by simpa using hl) (fun i hi=>by
    have:=h (i+1) (by omega);rw [show k+1+i=k+(i+1) by omega,this]; rfl)
   simp only [mB,aF,ih,den];rw [show v.c k=e from h0]
theorem qHO{E0:List (Nat × List Ty × Ty)}(hE:EOK tbl E0){n:Nat}{code:IC}{st:St}{hs hs':Hs}{outs:bV}(hrun:sC (sF tbl E0 n) n code [] st hs=some (outs,hs'))(hbl:st.bl=[])(hn:0 < st.n){v:V}{env:List CV}{h:H}
  (hv:∀w,Agr st.n v w→w.i 0=0∧env=aF w st.env∧∀f,f∈st.fa→FOK w f):Wc tbl code env h fun ex e h'=>∃o,(ex,o)∈outs∧∃w,Agr st.n v w∧Sat ⟨h,[]⟩ w o e h':=by
 have sat:Sat ⟨h,[]⟩ v st env h:=⟨hn,fun w hw=>by
  obtain ⟨h1,h2,h3⟩:=hv w hw;exact ⟨h1,h2,h3,(fun p hp=>by rw [hbl] at hp; cases hp),by rw [hbl]; simp,(fun p hp=>by rw [hbl] at hp; cases hp),aV _,fun _ _ _=>rfl⟩⟩
 refine (ze (zc hE n) n code ⟨h,[]⟩ [] st hs hs' outs hrun v env h sat GOK.nil).mono ?_;rintro ex e h' ⟨o,ho,w,hw,_,s⟩;exact ⟨o,ho,w,hw,s⟩
end
end Ce.L
namespace Ce.S
noncomputable section
open Go
def qC4(tbl:Nat→Option IF)(E:List (Nat × List Ty × Ty))(n:Nat)(Γ:List Con)(c:Con)(hs:Hs):Bool :=
 kO c.pre&&decide (1≤c.pre.n)&&(match sF tbl E n Γ (.fn c.tg) c.pre.env c.pre hs with
  | some (outs,_)=>oC c.pre.n c.posts outs
  | none=>false)
def pT(tbl:Nat→Option IF)(E:List (Nat × List Ty × Ty))(n:Nat)(Γ:List Con)(F:IF)(Ts:List Ty)(hs:Hs)(p:AV × St→Bool):Bool :=
 match lF (sF tbl E n) n F Γ (bS 1 Ts).1 ⟨(bS 1 Ts).2.2,[],(bS 1 Ts).2.1,[]⟩ hs with
 | some (outs,_)=>outs.all p
 | none=>false
theorem qMM{tbl:Nat→Option IF}{E:List (Nat × List Ty × Ty)}(hE:EOK tbl E){n:Nat}{Γ:List Con}{F:IF}{Ts:List Ty}{hs:Hs}{p:AV × St→Bool}(h:pT tbl E n Γ F Ts hs p=true)(hΓ:∀v:V,v.i 0=0→GOK tbl v 1 Γ){args:List CV}(hT:∀v:V,v.i 0=0→a8 v Ts args) :
  Wb tbl F args H.empty fun r h'=>∃o,p o=true∧∃w,Sat ⟨H.empty,[]⟩ w o.2 [] h'∧∀u,Agr o.2.n w u→den u o.1=r:=by
 simp only [pT] at h;split at h
 ·rename_i outs hs' hr;obtain ⟨k,r,h',hrun,o,ho,w,sat,hd⟩:=api_ok hE hΓ hr hT;exact ⟨k,r,h',hrun,o,(jO.1 h) o ho,w,sat,hd⟩
 ·cases h
end
end Ce.S
namespace Ce.L
noncomputable section
open Go Ce.S
variable {tbl:Nat→Option IF}
theorem bD{E:List (Nat × List Ty × Ty)}(hE:EOK tbl E){n:Nat}{c:Con}{Γ:List Con}{hs:Hs}(h:qC4 tbl E n Γ c hs=true)(h1:c.yl=false)(h0:c.n0=1)(hl:c.lim=none)(hΓ:∀v:V,v.i 0=0→GOK tbl v 1 Γ):∀v:V,v.i 0=0→GOK1 tbl v 1 c:=by
 simp only [qC4,aT,dT] at h;obtain ⟨⟨a1,a2⟩,a3⟩:=h;split at a3
 ·rename_i outs hs' hr;exact con_ok hE h1 h0 a1 a2 hl hr a3 hΓ
 ·cases a3
def aX(tbl:Nat→Option IF)(E:List (Nat × List Ty × Ty))(n:Nat)(Γ:List Con)(F:IF)(Ts:List Ty)(hs:Hs)(p:Ce.S.AV × St→Bool)(s lo hi:Nat):Bool :=
 match lF (sF tbl E n) n F Γ (bS 1 Ts).1 ⟨(bS 1 Ts).2.2+1,[],.len s (bS 1 Ts).2.2::.dc 0 (bS 1 Ts).2.2 (-(lo:Int))::.dc (bS 1 Ts).2.2 0 hi::(bS 1 Ts).2.1,[]⟩ hs with
 | some (outs,_)=>outs.all p
 | none=>false
theorem ty_len{v:V}{R:List Ty}{lo hi:Lin}{c:CV}(h:av v (.lst R lo hi) c):∃m:Nat,cV c=some m∧(m:Int)≤hi.ev v:=by
 rcases h with ⟨rfl,_,h2⟩ | ⟨rows,ex,rfl,_,h2,_⟩
 ·exact ⟨0,rfl,h2⟩
 ·exact ⟨_,rfl,h2⟩
theorem lq{E:List (Nat × List Ty × Ty)}(hE:EOK tbl E){f:Nat}{F:IF}{Ts:List Ty}{shs:List Sh}(hF:tbl f=some F)(hm:F.mode=2)(hz:wL Ts=true)(s N:Nat){R:List Ty}{lo:Lin}(hsT:Fact.ty s (.lst R lo ⟨0,N⟩)∈(bS 1 Ts).2.1)(hsn:s < (bS 1 Ts).2.2)
  (hc:∀m:Nat,m≤N→∃(n:Nat) (Γ:List Con) (hs:Hs) (l u:Nat),l≤m∧m≤u∧(∀v:V,v.i 0=0→GOK tbl v 1 Γ)∧aX tbl E n Γ F Ts hs (cj shs) s l u=true) {args:List CV} (hT:Tvs Ts args) :
  ∃rs,gF shs rs∧r6 tbl f args rs:=by
 have hz0:∀u:V,Agr 1 v0 u→u.i 0=0:=fun u hu=>(hu 0 (by omega)).1.symm
 obtain ⟨hle,w,hw,hall⟩:=i4 Ts 1 v0 args (fun u hu=>hT u (hz0 u hu));obtain ⟨m,hlm,hmN⟩:=ty_len ((hall w (Agr.refl _ _)).2 _ hsT);have hw0:=hz0 w hw;obtain ⟨n,Γ,hs,l,u,hl,hu,hΓ,hck⟩:=hc m (by simp only [Lin.ev,hw0] at hmN; omega);simp only [aX] at hck;split at hck
 ·rename_i outs hs' hrun
  let w1:V:=⟨fun x=>if x=(bS 1 Ts).2.2 then (m:Int) else w.i x,w.c,w.b,w.l⟩
  have hag:Agr (bS 1 Ts).2.2 w w1:=fun x hx=>⟨by simp only [w1]; rw [aC (by omega)],rfl,rfl,rfl⟩
  have sat:Sat ⟨H.empty,[]⟩ w1 ⟨(bS 1 Ts).2.2+1,[],.len s (bS 1 Ts).2.2::.dc 0 (bS 1 Ts).2.2 (-(l:Int))::.dc (bS 1 Ts).2.2 0 u::(bS 1 Ts).2.1,[]⟩ [] H.empty:=by
   refine ⟨Nat.succ_pos _,fun x hx=>?_⟩;have hx1:Agr (bS 1 Ts).2.2 w x:=hag.trans (hx.mono (dZ _)) (aV _);have hz1:=hz0 x (hw.trans hx1 hle);have hxn:x.i (bS 1 Ts).2.2=m:=by rw [←(hx _ (gO _)).1]; simp [w1]
   refine ⟨hz1,rfl,fun f hf=>?_,(fun p hp=>by cases hp),by simp,(fun p hp=>by cases hp),aV _,fun _ _ _=>rfl⟩;simp only [aS] at hf;rcases hf with rfl | rfl | rfl | hf
   ·exact ⟨m,by rw [←(hx1 s hsn).2.1]; exact hlm,hxn⟩
   ·show x.i 0 - x.i (bS 1 Ts).2.2≤_
    rw [hz1,hxn]; omega
   ·show x.i (bS 1 Ts).2.2 - x.i 0≤_
    rw [hz1,hxn]; omega
   ·exact (hall x hx1).2 f hf
  have hd:∀u,Agr ((bS 1 Ts).2.2+1) w1 u→aF u (bS 1 Ts).1=args:=fun u hu=>(hall u (hag.trans (hu.mono (dZ _)) (aV _))).1
  have g:GOK tbl w1 ((bS 1 Ts).2.2+1) Γ:=(hΓ w1 (sat.now.z)).mono (Agr.refl _ _) (Nat.succ_le_succ (fV _));have hb:=fy (zc hE n) hrun sat g (fun u hu=>by rw [hd u hu,hd w1 (Agr.refl _ _)]);rw [hd w1 (Agr.refl _ _)] at hb;obtain ⟨k,r,h',hr,o,ho,w2,hw2,hn2,_,s2,hden⟩:=hb;have sat2:Sat ⟨H.empty,[]⟩ w2 o.2 [] h':=⟨s2.pos,fun u hu=>let a:=s2.all u hu; ⟨a.z,a.env,a.fa,a.bl,a.nd,a.lt,a.hn,a.fr⟩⟩;obtain ⟨rs,hrs,hx⟩:=qA2 ((jO.1 hck) o ho) sat2.now;have hdw:den w2 o.1=r:=hden w2 (Agr.refl _ _);rw [hdw] at hx;obtain ⟨h1,h2⟩:=uk hT hz;refine ⟨rs,hrs,fun h=>rW hF hm (h1 18 h) h2 ⟨k,r,h',hr,?_⟩⟩;obtain ⟨hs',h3⟩:=hx h;exact ⟨_,_,_,h3,rfl,rfl⟩
 ·cases hck
theorem ap_ofE{E:List (Nat × List Ty × Ty)}(hE:EOK tbl E){f n:Nat}{F:IF}{Γ:List Con}{Ts:List Ty}{hs:Hs}{shs:List Sh}(hF:tbl f=some F)(hm:F.mode=2)(hc:pT tbl E n Γ F Ts hs (cj shs)=true)(hΓ:∀v:V,v.i 0=0→GOK tbl v 1 Γ)(hz:wL Ts=true){args:List CV}(hT:Tvs Ts args) :
  ∃rs,gF shs rs∧r6 tbl f args rs:=by
 obtain ⟨k,r,h',hr,o,ho,w,sat,hd⟩:=qMM hE hc hΓ hT;obtain ⟨rs,hrs,hx⟩:=qA2 ho sat.now;have hdw:den w o.1=r:=hd w (Agr.refl _ _);rw [hdw] at hx;obtain ⟨h1,h2⟩:=uk hT hz;refine ⟨rs,hrs,fun h=>rW hF hm (h1 18 h) h2 ⟨k,r,h',hr,?_⟩⟩;obtain ⟨hs',h3⟩:=hx h;exact ⟨_,_,_,h3,rfl,rfl⟩
end
end Ce.L
namespace Ce.L
noncomputable section
open Go Ce.S
variable {tbl:Nat→Option IF}
def qIS:IC:=.seq (.ops [⟨(some 10),.ext (.t 8) 1,none⟩,⟨(some 11),.ext (.t 8) 2,none⟩,⟨(some 3),.mov (.t 10),none⟩,⟨(some 4),.mov (.t 11),none⟩]) (.seq (.ops [⟨(some 12),.mov (.t 4),none⟩,⟨(some 13),.bin .geq (.t 12) (.c (.int .i32 97)),none⟩,⟨(some 14),.mov (.t 13),none⟩,⟨(some 15),.mov (.t 4),(some (14,true))⟩,⟨(some 16),.bin .leq (.t 15) (.c (.int .i32 122)),(some (14,true))⟩,⟨(some 17),.pick (.t 14) (.t 16) (.c (.bool false)),none⟩,⟨(some 5),.mov (.t 17),none⟩]) (.seq (.ops [⟨(some 18),.mov (.t 5),none⟩,⟨(some 19),.un .not (.t 18),none⟩,⟨(some 20),.mov (.t 19),none⟩,⟨(some 21),.mov (.t 3),(some (20,true))⟩,⟨(some 22),.eqo false (.leaf false [.i]) (.t 21) (.c (.int .i64 0)),(some (20,true))⟩,⟨(some 23),.mov (.t 22),(some (20,true))⟩,⟨(some 24),.mov (.t 4),(some (23,false))⟩,⟨(some 25),.eqo true (.leaf false [.i]) (.t 24) (.c (.int .i32 46)),(some (23,false))⟩,⟨(some 26),.mov (.t 25),(some (23,false))⟩,⟨(some 27),.mov (.t 4),(some (26,true))⟩,⟨(some 28),.bin .lss (.t 27) (.c (.int .i32 48)),(some (26,true))⟩,⟨(some 29),.mov (.t 28),(some (26,true))⟩,⟨(some 30),.mov (.t 4),(some (29,false))⟩,⟨(some 31),.bin .gtr (.t 30) (.c (.int .i32 57)),(some (29,false))⟩,⟨(some 32),.pick (.t 29) (.c (.bool true)) (.t 31),(some (26,true))⟩,⟨(some 33),.pick (.t 26) (.t 32) (.c (.bool false)),(some (23,false))⟩,⟨(some 34),.pick (.t 23) (.c (.bool true)) (.t 33),(some (20,true))⟩,⟨(some 35),.pick (.t 20) (.t 34) (.c (.bool false)),none⟩]) (.cond (.t 35) (.seq (.ops [⟨(some 2),.mov (.c (.bool false)),none⟩]) (.ret)) .skip)))
def nmTail(fo:Nat):IC:=.seq (.ops [⟨(some 36),.mov (.t 0),none⟩,⟨(some 37),.lenT (.t 36),none⟩,⟨(some 38),.bsl 1 [(.int .i64 0)] 1 [(0,(.t 37))],none⟩,⟨(some 39),.callF fo [(.c (.int .i64 1)),(.c (.int .i64 16)),(.t 38)],none⟩,⟨(some 40),.un .not (.t 39),none⟩,⟨(some 2),.mov (.t 40),none⟩]) (.ret)
def nmRest(fo:Nat):List IOp:=[⟨(some 38),.bsl 1 [(.int .i64 0)] 1 [(0,(.t 37))],none⟩,⟨(some 39),.callF fo [(.c (.int .i64 1)),(.c (.int .i64 16)),(.t 38)],none⟩,⟨(some 40),.un .not (.t 39),none⟩,⟨(some 2),.mov (.t 40),none⟩]
def nmLoop:IC:=.loop (.seq (.ops [⟨(some 8),.nxtT (.t 7),none⟩,⟨(some 9),.ext (.t 8) 0,none⟩]) (.seq (.cond (.t 9) .skip (.exit 0)) (.block 1 qIS)))
def vj(fo:Nat):IF:=⟨41,[.tmp 2],.seq (.ops [⟨(some 2),.mov (.c (.bool false)),none⟩]) (.seq (.seq (.ops [⟨(some 6),.mov (.t 0),none⟩,⟨(some 7),.rngT (.t 6),none⟩]) (.block 0 nmLoop)) (nmTail fo)),2⟩
def wG(k:Nat):S.AV→Bool
 | .sym n=>Nat.beq n k
 | _=>false
theorem wF{k:Nat}{a:S.AV}(h:wG k a=true)(v:V):den v a=v.c k:=by
 cases a<;>try (cases h; done)
 rename_i s;have:=Nat.eq_of_beq_eq_true (show Nat.beq s k=true from h);subst this; rfl
def okB:bV→Bool
 | []=>true
 | (.nor,st)::r=>wG 1 (j6 st.env 0)&&wG 8 (j6 st.env 7)&&Nat.beq st.env.length 41&&okB r
 | (.jmp .ret,st)::r=>tyA st.fa .bool (j6 st.env 2)&&okB r
 | _=>false
def okT:bV→Bool
 | []=>true
 | (.nor,st)::r=>tyA st.fa .bool (j6 st.env 2)&&okT r
 | _=>false
def stB:St:=⟨44,po (mB 1 41) 8 (.tup [.bool true,.int .i64 42 0,.int .i32 43 0]),[],[]⟩
def stT:St:=⟨43,po (mB 1 41) 37 (.int .i64 42 0),[],[]⟩
def chkB(tbl:Nat→Option IF):Bool:=match sC (sF tbl [] 100) 100 qIS [] stB [] with
 | some (outs,_)=>okB outs
 | none=>false
def chkT(tbl:Nat→Option IF)(fo:Nat)(hs:Hs):Bool:=match sC (sF tbl [] 100) 100 (.ops (nmRest fo)) [] stT hs with
 | some (outs,_)=>okT outs
 | none=>false
theorem qYA(tbl:Nat→Option IF):chkB tbl=true:=by kernel_rfl
theorem uE{st:St}:∀{outs:bV},okB outs=true→(Ex.nor,st)∈outs→wG 1 (j6 st.env 0)=true∧wG 8 (j6 st.env 7)=true∧st.env.length=41
 | [],_,h=>by cases h
 | (.nor,s)::r,hk,h=>by
  simp only [okB,nG] at hk;rcases aS.1 h with e | h
  ·simp only [ke,cQ] at e; subst e;exact ⟨hk.1.1.1,hk.1.1.2,Nat.eq_of_beq_eq_true hk.1.2⟩
  ·exact uE hk.2 h
 | (.jmp .ret,s)::r,hk,h=>by
  simp only [okB,nG] at hk;rcases aS.1 h with e | h
  ·cases e
  ·exact uE hk.2 h
 | (.jmp (.exit _),s)::r,hk,h=>by cases hk
theorem uD{st:St}:∀{outs:bV},okB outs=true→(Ex.jmp .ret,st)∈outs→tyA st.fa .bool (j6 st.env 2)=true
 | [],_,h=>by cases h
 | (.nor,s)::r,hk,h=>by
  simp only [okB,nG] at hk;rcases aS.1 h with e | h
  ·cases e
  ·exact uD hk.2 h
 | (.jmp .ret,s)::r,hk,h=>by
  simp only [okB,nG] at hk;rcases aS.1 h with e | h
  ·simp only [ke,cQ] at e; subst e; exact hk.1
  ·exact uD hk.2 h
 | (.jmp (.exit _),s)::r,hk,h=>by cases hk
theorem uF{st:St}{i:Nat}:∀{outs:bV},okB outs=true→(Ex.jmp (.exit i),st)∈outs→False
 | [],_,h=>by cases h
 | (.nor,s)::r,hk,h=>by
  simp only [okB,nG] at hk;rcases aS.1 h with e | h
  ·cases e
  ·exact uF hk.2 h
 | (.jmp .ret,s)::r,hk,h=>by
  simp only [okB,nG] at hk;rcases aS.1 h with e | h
  ·cases e
  ·exact uF hk.2 h
 | (.jmp (.exit _),s)::r,hk,h=>by cases hk
theorem qIR{ex:Ex}{st:St}:∀{outs:bV},okT outs=true→(ex,st)∈outs→ex=.nor∧tyA st.fa .bool (j6 st.env 2)=true
 | [],_,h=>by cases h
 | (.jmp _,s)::r,hk,h=>by cases hk
 | (.nor,s)::r,hk,h=>by
  simp only [okT,nG] at hk;rcases aS.1 h with e | h
  ·simp only [ke] at e;obtain ⟨rfl,rfl⟩:=e; exact ⟨rfl,hk.1⟩
  ·exact qIR hk.2 h
theorem Wo_of{l:List IOp}{env:List CV}{h:H}{Q:Ex→List CV→H→Prop}(w:Wc tbl (.ops l) env h Q):Wo tbl l env h (Q .nor):=by
 obtain ⟨n,ex,e,h',r,q⟩:=w;simp only [exec] at r;split at r
 ·rename_i e1 h1 ho;simp only [eB,ke] at r;obtain ⟨rfl,rfl,rfl⟩:=r;exact ⟨n,e1,h1,ho,q⟩
 ·cases r
theorem ya(s:ByteArray)(i:Nat):1≤(Utf8.decode s i).2:=by
 unfold Utf8.decode
 dsimp only
 repeat' split
 all_goals simp
def vB(E:List CV)(p r:Int):V:=⟨fun s=>if s=42 then p else if s=43 then r else 0,fun s=>aR E (s - 1),fun _=>0,fun _=>⟨[],[],.skip,.skip⟩⟩
theorem qC7{w:V}{st:St}{e:List CV}{h0 h':H}(s:Sat ⟨h0,[]⟩ w st e h')(hb:tyA st.fa .bool (j6 st.env 2)=true):∃b,aR e 2=.bool b:=by
 obtain ⟨b,hb⟩:=gp s.now.z s.now.fa .bool _ hb;exact ⟨b,by rw [s.now.env,gB]; exact hb⟩
theorem qQA{f fo:Nat}{hs:Hs}(hF:tbl f=some (vj fo))(hT:chkT tbl fo hs=true):EOK tbl [(f,[.str],.bool)]:=by
 intro g Ts T hg v args h hv hargs;have hg':g=f∧Ts=[.str]∧T=.bool:=by
  simp only [qBG] at hg;split at hg
  ·rename_i e;simp only [eB,ke] at hg;exact ⟨e.symm,hg.1.symm,hg.2.symm⟩
  ·cases hg
 obtain ⟨rfl,rfl,rfl⟩:=hg';obtain ⟨c,cs,rfl,⟨s,rfl⟩,hcs⟩:=hargs;have:cs=[]:=hcs;subst this;have fin:∀(e:List CV) (h':H),(∃b,aR e 2=.bool b)→qPY (vj fo).res (fun r hs=>∃v' hs' h1,xp 20 r (hs,h)=some (v',hs',h1)∧h1=h∧∀w:V,w.i 0=0→av w .bool v') (.jmp .ret) e h':=by
  rintro e h' ⟨b,hb⟩;exact ⟨[.bool b],by simp only [vj,resV,hb],.bool b,h',h,rfl,rfl,fun w _=>⟨b,rfl⟩⟩
 refine rW (args':=[.str s]) (h1:=h) hF rfl rfl rfl (qMY ?_);have e0:aR ([CV.str s]++cB 40) 0=.str s:=rfl;have hE:([CV.str s]++cB 40).length=41:=rfl
 show Wc tbl (vj fo).body ([CV.str s]++cB 40) H.empty _
 generalize [CV.str s]++cB 40=E at e0 hE;refine am (bE (aB (v:=.bool false) (h':=H.empty) rfl rfl (ay ?_)));refine am (am (bE ?_));refine aB (v:=.str s) (h':=H.empty) rfl (ak (by simp [Opd.ev,put?,getl_setl,e0])) ?_;refine aB (v:=.ptr 0 0) (h':=H.empty.push (.sit s 0)) rfl ?_ (ay ?_)
 ·have:Opd.ev (put? (put? E (some 2) (CV.bool false)) (some 6) (CV.str s)) (.t 6)=.str s:=by simp [Opd.ev,put?,getl_setl,aA,hE]
  simp only [stepO];rw [this];rfl
 simp only [bn,put?];have a0:aR (aL (aL (aL E 2 (.bool false)) 6 (.str s)) 7 (.ptr 0 0)) 0=.str s:=by simp [getl_setl,e0]
 have a7:aR (aL (aL (aL E 2 (.bool false)) 6 (.str s)) 7 (.ptr 0 0)) 7=.ptr 0 0:=by simp [getl_setl,aA,hE]
 have al:(aL (aL (aL E 2 (.bool false)) 6 (.str s)) 7 (.ptr 0 0)).length=41:=by simp [aA,hE]
 generalize aL (aL (aL E 2 (.bool false)) 6 (.str s)) 7 (.ptr 0 0)=E1 at a0 a7 al;have hg0:(H.empty.push (.sit s 0)).get 0=some (.sit s 0):=rfl;have hn1:0 < (H.empty.push (.sit s 0)).n:=by simp [H.empty]
 generalize H.empty.push (.sit s 0)=h1 at hg0 hn1;refine eP (jf (fun m e hh=>∃pos,hh.get 0=some (.sit s pos)∧0 < hh.n∧e.length=41∧aR e 0=.str s∧aR e 7=.ptr 0 0∧m=s.size - pos) s.size ⟨0,hg0,hn1,al,a0,a7,by omega⟩ ?_);rintro m e hh ⟨pos,g0,hhn,gl,k0,k7,rfl⟩;refine am (bE ?_);by_cases hlt:pos < s.size
 ·refine aB (v:=.tup [.bool true,.int .i64 pos,.int .i32 (Utf8.decode s pos).1]) (h':=hh.put 0 (.sit s (pos+(Utf8.decode s pos).2))) rfl (by simp only [stepO,Opd.ev,k7,g0]; rw [aH hlt]) ?_;refine aB (v:=.bool true) (h':=hh.put 0 (.sit s (pos+(Utf8.decode s pos).2))) rfl (by simp [stepO,Opd.ev,put?,getl_setl,gl,nth?]) (ay ?_);simp only [bn,put?];have b0:aR (aL (aL e 8 (.tup [.bool true,.int .i64 pos,.int .i32 (Utf8.decode s pos).1])) 9 (.bool true)) 0=.str s:=by simp [getl_setl,k0]
  have b7:aR (aL (aL e 8 (.tup [.bool true,.int .i64 pos,.int .i32 (Utf8.decode s pos).1])) 9 (.bool true)) 7=.ptr 0 0:=by simp [getl_setl,k7]
  have b8:aR (aL (aL e 8 (.tup [.bool true,.int .i64 pos,.int .i32 (Utf8.decode s pos).1])) 9 (.bool true)) 8=.tup [.bool true,.int .i64 pos,.int .i32 (Utf8.decode s pos).1]:=by simp [getl_setl,aA,gl]
  have b9:aR (aL (aL e 8 (.tup [.bool true,.int .i64 pos,.int .i32 (Utf8.decode s pos).1])) 9 (.bool true)) 9=.bool true:=by simp [getl_setl,aA,gl]
  have bl:(aL (aL e 8 (.tup [.bool true,.int .i64 pos,.int .i32 (Utf8.decode s pos).1])) 9 (.bool true)).length=41:=by simp [aA,gl]
  generalize aL (aL e 8 (.tup [.bool true,.int .i64 pos,.int .i32 (Utf8.decode s pos).1])) 9 (.bool true)=E2 at b0 b7 b8 b9 bl;refine am (eu true b9 (fun _=>fT ?_) (fun c=>by cases c));simp only [bn];refine eP ?_;have hchk:=qYA tbl;unfold chkB at hchk;split at hchk
  ·rename_i outs hs' hrun;refine (qHO (E0:=[]) qBJ hrun rfl (by decide) (v:=vB E2 pos (Utf8.decode s pos).1) (env:=E2) (h:=hh.put 0 (.sit s (pos+(Utf8.decode s pos).2))) (fun w hw=>?_)).mono ?_
   ·refine ⟨((hw 0 (by decide)).1).symm.trans rfl,?_,fun f hf=>by cases hf⟩;have hsy:aF w (mB 1 41)=E2:=nS 41 1 E2 bl fun i hi=>by
     rw [←(hw (1+i) (by simp only [stB]; omega)).2.1]
     show aR E2 (1+i - 1)=_
     congr 1; omega
    show E2=aF w (po (mB 1 41) 8 _)
    rw [←jw,hsy];have ht:den w (.tup [.bool true,.int .i64 42 0,.int .i32 43 0])=.tup [.bool true,.int .i64 pos,.int .i32 (Utf8.decode s pos).1]:=by
     have h42:w.i 42=pos:=((hw 42 (by decide)).1).symm.trans rfl;have h43:w.i 43=(Utf8.decode s pos).1:=((hw 43 (by decide)).1).symm.trans rfl;simp only [den,aF,h42,h43,eV]
    rw [ht,←b8];exact (oz E2 8).symm
   ·rintro ex e' h' ⟨o,ho,w,hw,sat⟩;have hfr:h'.get 0=some (.sit s (pos+(Utf8.decode s pos).2))∧0 < h'.n:=by
     have hn:=sat.now.hn;have hf:=sat.now.fr 0 (by simpa using hhn) (by simp);exact ⟨hf.trans eT,dD (by simpa using hhn) hn⟩
    cases ex with
    | nor =>
     obtain ⟨q1,q2,q3⟩:=uE hchk ho;have d:=ya s pos;refine ⟨s.size - (pos+(Utf8.decode s pos).2),by omega,pos+(Utf8.decode s pos).2,hfr.1,hfr.2,?_,?_,?_,rfl⟩
     ·rw [sat.now.env,aq]; exact q3
     ·rw [sat.now.env,gB,wF q1,←(hw 1 (by decide)).2.1]; exact b0
     ·rw [sat.now.env,gB,wF q2,←(hw 8 (by decide)).2.1]; exact b7
    | jmp j =>
     cases j with
     | ret=>exact fin e' h' (qC7 sat (uD hchk ho))
     | exit i=>exact (uF hchk ho).elim
  ·cases hchk
 ·refine aB (v:=.tup [.bool false]) (h':=hh) rfl (by simp only [stepO,Opd.ev,k7,g0]; rw [aC hlt]) ?_;refine aB (v:=.bool false) (h':=hh) rfl (by simp [stepO,Opd.ev,put?,getl_setl,gl,nth?]) (ay ?_);simp only [bn,put?];have b0:aR (aL (aL e 8 (.tup [.bool false])) 9 (.bool false)) 0=.str s:=by simp [getl_setl,k0]
  have b9:aR (aL (aL e 8 (.tup [.bool false])) 9 (.bool false)) 9=.bool false:=by simp [getl_setl,aA,gl]
  have bl:(aL (aL e 8 (.tup [.bool false])) 9 (.bool false)).length=41:=by simp [aA,gl]
  generalize aL (aL e 8 (.tup [.bool false])) 9 (.bool false)=E2 at b0 b9 bl;refine am (eu false b9 (fun c=>by cases c) (fun _=>lB ?_));simp only [iw,bn,loopQ,ac];refine am (bE ?_);refine aB (v:=.str s) (h':=hh) rfl (ak b0) ?_;refine aB (v:=.int .i64 s.size) (h':=hh) rfl ?_ ?_
  ·have:Opd.ev (put? E2 (some 36) (.str s)) (.t 36)=.str s:=by simp [Opd.ev,put?,getl_setl,bl]
   simp only [stepO];rw [this]
  simp only [put?];have c37:aR (aL (aL E2 36 (.str s)) 37 (.int .i64 s.size)) 37=.int .i64 s.size:=by simp [getl_setl,aA,bl]
  have cl:(aL (aL E2 36 (.str s)) 37 (.int .i64 s.size)).length=41:=by simp [aA,bl]
  generalize aL (aL E2 36 (.str s)) 37 (.int .i64 s.size)=E3 at c37 cl;unfold chkT at hT;split at hT
  ·rename_i outs hs' hrun;refine Wo_of ((qHO (E0:=[]) qBJ hrun rfl (by decide) (v:=vB E3 s.size 0) (env:=E3) (h:=hh) (fun w hw=>?_)).mono ?_)
   ·refine ⟨((hw 0 (by decide)).1).symm.trans rfl,?_,fun f hf=>by cases hf⟩;have hsy:aF w (mB 1 41)=E3:=nS 41 1 E3 cl fun i hi=>by
     rw [←(hw (1+i) (by simp only [stT]; omega)).2.1]
     show aR E3 (1+i - 1)=_
     congr 1; omega
    show E3=aF w (po (mB 1 41) 37 _)
    rw [←jw,hsy];have ht:den w (.int .i64 42 0)=.int .i64 s.size:=by
     have h42:w.i 42=s.size:=((hw 42 (by decide)).1).symm.trans rfl;simp only [den,h42,eV]
    rw [ht,←c37];exact (oz E3 37).symm
   ·rintro ex e' h' ⟨o,ho,w,hw,sat⟩;obtain ⟨rfl,q⟩:=qIR hT ho;exact rX (fin e' h' (qC7 sat q))
  ·cases hT
end
end Ce.L
