/- A part of a proof. -/
import Derived.Test.YtglkncbccadnoadGreatCeA
import Derived.RowKit3
set_option linter.unusedVariables false
set_option linter.unusedSimpArgs false
set_option maxRecDepth 1000000
namespace Ce
open Go
variable {P:Program} {c c0:Cx} {h h0:H} {w w0:World}
theorem gj(w:World)(o:Obj){k:Nat}(hk:k < w.heap.size):(w.alloc o).heap[k]?=w.heap[k]?:=by
 simp only [World.alloc,rS]; rw [aC (by omega)]
theorem tN(w:World)(o:Obj):(w.alloc o).heap[w.heap.size]?=some o:=by show (w.heap.push o)[w.heap.size]?=some o; simp
theorem Stp.growW(r:Rel P c h w)(o:Obj)(ho:qDF o=(0,0)):Stp P c h w c h (w.alloc o):=by
 have hE:Evo c h.n w c h.n (w.alloc o):=by
  refine ⟨aV _,fun _ _=>rfl,fun _ hb=>hb,fun k hk=>gj w o (r.imlt k hk),fun k e s hs=>?_,fun k hk=>by
   have hk2:k < w.heap.size:=by
    rcases i7 k w.heap.size with h | h
    ·exact h
    ·rw [jm h] at hk; cases hk
   rw [gj w o hk2]; exact hk⟩
  have hk:k < w.heap.size:=by
   rw [shape?_eq] at hs;rcases i7 k w.heap.size with hk | hk
   ·exact hk
   ·rw [jm hk] at hs; cases hs
  rw [bm (gj w o hk)]; exact hs
 refine ⟨⟨r.bound,fun i b hb=>?_,r.inj,r.notIm,r.ro,fun b hb=>?_⟩,hE,⟨by simp,fun k hk _=>gj w o hk,fun i hi=>.inl ⟨i,hi,rfl⟩,fun _ hb=>.inl hb,fun k _=>?_,rfl,rfl⟩⟩
 ·rcases r.blk i b hb with hd | ⟨o',h1,h2⟩
  ·exact .inl hd
  ·exact .inr ⟨o',by rw [gj w o (gJ.1 h1).1]; exact h1,h2.evo hE⟩
 ·have:=r.imlt b hb; simp; omega
 ·rcases Nat.lt_trichotomy k w.heap.size with hk | hk | hk
  ·exact dW (gj w o hk)
  ·subst hk;rw [fM (tN w o),ho]; unfold oB; rw [jm (aV _)]; rfl
  ·apply dW
   show (w.heap.push o)[k]?=w.heap[k]?
   rw [rS,aC (by omega)]
theorem Stp.adoptB(S:Stp P c0 h0 w0 c h w){b:Nat}{blk:Blk}{o:Obj}(hlt:w0.heap.size≤b)(hb:w.heap[b]?=some o)(hbr:BR P c h.n w blk o)(hnro:∀cs,blk≠.cells cs true)(hfree:∀i,bR h i→c.β i≠b)(him:¬c.Im b) :
  Stp P c0 h0 w0 (c.set h.n b) (h.push blk) w∧Evo c h.n w (c.set h.n b) (h.push blk).n w:=by
 have r:=S.rel;have hE:Evo c h.n w (c.set h.n b) (h.n+1) w:=⟨by omega,fun i hi=>Cx.set_lt c hi,fun _ hb=>hb,fun _ _=>rfl,fun _ _ _ hs=>hs,fun _ hk=>hk⟩;have hlive:∀i,bR (h.push blk) i→i=h.n∨(i < h.n∧bR h i):=by
  rintro i ⟨x,hx,hl⟩;rw [H.f_push] at hx;by_cases e:i=h.n
  ·exact .inl e
  ·rw [aC e] at hx; exact .inr ⟨r.bound i x hx,x,hx,hl⟩
 refine ⟨⟨⟨?_,?_,?_,?_,?_,r.imlt⟩,S.evo.trans hE,⟨S.fr.size,S.fr.old,?_,S.fr.im,S.fr.fz,S.fr.outs⟩⟩,hE⟩
 ·intro i x hx;rw [H.f_push] at hx
  show i < h.n+1
  by_cases e:i=h.n
  ·omega
  ·rw [aC e] at hx; have:=r.bound i x hx; omega
 ·intro i x hx;rw [H.f_push] at hx;by_cases e:i=h.n
  ·rw [aH e] at hx;injection hx with hx
   subst hx;exact .inr ⟨o,by rw [e,Cx.set_same]; exact hb,hbr.evo hE⟩
  ·rw [aC e] at hx;have hi:=r.bound i x hx;rcases r.blk i x hx with hd | ⟨o',ho,hr⟩
   ·exact .inl hd
   ·exact .inr ⟨o',by rw [Cx.set_lt c hi]; exact ho,hr.evo hE⟩
 ·intro i j hi hj e;rcases hlive i hi with rfl | ⟨hi,li⟩<;>rcases hlive j hj with rfl | ⟨hj,lj⟩
  ·rfl
  ·rw [Cx.set_same,Cx.set_lt c hj] at e; exact absurd e.symm (hfree j lj)
  ·rw [Cx.set_same,Cx.set_lt c hi] at e; exact absurd e (hfree i li)
  ·rw [Cx.set_lt c hi,Cx.set_lt c hj] at e; exact r.inj i j li lj e
 ·intro i hi him';rcases hlive i hi with rfl | ⟨hi,li⟩
  ·rw [Cx.set_same] at him'; exact him him'
  ·rw [Cx.set_lt c hi] at him'; exact r.notIm i li him'
 ·intro i cs hx;rw [H.f_push] at hx;by_cases e:i=h.n
  ·rw [aH e] at hx; injection hx with hx; exact absurd hx (hnro cs)
  ·rw [aC e] at hx; rw [Cx.set_lt c (r.bound i _ hx)]; exact r.ro i cs hx
 ·intro i hi;rcases hlive i hi with rfl | ⟨hi,li⟩
  ·right; rw [Cx.set_same]; exact hlt
  ·rw [Cx.set_lt c hi]; exact S.fr.live i li
theorem Stp.keeps{c':Cx}{h':H}{w':World}(s:Stp P c h w c' h' w')(r:Rel P c h w){b:Nat}(hb:b < w.heap.size)(hfree:∀i,bR h i→c.β i≠b)(him:¬c.Im b):w'.heap[b]?=w.heap[b]?∧(∀i,bR h' i→c'.β i≠b)∧¬c'.Im b:=by
 refine ⟨s.fr.old b hb hfree,fun i hi e=>?_,fun hi=>?_⟩
 ·rcases s.fr.live i hi with ⟨j,hj,ej⟩ | hge
  ·exact hfree j hj (ej.trans e)
  ·omega
 ·rcases s.fr.im b hi with h1 | h1 | ⟨j,hj,ej⟩
  ·exact him h1
  ·omega
  ·exact hfree j hj ej
end Ce
namespace Ce
open Go
variable {P:Program} {c:Cx} {h:H} {w:World} {env:List CV} {a:Act} {n:Nat}
noncomputable def lzC:Ins→List CV→Option (List CV)
 | .alloc z,_=>some z
 | .bsl k z len ps,env=>gU k (dQ z len) env ps
 | _,_=>none
def lzV:Ins→Nat→CV
 | .alloc _,n=>.ptr n 0
 | .bsl k _ len _,n=>.slc k n 0 len (some len)
 | _,_=>undef
theorem qQJ{call:cS}{i:Ins}(hz:oU i=true):stepO call i env h=match lzC i env with
  | some cs=>some (lzV i h.n,h.push (.cells cs false))
  | none=>none:=by
 cases i<;>first | (cases hz; done) | rfl
theorem qQK{i:Ins}{d:Nat}{v:CV}(hz:oU i=true)(hf:i.free d=true):lzC i (aL env d v)=lzC i env:=by
 cases i<;>first | (cases hz; done) | rfl | (simp only [Ins.free] at hf; simp only [lzC,oI _ _ _ hf])
theorem wy{k:Nat}:∀(qs:List (Nat × Opd)) (zs cs:List CV),gU k zs env qs=some cs→cs.length=zs.length
 | [],zs,cs,h=>by simp only [gU,sI] at h; rw [h]
 | (i,o)::qs,zs,cs,h=>by
  simp only [gU] at h;split at h
  ·rename_i hcond;simp only [aT,dT] at hcond;rw [wy qs _ _ h,eC _ _ _ (by omega)];simp; omega
  ·cases h
def LzM(P:Program)(c:Cx)(n:Nat)(w:World)(io:Ins)(cs:List CV)(res:Result Next):Prop :=
 ∃(us:List Value) (e:TypeId) (mv:Value),res=.ok (.value mv) (w.alloc (.cells us.toArray e))∧VRs c n w cs us ∧
  (∀(c2:Cx) (n2:Nat) (w2:World),VR c2 n2 w2 undef mv) ∧
  (∀(c2:Cx) (n2:Nat) (w2:World),w2.heap[w.heap.size]?=some (.cells us.toArray e)→VR (c2.set n2 w.heap.size) (n2+1) w2 (lzV io n2) mv)
theorem qJ6(t:TypeId){io:Ins}(hc:cOp P (.alloc t)=some io){cs:List CV}(hs:lzC io env=some cs){o:Oper}(ho:o.op=.alloc t):LzM P c n w io cs ((execOp a.eval o).run P w):=by
 obtain ⟨z,hz,hc⟩:=aU hc;injection hc with hc; subst hc
 simp only [lzC,sI] at hs;subst hs;obtain ⟨i,v,_,_,hcv,hrun⟩:=fJ hz;have hv:=(fO c n w v z hcv).cells;refine ⟨_,t,.pointer (some ⟨w.heap.size,0,none⟩),?_,hv,fun _ _ _=>.undp _,fun c2 n2 w2 _=>?_⟩
 ·simp only [execOp,ho,Instr.alloc,Sem.run_bind,hrun,Result.andThen_ok,newVar,newRow,run_newObj,Sem.run_pure];rfl
 ·have:=VR.ptr (c:=c2.set n2 w.heap.size) (w:=w2) n2 0 (gO n2);rw [Cx.set_same] at this; exact this
theorem lz_bsl(t:TypeId)(len:Nat)(ps:Array (Nat × Operand)){io:Ins}(hc:cOp P (.buildSlice t len ps)=some io)(he:dC c n w env a.tmps){cs:List CV}(hs:lzC io env=some cs){o:Oper}(ho:o.op=.buildSlice t len ps) :
  LzM P c n w io cs ((execOp a.eval o).run P w):=by
 unfold cOp at hc;simp only at hc;split at hc
 ·rename_i e hu;obtain ⟨k,hk,hc⟩:=aU hc;obtain ⟨z,hz,hc⟩:=aU hc;obtain ⟨qs,hq,hc⟩:=aU hc;split at hc
  ·cases hc
  ·rename_i hcond;injection hc with hc; subst hc
   simp only [bU,dT,not_or,Bool.not_eq_true,decide_eq_false_iff_not,dY,Decidable.not_not] at hcond;obtain ⟨⟨h1,h2⟩,h3⟩:=hcond;obtain ⟨it,v0,hi,hiz,hcv,hrun⟩:=fJ hz;have hzr:=(fO c n w v0 z hcv).cells;have hzl:v0.cells.size=k:=by have:=hzr.1; simp at this; omega
   simp only [lzC] at hs;have hr0:=ly hzr (by omega) len;obtain ⟨us,hu1,hu2⟩:=ue k he ps.toList qs _ _ cs hq hr0 hs;rw [tR] at hu1;have hlist:(ps.map fun (x:Nat × Operand)=>(x.1,a.eval x.2)).toList=ps.toList.map fun p=>(p.1,a.eval p.2):=by simp
   refine ⟨us,e,.slice (some ⟨w.heap.size,0,none⟩) len len,?_,hu2,fun _ _ _=>.unds _ _ _,fun c2 n2 w2 hw2=>?_⟩
   ·have h24:¬(len*k>2 ^ 24):=by omega
    have hzero:(if len*k=0 then (Pure.pure #[]:Sem (Array Value)) else do Pure.pure (←zeroValue e).cells).run P w=.ok (if len*k=0 then #[] else v0.cells) w:=by
     split
     ·rfl
     ·simp [hrun]
    simp only [execOp,ho,Instr.buildSlice,Sem.run_bind,aO hu,Result.andThen_ok,cN hk,Sem.run_ite,aC h24,Sem.run_pure];by_cases hz0:len*k=0
    ·have hl0:len=0:=by rcases Nat.mul_eq_zero.1 hz0 with h | h<;>omega
     subst hl0;simp only [d9,ac,Result.andThen_ok];simp only [d9] at hu1;rw [hlist];have:(Array.map (fun (x:Nat)=>(#[]:Array Value)[x % (#[]:Array Value).size]!) (Array.range 0))=(Array.map (fun x=>v0.cells[x % v0.cells.size]!) (Array.range 0)):=by simp
     rw [this,hu1];simp [newRow]
    ·simp only [aC hz0,hrun,Result.andThen_ok,hlist];rw [hzl] at hu1;simp only [hzl];rw [hu1];simp [newRow]
   ·have hlen:us.length=len*k:=by rw [←hu2.1,wy _ _ _ hs,repl_len,h2]
    have:=VR.slc (c:=c2.set n2 w.heap.size) (n:=n2+1) (w:=w2) k n2 0 len (some len) len (gO _) (fun m hm=>by injection hm) (aV _) ⟨e,us.length,by
     rw [Cx.set_same,shape?_eq,hw2]; rfl,by omega⟩
    rw [Cx.set_same] at this;exact this
 ·cases hc
theorem wx(b:Builtin)(args:List Operand)(ts:List TypeId)(io:Ins)(hc:jL P b args ts=some io):oU io=false:=by
 unfold jL at hc
 repeat' (first | (cases hc; done) | (injection hc with hc; subst hc; rfl; done) | (obtain ⟨_,_,hc⟩:=aU hc) | (split at hc))
theorem cOp_lz{op:Op}{io:Ins}(hc:cOp P op=some io)(hz:oU io=true):(∃t,op=.alloc t)∨∃t len ps,op=.buildSlice t len ps:=by
 unfold cOp at hc;split at hc
 all_goals first
  | exact .inl ⟨_,rfl⟩
  | exact .inr ⟨_,_,_,rfl⟩
  | (exfalso; repeat' (first | (cases hc; done) | (injection hc with hc; subst hc; cases hz; done) | (obtain ⟨_,_,hc⟩:=aU hc) | (have:=wx _ _ _ _ hc; rw [this] at hz; cases hz; done) | (split at hc)))
theorem qJ5{op:Op}{io:Ins}(hc:cOp P op=some io)(hz:oU io=true)(he:dC c n w env a.tmps){cs:List CV}(hs:lzC io env=some cs){o:Oper}(ho:o.op=op):LzM P c n w io cs ((execOp a.eval o).run P w):=by
 rcases cOp_lz hc hz with ⟨t,rfl⟩ | ⟨t,len,ps,rfl⟩
 ·exact qJ6 t hc hs ho
 ·exact lz_bsl t len ps hc he hs ho
end Ce
namespace Ce
open Go
variable {call:cS} {env:List CV} {h:H}
def Mn(h h2:H):Prop:=∀i b,h.get i=some b→h2.get i=some b
theorem Mn.push{b:Blk}(hn:h.f h.n=none):Mn h (h.push b):=by
 intro i x hx
 show (if i=h.n then some b else h.f i)=some x
 rw [aC]
 ·exact hx
 ·rintro rfl; rw [show h.get h.n=h.f h.n from rfl,hn] at hx; cases hx
theorem qJK{h2:H}(m:Mn h h2){g:Option Nat}{a v:CV}(hs:ldV g a h=some v):ldV g a h2=some v:=by
 cases a<;>first | (cases hs; done) | exact hs | skip
 rename_i r off;simp only [ldV] at hs ⊢;cases hg:h.get r with
 | none=>rw [hg] at hs; cases hs
 | some b=>rw [hg] at hs; rw [m _ _ hg]; exact hs
theorem qAI{h2:H}(m:Mn h h2){ag:Bool}{ls:List Lf}{z x i:CV}{ok:Bool}{v:CV}(hs:lkuV ag ls z x i ok h=some v):lkuV ag ls z x i ok h2=some v:=by
 unfold lkuV at hs ⊢;split at hs
 ·rename_i hk;rw [aH hk];cases x<;>first | (cases hs; done) | exact hs | skip
  rename_i r
  dsimp only at hs ⊢
  cases hg:h.get r with
  | none=>rw [hg] at hs; cases hs
  | some b=>rw [hg] at hs; rw [m _ _ hg]; exact hs
 ·cases hs
theorem slA_mn{h2:H}(m:Mn h h2){x v:CV}{n k:Nat}{lo hi mx:Option CV}(hs:slA h x n k lo hi mx=some v):slA h2 x n k lo hi mx=some v:=by
 unfold slA at hs ⊢;cases x<;>first | (cases hs; done) | exact hs | skip
 rename_i r off
 dsimp only at hs ⊢
 cases hg:h.get r with
 | none=>rw [hg] at hs; cases hs
 | some b=>rw [hg] at hs; rw [m _ _ hg]; exact hs
theorem qQ0{h2:H}(m:Mn h h2){o:Ins}(hk:o.kind≤1){x:CV}{h':H}(hs:stepO call o env h=some (x,h')):stepO call o env h2=some (x,h2):=by
 by_cases h0:o.kind=0
 ·exact (sH h0 hs).2 h2
 ·cases o<;>simp only [Ins.kind,Nat.not_succ_le_self,Nat.reduceLeDiff,fV,aV,jk] at hk h0
  all_goals simp only [stepO] at hs ⊢
  case ld g a =>
   split at hs
   ·rename_i v hv; rw [qJK m hv]; simp only [sI,pI] at hs; obtain ⟨rfl,rfl⟩:=hs; rfl
   ·cases hs
  case slA n k x lo hi mx =>
   split at hs
   ·rename_i v hv; rw [slA_mn m hv]; simp only [sI,pI] at hs; obtain ⟨rfl,rfl⟩:=hs; rfl
   ·cases hs
  case lku ag ls z x i ok =>
   split at hs
   ·rename_i v hv; rw [qAI m hv]; simp only [sI,pI] at hs; obtain ⟨rfl,rfl⟩:=hs; rfl
   ·cases hs
  case lenM x =>
   generalize x.ev env=xv at hs ⊢;cases xv<;>first | (cases hs; done) | skip
   ·simp only [sI,pI] at hs; obtain ⟨rfl,rfl⟩:=hs; rfl
   ·rename_i r
    dsimp only at hs ⊢
    cases hg:h.get r with
    | none=>rw [hg] at hs; cases hs
    | some b =>
     rw [hg] at hs; rw [m _ _ hg];cases b<;>first | (cases hs; done) | skip
     simp only [sI,pI] at hs; obtain ⟨rfl,rfl⟩:=hs; rfl
  case ckl g a x =>
   split at hs
   ·rename_i v hv;rw [qJK m hv]
    dsimp only at hs ⊢
    split at hs
    ·rename_i hb; rw [aH hb]; simp only [sI,pI] at hs; obtain ⟨rfl,rfl⟩:=hs; rfl
    ·cases hs
   ·cases hs
  case cku ag ls z x i ok d =>
   split at hs
   ·rename_i v hv;rw [qAI m hv]
    dsimp only at hs ⊢
    split at hs
    ·rename_i hb; rw [aH hb]; simp only [sI,pI] at hs; obtain ⟨rfl,rfl⟩:=hs; rfl
    ·cases hs
   ·cases hs
theorem val_mn{h2:H}(m:Mn h h2){q:IOp}(hk:q.op.kind≤1){x:CV}{h':H}(hs:val call q env h=some (x,h')):val call q env h2=some (x,h2):=by
 simp only [val] at hs ⊢;cases hg:grd q.guard env with
 | true=>rw [hg] at hs; exact qQ0 m hk hs
 | false =>
  rw [hg] at hs;simp only [sI,pI] at hs;obtain ⟨rfl,rfl⟩:=hs;rfl
theorem yo{a x:IOp}(h:apart a x=true):apart x a=true:=by
 simp only [apart,aT] at h ⊢;refine ⟨⟨h.1.2,h.1.1⟩,?_⟩;have:=h.2
 revert this
 cases a.dst with
 | none=>cases x.dst<;>exact fun _=>rfl
 | some d=>cases x.dst with
  | none=>exact fun _=>rfl
  | some e=>simp only [jj,dY]; exact fun h e'=>h e'.symm
theorem uI{q:IOp}(hq:q.lzy=true):(∃d,q.dst=some d)∧oU q.op=true:=by
 simp only [IOp.lzy,aT,kZ] at hq;exact hq
theorem qJ3{q:IOp}(hq:q.lzy=true)(hg:grd q.guard env=true):val call q env h=match lzC q.op env with
  | some cs=>some (lzV q.op h.n,h.push (.cells cs false))
  | none=>none:=by
 obtain ⟨_,h3⟩:=uI hq;simp only [val,hg,qQJ h3]
 try (cases lzC q.op env<;>rfl)
theorem qN{a q:IOp}(hq:q.lzy=true)(hf:cW a q=true){v:CV}:lzC q.op (put? env a.dst v)=lzC q.op env:=by
 unfold cW at hf;cases hd:a.dst with
 | none=>rfl
 | some d =>
  rw [hd] at hf;simp only [IOp.free,aT] at hf;exact qQK (uI hq).2 hf.1
theorem oA{a q:IOp}(hf:cW a q=true){v:CV}:grd q.guard (put? env a.dst v)=grd q.guard env:=by
 unfold cW at hf;cases hd:a.dst with
 | none=>rfl
 | some d =>
  rw [hd] at hf;simp only [IOp.free,aT] at hf;exact qc hf.2
theorem qJ4{q:IOp}(hq:q.lzy=true){B:List IOp}{r:List CV × H}:∀(L:List IOp) (env:List CV) (h:H),grd q.guard env=true→(∀b∈L,cW b q=true)→opsR call (L++q::B) env h=some r→∃cs,lzC q.op env=some cs
 | [],env,h,hg,_,hr=>by
  rw [eX,bW,gR,qJ3 hq hg] at hr;cases hc:lzC q.op env with
  | none=>rw [hc] at hr; cases hr
  | some cs=>exact ⟨cs,rfl⟩
 | b::L,env,h,hg,hL,hr=>by
  rw [eI,bW,gR] at hr;cases hv:val call b env h with
  | none=>rw [hv] at hr; cases hr
  | some p =>
   rw [hv] at hr;obtain ⟨cs,hc⟩:=qJ4 hq L _ _ (by rw [oA (hL b (by simp))]; exact hg) (fun x hx=>hL x (by simp [hx])) hr;rw [qN hq (hL b (by simp))] at hc;exact ⟨cs,hc⟩
theorem qAD{q:IOp}{d:Nat}(hd:q.dst=some d)(hself:cW q q=true){B:List IOp}(u:CV):∀(L:List IOp) (env:List CV) (h:H),(∀b∈L,apart b q=true)→opsR call (L++q::B) (aL env d u) h=opsR call (L++q::B) env h
 | [],env,h,_=>by
  have hf:q.free d=true:=by simp only [cW,hd] at hself; exact hself
  rw [eX,bW,bW (env:=env),gR,gR,qd hf];cases val call q env h with
  | none=>rfl
  | some p=>dsimp only; rw [hd]; simp only [put?]; rw [uy]
 | b::L,env,h,hL=>by
  have hap:=hL b (by simp);simp only [apart,aT] at hap;obtain ⟨⟨f1,f2⟩,f3⟩:=hap;have hf:b.free d=true:=by simp only [cW,hd] at f2; exact f2
  rw [eI,bW,bW (env:=env),gR,gR,qd hf];cases val call b env h with
  | none=>rfl
  | some p =>
   obtain ⟨v,h'⟩:=p
   dsimp only
   rw [←qAD hd hself u L (put? env b.dst v) h' (fun x hx=>hL x (by simp [hx]))]
   congr 1
   cases hb:b.dst with
   | none=>rfl
   | some e =>
    rw [hb,hd] at f3;simp only [jj,dY] at f3;exact nV env d e u v (fun e'=>f3 e'.symm)
theorem qAC{q:IOp}(hq:q.lzy=true){B:List IOp}{r:List CV × H}:∀(L:List IOp) (env:List CV) (h:H),grd q.guard env=true→h.f h.n=none→(∀b∈L,apart b q=true∧b.op.kind≤1)→opsR call (L++q::B) env h=some r →
  ∃cs,lzC q.op env=some cs∧opsR call (L++B) (put? env q.dst (lzV q.op h.n)) (h.push (.cells cs false))=some r
 | [],env,h,hg,_,_,hr=>by
  rw [eX,bW,gR,qJ3 hq hg] at hr;cases hc:lzC q.op env with
  | none=>rw [hc] at hr; cases hr
  | some cs=>rw [hc] at hr; exact ⟨cs,rfl,hr⟩
 | b::L,env,h,hg,hn,hL,hr=>by
  obtain ⟨hap,hk⟩:=hL b (by simp);have hap0:=hap;simp only [apart,aT] at hap;obtain ⟨⟨f1,f2⟩,f3⟩:=hap;rw [eI,bW,gR] at hr;cases hv:val call b env h with
  | none=>rw [hv] at hr; cases hr
  | some p =>
   obtain ⟨v,h'⟩:=p;have e:=gn hk hv;subst e;rw [hv] at hr
   dsimp only at hr
   obtain ⟨cs,hc,hr2⟩:=qAC hq L _ _ (by rw [oA f1]; exact hg) hn (fun x hx=>hL x (by simp [hx])) hr;rw [qN hq f1] at hc;refine ⟨cs,hc,?_⟩;rw [eI,bW,gR,gQ f2,val_mn (Mn.push hn) hk hv]
   dsimp only
   rw [←ko hap0];exact hr2
theorem qAB{q:IOp}{B:List IOp}{r:List CV × H}:∀(L:List IOp) (env:List CV) (h:H),grd q.guard env=false→(∀b∈L,apart b q=true)→opsR call (L++q::B) env h=some r →
  opsR call (L++B) (put? env q.dst undef) h=some r
 | [],env,h,hg,_,hr=>by
  have hv:val call q env h=some (undef,h):=by simp only [val,hg]
  rw [eX,bW,gR,hv] at hr;exact hr
 | b::L,env,h,hg,hL,hr=>by
  have hap0:=hL b (by simp);have hap:=hap0;simp only [apart,aT] at hap;obtain ⟨⟨f1,f2⟩,f3⟩:=hap;rw [eI,bW,gR] at hr;cases hv:val call b env h with
  | none=>rw [hv] at hr; cases hr
  | some p =>
   obtain ⟨v,h'⟩:=p;rw [hv] at hr
   dsimp only at hr
   have hr2:=qAB L _ _ (by rw [oA f1]; exact hg) (fun x hx=>hL x (by simp [hx])) hr;rw [eI,bW,gR,gQ f2,hv]
   dsimp only
   rw [←ko hap0];exact hr2
end Ce
namespace Ce
open Go
structure IOkL (b:List Nat) (l:List IOp) (its:List It):Prop where
 pair:its.Pairwise (fun a x=>mR b l its a x=true)
 ks:∀x∈its,((qAt l x.i).op.kind=2∨x.ks=[])∧∀k∈x.ks,(qAt l k).isLd=true∧cW (qAt l k) (qAt l k)=true
 lz:∀x∈its,(qAt l x.i).lzy=true→x.ks=[]∧cW (qAt l x.i) (qAt l x.i)=true
theorem IOkL.of{b:List Nat}{l:List IOp}{its:List It}(h:qY b l its=true):IOkL b l its:=by
 simp only [qY,aT,je,jO,bU,dT,List.isEmpty_iff,Bool.not_eq_true'] at h;refine ⟨h.1,fun x hx=>⟨(h.2 x hx).1.1.imp And.left id,fun k hk=>(h.2 x hx).1.2 k hk⟩,fun x hx hz=>?_⟩;have h1:=(h.2 x hx).1.1;have h2:=(h.2 x hx).2;rw [hz] at h1 h2;simp only [nI,and_false,false_or] at h1 h2;exact ⟨h1,h2⟩
theorem gb{b:List Nat}{l:List IOp}{its:List It}{a x:It}:mR b l its a x=true↔((b.getD x.i 0).testBit a.i=true∨(if (qAt l x.i).lzy then
  apart (qAt l a.i) (qAt l x.i)&&(decide ((qAt l a.i).op.kind≤1) || its.all fun y=>!(b.getD y.i 0).testBit x.i || (b.getD y.i 0).testBit a.i)
  else jr l a x)=true)∧qE l its a x=true:=by
 simp only [mR,aT,bU]
theorem qIG{b:List Nat}{l:List IOp}{its:List It}{a x:It}(hz:(qAt l x.i).lzy=false)(h:mR b l its a x=true):fK b l its a x=true:=by
 obtain ⟨h1,h2⟩:=gb.1 h;rw [hz] at h1;simp only [qE,aT] at h2;simp only [fK,aT];refine ⟨⟨⟨?_,h2.1.1⟩,h2.1.2⟩,h2.2⟩;rw [bU];rcases h1 with h | h
 ·exact .inl h
 ·exact .inr (by simpa using h)
theorem iW{b:List Nat}{l:List IOp}{its:List It}{a x:It}(h:mR b l its a x=true)(hn:(b.getD x.i 0).testBit a.i=false):apart (qAt l a.i) (qAt l x.i)=true:=by
 obtain ⟨h1,h2⟩:=gb.1 h;rw [hn] at h1;rcases h1 with h | h
 ·cases h
 ·split at h
  ·simp only [aT] at h; exact h.1
  ·simp only [jr,aT] at h; exact h.1
theorem IOkL.apart{b:List Nat}{l:List IOp}{its:List It}(ok:IOkL b l its){x y:It}(hx:x∈its)(hy:y∈its)(hne:x≠y)(h1:(b.getD x.i 0).testBit y.i=false)(h2:(b.getD y.i 0).testBit x.i=false):apart (qAt l x.i) (qAt l y.i)=true:=by
 have:∀(L:List It),L.Pairwise (fun a x=>mR b l its a x=true)→x∈L→y∈L→mR b l its x y=true∨mR b l its y x=true:=by
  intro L
  induction L with
  | nil=>intro _ h; cases h
  | cons z L ih =>
   intro hp hx hy;obtain ⟨p1,p2⟩:=jl.1 hp;rcases aS.1 hx with rfl | hx' <;> rcases aS.1 hy with rfl | hy'
   ·exact absurd rfl hne
   ·exact .inl (p1 y hy')
   ·exact .inr (p1 x hx')
   ·exact ih p2 hx' hy'
 rcases this its ok.pair hx hy with h | h
 ·exact iW h h2
 ·exact yo (iW h h1)
theorem oS{b:List Nat}{l:List IOp}{its:List It}(ok:IOkL b l its){x:It}(hx:x∈its):∀(A:List It),(∀a∈A,a∈its)→A.Pairwise (fun a y=>qE l its a y=true)→(∀a∈A,fK b l its a x=true∧(b.getD x.i 0).testBit a.i=false) →
  xT (qAt l x.i) (x.ks.map fun k=>cH (qAt l k)) (az l A)
 | [],_,_,_=>trivial
 | a::A,hin,hpw,hax=>by
  obtain ⟨h1,h2⟩:=hax a (by simp);have ih:=oS ok hx A (fun y hy=>hin y (by simp [hy])) (jl.1 hpw).2 (fun y hy=>hax y (by simp [hy]));simp only [fK,h2,Bool.false_or,aT,jj,dY,jO] at h1;obtain ⟨⟨⟨hsw,hne⟩,hafter⟩,hchk⟩:=h1;simp only [jr,aT,bU] at hsw;obtain ⟨hap,hor⟩:=hsw;have hwr:∀y∈A,(x.ks≠[])→(qAt l y.i).op.kind≤1∧y.ks=[]:=by
   intro y hy hne;have hk2:=((ok.ks x hx).1).resolve_right hne;obtain ⟨p1,p2⟩:=hax y (by simp [hy]);simp only [fK,p2,Bool.false_or,aT] at p1;have hs:=p1.1.1.1;simp only [jr,aT,bU] at hs;have hky:(qAt l y.i).op.kind≤1:=by
    rcases hs.2 with hk | hk
    ·simp only [rm,hk2,bU,aZ,aT,dT] at hk;rcases hk with (hk | hk) | hk<;>omega
    ·rw [iZ hk.1]; exact aV _
   refine ⟨hky,?_⟩;rcases (ok.ks y (hin y (by simp [hy]))).1 with h | h
   ·omega
   ·exact h
  have hrest:xT (qAt l x.i) (x.ks.map fun k=>cH (qAt l k)) ((a.ks.map fun k=>cH (qAt l k))++az l A):=by
   have:∀(ks:List Nat),(∀k∈ks,k∈a.ks)→xT (qAt l x.i) (x.ks.map fun k=>cH (qAt l k)) ((ks.map fun k=>cH (qAt l k))++az l A):=by
    intro ks
    induction ks with
    | nil=>intro _; exact ih
    | cons k ks ihk =>
     intro hks;have hka:=hks k (by simp);have hld:=((ok.ks a (hin a (by simp))).2 k hka).1;obtain ⟨c1,c2⟩:=kP hld;have hka2:(qAt l a.i).op.kind=2:=((ok.ks a (hin a (by simp))).1).resolve_right (by intro e; rw [e] at hka; cases hka);refine ⟨?_,.inl ?_,ihk fun k' hk'=>hks k' (by simp [hk'])⟩
     ·simp only [apart,aT];refine ⟨⟨by simp [cW,c2],hchk k hka⟩,by rw [c2]⟩
     ·simp only [rm,bU,aZ,aT,dT];rcases hor with hk | hk
      ·simp only [rm,hka2,bU,aZ,aT,dT] at hk;rcases hk with (hk | hk) | hk
       ·omega
       ·exact .inl (.inr hk)
       ·omega
      ·have:=iZ hk.1; omega
   exact this a.ks fun k hk=>hk
  refine ⟨hap,?_,hrest⟩;rcases hor with hk | ⟨hl,hmem⟩
  ·exact .inl hk
  ·have hmem':a.i∈x.ks:=by simpa using hmem
   have hne':x.ks≠[]:=by intro e; rw [e] at hmem'; cases hmem'
   refine .inr ⟨hl,Nat.le_of_eq (iZ hl),((ok.ks x hx).2 _ hmem').2,cI.2 ⟨a.i,hmem',rfl⟩,?_⟩;have ha0:a.ks=[]:=by
    rcases (ok.ks a (hin a (by simp))).1 with h | h
    ·have:=iZ hl; omega
    ·exact h
   rw [ha0];simp only [iI,eX];have hflat:∀(A':List It),(∀y∈A',y∈A)→∀q∈az l A',∃y∈A',q=qAt l y.i:=by
    intro A'
    induction A' with
    | nil=>intro _ q hq; cases hq
    | cons y A' ihA =>
     intro hsub q hq;have hy0:=(hwr y (hsub y (by simp)) hne').2;simp only [az,hy0,iI,eI,eX,aS] at hq;rcases hq with rfl | hq
     ·exact ⟨y,by simp,rfl⟩
     ·obtain ⟨z,hz,e⟩:=ihA (fun z hz=>hsub z (by simp [hz])) q hq;exact ⟨z,by simp [hz],e⟩
   intro q hq;obtain ⟨y,hy,rfl⟩:=hflat A (fun y hy=>hy) q hq;refine ⟨?_,(hwr y hy hne').1⟩;have hay:=(jl.1 hpw).1 y hy;simp only [qE,aT,bU,Bool.not_eq_true'] at hay;rcases hay.1.2 with h | h
   ·exfalso;rw [List.any_eq_false] at h;have:=h x hx;simp [hmem'] at this
   ·exact h
theorem xY{call:cS}{b:List Nat}{l:List IOp}{its:List It}(ok:IOkL b l its){A B:List It}{x:It}(hsub:(A++x::B).Sublist its)(hnz:(qAt l x.i).lzy=false)(hx:∀a∈A,(b.getD x.i 0).testBit a.i=false)
  {env:List CV} {h:H} {r:List CV × H} (hr:opsR call (az l (A++x::B)) env h=some r):∃s,opsR call [qAt l x.i] env h=some s∧opsR call (az l (A++B)) s.1 s.2=some r:=by
 have hpw:=ok.pair.sublist hsub;have hmem:∀y∈A++x::B,y∈its:=fun y hy=>hsub.subset hy
 rw [tS] at hpw;obtain ⟨pA,pB,pAB⟩:=hpw;have pA:=pA.imp fun {p q} h=>(gb.1 h).2
 have hp:=oS ok (hmem x (by simp)) A (fun a ha=>hmem a (by simp [ha])) pA (fun a ha=>⟨qIG hnz (pAB a ha x (by simp)),hx a ha⟩);rw [bc] at hr;have hf:az l (x::B)=qAt l x.i::(x.ks.map fun k=>cH (qAt l k))++az l B:=rfl;rw [hf] at hr;obtain ⟨s,s1,_,s3⟩:=pull (call:=call) (ks:=x.ks.map fun k=>cH (qAt l k)) (by
  intro k hk;obtain ⟨j,hj,rfl⟩:=cI.1 hk;exact kP ((ok.ks x (hmem x (by simp))).2 j hj).1) (az l A) env h hp hr
 exact ⟨s,s1,by rw [bc]; exact s3⟩
end Ce
namespace Ce
open Go
variable {P:Program} {c:Cx} {h:H} {w:World} {env:List CV} {a:Act} {n:Nat}
theorem vX{call:Tgt→List CV→H→Option (CV × H)}(hcall:ki P call){F:Fence}(hF:iT F){m:Nat}{ops:Array Oper}{i:Nat}{o:Oper}(ho:ops[i]?=some o){q:IOp}(hq:oc P ops o=some q)(r:Rel P c h w)(he:dC c h.n w env a.tmps)
  {env':List CV} {h':H} (hs:opsR call [q] env h=some (env',h')) {K:Act→World→Prop} {Q:Exit→Act→World→Prop}
  (hK:∀c' w' v,Stp P c h w c' h' w'→dC c' h'.n w' env' (a.put q.dst v).tmps→K (a.put q.dst v) w'):wpOpIn F m P ops Q i K a w:=by
 unfold wpOpIn;simp only [ho];unfold oc at hq;have key:∀(g:Option (Nat × Bool)),(∀v,a.put o.dst v=a.put q.dst v)→Region.wanted o (yielded ops a.tmps)=grd g env→opsR call [⟨o.dst,(cOp P o.op).getD .bad,g⟩] env h=some (env',h') →
   (if Region.wanted o (yielded ops a.tmps)=true then o.wpIn F m P a w K Q else (∀f,o.about P w a.eval=some f→F.fn f)∧K (a.put o.dst Go.undef) w):=by
  intro g hdst hw hs;rw [hw];simp only [opsR] at hs;cases hg:grd g env with
  | true =>
   rw [hg] at hs;simp only [ac]
   dsimp only at hs
   split at hs
   ·rename_i x h1 hst;simp only [sI,pI] at hs;obtain ⟨rfl,rfl⟩:=hs;refine pf hcall hF r he hst fun c' w' v h1 h2=>?_
    have hp:=nZ (he.evo h1.evo) o.dst h2 (a:=a);rw [hdst] at hp ⊢;exact hK c' w' v h1 hp
   ·cases hs
  | false =>
   rw [hg] at hs;simp only [sI,pI] at hs;obtain ⟨rfl,rfl⟩:=hs;simp only [bj,bX];have hp:=nZ he o.dst VR.undef (a:=a);rw [hdst] at hp ⊢;exact ⟨fun f _=>hF.fn f,hK c w _ (.refl r) hp⟩
 split at hq
 ·rename_i hgd;injection hq with hq; subst hq
  exact key none (fun _=>rfl) (by simp [Region.wanted,hgd,grd]) hs
 ·rename_i j want hgd;split at hq
  ·rename_i qq hqq;split at hq
   ·rename_i d hd;injection hq with hq; subst hq
    exact key (some (d,want)) (fun _=>rfl) (by simp only [Region.wanted,hgd,grd]; exact jq he hqq hd want) hs
   ·cases hq
  ·cases hq
theorem uJ{F:Fence}(hF:iT F){m:Nat}{ops:Array Oper}{i:Nat}{o:Oper}(ho:ops[i]?=some o){q:IOp}(hq:oc P ops o=some q)(hz:q.lzy=true)(hg:grd q.guard env=true)(he:dC c n w env a.tmps)
  {cs:List CV} (hs:lzC q.op env=some cs) {K:Act→World→Prop} {Q:Exit→Act→World→Prop}
  (hK:∀(us:List Value) (e:TypeId) (mv:Value),VRs c n w cs us→(∀(c2:Cx) (n2:Nat) (w2:World),VR c2 n2 w2 undef mv) →
   (∀(c2:Cx) (n2:Nat) (w2:World),w2.heap[w.heap.size]?=some (.cells us.toArray e)→VR (c2.set n2 w.heap.size) (n2+1) w2 (lzV q.op n2) mv)→K (a.put q.dst mv) (w.alloc (.cells us.toArray e))):wpOpIn F m P ops Q i K a w:=by
 obtain ⟨_,hzo⟩:=uI hz;unfold wpOpIn;simp only [ho];unfold oc at hq;have key:∀(g:Option (Nat × Bool)),(∀v,a.put o.dst v=a.put q.dst v)→oU ((cOp P o.op).getD .bad)=true→lzC ((cOp P o.op).getD .bad) env=some cs →
   (∀(us:List Value) (e:TypeId) (mv:Value),VRs c n w cs us→(∀(c2:Cx) (n2:Nat) (w2:World),VR c2 n2 w2 undef mv) →
   (∀(c2:Cx) (n2:Nat) (w2:World),w2.heap[w.heap.size]?=some (.cells us.toArray e)→VR (c2.set n2 w.heap.size) (n2+1) w2 (lzV ((cOp P o.op).getD .bad) n2) mv)→K (a.put o.dst mv) (w.alloc (.cells us.toArray e))) →
   Region.wanted o (yielded ops a.tmps)=true→(if Region.wanted o (yielded ops a.tmps)=true then o.wpIn F m P a w K Q else (∀f,o.about P w a.eval=some f→F.fn f)∧K (a.put o.dst Go.undef) w):=by
  intro g _ hzo hs hK hw;rw [aH hw];refine ⟨fun f _=>hF.fn f,?_⟩;cases hc:cOp P o.op with
  | none=>rw [hc] at hzo; cases hzo
  | some io =>
   rw [hc] at hzo hs hK;simp only [rR] at hzo hs hK;have hnd:∀cl,o.op≠.defer cl:=by intro cl e; rw [e] at hc; cases hc
   rw [Oper.semAt_eq _ _ _ hnd];obtain ⟨us,e,mv,hres,hv,hu,hk⟩:=qJ5 hc hzo he hs (o:=o) rfl;rw [hres];exact hK us e mv hv hu hk
 split at hq
 ·rename_i hgd;injection hq with hq; subst hq
  exact key none (fun _=>rfl) hzo hs hK (by simp [Region.wanted,hgd])
 ·rename_i j want hgd;split at hq
  ·rename_i qq hqq;split at hq
   ·rename_i d hd;injection hq with hq; subst hq
    refine key (some (d,want)) (fun _=>rfl) hzo hs hK ?_;have:=jq he hqq hd want;simp only [Region.wanted,hgd];rw [this];exact hg
   ·cases hq
  ·cases hq
structure Pend (w0:World) (c:Cx) (h:H) (w:World) (env:List CV) (a:Act) (q:IOp) (b:Nat):Prop where
 lz:q.lzy=true
 gd:grd q.guard env=true
 ge:w0.heap.size≤b
 ex:∃(cs:List CV) (us:List Value) (e:TypeId) (mv:Value),lzC q.op env=some cs∧w.heap[b]?=some (.cells us.toArray e)∧VRs c h.n w cs us∧(a.put q.dst mv).tmps=a.tmps ∧
  ∀(c2:Cx) (n2:Nat) (w2:World),w2.heap[b]?=some (.cells us.toArray e)→VR (c2.set n2 b) (n2+1) w2 (lzV q.op n2) mv
 free:∀i,bR h i→c.β i≠b
 im:¬c.Im b
theorem qQ2{d e:Option Nat}(hne:∀x y,d=some x→e=some y→x≠y){u v:Value}(hu:(a.put d u).tmps=a.tmps):((a.put e v).put d u).tmps=(a.put e v).tmps:=by
 cases d with
 | none=>rfl
 | some d=>cases e with
  | none=>exact hu
  | some e =>
   have hne:=hne d e rfl rfl;simp only [Act.put] at hu ⊢;rw [Array.setIfInBounds_comm _ _ (Ne.symm hne),hu]
theorem Pend.step{w0:World}{q y:IOp}{b:Nat}(p:Pend w0 c h w env a q b)(r:Rel P c h w){c':Cx}{h':H}{w':World}(s:Stp P c h w c' h' w')(hap:apart y q=true)(v:CV)(v':Value):Pend w0 c' h' w' (put? env y.dst v) (a.put y.dst v') q b:=by
 obtain ⟨cs,us,e,mv,h1,h2,h3,h4,h5⟩:=p.ex;have hlt:=(gJ.1 h2).1;obtain ⟨k1,k2,k3⟩:=s.keeps r hlt p.free p.im;simp only [apart,aT] at hap;refine ⟨p.lz,by rw [oA hap.1.1]; exact p.gd,p.ge,⟨cs,us,e,mv,by rw [qN p.lz hap.1.1]; exact h1,by rw [k1]; exact h2,h3.evo s.evo,qQ2 (fun x z hx hz=>?_) h4,h5⟩,k2,k3⟩;have:=hap.2;rw [hx,hz] at this;simp only [jj,dY] at this;exact fun e'=>this e'.symm
end Ce
namespace Ce
open Go
variable {P:Program} {c c0:Cx} {h h0:H} {w w0:World} {env:List CV} {a:Act} {n:Nat} {call:cS}
theorem Pend.lay{q q':IOp}{b b':Nat}{cs:List CV}(p':Pend w0 c h w env a q' b')(r:Rel P c h w)(hne:b≠b')(hap:apart q q'=true)(v:CV)(hE:Evo c h.n w (c.set h.n b) (h.push (.cells cs false)).n w) :
  Pend w0 (c.set h.n b) (h.push (.cells cs false)) w (put? env q.dst v) a q' b':=by
 obtain ⟨cs',us,e,mv,h1,h2,h3,h4,h5⟩:=p'.ex;simp only [apart,aT] at hap;refine ⟨p'.lz,by rw [oA hap.1.1]; exact p'.gd,p'.ge,⟨cs',us,e,mv,by rw [qN p'.lz hap.1.1]; exact h1,h2,h3.evo hE,h4,h5⟩,fun i hi=>?_,p'.im⟩;obtain ⟨x,hx,hl⟩:=hi;rw [H.f_push] at hx;by_cases e':i=h.n
 ·rw [e',Cx.set_same]; exact hne
 ·rw [aC e'] at hx;rw [Cx.set_lt c (r.bound i x hx)]; exact p'.free i ⟨x,hx,hl⟩
theorem qQT(S:Stp P c0 h0 w0 c h w)(he:dC c h.n w env a.tmps){q:IOp}{b:Nat}(p:Pend w0 c h w env a q b){A B:List IOp}(hA:∀x∈A,apart x q=true∧x.op.kind≤1){r:List CV × H}(hr:opsR call (A++q::B) env h=some r) :
  ∃cs v,Stp P c0 h0 w0 (c.set h.n b) (h.push (.cells cs false)) w∧Evo c h.n w (c.set h.n b) (h.push (.cells cs false)).n w∧dC (c.set h.n b) (h.push (.cells cs false)).n w (put? env q.dst v) a.tmps ∧
   opsR call (A++B) (put? env q.dst v) (h.push (.cells cs false))=some r:=by
 obtain ⟨cs,us,e,mv,h1,h2,h3,h4,h5⟩:=p.ex;have hn:h.f h.n=none:=by
  cases hx:h.f h.n with
  | none=>rfl
  | some x=>have:=S.rel.bound _ _ hx; omega
 obtain ⟨cs',hc',hr2⟩:=qAC p.lz A env h p.gd hn hA hr;rw [h1] at hc';injection hc' with hc'
 subst hc';have hbr:BR P c h.n w (.cells cs false) (.cells us.toArray e (0,0)):=.cells cs false us.toArray e (by have:=h3.1; simp; omega) fun j x v hx hv=>h3.2 j x v hx (by simpa using hv)
 obtain ⟨S',hE⟩:=S.adoptB p.ge h2 hbr (by simp) p.free p.im;refine ⟨cs,lzV q.op h.n,S',hE,?_,hr2⟩;have:=nZ (he.evo hE) q.dst (h5 c h.n w h2) (a:=a);rw [h4] at this;exact this
structure Inv (P:Program) (call:cS) (b:List Nat) (l:List IOp) (its:List It) (c0:Cx) (h0:H) (w0:World) (B:Nat→Nat) (listed:Array Bool) (r:List CV × H) (U:List It) (env:List CV) (h:H) (c:Cx) (w:World) (a:Act):Prop where
 sub:U.Sublist its
 left:∀x∈its,¬Lst listed x.i→x∈U
 pend:∀x∈U,Lst listed x.i→Pend w0 c h w env a (qAt l x.i) (B x.i)
 anc:∀x∈U,Lst listed x.i→∀y∈U,(b.getD x.i 0).testBit y.i=false
 inj:∀x∈U,∀y∈U,Lst listed x.i→Lst listed y.i→x≠y→B x.i≠B y.i
 stp:Stp P c0 h0 w0 c h w
 er:dC c h.n w env a.tmps
 run:opsR call (az l U) env h=some r
variable {b:List Nat} {l:List IOp} {its:List It} {B:Nat→Nat} {listed:Array Bool} {r:List CV × H}
theorem wN(ok:IOkL b l its):∀(A:List It),(∀x∈A,x∈its∧(qAt l x.i).op.kind≤1)→∀q∈az l A,∃y∈A,q=qAt l y.i
 | [],_,q,hq=>by cases hq
 | y::A,hA,q,hq=>by
  have hy0:y.ks=[]:=by
   rcases (ok.ks y (hA y (by simp)).1).1 with h | h
   ·have:=(hA y (by simp)).2; omega
   ·exact h
  simp only [az,hy0,iI,eI,eX,aS] at hq;rcases hq with rfl | hq
  ·exact ⟨y,by simp,rfl⟩
  ·obtain ⟨z,hz,e⟩:=wN ok A (fun z hz=>hA z (by simp [hz])) q hq;exact ⟨z,by simp [hz],e⟩
theorem Inv.lay(ok:IOkL b l its)(hnd:its.Nodup){A B':List It}{p:It}(I:Inv P call b l its c0 h0 w0 B listed r (A++p::B') env h c w a)(hp:Lst listed p.i)(hk:∀x∈A,(qAt l x.i).op.kind≤1) :
  ∃env1 h1 c1,Inv P call b l its c0 h0 w0 B listed r (A++B') env1 h1 c1 w a:=by
 have hpU:p∈A++p::B':=by simp
 have hp1:=I.pend p hpU hp;have hin:∀x∈A++p::B',x∈its:=fun x hx=>I.sub.subset hx
 have hks:=(ok.lz p (hin p hpU) hp1.lz).1;have hrun:=I.run;rw [bc,show az l (p::B')=qAt l p.i::(p.ks.map fun k=>cH (qAt l k))++az l B' from rfl,hks] at hrun;simp only [iI,eI,eX] at hrun;have hpw:=ok.pair.sublist I.sub;rw [tS] at hpw;have hA:∀x∈az l A,apart x (qAt l p.i)=true∧x.op.kind≤1:=by
  intro q hq;obtain ⟨y,hy,rfl⟩:=wN ok A (fun x hx=>⟨hin x (by simp [hx]),hk x hx⟩) q hq;exact ⟨iW (hpw.2.2 y hy p (by simp)) (I.anc p hpU hp y (by simp [hy])),hk y hy⟩
 obtain ⟨cs,v,S',hE,he',hr'⟩:=qQT I.stp I.er hp1 hA hrun;have hsub:(A++B').Sublist (A++p::B'):=List.Sublist.append_left (List.sublist_cons_self p B') A;have hndU:(A++p::B').Nodup:=hnd.sublist I.sub;have hne:∀x∈A++B',x≠p:=by
  intro x hx e;subst e;rw [List.nodup_append] at hndU;obtain ⟨n1,n2,n3⟩:=hndU;rcases bP.1 hx with h | h
  ·exact n3 x h x (by simp) rfl
  ·exact (nF.1 n2).1 h
 refine ⟨_,_,_,⟨hsub.trans I.sub,fun x hx hl=>?_,fun x hx hl=>?_,fun x hx hl y hy=>I.anc x (hsub.subset hx) hl y (hsub.subset hy),fun x hx y hy=>I.inj x (hsub.subset hx) y (hsub.subset hy),S',he',by rw [bc]; exact hr'⟩⟩
 ·have h1:=I.left x hx hl;have hxp:x≠p:=by rintro rfl; exact hl hp
  rcases bP.1 h1 with h | h
  ·simp [h]
  ·rcases aS.1 h with h | h
   ·exact absurd h hxp
   ·simp [h]
 ·have hxU:=hsub.subset hx;refine (I.pend x hxU hl).lay I.stp.rel (I.inj p hpU x hxU hp hl (Ne.symm (hne x hx))) ?_ v hE;exact ok.apart (hin p hpU) (hin x hxU) (Ne.symm (hne x hx)) (I.anc p hpU hp x hxU) (I.anc x hxU hl p hpU)
theorem Inv.layAll(ok:IOkL b l its)(hnd:its.Nodup)(T:It→Bool)(hT:∀x,x∈its→T x=true→Lst listed x.i)
  (hk:∀(A:List It) (p:It) (B':List It),(A++p::B').Sublist its→T p=true→(qAt l p.i).lzy=true→(∀x∈A,T x=false∧(b.getD p.i 0).testBit x.i=false)→∀x∈A,(qAt l x.i).op.kind≤1) :
  ∀(k:Nat) (U:List It) (env:List CV) (h:H) (c:Cx),(U.filter T).length=k→Inv P call b l its c0 h0 w0 B listed r U env h c w a →
   ∃U1 env1 h1 c1,Inv P call b l its c0 h0 w0 B listed r U1 env1 h1 c1 w a∧∀x∈U1,T x=false
 | 0,U,env,h,c,hl,I=>⟨U,env,h,c,I,fun x hx=>by
   cases ht:T x with
   | false=>rfl
   | true =>
    have:=jQ hl;have hm:x∈U.filter T:=nD.2 ⟨hx,ht⟩;rw [this] at hm; cases hm⟩
 | k+1,U,env,h,c,hl,I=>by
  have hex:∃A p B',U=A++p::B'∧T p=true∧∀x∈A,T x=false:=by
   have:∀(U:List It),(∃x∈U,T x=true)→∃A p B',U=A++p::B'∧T p=true∧∀x∈A,T x=false:=by
    intro U
    induction U with
    | nil=>rintro ⟨x,hx,_⟩; cases hx
    | cons y U ih =>
     rintro ⟨x,hx,hxt⟩;cases hy:T y with
     | true=>exact ⟨[],y,U,rfl,hy,by simp⟩
     | false =>
      rcases aS.1 hx with rfl | hx
      ·rw [hy] at hxt; cases hxt
      ·obtain ⟨A,p,B',e,h1,h2⟩:=ih ⟨x,hx,hxt⟩;refine ⟨y::A,p,B',by rw [e]; rfl,h1,fun z hz=>?_⟩;rcases aS.1 hz with rfl | hz
       ·exact hy
       ·exact h2 z hz
   refine this U ?_;cases hf:U.filter T with
   | nil=>rw [hf] at hl; cases hl
   | cons x xs =>
    have hm:x∈U.filter T:=by rw [hf]; simp
    exact ⟨x,(nD.1 hm).1,(nD.1 hm).2⟩
  obtain ⟨A,p,B',rfl,hp,hA⟩:=hex;have hpU:p∈A++p::B':=by simp
  have hpl:=hT p (I.sub.subset hpU) hp;obtain ⟨env1,h1,c1,I1⟩:=I.lay ok hnd hpl (hk A p B' I.sub hp (I.pend p hpU hpl).lz fun x hx=>⟨hA x hx,I.anc p hpU hpl x (by simp [hx])⟩);refine Inv.layAll ok hnd T hT hk k (A++B') env1 h1 c1 ?_ I1;simp only [List.filter_append,List.filter_cons,hp,ac,jP,eZ] at hl ⊢;omega
end Ce
namespace Ce
open Go
variable {P:Program} {c c0:Cx} {h h0:H} {w w0:World} {env:List CV} {a:Act} {n:Nat} {ops:Array Oper}
variable {b:List Nat} {l:List IOp} {its:List It}
theorem qf{x:It}(hd:(qAt l x.i).lzy=true):∀(A:List It),(∀y∈A,apart (qAt l y.i) (qAt l x.i)=true∧∀k∈y.ks,(qAt l k).isLd=true∧cW (qAt l x.i) (cH (qAt l k))=true)→∀q∈az l A,apart q (qAt l x.i)=true
 | [],_,q,hq=>by cases hq
 | y::A,hA,q,hq=>by
  simp only [az,eI,aS,bP,cI] at hq;rcases hq with rfl | ⟨k,hk,rfl⟩ | hq
  ·exact (hA y (by simp)).1
  ·obtain ⟨k1,k2⟩:=(hA y (by simp)).2 k hk;obtain ⟨_,c2⟩:=kP k1;simp only [apart,aT];exact ⟨⟨by simp [cW,c2],k2⟩,by rw [c2]⟩
  ·exact qf hd A (fun z hz=>hA z (by simp [hz])) q hq
theorem qY3{listed:Array Bool}{x:It}(hx:x∈its)(hn:¬Lst listed x.i)(hlt:x.i < listed.size)(hpw:its.Pairwise (fun a x=>a.i≠x.i)){k:Nat}(hk:(its.filter fun y=>!(listed.getD y.i false)).length=k+1) :
  (its.filter fun y=>!((listed.setIfInBounds x.i true).getD y.i false)).length=k:=by
 obtain ⟨A,B,rfl⟩:=List.append_of_mem hx;have hnd:∀y∈A++B,y.i≠x.i:=by
  intro y hy;rw [tS] at hpw;rcases bP.1 hy with h | h
  ·exact hpw.2.2 y h x (by simp)
  ·exact ((jl.1 hpw.2.1).1 y h).symm
 have hsame:∀(L:List It),(∀y∈L,y.i≠x.i)→L.filter (fun y=>!((listed.setIfInBounds x.i true).getD y.i false))=L.filter fun y=>!(listed.getD y.i false):=by
  intro L hL;refine List.filter_congr fun y hy=>?_
  rw [jn,jn,Array.getElem?_setIfInBounds_ne (Ne.symm (hL y hy))]
 have hx1:listed.getD x.i false=false:=by
  cases e:listed.getD x.i false with
  | false=>rfl
  | true=>exact absurd e hn
 have hx2:(listed.setIfInBounds x.i true).getD x.i false=true:=(iY hlt).2 (.inl rfl);rw [List.filter_append,List.filter_cons,hx1] at hk;rw [List.filter_append,List.filter_cons,hx2,hsame A fun y hy=>hnd y (by simp [hy]),hsame B fun y hy=>hnd y (by simp [hy])];simp only [Bool.not_false,ac,Bool.not_true,bj,bX,jP,eZ] at hk ⊢;omega
end Ce
namespace Ce
open Go
variable {P:Program} {ops:Array Oper} {b:List Nat} {l:List IOp} {its:List It} {c0:Cx} {h0:H} {w0:World}
theorem yp{call:Tgt→List CV→H→Option (CV × H)}(hcall:ki P call){F:Fence}(hF:iT F){m:Nat}(hl:fi P ops ops.toList=some l)(hanc:rM b 0 ops.toList=true)(ok:IOkL b l its)
  (hidx:∀i,i < ops.size→∃x∈its,x.i=i) (hlt:∀x∈its,x.i < ops.size) {Q:Exit→Act→World→Prop} {r:List CV × H} {ds:List Deferred}
  (hK:∀c' w' a',Stp P c0 h0 w0 c' r.2 w'→dC c' r.2.n w' r.1 a'.tmps→a'.defers=ds→Q .normal a' w') :
  ∀(fuel:Nat) (listed:Array Bool) (B:Nat→Nat) (U:List It) (env:List CV) (h:H) (c:Cx) (w:World) (a:Act),(its.filter fun y=>!(listed.getD y.i false)).length=fuel→listed.size=ops.size →
   (∀(i:Nat) (o:Oper),ops[i]?=some o→Lst listed i→∀j∈oq o,Lst listed j)→a.defers=ds →
   Inv P call b l its c0 h0 w0 B listed r U env h c w a→wpAnyIn F m P .any ops Q fuel listed a w:=by
 have hpi:its.Pairwise (fun a x=>a.i≠x.i):=ok.pair.imp fun {p q} hpq=>by
  have:=(gb.1 hpq).2;simp only [qE,aT,jj,dY] at this;exact this.1.1
 have hne:∀x∈its,∀y∈its,x.i=y.i→x=y:=by
  intro x hx y hy e;by_cases hxy:x=y
  ·exact hxy
  ·exact absurd e (qI7 hpi hx hy hxy)
 have hnd:its.Nodup:=hpi.imp fun {p q} hpq e=>hpq (by rw [e])
 intro fuel
 induction fuel with
 | zero =>
  intro listed B U env h c w a hlen hsz hcl hds I;have hall:∀x∈its,Lst listed x.i:=by
   intro x hx;by_cases hn:Lst listed x.i
   ·exact hn
   ·exfalso;have hm:x∈its.filter fun y=>!(listed.getD y.i false):=nD.2 ⟨hx,by simpa [Lst] using hn⟩
    rw [jQ hlen] at hm; cases hm
  obtain ⟨U1,env1,h1,c1,I1,hU1⟩:=I.layAll ok hnd (fun _=>true) (fun x hx _=>hall x hx) (fun A p B' _ _ _ hA x hx=>by have:=(hA x hx).1; cases this) _ _ _ _ _ rfl;have hU:U1=[]:=by
   cases U1 with
   | nil=>rfl
   | cons x U1=>have:=hU1 x (by simp); cases this
  subst hU;have hrun:=I1.run;simp only [az,opsR,sI] at hrun;refine ⟨?_,?_⟩
  ·rw [List.eq_nil_iff_forall_not_mem];intro i hi;obtain ⟨o,ho,hn,_⟩:=(ga hsz).1 hi;obtain ⟨x,hx,rfl⟩:=hidx i (gJ.1 ho).1;exact hn (hall x hx)
  ·have e1:=I1.stp;have e2:=I1.er;rw [←hrun] at hK;exact hK c1 w a e1 e2 hds
 | succ fuel ih =>
  intro listed B U env h c w a hlen hsz hcl hds I;refine ⟨fun hnil=>?_,fun i hi=>?_⟩
  ·exfalso;have hex:∀k,∀i,i < k→i < ops.size→¬Lst listed i→False:=by
    intro k
    induction k with
    | zero=>intro i hi; omega
    | succ k ihk =>
     intro i hi hlt hn;have ho:ops[i]?=some ops[i]:=by simp [hlt]
     obtain ⟨h1,_⟩:=jM hanc (i:=i) (o:=ops[i]) (by simp [hlt]);have:i∈Region.ready .any ops listed:=(ga hsz).2 ⟨_,ho,hn,fun j hj=>by
      by_cases hlj:Lst listed j
      ·exact hlj
      ·have hji:=h1 j hj;exact (ihk j (by omega) (by omega) hlj).elim⟩
     rw [hnil] at this;cases this
   cases hf:its.filter fun y=>!(listed.getD y.i false) with
   | nil=>rw [hf] at hlen; cases hlen
   | cons x xs =>
    have hm:x∈its.filter fun y=>!(listed.getD y.i false):=by rw [hf]; simp
    obtain ⟨m1,m2⟩:=nD.1 hm;exact hex (x.i+1) x.i (by omega) (hlt x m1) (by simpa [Lst] using m2)
  ·obtain ⟨o,ho,hn,hd⟩:=(ga hsz).1 hi;obtain ⟨x,hx,rfl⟩:=hidx i (gJ.1 ho).1;have hxs:x.i < listed.size:=by have:=hlt x hx; omega
   have hbits:∀y,(b.getD x.i 0).testBit y=true→Lst listed y:=by
    intro y hb;obtain ⟨_,h2⟩:=jM hanc (i:=x.i) (o:=o) (by simpa using ho);rw [dg] at h2;rw [h2] at hb;obtain ⟨j,hj,e⟩:=i5 hb;have hjl:=hd j hj;rcases e with e | e
    ·rw [e]; exact hjl
    ·exact rL hanc hsz hcl j hjl _ e
   obtain ⟨U1,env1,h1,c1,I1,hU1⟩:=I.layAll ok hnd (fun y=>(b.getD x.i 0).testBit y.i) (fun y _ hy=>hbits _ hy) (fun A p B' hsub hp hz hA y hy=>by
    obtain ⟨g1,g2⟩:=hA y hy;have hpw:=ok.pair.sublist hsub;rw [tS] at hpw;have hpr:=(gb.1 (hpw.2.2 y hy p (by simp))).1;rw [g2,hz] at hpr;simp only [bj,false_or,ac,aT,bU,dT,jO,Bool.not_eq_true'] at hpr;rcases hpr.2 with hk | hk
    ·exact hk
    ·rcases hk x hx with hk | hk
     ·rw [hp] at hk; cases hk
     ·rw [g1] at hk; cases hk) _ _ _ _ _ rfl
   have hxU:x∈U1:=I1.left x hx hn;obtain ⟨A,B',rfl⟩:=List.append_of_mem hxU;obtain ⟨q,hq1,hq2⟩:=oH hl (i:=x.i) (o:=o) (by simpa using ho);have hqa:qAt l x.i=q:=by unfold qAt; rw [hq1]
   have hcnt:=qY3 hx hn hxs hpi hlen;have hpa:∀y∈A++x::B',Lst listed y.i→y≠x→apart (qAt l x.i) (qAt l y.i)=true:=fun y hy hly hyx =>
    ok.apart hx (I1.sub.subset hy) (Ne.symm hyx) (hU1 y hy) (I1.anc y hy hly x hxU)
   have hcl':∀(i:Nat) (o:Oper),ops[i]?=some o→Lst (listed.setIfInBounds x.i true) i→∀j∈oq o,Lst (listed.setIfInBounds x.i true) j:=by
    intro i o' ho' hli j hj;rw [iY hxs] at hli ⊢;rcases hli with rfl | hli
    ·rw [ho] at ho';injection ho' with e
     subst e;exact .inr (hd j hj)
    ·exact .inr (hcl i o' ho' hli j hj)
   have hsubU:(A++B').Sublist (A++x::B'):=List.Sublist.append_left (List.sublist_cons_self x B') A;have hndU:(A++x::B').Nodup:=hnd.sublist I1.sub;have hnex:∀y∈A++B',y≠x:=by
    intro y hy e;subst e;rw [List.nodup_append] at hndU;obtain ⟨n1,n2,n3⟩:=hndU;rcases bP.1 hy with h | h
    ·exact n3 y h y (by simp) rfl
    ·exact (nF.1 n2).1 h
   have hold:∀y∈its,y≠x→Lst (listed.setIfInBounds x.i true) y.i→Lst listed y.i:=fun y hy hyx hly=>by
    rcases (iY hxs).1 hly with e | e
    ·exact absurd (hne y hy x hx e) hyx
    ·exact e
   have hapL:(qAt l x.i).lzy=true→∀q∈az l A,apart q (qAt l x.i)=true:=fun hz=>qf hz A fun y hy=>by
     have hyi:=I1.sub.subset (show y∈A++x::B' by simp [hy]);have hpw:=ok.pair.sublist I1.sub;rw [tS] at hpw;have hp:=hpw.2.2 y hy x (by simp);refine ⟨iW hp (hU1 y (by simp [hy])),fun k hk=>⟨((ok.ks y hyi).2 k hk).1,?_⟩⟩;have:=(gb.1 hp).2;simp only [qE,aT,jO] at this;exact this.2 k hk
   by_cases hcase:(qAt l x.i).lzy=true∧grd (qAt l x.i).guard env1=true
   case neg =>
    have htake:∃s,opsR call [qAt l x.i] env1 h1=some s∧opsR call (az l (A++B')) s.1 s.2=some r:=by
     cases hz:(qAt l x.i).lzy with
     | false=>exact xY ok I1.sub hz (fun y hy=>hU1 y (by simp [hy])) I1.run
     | true =>
      have hgf:grd (qAt l x.i).guard env1=false:=by
       cases hg:grd (qAt l x.i).guard env1 with
       | false=>rfl
       | true=>exact absurd ⟨hz,hg⟩ hcase
      obtain ⟨hks,hself⟩:=ok.lz x hx hz;have hrun:=I1.run;rw [bc,show az l (x::B')=qAt l x.i::(x.ks.map fun k=>cH (qAt l k))++az l B' from rfl,hks] at hrun;simp only [iI,eI,eX] at hrun;refine ⟨(put? env1 (qAt l x.i).dst undef,h1),?_,?_⟩
      ·rw [gR];have hv:val call (qAt l x.i) env1 h1=some (undef,h1):=by simp only [val,hgf]
       rw [hv]
      ·rw [bc];exact qAB (az l A) env1 h1 hgf (hapL hz) hrun
    obtain ⟨s,s1,s2⟩:=htake;rw [hqa] at s1;refine vX hcall hF ho hq2 I1.stp.rel I1.er (env':=s.1) (h':=s.2) s1 fun c2 w2 v st he2=>?_
    refine ih _ B (A++B') s.1 s.2 c2 w2 _ hcnt (by simpa using hsz) hcl' (by rw [jV]; exact hds) ?_;obtain ⟨v0,hv0⟩:∃v0,s.1=put? env1 q.dst v0:=by
     rw [gR] at s1;cases hv:val call q env1 h1 with
     | none=>rw [hv] at s1; cases s1
     | some p=>rw [hv] at s1; injection s1 with s1; exact ⟨p.1,by rw [←s1]⟩
    refine ⟨hsubU.trans I1.sub,fun y hy hly=>?_,fun y hy hly=>?_,fun y hy hly z hz=>?_,fun y hy z hz hly hlz=>?_,I1.stp.trans st,he2,s2⟩
    ·have hnl:¬Lst listed y.i:=fun e=>hly ((iY hxs).2 (.inr e))
     have hyx:y≠x:=by rintro rfl; exact hly ((iY hxs).2 (.inl rfl))
     rcases bP.1 (I1.left y hy hnl) with h | h
     ·simp [h]
     ·rcases aS.1 h with h | h
      ·exact absurd h hyx
      ·simp [h]
    ·have hyU:=hsubU.subset hy;have hly':=hold y (I1.sub.subset hyU) (hnex y hy) hly;rw [hv0];refine (I1.pend y hyU hly').step I1.stp.rel st ?_ v0 v;rw [←hqa]; exact hpa y hyU hly' (hnex y hy)
    ·have hyU:=hsubU.subset hy;exact I1.anc y hyU (hold y (I1.sub.subset hyU) (hnex y hy) hly) z (hsubU.subset hz)
    ·have hyU:=hsubU.subset hy;have hzU:=hsubU.subset hz;exact I1.inj y hyU z hzU (hold y (I1.sub.subset hyU) (hnex y hy) hly) (hold z (I1.sub.subset hzU) (hnex z hz) hlz)
   case pos =>
    obtain ⟨hz,hgt⟩:=hcase;have hap:=hapL hz;obtain ⟨hks,hself⟩:=ok.lz x hx hz;have hrun:=I1.run;rw [bc,show az l (x::B')=qAt l x.i::(x.ks.map fun k=>cH (qAt l k))++az l B' from rfl,hks] at hrun;simp only [iI,eI,eX] at hrun;obtain ⟨cs,hcs⟩:=qJ4 hz (az l A) env1 h1 hgt (fun q hq=>by have:=hap q hq; simp only [apart,aT] at this; exact this.1.1) hrun;obtain ⟨⟨d,hdst⟩,_⟩:=uI hz;refine uJ hF ho hq2 (hqa ▸ hz) (by rw [←hqa]; exact hgt) I1.er (by rw [←hqa]; exact hcs) fun us e mv hv hu hk=>?_
    have st:=Stp.growW I1.stp.rel (.cells us.toArray e) rfl;refine ih _ (fun j=>if j=x.i then w.heap.size else B j) (A++x::B') (put? env1 q.dst undef) h1 c1 _ _ hcnt (by simpa using hsz) hcl' (by rw [jV]; exact hds) ?_;have hE:=st.evo;have hoth:∀y∈A++x::B',Lst (listed.setIfInBounds x.i true) y.i→y≠x→Lst listed y.i:=fun y hy hly hyx=>hold y (I1.sub.subset hy) hyx hly
    have hBx:∀y∈A++x::B',y≠x→(if y.i=x.i then w.heap.size else B y.i)=B y.i:=fun y hy hyx=>aC fun e=>hyx (hne y (I1.sub.subset hy) x hx e)
    have hBlt:∀y∈A++x::B',Lst listed y.i→B y.i < w.heap.size:=fun y hy hly=>by
     obtain ⟨_,us,e,_,_,h2,_⟩:=(I1.pend y hy hly).ex;exact (gJ.1 h2).1
    refine ⟨I1.sub,fun y hy hly=>I1.left y hy fun e=>hly ((iY hxs).2 (.inr e)),fun y hy hly=>?_,fun y hy hly z hzz=>?_,fun y hy z hzz hly hlz hyz=>?_,I1.stp.trans st,nZ (I1.er.evo hE) q.dst (hu _ _ _),?_⟩
    ·by_cases hyx:y=x
     ·subst hyx;rw [aH rfl,hqa];rw [hqa] at hz hself hcs hgt;refine ⟨hz,by rw [oA hself]; exact hgt,I1.stp.fr.size,⟨cs,us,e,mv,by rw [qN hz hself]; exact hcs,tN w _,hv.evo hE,?_,hk⟩,fun i hi e=>?_,fun hi=>?_⟩
      ·cases q.dst with
       | none=>rfl
       | some d=>simp [Act.put]
      ·obtain ⟨x,hx,hl⟩:=hi;have:=I1.stp.rel.lt hx (by rintro rfl; cases hl);omega
      ·have:=I1.stp.rel.imlt _ hi; omega
     ·have hly':=hoth y hy hly hyx;rw [hBx y hy hyx];refine (I1.pend y hy hly').step I1.stp.rel st ?_ undef mv;rw [←hqa]; exact hpa y hy hly' hyx
    ·by_cases hyx:y=x
     ·rw [hyx]; exact hU1 z hzz
     ·exact I1.anc y hy (hoth y hy hly hyx) z hzz
    ·by_cases hyx:y=x
     ·have hzx:z≠x:=fun e=>hyz (hyx.trans e.symm)
      rw [hBx z hzz hzx,hyx,aH rfl];have:=hBlt z hzz (hoth z hzz hlz hzx); omega
     ·rw [hBx y hy hyx];by_cases hzx:z=x
      ·rw [hzx,aH rfl];have:=hBlt y hy (hoth y hy hly hyx); omega
      ·rw [hBx z hzz hzx];exact I1.inj y hy z hzz (hoth y hy hly hyx) (hoth z hzz hlz hzx) hyz
    ·rw [bc,show az l (x::B')=qAt l x.i::(x.ks.map fun k=>cH (qAt l k))++az l B' from rfl,hks];simp only [iI,eI,eX];have hqd:q.dst=some d:=by rw [←hqa]; exact hdst
     rw [hqd]
     show opsR call (az l A++qAt l x.i::az l B') (aL env1 d undef) h1=_
     rw [qAD hdst hself undef (az l A) env1 h1 hap];exact hrun
end Ce
namespace Ce
open Go
variable {P:Program} {c:Cx} {h:H} {w:World} {env:List CV} {a:Act} {n:Nat}
theorem mO{call:Tgt→List CV→H→Option (CV × H)}(hcall:ki P call)(nn m:Nat){F:Fence}(hF:iT F)(id:Nat)(ops:Array Oper)(draw:Bool)(ic:IC)(env:List CV)(h:H)(c:Cx)(w:World)(a:Act)(ex:Ex)(env':List CV)(h':H)(Q:Exit→Act→World→Prop)
  (hc:cY P (.region id ops draw)=some ic) (r:Rel P c h w) (he:dC c h.n w env a.tmps) (hs:exec call nn ic env h=some (ex,env',h'))
  (hQ:∀c' w' a',Stp P c h w c' h' w'→dC c' h'.n w' env' a'.tmps→a'.defers=a.defers→Q (match ex with | .nor=>.normal | .jmp .ret=>.ret | .jmp (.exit i)=>.exit i) a' w'):(Code.region id ops draw).wpIn F m P Q a w:=by
 simp only [cY,ez] at hc;obtain ⟨l',hl',rfl⟩:=hc;simp only [exec] at hs;split at hs
 ·rename_i e1 h1 hs1;simp only [sI,pI] at hs;obtain ⟨rfl,rfl,rfl⟩:=hs;cases draw with
  | false =>
   simp only [bj,bX] at hl';refine wpIn_region ?_;have:=qD4 hcall hF (m:=m) (Q:=Q) l' 0 env h c w a e1 h1 (by simpa using hl') r he hs1 hQ;rw [List.range_eq_range']
   simpa using this
  | true =>
   simp only [ac] at hl';unfold zBY at hl';split at hl'
   ·rename_i l hl
    dsimp only at hl'
    split at hl'
    ·rename_i hcond;simp only [aT] at hcond;obtain ⟨hm,hanc⟩:=hcond;have hst:Stp P c h w c h { w with drawn:=w.drawn+1 }:=Stp.same r rfl;have hrep:∀i,¬Lst (Array.replicate ops.size false) i:=fun i hl=>by
      unfold Lst at hl;rw [jn,Array.getElem?_replicate] at hl;split at hl<;>simp at hl
     split at hl'
     case isFalse =>
      split at hl'
      ·rename_i hcond;injection hl' with hl'
       subst hl';simp only [aT,jO,dT] at hcond;obtain ⟨⟨hok,hidx⟩,hlt⟩:=hcond;simp only [pC,aT,dT,jO,List.mem_range,List.any_eq_true,aZ] at hidx;refine wpIn_region_any hm ?_;refine yp hcall hF hl hanc (IOkL.of hok) (fun i hi=>hidx.2 i hi) hlt (r:=(e1,h1)) (fun c' w' a' s' he' hd'=>hQ c' w' a' (hst.trans s') he' hd') ops.size (Array.replicate ops.size false) (fun _=>0) _ env h c _ a ?_ (by simp) (fun i o _ hl=>absurd hl (hrep i)) rfl
        ⟨List.Sublist.refl _,fun x hx _=>hx,fun x _ hl=>absurd hl (hrep _),fun x _ hl=>absurd hl (hrep _),fun x _ y _ hl=>absurd hl (hrep _),Stp.refl hst.rel,he.evo hst.evo,hs1⟩
       rw [List.filter_eq_self.2,hidx.1];intro x _;have:=hrep x.i;unfold Lst at this
       simpa using this
      ·cases hl'
     rename_i hcond;injection hl' with hl'
     subst hl';simp only [aT] at hcond;obtain ⟨hok,hidx⟩:=hcond;simp only [pC,aT,dT,jO,List.mem_range,List.any_eq_true,aZ] at hidx;have hst:Stp P c h w c h { w with drawn:=w.drawn+1 }:=Stp.same r rfl;refine wpIn_region_any hm ?_;refine qG6 hcall hF hl hanc (IOk.of hok) (fun i hi=>hidx.2 i hi) ops.size _ (Array.replicate ops.size false) env h c _ a e1 h1 hidx.1 (List.Sublist.refl _) (by simp) ?_ ?_ hst.rel (he.evo hst.evo) hs1 fun c' w' a' s' he' hd'=>hQ c' w' a' (hst.trans s') he' hd'
     ·intro x hx;simp only [hx,true_iff];unfold Lst;rw [jn,Array.getElem?_replicate];split<;>simp
     ·intro i o ho hl;exfalso;unfold Lst at hl;rw [jn,Array.getElem?_replicate] at hl;split at hl<;>simp at hl
    ·cases hl'
   ·cases hl'
 ·cases hs
end Ce
namespace Ce
open Go
variable {P:Program} {c:Cx} {h:H} {w:World} {env:List CV} {a:Act} {n:Nat}
def qM(r:Nat):Deferred:={ target:=.collected r,args:=#[] }
def kg(s0:Nat)(c:Cx)(h:H)(w:World)(ds:List Deferred):Prop :=
 ∃rs:List Nat,ds=rs.map qM∧rs.Nodup∧∀r∈rs,s0≤r∧w.heap[r]?=some (.deferred (some []))∧(∀i,bR h i→c.β i≠r)∧¬c.Im r
theorem kg.nil(s0:Nat):kg s0 c h w []:=⟨[],rfl,.nil,by simp⟩
theorem kg.stp{s0:Nat}{c':Cx}{h':H}{w':World}{ds:List Deferred}(m:kg s0 c h w ds)(s:Stp P c h w c' h' w'):kg s0 c' h' w' ds:=by
 obtain ⟨rs,h1,h2,h3⟩:=m;refine ⟨rs,h1,h2,fun r hr=>?_⟩;obtain ⟨g1,g2,g3,g4⟩:=h3 r hr;have hlt:=(gJ.1 g2).1;refine ⟨g1,by rw [s.fr.old r hlt g3]; exact g2,fun i hi e=>?_,fun him=>?_⟩
 ·rcases s.fr.live i hi with ⟨j,hj,ej⟩ | hge
  ·exact g3 j hj (ej.trans e)
  ·omega
 ·rcases s.fr.im r him with hb | hb | ⟨j,hj,ej⟩
  ·exact g4 hb
  ·omega
  ·exact g3 j hj ej
theorem Stp.extra(r:Rel P c h w)(o:Obj)(hfz:qDF o=(0,0):=by rfl):Stp P c h w c h (w.alloc o):=by
 have hold:∀k,k < w.heap.size→(w.alloc o).heap[k]?=w.heap[k]?:=fun k hk=>by
  simp only [World.alloc,rS]; rw [aC (by omega)]
 have hlt:∀(k:Nat) {x:Obj},w.heap[k]?=some x→k < w.heap.size:=fun k x hx=>(gJ.1 hx).1
 have hE:Evo c h.n w c h.n (w.alloc o):=by
  refine ⟨aV _,fun _ _=>rfl,fun _ hb=>hb,fun k hk=>hold k (r.imlt k hk),fun k e s hs=>?_,fun k hk=>?_⟩
  ·have hk:k < w.heap.size:=by
    rw [shape?_eq] at hs;rcases i7 k w.heap.size with hk | hk
    ·exact hk
    ·rw [jm hk] at hs; cases hs
   rw [bm (hold k hk)]; exact hs
  ·have hk2:k < w.heap.size:=by
    rcases i7 k w.heap.size with h | h
    ·exact h
    ·rw [jm h] at hk; cases hk
   rw [hold k hk2]; exact hk
 refine ⟨⟨r.bound,fun i b hb=>?_,r.inj,r.notIm,r.ro,fun b hb=>?_⟩,hE,⟨?_,fun k hk _=>hold k hk,fun i hi=>.inl ⟨i,hi,rfl⟩,fun _ hb=>.inl hb,fun k _=>by
  rcases Nat.lt_trichotomy k w.heap.size with hk | hk | hk
  ·exact dW (hold k hk)
  ·subst hk;have e1:(w.alloc o).heap[w.heap.size]?=some o:=by show (w.heap.push o)[w.heap.size]?=some o; simp
   rw [fM e1,hfz]; unfold oB; rw [jm (aV _)]; rfl
  ·apply dW
   show (w.heap.push o)[k]?=w.heap[k]?
   rw [rS,aC (by omega)],rfl,rfl⟩⟩
 ·rcases r.blk i b hb with hd | ⟨o',ho,hr⟩
  ·exact .inl hd
  ·exact .inr ⟨o',by rw [hold _ (hlt _ ho)]; exact ho,hr.evo hE⟩
 ·have:=r.imlt b hb; simp; omega
 ·simp
def wV:Ex→Exit
 | .nor=>.normal
 | .jmp .ret=>.ret
 | .jmp (.exit i)=>.exit i
theorem qG5{x y:Code}{ic:IC}(h:cY P (.seq x y)=some ic):∃a b,cY P x=some a∧cY P y=some b∧ic=.seq a b:=by
 simp only [cY] at h;split at h
 ·rename_i a b h1 h2; injection h with h; exact ⟨a,b,h1,h2,h.symm⟩
 ·cases h
theorem wB(p:Nat→Prop):(∃k,p k)→∃k,p k∧∀j,p j→k≤j:=by
 rintro ⟨k,hk⟩
 induction k using Nat.strongRecOn with
 | _ k ih =>
  by_cases h:∃j,j < k∧p j
  ·obtain ⟨j,h1,h2⟩:=h; exact ih j h1 h2
  ·exact ⟨k,hk,fun j hj=>Nat.le_of_not_lt fun hlt=>h ⟨j,hlt,hj⟩⟩
section
variable {F:Fence} {Q:Exit→Act→World→Prop}
theorem fA{b:Frame}{k:List Item}{cs:List Frame}{c:Code}:step P (lone (b.atR a (.code (.scope c)::k)) cs w)=.next (lone (b.atR a (.code c::.inScope c::k)) cs w) :=
 step_lone_go (by simp [stepG,stepG.exec,Frame.atR])
theorem r8{b:Frame}{k:List Item}{cs:List Frame}{c:Code}:step P (lone (b.atR a (.inScope c::k)) cs w)=.next (lone (b.atR a k) cs w) :=
 step_lone_go (by simp [stepG,stepG.exec,Frame.atR])
theorem xU{m:Nat}{c:Code}(h:c.wpIn F m P (fun e a w=>(∀l,e≠.goto l)∧Q e a w) a w):(Code.scope c).wpIn F m P Q a w:=by
 intro b k cs hro hb hr;have h0:(lone (b.atR a (.code (.scope c)::k)) cs w).fenced P F:=fenced_calm hb hr rfl;obtain ⟨e,a₁,w₁,⟨hg,hq⟩,harr⟩:=h b (.inScope c::k) cs hro hb hr;cases e with
 | normal=>exact ⟨.normal,a₁,w₁,hq,.head h0 fA (StepsIn.trans harr (.one (fenced_calm hb hr rfl) r8))⟩
 | exit id' =>
  have hx:exitTo id' (.inScope c::k)=exitTo id' k:=by simp [exitTo]
  exact ⟨.exit id',a₁,w₁,hq,fun k' hk=>.head h0 fA (harr.1 k' (by rw [hx]; exact hk)),
   fun hr' hk=>let ⟨k₁,h1,h2⟩:=harr.2 hr' (by rw [hx]; exact hk); ⟨k₁,h1,.head h0 fA h2⟩⟩
 | goto l=>exact absurd rfl (hg l)
 | ret=>exact ⟨_,a₁,w₁,hq,.of_steps (.one h0 fA) harr⟩
 | panic ch=>exact ⟨_,a₁,w₁,hq,.of_steps (.one h0 fA) harr⟩
 | outgrown=>exact ⟨_,a₁,w₁,hq,.of_steps (.one h0 fA) harr⟩
end
theorem qFR(ex:Ex)(l:Nat):wV ex≠.goto l:=by
 cases ex with
 | nor=>simp [wV]
 | jmp j=>cases j<;>simp [wV]
theorem dp{call:Tgt→List CV→H→Option (CV × H)}(hcall:ki P call)(n m s0:Nat){F:Fence}(hF:iT F)
  (hreg:∀(id:Nat) (ops:Array Oper) (draw:Bool) (ic:IC) (env:List CV) (h:H) (c:Cx) (w:World) (a:Act) (ex:Ex) (env':List CV) (h':H) (Q:Exit→Act→World→Prop),
   cY P (.region id ops draw)=some ic→Rel P c h w→dC c h.n w env a.tmps→exec call n ic env h=some (ex,env',h') →
   (∀c' w' a',Stp P c h w c' h' w'→dC c' h'.n w' env' a'.tmps→a'.defers=a.defers→Q (wV ex) a' w')→(Code.region id ops draw).wpIn F m P Q a w) :
  ∀(code:Code) (ic:IC),cY P code=some ic→∀(env:List CV) (h:H) (c:Cx) (w:World) (a:Act) (ex:Ex) (env':List CV) (h':H) (Q:Exit→Act→World→Prop),
   (∀l,F.round=some l→(w.heap[l]?).map na=some true)→s0≤w.heap.size→Rel P c h w→dC c h.n w env a.tmps→kg s0 c h w a.defers→exec call n ic env h=some (ex,env',h') →
   (∀c' w' a',Stp P c h w c' h' w'→dC c' h'.n w' env' a'.tmps→kg s0 c' h' w' a'.defers→Q (wV ex) a' w')→code.wpIn F m P Q a w
 | .skip,ic,hc,env,h,c,w,a,ex,env',h',Q,hl,hsz,r,he,hm,hs,hQ=>by
  simp only [cY,sI] at hc; subst hc;simp only [exec,sI,pI] at hs;obtain ⟨rfl,rfl,rfl⟩:=hs;exact wpIn_skip (hQ c w a (.refl r) he hm)
 | .label l,ic,hc,env,h,c,w,a,ex,env',h',Q,hl,hsz,r,he,hm,hs,hQ=>by
  simp only [cY,sI] at hc; subst hc;simp only [exec,sI,pI] at hs;obtain ⟨rfl,rfl,rfl⟩:=hs;exact wpIn_label (hQ c w a (.refl r) he hm)
 | .region id ops draw,ic,hc,env,h,c,w,a,ex,env',h',Q,hl,hsz,r,he,hm,hs,hQ =>
  hreg id ops draw ic env h c w a ex env' h' Q hc r he hs fun c' w' a' s he' hd=>hQ c' w' a' s he' (by rw [hd]; exact hm.stp s)
 | .seq x y,ic,hc,env,h,c,w,a,ex,env',h',Q,hl,hsz,r,he,hm,hs,hQ=>by
  obtain ⟨ia,ib,ha,hb,rfl⟩:=qG5 hc;simp only [exec] at hs;cases hx:exec call n ia env h with
  | none=>rw [hx] at hs; cases hs
  | some q =>
   obtain ⟨ex1,env1,h1⟩:=q;rw [hx] at hs;refine wpIn_seq (dp hcall n m s0 hF hreg x ia ha env h c w a ex1 env1 h1 _ hl hsz r he hm hx fun c1 w1 a1 s1 he1 hm1=>?_);cases ex1 with
   | nor =>
    show y.wpIn F m P Q a1 w1
    exact dp hcall n m s0 hF hreg y ib hb env1 h1 c1 w1 a1 ex env' h' Q (fun l e=>s1.evo.lp l (hl l e)) (cz hsz s1.fr.size) s1.rel he1 hm1 hs fun c2 w2 a2 s2 he2 hm2=>hQ c2 w2 a2 (s1.trans s2) he2 hm2
   | jmp j =>
    simp only [sI,pI] at hs;obtain ⟨rfl,rfl,rfl⟩:=hs;have:=hQ c1 w1 a1 s1 he1 hm1;cases j<;>exact this
 | .cond x p q,ic,hc,env,h,c,w,a,ex,env',h',Q,hl,hsz,r,he,hm,hs,hQ=>by
  simp only [cY] at hc;split at hc
  ·rename_i x' ia ib hx ha hb;injection hc with hc; subst hc
   have hv:=af he hx;simp only [exec] at hs;generalize x'.ev env=xv at hs hv;split at hs
   ·generalize hxe:a.eval x=xe at hv;cases hv;exact wpIn_cond_true hxe (dp hcall n m s0 hF hreg p ia ha env h c w a ex env' h' Q hl hsz r he hm hs hQ)
   ·generalize hxe:a.eval x=xe at hv;cases hv;exact wpIn_cond_false hxe (dp hcall n m s0 hF hreg q ib hb env h c w a ex env' h' Q hl hsz r he hm hs hQ)
   ·cases hs
  ·cases hc
 | .block id p,ic,hc,env,h,c,w,a,ex,env',h',Q,hl,hsz,r,he,hm,hs,hQ=>by
  simp only [cY,ez] at hc;obtain ⟨ia,ha,rfl⟩:=hc;simp only [exec] at hs;cases hx:exec call n ia env h with
  | none=>rw [hx] at hs; cases hs
  | some q =>
   obtain ⟨ex1,env1,h1⟩:=q;rw [hx] at hs;refine wpIn_block (dp hcall n m s0 hF hreg p ia ha env h c w a ex1 env1 h1 _ hl hsz r he hm hx fun c1 w1 a1 s1 he1 hm1=>?_);cases ex1 with
   | nor =>
    simp only [sI,pI] at hs;obtain ⟨rfl,rfl,rfl⟩:=hs;exact hQ c1 w1 a1 s1 he1 hm1
   | jmp j =>
    cases j with
    | ret =>
     simp only [sI,pI] at hs;obtain ⟨rfl,rfl,rfl⟩:=hs;exact hQ c1 w1 a1 s1 he1 hm1
    | exit i =>
     dsimp only at hs
     split at hs
     ·rename_i e;subst e;simp only [sI,pI] at hs;obtain ⟨rfl,rfl,rfl⟩:=hs;have:=hQ c1 w1 a1 s1 he1 hm1;simp [wV,Exit.inBlock];exact this
     ·rename_i e;simp only [sI,pI] at hs;obtain ⟨rfl,rfl,rfl⟩:=hs;have:=hQ c1 w1 a1 s1 he1 hm1;simp [wV,Exit.inBlock,e];exact this
 | .loop p,ic,hc,env,h,c,w,a,ex,env',h',Q,hl,hsz,r,he,hm,hs,hQ=>by
  simp only [cY,ez] at hc;obtain ⟨ia,ha,rfl⟩:=hc;simp only [exec] at hs
  let J:Nat→Act→World→Prop:=fun k a1 w1=>∃c1 env1 h1,Stp P c h w c1 h1 w1∧dC c1 h1.n w1 env1 a1.tmps∧kg s0 c1 h1 w1 a1.defers∧loopR (exec call n ia) k env1 h1=some (ex,env',h')
  classical
  let μ:Act→World→Nat:=fun a1 w1=>if hI:∃k,J k a1 w1 then Classical.choose (wB _ hI) else 0
  have μ1:∀a1 w1 (hI:∃k,J k a1 w1),J (μ a1 w1) a1 w1:=fun a1 w1 hI=>by
   have:μ a1 w1=Classical.choose (wB _ hI):=dif_pos hI;rw [this]; exact (Classical.choose_spec (wB _ hI)).1
  have μ2:∀a1 w1 k,J k a1 w1→μ a1 w1≤k:=fun a1 w1 k hk=>by
   have:μ a1 w1=Classical.choose (wB _ ⟨k,hk⟩):=dif_pos ⟨k,hk⟩;rw [this]; exact (Classical.choose_spec (wB _ ⟨k,hk⟩)).2 k hk
  refine wpIn_loop (fun a1 w1=>∃k,J k a1 w1) μ ⟨n,c,env,h,.refl r,he,hm,hs⟩ fun a1 w1 hI=>?_
  obtain ⟨c1,env1,h1,s1,he1,hm1,hs1⟩:=μ1 a1 w1 hI;generalize hkk:μ a1 w1=k at hs1;cases k with
  | zero=>cases hs1
  | succ k =>
   simp only [loopR] at hs1;cases hx:exec call n ia env1 h1 with
   | none=>rw [hx] at hs1; cases hs1
   | some q =>
    obtain ⟨ex2,env2,h2⟩:=q;rw [hx] at hs1;refine dp hcall n m s0 hF hreg p ia ha env1 h1 c1 w1 a1 ex2 env2 h2 _ (fun l e=>s1.evo.lp l (hl l e)) (cz hsz s1.fr.size) s1.rel he1 hm1 hx fun c2 w2 a2 s2 he2 hm2=>?_
    cases ex2 with
    | nor =>
     have hJ:J k a2 w2:=⟨c2,env2,h2,s1.trans s2,he2,hm2,hs1⟩;have hE:∃k,J k a2 w2:=⟨k,hJ⟩;refine ⟨hE,?_⟩;have:=μ2 a2 w2 k hJ;exact Nat.lt_succ_of_le this
    | jmp j =>
     simp only [sI,pI] at hs1;obtain ⟨rfl,rfl,rfl⟩:=hs1;have:=hQ c2 w2 a2 (s1.trans s2) he2 hm2;cases j<;>exact this
 | .rangeFunc f ps p q,ic,hc,env,h,c,w,a,ex,env',h',Q,hl,hsz,r,he,hm,hs,hQ=>by
  simp only [cY] at hc;split at hc
  ·rename_i f' ia ib hf ha hb;injection hc with hc; subst hc
   have hfv:=af he hf;simp only [exec] at hs;have henter:∀fn,∃(c1:Cx) (w1:World) (mk:List Deferred) (lp:Loop),(Instr.enterLoop fn a.tmps ps p q F.round).run P w=.ok (c1.β h.n,mk) w1∧Stp P c h w c1 (h.push (.loop .ready none env ps.toList ia ib)) w1∧kg s0 c1 (h.push (.loop .ready none env ps.toList ia ib)) w1 (mk++a.defers):=by
    intro fn;cases hro:F.round with
    | none =>
     let dfr:=w.heap.size
     let lp:Loop:={ state:=.ready,pending:=none,fn,tmps:=a.tmps,params:=ps,assign:=p,body:=q,defers:=dfr }
     have e1:=Stp.extra r (.deferred (some []));have hlb:BR P c h.n (w.alloc (.deferred (some []))) (.loop .ready none env ps.toList ia ib) (.loop lp) :=
      .loop _ _ _ _ _ _ lp trivial rfl (he.evo e1.evo) rfl ha hb
     have e2:=Stp.push e1.rel hlb (by simp);refine ⟨_,_,[qM dfr],lp,?_,e1.trans e2,?_⟩
     ·rw [Cx.set_same];simp [Instr.enterLoop,qM,dfr,lp]
     ·have hm2:=hm.stp (e1.trans e2);obtain ⟨rs,g1,g2,g3⟩:=hm2;obtain ⟨rs0,f1,f2,f3⟩:=hm;have hrs:rs=rs0:=by
       have:rs.map qM=rs0.map qM:=g1.symm.trans f1;have:=congrArg (List.map (fun d:Deferred=>match d.target with | .collected r=>r | _=>0)) this
       simpa [List.map_map,Function.comp_def,qM] using this
      subst hrs;have hlt2:∀i,bR h i→c.β i < w.heap.size:=by
       rintro i ⟨x,hx,hlx⟩; exact r.lt hx (by rintro rfl; cases hlx)
      refine ⟨dfr::rs,by simp [g1],nF.2 ⟨fun hmem=>?_,g2⟩,fun x hx=>?_⟩
      ·have:=(gJ.1 (f3 dfr hmem).2.1).1;exact absurd this (Nat.lt_irrefl _)
      ·rcases aS.1 hx with rfl | hx
       ·refine ⟨hsz,?_,?_,?_⟩
        ·show ((w.heap.push (Obj.deferred (some []))).push (Obj.loop lp))[w.heap.size]?=some (Obj.deferred (some []))
         rw [rS,aC (by simp),Array.getElem?_push_size]
        ·intro i hi e;rcases e2.fr.live i hi with ⟨j,hj,ej⟩ | hge
         ·have:=hlt2 j hj; rw [ej,e] at this; exact absurd this (Nat.lt_irrefl _)
         ·rw [e] at hge;have hsz1:(w.alloc (.deferred (some []))).heap.size=w.heap.size+1:=by simp
          rw [hsz1] at hge;exact absurd hge (Nat.not_succ_le_self _)
        ·intro him;have:=r.imlt _ him;exact absurd this (Nat.lt_irrefl _)
       ·exact g3 x hx
    | some l0 =>
     have hl0:=hl l0 hro;cases ho:w.heap[l0]? with
     | none=>rw [ho] at hl0; cases hl0
     | some o =>
      rw [ho] at hl0;cases o with
      | loop lp0 =>
       let lp:Loop:={ state:=.ready,pending:=none,fn,tmps:=a.tmps,params:=ps,assign:=p,body:=q,defers:=lp0.defers }
       have hlb:BR P c h.n w (.loop .ready none env ps.toList ia ib) (.loop lp):=.loop _ _ _ _ _ _ lp trivial rfl he rfl ha hb;have e2:=Stp.push r hlb (by simp);have hgo:(getObj l0).run P w=.ok (.loop lp0) w:=by simp [getObj,Sem.run,ho]
       refine ⟨_,_,[],lp,?_,e2,by simpa using hm.stp e2⟩;rw [Cx.set_same];simp [Instr.enterLoop,Instr.getLoop,hgo,lp]
      | _=>simp [na] at hl0
   generalize f'.ev env=fv at hs hfv;split at hs
   ·rename_i y h1 hcl0;split at hcl0
    ·rename_i g xs ys;refine wpIn_rangeFunc fun fn _=>?_
     obtain ⟨c1,w1,mk,lp,hent,s1,hm1⟩:=henter fn;have hfv1:=hfv.evo s1.evo;generalize hfe:a.eval f=fe at hfv1;cases hfv1 with
     | clo _ _ _ vs us hx hy hvx hvy =>
      have hyl:VR c1 (h.push (.loop .ready none env ps.toList ia ib)).n w1 (.yld h.n) (.func (.yield (c1.β h.n)) #[] #[]):=.yld h.n (gO _);have hall:VRs c1 (h.push (.loop .ready none env ps.toList ia ib)).n w1 (xs++[CV.yld h.n]++ys) (vs.toList++[.func (.yield (c1.β h.n)) #[] #[]]++us.toList) :=
       VRs.append (VRs.append ⟨by simpa using hx,fun i x v h1 h2=>hvx i x v h1 (by simpa using h2)⟩ (VRs.cons hyl .nil)) ⟨by simpa using hy,fun i x v h1 h2=>hvy i x v h1 (by simpa using h2)⟩
      obtain ⟨⟨fnn,g1,g2,g3⟩,hcall'⟩:=hcall _ _ _ _ _ hcl0 c1 w1 _ s1.rel hall;have harr:(vs++#[Value.func (.yield (c1.β h.n)) #[] #[]])++us=(vs.toList++[Value.func (.yield (c1.β h.n)) #[] #[]]++us.toList).toArray:=by apply Array.ext'; simp
      refine ⟨c1.β h.n,mk,w1,{ target:=.fn (.func g) us,args:=vs++#[.func (.yield (c1.β h.n)) #[] #[]] },w1,g,(vs.toList++[Value.func (.yield (c1.β h.n)) #[] #[]]++us.toList).toArray,w1,hent,?_,fun f' _=>hF.fn f',?_,fun hd=>(by rw [hF.depth] at hd; cases hd),?_⟩
      ·have hcst:a.eval (.const (.func (.yield (c1.β h.n)) #[] #[]))=.func (.yield (c1.β h.n)) #[] #[]:=rfl;simp [resolve,rangeCall,hfe,hcst,Deferred.ofValue]
      ·rw [←harr];simp [invoke,callFunc,Sem.run_bind,g1,s8 g2,beq_eq_false_iff_ne.1 g3]
      ·refine hF.calls (hcall'.mono ?_);rintro (v | _ | _) w3 hR
       ·obtain ⟨c3,s3,hv3⟩:=hR;simp only [rangePost];split at hs
        ·rename_i st pend env2 ps2 a2 b2 hb2;split at hs
         ·cases hs
         ·rename_i hst;obtain ⟨o,hob,hbr⟩:=s3.rel.obj hb2 (by simp);have hbeta:c3.β h.n=c1.β h.n:=s3.evo.beta h.n (gO _);cases hbr with
          | loop _ _ _ _ _ _ l3 hstr hpend he3 hps3 ha3 hb3 =>
           rw [hbeta] at hob;have hlt:=(gJ.1 hob).1;have hgo:(getObj (c1.β h.n)).run P w3=.ok (.loop l3) w3:=by simp [getObj,Sem.run,hob]
           have hset:(setObj (c1.β h.n) (.loop { l3 with state:=.exhausted })).run P w3=.ok () { w3 with heap:=w3.heap.setIfInBounds (c1.β h.n) (.loop { l3 with state:=.exhausted }) }:=by simp [setObj,Sem.run,hob]
           have hnb:(l3.state==.busy)=false:=by
            cases hls:l3.state<;>first | rfl | (rw [hls] at hstr; cases st<;>first | exact absurd rfl hst | cases hstr)
           have s4:Stp P c3 h1 w3 c3 (h1.put h.n (.loop .exhausted pend env2 ps2 a2 b2)) { w3 with heap:=w3.heap.setIfInBounds (c1.β h.n) (.loop { l3 with state:=.exhausted }) }:=by
            refine Stp.put (o₀:=.loop l3) (o:=.loop { l3 with state:=.exhausted }) s3.rel hb2 rfl (by rw [hbeta]; exact hob) (by simp) (by rw [hbeta]; simp [hlt]) (fun k hk=>?_) rfl rfl (.loop _ _ _ _ _ _ _ trivial hpend he3 hps3 ha3 hb3);rw [hbeta] at hk;simp [nJ,Ne.symm hk]
           have s34:=(s1.trans s3).trans s4;have hm4:=(hm1.stp s3).stp s4;refine ⟨l3.pending,{ w3 with heap:=w3.heap.setIfInBounds (c1.β h.n) (.loop { l3 with state:=.exhausted }) },?_,?_⟩
           ·simp [Instr.endLoop,Instr.getLoop,hgo,hset];intro hbb; rw [hbb] at hnb; cases hnb
           ·clear hset s4
            revert s34 hm4
            generalize ({ w3 with heap:=w3.heap.setIfInBounds (c1.β h.n) (.loop { l3 with state:=.exhausted }) }:World)=w4;intro s34 hm4;rw [hpend];split at hs
            ·simp only [sI,pI] at hs;obtain ⟨rfl,rfl,rfl⟩:=hs;exact hQ c3 _ { a with defers:=mk++a.defers } s34 (he.evo s34.evo) hm4
            ·rename_i j;simp only [sI,pI] at hs;obtain ⟨rfl,rfl,rfl⟩:=hs;have:=hQ c3 _ { a with defers:=mk++a.defers } s34 (he.evo s34.evo) hm4;cases j with
             | ret=>exact wpIn_ret this
             | exit i=>exact wpIn_exit this
        ·cases hs
       ·exact hR.elim
       ·exact hR.elim
    ·cases hcl0
   ·cases hs
  ·cases hc
 | .exit id,ic,hc,env,h,c,w,a,ex,env',h',Q,hl,hsz,r,he,hm,hs,hQ=>by
  simp only [cY,sI] at hc; subst hc;simp only [exec,sI,pI] at hs;obtain ⟨rfl,rfl,rfl⟩:=hs;exact wpIn_exit (hQ c w a (.refl r) he hm)
 | .ret,ic,hc,env,h,c,w,a,ex,env',h',Q,hl,hsz,r,he,hm,hs,hQ=>by
  simp only [cY,sI] at hc; subst hc;simp only [exec,sI,pI] at hs;obtain ⟨rfl,rfl,rfl⟩:=hs;exact wpIn_ret (hQ c w a (.refl r) he hm)
 | .scope p,ic,hc,env,h,c,w,a,ex,env',h',Q,hl,hsz,r,he,hm,hs,hQ =>
  xU (dp hcall n m s0 hF hreg p ic hc env h c w a ex env' h' _ hl hsz r he hm hs fun c' w' a' s he' hm'=>⟨qFR ex,hQ c' w' a' s he' hm'⟩)
 | .goto _,ic,hc,_,_,_,_,_,_,_,_,_,_,_,_,_,_,_,_=>by cases hc
 | .refuse _,ic,hc,_,_,_,_,_,_,_,_,_,_,_,_,_,_,_,_=>by cases hc
end Ce
namespace Ce
open Go
variable {P:Program} {c:Cx} {h:H} {w:World} {env:List CV} {a:Act} {n:Nat}
theorem qQS(r:Rel P c h w){t:TypeId}{g:Option Nat}(hg:agT P t=some g){a:CV}{a':Value}(ha:VR c h.n w a a'){x:CV}(hx:ldV g a h=some x) :
  ∃v,(do loadVar t (←asAddr a'):Sem Value).run P w=.ok v w∧VR c h.n w x v:=by
 unfold ldV at hx;split at hx
 ·rename_i i off;split at hx
  ·rename_i cs ro hb;cases ha with
   | ptr _ _ hr =>
    obtain ⟨v,h1,h2⟩:=jZ (P:=P) (w:=w) (c:=c) (n:=h.n) hg (a:=⟨c.β i,off,none⟩) hx (fun j y hy=>by rw [bY]; exact ml r hb hy);exact ⟨v,by simp [asAddr,h1],h2⟩
  ·cases hx
 ·rename_i cs;cases ha with
  | rptr _ b off vs him hc hv =>
   obtain ⟨v,h1,h2⟩:=jZ (P:=P) (w:=w) (c:=c) (n:=h.n) hg (a:=⟨b,off,none⟩) hx (fun j y hy=>by
    rw [dg] at hy;rw [bY];exact ⟨vs j,hc j y hy,hv j y hy⟩)
   exact ⟨v,by simp [asAddr,h1],h2⟩
 ·cases hx
theorem pw(r:Rel P c h w){tmps:Array Value}(he:dC c h.n w env tmps):∀(rs:List ResultVar) (qs:List IRes) (xs:List CV),ot P rs=some qs→resV qs env h=some xs →
  ∃vs:List Value,(rs.mapM (fun (x:ResultVar)=>(match x with | .tmp t=>pure (tmps.getD t Go.undef) | .cell a t=>do loadVar t (←asAddr (tmps.getD a Go.undef)):Sem Value))).run P w=.ok vs w∧VRs c h.n w xs vs
 | [],qs,xs,hq,hx=>by
  simp only [ot,sI] at hq; subst hq;simp only [resV,sI] at hx; subst hx;exact ⟨[],by simp,.nil⟩
 | .tmp t::rs,qs,xs,hq,hx=>by
  simp only [ot] at hq;split at hq
  ·rename_i qs' hq';simp only [sI] at hq; subst hq;simp only [resV] at hx;split at hx
   ·rename_i xs' hx';simp only [sI] at hx; subst hx;obtain ⟨vs,h1,h2⟩:=pw r he rs qs' xs' hq' hx';exact ⟨tmps.getD t Go.undef::vs,by simp only [List.mapM_cons,Sem.run_bind,Sem.run_pure,Result.andThen_ok,h1],.cons (he.get t) h2⟩
   ·cases hx
  ·cases hq
 | .cell t ty::rs,qs,xs,hq,hx=>by
  simp only [ot] at hq;split at hq
  ·rename_i g qs' hg hq';simp only [sI] at hq; subst hq;simp only [resV] at hx;split at hx
   ·rename_i x xs' hx0 hx';simp only [sI] at hx; subst hx;obtain ⟨vs,h1,h2⟩:=pw r he rs qs' xs' hq' hx';obtain ⟨v,g1,g2⟩:=qQS r hg (he.get t) hx0;refine ⟨v::vs,?_,.cons g2 h2⟩;simp only [List.mapM_cons];rw [Sem.run_bind,g1];simp only [Sem.run_bind,Sem.run_pure,Result.andThen_ok,h1]
   ·cases hx
  ·cases hq
theorem xz(r:Rel P c h w){fn:Func}{tmps:Array Value}(he:dC c h.n w env tmps){qs:List IRes}{xs:List CV}(hq:ot P fn.results.toList=some qs)(hx:resV qs env h=some xs) :
  ∃v,(results fn tmps).run P w=.ok v w∧VR c h.n w (one? xs) v:=by
 obtain ⟨vs,h1,h2⟩:=pw r he _ _ _ hq hx;refine ⟨if h:vs.toArray.size=1 then vs.toArray[0] else .tuple vs.toArray,?_,?_⟩
 ·unfold results;rw [Sem.run_bind,Array.mapM_eq_mapM_toList,Sem.run_map];refine (congrArg (fun r=>Result.andThen (Result.andThen r _) _) (show _=Result.ok vs w from h1)).trans ?_;rfl
 ·split
  ·rename_i hl;cases vs with
   | nil=>simp at hl
   | cons v vs =>
    cases vs with
    | cons=>simp at hl
    | nil =>
     cases xs with
     | nil=>have:=h2.1; simp at this
     | cons x xs =>
      cases xs with
      | cons=>have:=h2.1; simp at this
      | nil=>exact h2.2 0 x v rfl rfl
  ·rename_i hl;have:one? xs=.tup xs:=by
    cases xs with
    | nil=>rfl
    | cons x xs =>
     cases xs with
     | cons=>rfl
     | nil=>exfalso; apply hl; have:=h2.1; simp at this ⊢; exact this.symm
   rw [this];exact h2.tup
theorem qh{m r:Nat}(him:¬c.Im r){ds:Option (List Deferred)}(hat:w.heap[r]?=some (.deferred ds))(ds':Option (List Deferred)):Evo c m w c m { w with heap:=w.heap.setIfInBounds r (.deferred ds') }:=by
 have hoff:∀k,k≠r→({ w with heap:=w.heap.setIfInBounds r (.deferred ds') }:World).heap[k]?=w.heap[k]?:=fun k hk=>by
  simp [nJ,Ne.symm hk]
 refine ⟨aV _,fun _ _=>rfl,fun _ h=>h,fun b hb=>hoff b (by rintro rfl; exact him hb),fun b e x hs=>?_,fun b hb=>?_⟩
 ·by_cases e':b=r
  ·subst e'; rw [shape?_eq,hat] at hs; cases hs
  ·rw [bm (hoff b e')]; exact hs
 ·by_cases e':b=r
  ·subst e'; rw [hat] at hb; cases hb
  ·rw [hoff b e']; exact hb
theorem Stp.behind{c':Cx}{h':H}{w':World}(s:Stp P c h w c' h' w'){r:Nat}(hr:w.heap.size≤r)(hl:∀i,bR h' i→c'.β i≠r)(him:¬c'.Im r){ds:Option (List Deferred)}(hat:w'.heap[r]?=some (.deferred ds))(ds':Option (List Deferred)) :
  Stp P c h w c' h' { w' with heap:=w'.heap.setIfInBounds r (.deferred ds') }:=by
 have hoff:∀k,k≠r→({ w' with heap:=w'.heap.setIfInBounds r (.deferred ds') }:World).heap[k]?=w'.heap[k]?:=fun k hk=>by
  simp [nJ,Ne.symm hk]
 have hE:=qh (m:=h'.n) him hat ds';refine ⟨⟨s.rel.bound,fun i b hb=>?_,s.rel.inj,s.rel.notIm,s.rel.ro,fun b hb=>by simpa using s.rel.imlt b hb⟩,s.evo.trans hE,⟨by simpa using s.fr.size,fun b hb hn=>?_,s.fr.live,s.fr.im,fun b hb0=>by
  by_cases e':b=r
  ·subst e';rw [←s.fr.fz b hb0,fM hat];have hlt:=(gJ.1 hat).1;have e1:({ w' with heap:=w'.heap.setIfInBounds b (.deferred ds') }:World).heap[b]?=some (.deferred ds'):=by simp [hlt]
   rw [fM e1]; rfl
  ·rw [←s.fr.fz b hb0]; exact dW (hoff b e'),s.fr.outs⟩⟩
 ·rcases s.rel.blk i b hb with hd | ⟨o,ho,hbr⟩
  ·exact .inl hd
  ·refine .inr ⟨o,?_,hbr.evo hE⟩;rw [hoff]
   ·exact ho
   ·rintro e;cases hlx:b.live with
    | true=>exact hl i ⟨b,hb,hlx⟩ e
    | false =>
     cases b with
     | cells cs ro =>
      cases ro with
      | true=>exact him (e ▸ s.rel.ro i cs hb)
      | false=>cases hlx
     | dead=>cases hbr
     | _=>cases hlx
 ·rw [hoff b (by omega)]; exact s.fr.old b hb hn
def oi(P:Program)(f:Nat):Prop:=∀(blk off cap:Nat) (zs:List Int) (w:World) (arr:Array Value) (e:TypeId),w.heap[blk]?=some (.cells arr e (0,0))→off+zs.length≤arr.size→zs.length < 4611686018427387904 →
 (∀(j:Nat) (z:Int),zs[j]?=some z→arr[off+j]?=some (.int .i64 z)) →
 Calls P f #[.slice (some ⟨blk,off,none⟩) zs.length cap] w fun r w'=>r=.returned (.tuple #[])∧w'.os=w.os∧w'.output=w.output∧w.heap.size≤w'.heap.size∧(∀b,b < w.heap.size→b≠blk→w'.heap[b]?=w.heap[b]?) ∧
  ∃arr':Array Value,w'.heap[blk]?=some (.cells arr' e (0,0))∧arr'.size=arr.size∧(∀i,(i < off∨off+zs.length≤i)→arr'[i]?=arr[i]?)∧∀(j:Nat) (z:Int),(zs.mergeSort fun x y=>decide (x≤y))[j]?=some z→arr'[off+j]?=some (.int .i64 z)
def xS(P:Program)(tbl:Nat→Option IF):Prop :=
 ∀f F,tbl f=some F→∃fn cd,P.funcs[f]?=some fn∧fn.body=some cd∧(fn.name == "runtime.NumGoroutine")=false∧cY P cd=some F.body∧ot P fn.results.toList=some F.res∧F.ntmps=fn.ntmps∧(F.mode=3→oi P f)
theorem nm{fn:Func}{F:IF}(hres:ot P fn.results.toList=some F.res){xs:List CV}{Fe:Fence}{m:Nat}{tmps:Array Value}{h':H}(hx:resV F.res env h'=some xs):∀(rs:List Nat) (c':Cx) (w':World),rs.Nodup →
  (∀r∈rs,w.heap.size≤r∧w'.heap[r]?=some (.deferred (some []))∧(∀i,bR h' i→c'.β i≠r)∧¬c'.Im r)→Stp P c h w c' h' w'→dC c' h'.n w' env tmps →
  LeavesInM Fe m P fn tmps (qG7 P c h w (one? xs) h') (rs.map qM) .returning w'
 | [],c',w',_,_,s,he=>by
  obtain ⟨v,h1,h2⟩:=xz s.rel he hres hx;exact ⟨v,h1,c',s,h2⟩
 | r::rs,c',w',hnd,hm,s,he=>by
  obtain ⟨g1,g2,g3,g4⟩:=hm r (by simp);have hlt:=(gJ.1 g2).1;have s2:=s.behind g1 g3 g4 g2 none;have hE:=qh (m:=h'.n) g4 g2 none;refine ⟨by simp,.inl ⟨r,_,rfl,?_,nm hres hx rs c' _ (nF.1 hnd).2 (fun q hq=>?_) s2 (he.evo hE)⟩⟩
  ·have hgo:(getObj r).run P w'=.ok (.deferred (some [])) w':=by simp [getObj,Sem.run,g2]
   have hset:(setObj r (.deferred none)).run P w'=.ok () { w' with heap:=w'.heap.setIfInBounds r (.deferred none) }:=by simp [setObj,Sem.run,g2]
   simp [Instr.takeDeferred,hgo,hset]
  ·obtain ⟨q1,q2,q3,q4⟩:=hm q (by simp [hq]);refine ⟨q1,?_,q3,q4⟩;have hne:q≠r:=fun e=>(nF.1 hnd).1 (e ▸ hq)
   simp [nJ,Ne.symm hne,q2]
theorem qPZ(m:Nat):VRs c n w (cB m) (List.replicate m Go.undef):=by
 induction m with
 | zero=>exact .nil
 | succ m ih=>exact .cons VR.undef ih
theorem rC{call:Tgt→List CV→H→Option (CV × H)}(hcall:ki P call)(nn:Nat){f:Nat}{fn:Func}{cd:Code}{F:IF}(hf:P.funcs[f]?=some fn)(hb:fn.body=some cd)(hc:cY P cd=some F.body)(hres:ot P fn.results.toList=some F.res)(hn:F.ntmps=fn.ntmps)
  {args:List CV} {h h':H} {x:CV} (hs:bodyR (exec call nn F.body) F args h=some (x,h')) {c:Cx} {w:World} {vs:List Value} (r:Rel P c h w) (hv:VRs c h.n w args vs) :
  CallsIn Fence.wide 0 P f vs.toArray w (qG7 P c h w x h'):=by
 refine callsIn_of_wp_marks hf hb trivial ?_;have hlen:=hv.1;have he:dC c h.n w (args++cB (F.ntmps - args.length)) (vs.toArray++Array.replicate (fn.ntmps - vs.toArray.size) Go.undef):=by
  have:=hv.append (qPZ (c:=c) (n:=h.n) (w:=w) (F.ntmps - args.length));rw [hn,hlen] at this ⊢
  show VRs c h.n w _ _
  simpa using this
 unfold bodyR at hs;have key:∀ex env1 h1 xs,exec call nn F.body (args++cB (F.ntmps - args.length)) h=some (ex,env1,h1)→(ex=.nor∨ex=.jmp .ret)→resV F.res env1 h1=some xs→x=one? xs→h'=h1 →
   cd.wpIn Fence.wide 0 P (bodyPostM Fence.wide 0 P fn (qG7 P c h w x h')) { tmps:=vs.toArray++Array.replicate (fn.ntmps - vs.toArray.size) Go.undef,defers:=[] } w:=by
  rintro ex env1 h1 xs hex hor hx rfl rfl;refine dp hcall nn 0 w.heap.size (.inl rfl) (fun id ops draw ic env h c w a ex env' h' Q hc r he hs hQ=>?_) cd F.body hc _ h c w _ ex env1 h' _ (fun l e=>by cases e) (aV _) r he (.nil _) hex fun c' w' a' s he' hm=>?_
  ·refine mO hcall nn 0 (.inl rfl) id ops draw ic env h c w a ex env' h' Q hc r he hs fun c' w' a' s he' hd=>?_
   have:=hQ c' w' a' s he' hd;cases ex with
   | nor=>exact this
   | jmp j=>cases j<;>exact this
  ·obtain ⟨rs,g1,g2,g3⟩:=hm;rcases hor with rfl | rfl
   ·show LeavesInM _ _ _ _ _ _ _ _ _
    rw [g1]; exact nm hres hx rs c' w' g2 g3 s he'
   ·show LeavesInM _ _ _ _ _ _ _ _ _
    rw [g1]; exact nm hres hx rs c' w' g2 g3 s he'
 split at hs
 ·rename_i env1 h1 hex;split at hs
  ·rename_i xs hx;simp only [sI,pI] at hs;exact key .nor env1 h1 xs hex (.inl rfl) hx hs.1.symm hs.2.symm
  ·cases hs
 ·rename_i env1 h1 hex;split at hs
  ·rename_i xs hx;simp only [sI,pI] at hs;exact key (.jmp .ret) env1 h1 xs hex (.inr rfl) hx hs.1.symm hs.2.symm
  ·cases hs
 ·cases hs
end Ce
namespace Ce
open Go
variable {P:Program} {c:Cx} {h:H} {w:World}
theorem Stp.putG(r:Rel P c h w){i:Nat}{b₀ b:Blk}{o₀ o:Obj}{w':World}(hb₀:h.f i=some b₀)(hl₀:b₀.live=true)(ho₀:w.heap[c.β i]?=some o₀)
  (hsz:w.heap.size≤w'.heap.size) (hat:w'.heap[c.β i]?=some o) (hoff:∀k,k < w.heap.size→k≠c.β i→w'.heap[k]?=w.heap[k]?) (hsh:dJ o=dJ o₀)
  (hl:b.live=true) (hb:BR P c h.n w b o) (hlp:na o₀=true→na o=true) (hos:w'.os=w.os∧w'.output=w.output):Stp P c h w c (h.put i b) w':=by
 have li:bR h i:=⟨b₀,hb₀,hl₀⟩;have hlt:∀(k:Nat) {x:Obj},w.heap[k]?=some x→k < w.heap.size:=fun k x hx=>(gJ.1 hx).1
 have hE:Evo c h.n w c h.n w':=by
  refine ⟨aV _,fun _ _=>rfl,fun _ hb=>hb,fun k hk=>hoff k (r.imlt k hk) ?_,fun k e s hs=>?_,fun k hk=>?_⟩
  ·rintro rfl; exact r.notIm i li hk
  ·by_cases e':k=c.β i
   ·subst e'; rw [shape?_eq] at hs ⊢; rw [hat]; rw [ho₀] at hs; show dJ o=_; rw [hsh]; exact hs
   ·have hk:k < w.heap.size:=by
     rw [shape?_eq] at hs;rcases i7 k w.heap.size with hk | hk
     ·exact hk
     ·rw [jm hk] at hs; cases hs
    rw [bm (hoff k hk e')]; exact hs
  ·by_cases e':k=c.β i
   ·subst e'; rw [hat]; rw [ho₀] at hk; simp at hk ⊢; exact hlp hk
   ·have hk2:k < w.heap.size:=by
     rcases i7 k w.heap.size with h | h
     ·exact h
     ·rw [jm h] at hk; cases hk
    rw [hoff k hk2 e']; exact hk
 refine ⟨⟨?_,?_,?_,?_,?_,?_⟩,hE,⟨hsz,fun k hk hn=>hoff k hk fun e=>hn i li e.symm,?_,fun _ hb=>.inl hb,fun k hk=>by
  by_cases e':k=c.β i
  ·obtain ⟨o',ho',hbr'⟩:=r.obj hb₀ (by rintro rfl; cases hl₀);rw [ho₀] at ho'; injection ho' with ho'; subst ho'; subst e'
   rw [fM hat,fM ho₀,hb.fz,hbr'.fz]
  ·exact dW (hoff k hk e'),hos⟩⟩
 ·intro j x hx;rw [H.f_put] at hx
  show j < h.n
  by_cases e:j=i
  ·exact e ▸ r.bound i b₀ hb₀
  ·rw [aC e] at hx; exact r.bound j x hx
 ·intro j x hx;rw [H.f_put] at hx;by_cases e:j=i
  ·rw [aH e] at hx; injection hx with hx; subst hx; subst e
   exact .inr ⟨o,hat,hb.evo hE⟩
  ·rw [aC e] at hx;rcases r.blk j x hx with hd | ⟨o',ho,hr⟩
   ·exact .inl hd
   ·right
    refine ⟨o',?_,hr.evo hE⟩;rw [hoff _ (hlt _ ho)]
    ·exact ho
    ·intro e2;cases hlx:x.live with
     | true=>exact e (r.inj j i ⟨x,hx,hlx⟩ li e2)
     | false =>
      cases x with
      | cells cs ro =>
       cases ro with
       | true=>exact r.notIm i li (e2 ▸ r.ro j cs hx)
       | false=>cases hlx
      | dead=>cases hr
      | _=>cases hlx
 ·intro a b' ha hb' e; exact r.inj a b' (bR.put hl li ha) (bR.put hl li hb') e
 ·intro a ha; exact r.notIm a (bR.put hl li ha)
 ·intro j cs hx;rw [H.f_put] at hx;by_cases e:j=i
  ·rw [aH e] at hx; injection hx with hx; subst hx; cases hl
  ·rw [aC e] at hx; exact r.ro j cs hx
 ·intro k hk; exact dD (r.imlt k hk) hsz
 ·intro j hj; exact .inl ⟨j,bR.put hl li hj,rfl⟩
theorem s5:∀{l:List CV} {zs:List Int},hZ l=some zs→l=ax zs
 | [],zs,h=>by simp only [hZ,sI] at h; subst h; rfl
 | x::l,zs,h=>by
  unfold hZ at h;split at h
  ·rename_i e; cases e
  ·rename_i z l' e;simp only [iJ] at e;obtain ⟨rfl,rfl⟩:=e;cases hi:hZ l with
   | none=>rw [hi] at h; cases h
   | some zs' =>
    rw [hi] at h;simp only [sI] at h; subst h;rw [s5 hi]; rfl
  ·cases h
theorem gx:∀(l:List Int),ax l=l.map (CV.int .i64)
 | []=>rfl
 | z::l=>by simp [ax,gx l]
theorem qDE{l:List Int}{j:Nat}{x:CV}(h:(ax l)[j]?=some x):∃z,l[j]?=some z∧x=.int .i64 z:=by
 rw [gx,List.getElem?_map] at h;cases hl:l[j]? with
 | none=>rw [hl] at h; cases h
 | some z=>rw [hl] at h; simp only [dh,sI] at h; exact ⟨z,rfl,h.symm⟩
theorem ny(x:Int):∀l:List Int,(yR x l).Perm (x::l)
 | []=>List.Perm.refl _
 | y::l=>by
  unfold yR;split
  ·exact List.Perm.refl _
  ·exact ((ny x l).cons y).trans (List.Perm.swap x y l)
theorem f9:∀l:List Int,(dO l).Perm l
 | []=>List.Perm.refl _
 | x::l=>(ny x (dO l)).trans ((f9 l).cons x)
theorem oW(x:Int):∀l:List Int,l.Pairwise (·≤·)→(yR x l).Pairwise (·≤·)
 | [],_=>by simp [yR]
 | y::l,h=>by
  unfold yR;rw [jl] at h;split
  ·rename_i hle;refine jl.2 ⟨fun z hz=>?_,jl.2 h⟩;rcases aS.1 hz with rfl | hz
   ·exact hle
   ·exact Int.le_trans hle (h.1 z hz)
  ·rename_i hle;refine jl.2 ⟨fun z hz=>?_,oW x l h.2⟩;rcases aS.1 ((ny x l).mem_iff.1 hz) with rfl | hz
   ·omega
   ·exact h.1 z hz
theorem m5:∀l:List Int,(dO l).Pairwise (·≤·)
 | []=>List.Pairwise.nil
 | x::l=>oW x _ (m5 l)
theorem qJT(l:List Int):dO l=l.mergeSort fun x y=>decide (x≤y):=by
 refine List.Perm.eq_of_pairwise (le:=(·≤·)) (fun a b _ _ h1 h2=>by omega) (m5 l) ?_ ((f9 l).trans (List.mergeSort_perm _ _).symm);have:=List.pairwise_mergeSort (le:=fun x y:Int=>decide (x≤y)) (fun a b c h1 h2=>by simp only [dT] at *; omega) (fun a b=>by simp only [bU,dT]; omega) l;exact this.imp fun h=>by simpa using h
theorem j4(l:List Int):(dO l).length=l.length:=(f9 l).length_eq
theorem srt_ok(r:Rel P c h w){args:List CV}{vs:List Value}(hv:VRs c h.n w args vs){f:Nat}(hS:oi P f)(hb:big args=true){h':H}(hs:srtV args h=some h') :
  CallsIn Fence.wide 0 P f vs.toArray w (qG7 P c h w (.tup []) h'):=by
 unfold srtV at hs;split at hs
 ·rename_i k rr off len cap;simp only [big,aT] at hb;have hk:k=1:=nQ hb.1;subst hk;obtain ⟨hl,hv⟩:=hv;obtain ⟨v,rfl⟩:∃v,vs=[v]:=by
   match vs,hl with
   | [v],_=>exact ⟨v,rfl⟩
  have hv0:=hv 0 _ v rfl rfl;cases hv0 with
  | slc _ _ _ _ _ cap' hr hcap hle hsz =>
  split at hs
  ·rename_i cs hg;split at hs
   ·rename_i xs hcut;split at hs
    ·rename_i zs hz;split at hs
     case h_2=>cases hs
     rename_i h40;have h40:zs.length≤1099511627776:=el h40;simp only [sI] at hs;subst hs;obtain ⟨o,ho,hbr⟩:=r.obj hg (by simp);cases hbr with
     | cells _ _ arr e hsz2 hvv =>
     have hxs:=s5 hz;unfold cut? at hcut;split at hcut
     ·rename_i hle2;simp only [sI] at hcut;have hlz:zs.length=len:=by
       have h1:(ax zs).length=len:=by rw [←hxs,←hcut]; simp; omega
       rw [gx,lK] at h1; exact h1
      have hat:∀(j:Nat) (z:Int),zs[j]?=some z→arr[off+j]?=some (.int .i64 z):=by
       intro j z hj;have hjl:j < zs.length:=(fU.1 hj).1;have h1:cs[off+j]?=some (.int .i64 z):=by
        have h2:(ax zs)[j]?=some (.int .i64 z):=by rw [gx,List.getElem?_map,hj]; rfl
        rw [←hxs,←hcut,iK,aH (by omega),dP] at h2;exact h2
       have h2:off+j < arr.size:=by omega
       have h3:=hvv (off+j) _ arr[off+j] h1 (by simp [h2]);generalize hv4:arr[off+j]=v4 at h3;cases h3;simp [h2,hv4]
      have hC:=hS (c.β rr) off cap' zs w arr e ho (by omega) (by omega) hat
      rw [hlz] at hC;refine callsIn_wide.2 (hC.mono ?_);rintro e2 w' ⟨rfl,h1,h2,h3,h4,arr',h5,h6,h7,h8⟩;have hol:(ax (dO zs)).length=len:=by rw [gx,lK,j4,hlz]
      refine ⟨c,Stp.putG r hg rfl ho h3 h5 (fun k hk hne=>h4 k hk hne) (by simp [dJ,h6]) rfl ?_ (by simp [na]) ⟨h1,h2⟩,.tup [] #[] rfl (by simp)⟩;have hE:Evo c h.n w c h.n w:=Evo.refl _ _ _;refine .cells _ false arr' e (by rw [eC _ _ _ (by omega)]; simp; omega) fun j x v hx hu=>?_
      rw [eC _ _ _ (by omega)] at hx;rcases i7 j off with hj | hj
      ·rw [nH,fY (by simp; omega),iK,aH hj] at hx;exact hvv j x v hx (by rw [←h7 j (.inl hj)]; exact hu)
      rcases i7 j (off+len) with hj2 | hj2
      ·rw [nH,iM (by simp; omega),fY (by simp; omega)] at hx;have hmin:(cs.take off).length=off:=by simp; omega
       rw [hmin] at hx;obtain ⟨z,hz1,rfl⟩:=qDE hx;rw [qJT] at hz1;have:=h8 (j - off) z hz1;have hjj:off+(j - off)=j:=by omega
       rw [hjj,hu] at this;simp only [sI] at this;subst this;exact .int _ _
      ·rw [iM (by simp; omega),dP] at hx;refine hvv j x v ?_ (by rw [←h7 j (.inr (by omega))]; exact hu);rw [←hx]; congr 1;simp; omega
     ·cases hcut
    ·cases hs
   ·cases hs
  ·cases hs
 ·cases hs
end Ce
namespace Ce
open Go
variable {P:Program} {c:Cx} {h:H} {w:World} {env:List CV} {a:Act} {n:Nat}
mutual
theorem cln_ok {c:Cx} {n m:Nat} {w:World}:∀(x:CV) (v:Value),cln x=true→VR c n w x v→VR c m w x v
 | .bool b,v,_,h=>by cases h; exact .bool b
 | .int k b,v,_,h=>by cases h; exact .int k b
 | .str s,v,_,h=>by cases h; exact .str s
 | .nilp,v,_,h=>by cases h; exact .nilp
 | .nils,v,_,h=>by cases h; exact .nils
 | .nilm,v,_,h=>by cases h; exact .nilm
 | .nilf,v,_,h=>by cases h; exact .nilf
 | .nili,v,_,h=>by cases h; exact .nili
 | .lst rows e,v,hc,h=>by
  simp only [cln] at hc;cases h with
  | lst _ _ k b off sp cap' vs hle hsp hex him hk hcl hv =>
   refine .lst rows e k b off sp cap' vs hle hsp hex him hk hcl fun i row j x h1 h2=>?_
   exact qBY rows hc i row j x h1 h2 (vs i j) (hv i row j x h1 h2)
 | .agg xs,v,hc,h=>by
  simp only [cln] at hc;cases h with
  | agg _ vs hx hv=>exact .agg xs vs hx fun i x v h1 h2=>pS xs hc i x h1 v (hv i x v h1 h2)
 | .ptr _ _,_,hc,_=>by simp [cln] at hc
 | .rptr _,_,hc,_=>by simp [cln] at hc
 | .slc _ _ _ _ _,_,hc,_=>by simp [cln] at hc
 | .map _,_,hc,_=>by simp [cln] at hc
 | .clo _ _ _,_,hc,_=>by simp [cln] at hc
 | .yld _,_,hc,_=>by simp [cln] at hc
 | .ifc _ _,_,hc,_=>by simp [cln] at hc
 | .tup _,_,hc,_=>by simp [cln] at hc
theorem pS {c:Cx} {n m:Nat} {w:World}:∀(xs:List CV),iD xs=true→∀(i:Nat) (x:CV),xs[i]?=some x→∀v,VR c n w x v→VR c m w x v
 | [],_,i,x,h,_,_=>by simp at h
 | y::ys,hc,i,x,h,v,hv=>by
  simp only [iD,aT] at hc;cases i with
  | zero=>simp at h; subst h; exact cln_ok y v hc.1 hv
  | succ i=>exact pS ys hc.2 i x (by simpa using h) v hv
theorem qBY {c:Cx} {n m:Nat} {w:World}:∀(rows:List (List CV)),qFY rows=true→∀(i:Nat) (row:List CV) (j:Nat) (x:CV),rows[i]?=some row→row[j]?=some x→∀v,VR c n w x v→VR c m w x v
 | [],_,i,row,j,x,h,_,_,_=>by simp at h
 | y::ys,hc,i,row,j,x,h,hx,v,hv=>by
  simp only [qFY,aT] at hc;cases i with
  | zero=>simp at h; subst h; exact pS y hc.1 j x hx v hv
  | succ i=>exact qBY ys hc.2 i row j x (by simpa using h) hx v hv
end
theorem qLS{xs:List CV}{vs:List Value}{m:Nat}(hc:iD xs=true)(h:VRs c n w xs vs):VRs c m w xs vs :=
 ⟨h.1,fun i x v h1 h2=>pS xs hc i x h1 v (h.2 i x v h1 h2)⟩
theorem Stp.adopt{c1 cc:Cx}{h1 hc:H}{w w':World}(s:Stp P c1 h1 w cc hc w'){b:Nat}{cs:List CV}{o:Obj}(hb:w.heap.size≤b)(ho:w'.heap[b]?=some o)(hbr:BR P cc hc.n w' (.cells cs false) o)(hl:∀j,bR hc j→cc.β j≠b)(him:¬cc.Im b) :
  Stp P c1 h1 w (cc.set hc.n b) (hc.push (.cells cs false)) w'∧Evo cc hc.n w' (cc.set hc.n b) (hc.n+1) w':=by
 have hE:Evo cc hc.n w' (cc.set hc.n b) (hc.n+1) w':=⟨by omega,fun i hi=>Cx.set_lt cc hi,fun _ h=>h,fun _ _=>rfl,fun _ _ _ h=>h,fun _ h=>h⟩;have hlive:∀i,bR (hc.push (.cells cs false)) i→i=hc.n∨(i < hc.n∧bR hc i):=by
  rintro i ⟨x,hx,hlx⟩;rw [H.f_push] at hx;by_cases e:i=hc.n
  ·exact .inl e
  ·rw [aC e] at hx; exact .inr ⟨s.rel.bound i x hx,x,hx,hlx⟩
 refine ⟨⟨⟨?_,?_,?_,?_,?_,s.rel.imlt⟩,s.evo.trans hE,⟨s.fr.size,s.fr.old,?_,s.fr.im,s.fr.fz,s.fr.outs⟩⟩,hE⟩
 ·intro i x hx;rw [H.f_push] at hx
  show i < hc.n+1
  by_cases e:i=hc.n
  ·omega
  ·rw [aC e] at hx; have:=s.rel.bound i x hx; omega
 ·intro i x hx;rw [H.f_push] at hx;by_cases e:i=hc.n
  ·rw [aH e] at hx; injection hx with hx; subst hx
   exact .inr ⟨o,by rw [e,Cx.set_same]; exact ho,hbr.evo hE⟩
  ·rw [aC e] at hx;rcases s.rel.blk i x hx with hd | ⟨o',ho',hr'⟩
   ·exact .inl hd
   ·exact .inr ⟨o',by rw [Cx.set_lt cc (s.rel.bound i x hx)]; exact ho',hr'.evo hE⟩
 ·intro i j hi hj e;rcases hlive i hi with rfl | ⟨i1,i2⟩<;>rcases hlive j hj with rfl | ⟨j1,j2⟩
  ·rfl
  ·rw [Cx.set_same,Cx.set_lt cc j1] at e; exact absurd e.symm (hl j j2)
  ·rw [Cx.set_same,Cx.set_lt cc i1] at e; exact absurd e (hl i i2)
  ·rw [Cx.set_lt cc i1,Cx.set_lt cc j1] at e; exact s.rel.inj i j i2 j2 e
 ·intro i hi hm;rcases hlive i hi with rfl | ⟨i1,i2⟩
  ·rw [Cx.set_same] at hm; exact him hm
  ·rw [Cx.set_lt cc i1] at hm; exact s.rel.notIm i i2 hm
 ·intro i cs' hx;rw [H.f_push] at hx;by_cases e:i=hc.n
  ·rw [aH e] at hx; injection hx with hx; cases hx
  ·rw [aC e] at hx; rw [Cx.set_lt cc (s.rel.bound i _ hx)]; exact s.rel.ro i cs' hx
 ·intro i hi;rcases hlive i hi with rfl | ⟨i1,i2⟩
  ·right; rw [Cx.set_same]; exact hb
  ·rcases s.fr.live i i2 with ⟨j,hj,ej⟩ | hge
   ·left; exact ⟨j,hj,by rw [Cx.set_lt cc i1]; exact ej⟩
   ·right; rw [Cx.set_lt cc i1]; exact hge
structure XI (P:Program) (c1:Cx) (h1:H) (w:World) (cs cc:Cx) (hs hc:H) (w':World):Prop where
 sub:Rel P cs hs w'
 stp:Stp P c1 h1 w cc hc w'
 far:∀i,bR hs i→w.heap.size≤cs.β i
 dis:∀i j,bR hs i→bR hc j→cs.β i≠cc.β j
 im:cc.Im=c1.Im
def qG8(cs cc cc':Cx)(hs hc hc':H):Prop:=∀j,bR hc' j→(∃j0,bR hc j0∧cc.β j0=cc'.β j)∨(∃i,bR hs i∧cs.β i=cc'.β j)
theorem qG8.refl{cs cc:Cx}{hs hc:H}:qG8 cs cc cc hs hc hc:=fun j hj=>.inl ⟨j,hj,rfl⟩
theorem xp_ok{c1 cs:Cx}{h1:H}{w w':World}(hbnd:∀b,c1.Im b→b < w.heap.size):∀(fuel:Nat),(∀(v v':CV) (hs hc hs' hc':H) (cc:Cx) (u:Value),xp fuel v (hs,hc)=some (v',hs',hc')→XI P c1 h1 w cs cc hs hc w'→VR cs hs.n w' v u →
      ∃cc',XI P c1 h1 w cs cc' hs' hc' w'∧VR cc' hc'.n w' v' u∧Evo cc hc.n w' cc' hc'.n w'∧hs'.n=hs.n∧(∀i,bR hs' i→bR hs i)∧qG8 cs cc cc' hs hc hc') ∧
    (∀(vs vs':List CV) (hs hc hs' hc':H) (cc:Cx) (us:List Value),xpL (xp fuel) vs (hs,hc)=some (vs',hs',hc')→XI P c1 h1 w cs cc hs hc w'→VRs cs hs.n w' vs us →
      ∃cc',XI P c1 h1 w cs cc' hs' hc' w'∧VRs cc' hc'.n w' vs' us∧Evo cc hc.n w' cc' hc'.n w'∧hs'.n=hs.n∧(∀i,bR hs' i→bR hs i)∧qG8 cs cc cc' hs hc hc'):=by
  have listOf:∀fuel,(∀(v v':CV) (hs hc hs' hc':H) (cc:Cx) (u:Value),xp fuel v (hs,hc)=some (v',hs',hc')→XI P c1 h1 w cs cc hs hc w'→VR cs hs.n w' v u →
      ∃cc',XI P c1 h1 w cs cc' hs' hc' w'∧VR cc' hc'.n w' v' u∧Evo cc hc.n w' cc' hc'.n w'∧hs'.n=hs.n∧(∀i,bR hs' i→bR hs i)∧qG8 cs cc cc' hs hc hc') →
    (∀(vs vs':List CV) (hs hc hs' hc':H) (cc:Cx) (us:List Value),xpL (xp fuel) vs (hs,hc)=some (vs',hs',hc')→XI P c1 h1 w cs cc hs hc w'→VRs cs hs.n w' vs us →
      ∃cc',XI P c1 h1 w cs cc' hs' hc' w'∧VRs cc' hc'.n w' vs' us∧Evo cc hc.n w' cc' hc'.n w'∧hs'.n=hs.n∧(∀i,bR hs' i→bR hs i)∧qG8 cs cc cc' hs hc hc'):=by
    intro fuel hf vs
    induction vs with
    | nil =>
      intro vs' hs hc hs' hc' cc us hx xi hv;simp only [xpL,sI,pI] at hx;obtain ⟨rfl,rfl,rfl⟩:=hx;have hus:us=[]:=jQ hv.1.symm;subst hus;exact ⟨cc,xi,.nil,.refl _ _ _,rfl,fun _ h=>h,.refl⟩
    | cons v vs ih =>
      intro vs' hs hc hs' hc' cc us hx xi hv;cases us with
      | nil=>have:=hv.1; simp at this
      | cons u us =>
        have hv1:VR cs hs.n w' v u:=hv.2 0 v u rfl rfl;have hv2:VRs cs hs.n w' vs us:=⟨by simpa using hv.1,fun i x y hx hy=>hv.2 (i+1) x y (by simpa using hx) (by simpa using hy)⟩;simp only [xpL] at hx;split at hx
        · rename_i v1 hh e1;obtain ⟨hs1,hc1⟩:=hh;split at hx
          · rename_i vs2 hh2 e2;simp only [sI,pI] at hx;obtain ⟨rfl,rfl⟩:=hx;obtain ⟨cc1,x1,r1,ev1,n1,l1,p1⟩:=hf v v1 hs hc hs1 hc1 cc u e1 xi hv1;obtain ⟨cc2,x2,r2,ev2,n2,l2,p2⟩:=ih vs2 hs1 hc1 hs' hc' cc1 us e2 x1 (by rw [n1]; exact hv2);refine ⟨cc2,x2,.cons (r1.evo ev2) r2,ev1.trans ev2,n2.trans n1,fun i hi=>l1 i (l2 i hi),fun j hj=>?_⟩;rcases p2 j hj with ⟨j0,h0,e0⟩ | ⟨i,hi,e0⟩
            · rcases p1 j0 h0 with ⟨j1,h1',e1'⟩ | ⟨i,hi,e1'⟩
              · exact .inl ⟨j1,h1',e1'.trans e0⟩
              · exact .inr ⟨i,hi,e1'.trans e0⟩
            · exact .inr ⟨i,l1 i hi,e0⟩
          · cases hx
        · cases hx
  intro fuel
  induction fuel with
  | zero=>exact ⟨fun v v' hs hc hs' hc' cc u hx=>by simp [xp] at hx,listOf 0 fun v v' hs hc hs' hc' cc u hx=>by simp [xp] at hx⟩
  | succ fuel ih =>
    refine ⟨?_,listOf (fuel+1) ?_⟩
    all_goals (
      intro v v' hs hc hs' hc' cc u hx xi hv;simp only [xp] at hx;split at hx
      · rename_i k r off len cap;split at hx
        · rename_i cells hb;split at hx
          · rename_i c2 hs2 hc2 e1;simp only [sI,pI] at hx;obtain ⟨rfl,rfl,rfl⟩:=hx;have hkill:=Stp.kill xi.sub hb;have hlk:∀i,bR (hs.put r .dead) i→bR hs i∧i≠r:=by
              rintro i ⟨x,hx,hl⟩;rw [H.f_put] at hx;by_cases e:i=r
              · rw [aH e] at hx; injection hx with hx; subst hx; cases hl
              · rw [aC e] at hx; exact ⟨⟨x,hx,hl⟩,e⟩
            have xi1:XI P c1 h1 w cs cc (hs.put r .dead) hc w':=⟨hkill.rel,xi.stp,fun i hi=>xi.far i (hlk i hi).1,fun i j hi hj=>xi.dis i j (hlk i hi).1 hj,xi.im⟩;obtain ⟨o,ho,hbr⟩:=xi.sub.obj hb (by simp);have hlr:bR hs r:=⟨_,hb,rfl⟩;cases hbr with
            | cells _ _ arr e hsz hcv =>
              have hvs:VRs cs (hs.put r .dead).n w' cells (arr.toList.take cells.length):=by
                refine ⟨by simp; omega,fun j x v hx hv'=>?_⟩;rw [iK] at hv';split at hv'
                · exact hcv j x v hx (by simpa using hv')
                · cases hv'
              obtain ⟨cc2,x2,r2,ev2,n2,l2,p2⟩:=ih.2 cells c2 (hs.put r .dead) hc hs2 hc2 cc _ e1 xi1 hvs;have hlen:c2.length=cells.length:=by rw [r2.1]; simp; omega
              have hnl:∀j,bR hc2 j→cc2.β j≠cs.β r:=by
                intro j hj e';rcases p2 j hj with ⟨j0,h0,e0⟩ | ⟨i,hi,e0⟩
                · exact xi.dis r j0 hlr h0 (e'.symm.trans e0.symm)
                · obtain ⟨li,hne⟩:=hlk i hi;exact hne (xi.sub.inj i r li hlr (e0.trans e'))
              have him:¬cc2.Im (cs.β r):=by
                rw [x2.im]; intro hm; have:=hbnd _ hm; have:=xi.far r hlr; omega
              obtain ⟨a1,a2⟩:=x2.stp.adopt (b:=cs.β r) (cs:=c2) (xi.far r hlr) ho (.cells c2 false arr e (by omega) fun j x v hx hv'=>by
                refine r2.2 j x v hx ?_;have hj:=(fU.1 hx).1;rw [iK,aH (by omega)]
                simpa using hv') hnl him
              refine ⟨cc2.set hc2.n (cs.β r),⟨x2.sub,a1,x2.far,?_,x2.im⟩,?_,ev2.trans a2,n2,fun i hi=>(hlk i (l2 i hi)).1,?_⟩
              · intro i j hi hj e';by_cases ej:j=hc2.n
                · rw [ej,Cx.set_same] at e';obtain ⟨li,hne⟩:=hlk i (l2 i hi);exact hne (xi.sub.inj i r li hlr e')
                · obtain ⟨x,hx,hlx⟩:=hj;rw [H.f_push,aC ej] at hx;rw [Cx.set_lt cc2 (x2.stp.rel.bound j x hx)] at e';exact x2.dis i j hi ⟨x,hx,hlx⟩ e'
              · cases hv with
                | slc _ _ _ _ _ cap' hr hcap hle hshape =>
                  have:=VR.slc (c:=cc2.set hc2.n (cs.β r)) (n:=hc2.n+1) (w:=w') k hc2.n off len cap cap' (gO _) hcap hle (by rw [Cx.set_same]; exact hshape);rw [Cx.set_same] at this;exact this
              · intro j hj;by_cases ej:j=hc2.n
                · exact .inr ⟨r,hlr,by rw [ej,Cx.set_same]⟩
                · obtain ⟨x,hx,hlx⟩:=hj;rw [H.f_push,aC ej] at hx;rw [Cx.set_lt cc2 (x2.stp.rel.bound j x hx)];rcases p2 j ⟨x,hx,hlx⟩ with ⟨j0,h0,e0⟩ | ⟨i,hi,e0⟩
                  · exact .inl ⟨j0,h0,e0⟩
                  · exact .inr ⟨i,(hlk i hi).1,e0⟩
          · cases hx
        · cases hx
      · rename_i cs0;split at hx
        · rename_i cs' hs2 hc2 e1;simp only [sI,pI] at hx;obtain ⟨rfl,rfl,rfl⟩:=hx;obtain ⟨us,rfl,hus⟩:=hv.agg_inv;obtain ⟨cc2,x2,r2,ev2,n2,l2,p2⟩:=ih.2 _ _ _ _ _ _ cc us e1 xi hus;exact ⟨cc2,x2,r2.agg,ev2,n2,l2,p2⟩
        · cases hx
      · rename_i cs0;split at hx
        · rename_i cs' hs2 hc2 e1;simp only [sI,pI] at hx;obtain ⟨rfl,rfl,rfl⟩:=hx;by_cases hne:cs0=[]
          · subst hne;simp only [xpL,sI,pI] at e1;obtain ⟨rfl,rfl,rfl⟩:=e1;cases hv with
            | tup _ vs q1 q2=>exact ⟨_,xi,.tup [] vs q1 (fun i x v hx=>by simp at hx),.refl _ _ _,rfl,fun _ h=>h,.refl⟩
            | undp a=>exact ⟨_,xi,.undp a,.refl _ _ _,rfl,fun _ h=>h,.refl⟩
            | unds a len cap=>exact ⟨_,xi,.unds a len cap,.refl _ _ _,rfl,fun _ h=>h,.refl⟩
          obtain ⟨us,rfl,hus⟩:=hv.tup_inv hne;obtain ⟨cc2,x2,r2,ev2,n2,l2,p2⟩:=ih.2 _ _ _ _ _ _ cc us e1 xi hus;exact ⟨cc2,x2,r2.tup,ev2,n2,l2,p2⟩
        · cases hx
      all_goals first
        | (cases hx; done)
        | (simp only [sI,pI] at hx
           obtain ⟨rfl,rfl,rfl⟩:=hx;cases hv;exact ⟨cc,xi,by constructor,.refl _ _ _,rfl,fun _ h=>h,.refl⟩))
theorem own_ok{c1 c2:Cx}{h1 hs:H}{w w':World}(r:Rel P c1 h1 w)(s:Stp P c1 H.empty w c2 hs w'):XI P c1 h1 w c2 c1 hs h1 w':=by
 have hno:∀i,¬bR H.empty i:=by rintro i ⟨x,hx,_⟩; cases hx
 have hold:∀b,b < w.heap.size→w'.heap[b]?=w.heap[b]?:=fun b hb=>s.fr.old b hb fun i hi=>absurd hi (hno i)
 have hlt:∀(k:Nat) {x:Obj},w.heap[k]?=some x→k < w.heap.size:=fun k x hx=>(gJ.1 hx).1
 have hE:Evo c1 h1.n w c1 h1.n w':=⟨aV _,fun _ _=>rfl,fun _ h=>h,fun b hb=>hold b (r.imlt b hb),s.evo.shape,s.evo.lp⟩;refine ⟨s.rel,⟨⟨r.bound,fun i b hb=>?_,r.inj,r.notIm,r.ro,fun b hb=>dD (r.imlt b hb) s.fr.size⟩,hE,⟨s.fr.size,fun b hb _=>hold b hb,fun i hi=>.inl ⟨i,hi,rfl⟩,fun _ h=>.inl h,s.fr.fz,s.fr.outs⟩⟩,fun i hi=>?_,fun i j hi hj e=>?_,rfl⟩
 ·rcases r.blk i b hb with hd | ⟨o,ho,hbr⟩
  ·exact .inl hd
  ·exact .inr ⟨o,by rw [hold _ (hlt _ ho)]; exact ho,hbr.evo hE⟩
 ·rcases s.fr.live i hi with ⟨j,hj,_⟩ | hge
  ·exact absurd hj (hno j)
  ·exact hge
 ·rcases s.fr.live i hi with ⟨j,hj,_⟩ | hge
  ·exact absurd hj (hno j)
  ·obtain ⟨x,hx,hlx⟩:=hj;have:=r.lt hx (by rintro rfl; cases hlx);omega
theorem uz{c:Cx}{n:Nat}{w:World}:∀(ps:List Nat) (vs:List CV) (us:List Value) (env env':List CV) (tmps:Array Value),gv env ps vs=some env'→VRs c n w env tmps.toList→VRs c n w vs us →
  us.length=ps.length∧VRs c n w env' ((ps.zip us).foldl (fun (t:Array Value) (p:Nat × Value)=>t.setIfInBounds p.1 p.2) tmps).toList
 | [],[],us,env,env',tmps,h,he,hv=>by
  simp only [gv,sI] at h; subst h;have:us=[]:=jQ hv.1.symm;subst this;exact ⟨rfl,he⟩
 | [],_::_,_,_,_,_,h,_,_=>by simp [gv] at h
 | _::_,[],_,_,_,_,h,_,_=>by simp [gv] at h
 | p::ps,v::vs,us,env,env',tmps,h,he,hv=>by
  cases us with
  | nil=>have:=hv.1; simp at this
  | cons u us =>
   simp only [gv] at h;have h1:VR c n w v u:=hv.2 0 v u rfl rfl;have h2:VRs c n w vs us:=⟨by simpa using hv.1,fun i x y hx hy=>hv.2 (i+1) x y (by simpa using hx) (by simpa using hy)⟩;have he2:VRs c n w (aL env p v) (tmps.setIfInBounds p u).toList:=dC.put (tmps:=tmps) he h1 p;obtain ⟨g1,g2⟩:=uz ps vs us _ env' _ h he2 h2;exact ⟨by simp [g1],by simpa using g2⟩
theorem qCL{l:LoopState}(h:stR .ready l):l=.ready:=by cases l<;>first | rfl | cases h
theorem qGD{call:Tgt→List CV→H→Option (CV × H)}(hcall:ki P call)(nn s0:Nat){F:Fence}(hF:iT F)(code:Code)(ic:IC)(hc:cY P code=some ic){env:List CV}{h:H}{c:Cx}{w:World}{a:Act}{ex:Ex}{env':List CV}{h':H}{Q:Exit→Act→World→Prop}
  (hl:∀l,F.round=some l→(w.heap[l]?).map na=some true) (hs0:s0≤w.heap.size) (r:Rel P c h w) (he:dC c h.n w env a.tmps) (hm:kg s0 c h w a.defers) (hs:exec call nn ic env h=some (ex,env',h'))
  (hQ:∀c' w' a',Stp P c h w c' h' w'→dC c' h'.n w' env' a'.tmps→kg s0 c' h' w' a'.defers→Q (wV ex) a' w'):code.wpIn F 0 P Q a w:=by
 refine dp hcall nn 0 s0 hF (fun id ops draw ic env h c w a ex env' h' Q hc r he hs hQ=>?_) code ic hc env h c w a ex env' h' Q hl hs0 r he hm hs hQ;refine mO hcall nn 0 hF id ops draw ic env h c w a ex env' h' Q hc r he hs fun c' w' a' s he' hd=>?_
 have:=hQ c' w' a' s he' hd;cases ex with
 | nor=>exact this
 | jmp j=>cases j<;>exact this
theorem qCT{tbl:Nat→Option IF}(ht:xS P tbl):∀n,ki P (run tbl n):=by
 intro n
 induction n with
 | zero=>intro t args h x h' hs; cases t<;>cases hs
 | succ n ih =>
  intro t args h x h' hs c w vs r hv;cases t with
  | fn f =>
   simp only [run] at hs;split at hs
   ·rename_i F hF;obtain ⟨fn,cd,g1,g2,g3,g4,g5,g6,g7⟩:=ht f F hF;refine ⟨⟨fn,g1,by rw [g2]; rfl,g3⟩,?_⟩;split at hs
    ·
     split at hs
     ·rename_i args' h1 hz;split at hs
      ·cases hs
      ·rename_i hcl;have hcl:iD args'=true:=by simpa using hcl
       split at hs
       ·rename_i v hsub hb;split at hs
        ·rename_i v2 hs2 h2 hx;simp only [sI,pI] at hs;obtain ⟨rfl,rfl⟩:=hs;obtain ⟨c1,s1,r1⟩:=(uT (P:=P) (w:=w) 20).2 _ _ _ _ _ _ hz r hv;have rE:Rel P c1 H.empty w:=⟨fun i b hb=>(by cases hb),fun i b hb=>(by cases hb),fun i j hi=>(by obtain ⟨x,hx,_⟩:=hi; cases hx),fun i hi=>(by obtain ⟨x,hx,_⟩:=hi; cases hx),fun i cs hb=>(by cases hb),s1.rel.imlt⟩;refine (rC ih n g1 g2 g4 g5 g6 hb rE (qLS hcl r1)).mono ?_;rintro (v' | _ | _) w' hR
         ·obtain ⟨c2,s2,hv2⟩:=hR;obtain ⟨c3,x3,hv3,_⟩:=(xp_ok (P:=P) s1.rel.imlt 20).1 _ _ _ _ _ _ _ _ hx (own_ok s1.rel s2) hv2;exact ⟨c3,s1.trans x3.stp,hv3⟩
         ·exact hR.elim
         ·exact hR.elim
        ·cases hs
       ·cases hs
     ·cases hs
    ·cases hbg:Nat.beq F.mode 3&&big args with
     | true =>
      rw [hbg] at hs
      dsimp only at hs
      simp only [aT] at hbg;split at hs
      ·rename_i h1 hs1;simp only [sI,pI] at hs;obtain ⟨rfl,rfl⟩:=hs;exact srt_ok r hv (g7 (nQ hbg.1)) hbg.2 hs1
      ·cases hs
     | false =>
     rw [hbg] at hs
     dsimp only at hs
     split at hs
     ·rename_i v h1 hb;refine (rC ih n g1 g2 g4 g5 g6 hb r hv).mono ?_;rintro (v' | _ | _) w' hR
      ·obtain ⟨c1,s1,hv1⟩:=hR;split at hs
       ·obtain ⟨c2,s2,hv2⟩:=(uT (P:=P) (w:=w') 20).1 _ _ _ _ _ _ hs s1.rel hv1;exact ⟨c2,s1.trans s2,hv2⟩
       ·simp only [sI,pI] at hs;obtain ⟨rfl,rfl⟩:=hs;exact ⟨c1,s1,hv1⟩
      ·exact hR.elim
      ·exact hR.elim
     ·cases hs
   ·cases hs
  | yl l =>
   simp only [run] at hs;split at hs
   ·rename_i pend env ps ia ib hb;split at hs
    ·rename_i env1 hps;obtain ⟨o,ho,hbr⟩:=r.obj hb (by simp);cases hbr with
     | loop _ _ _ _ _ _ lp hst hpend he hparams ha hbb =>
      obtain ⟨q1,q2⟩:=uz _ _ _ _ _ _ hps he hv;refine ⟨lp,ho,by rw [q1,←hparams]; simp,?_⟩;cases hx:exec (run tbl n) n ia env1 h with
      | none=>rw [hx] at hs; cases hs
      | some z =>
       obtain ⟨e1,env2,h1⟩:=z;rw [hx] at hs;cases e1 with
       | jmp j=>cases hs
       | nor =>
        dsimp only at hs
        split at hs
        ·rename_i pend2 env0 ps2 a2 b2 hb2;split at hs
         ·rename_i e3 env3 h3 hx2;split at hs
          ·rename_i st4 pend4 env4 ps4 a4 b4 hb4;have hyt:ul lp vs.toArray=(ps.zip vs).foldl (fun (t:Array Value) (p:Nat × Value)=>t.setIfInBounds p.1 p.2) lp.tmps:=by
            unfold ul;rw [←hparams];cases hp:lp.params with
            | mk pl=>simp
           refine roundIn_of_wpIn trivial ?_;refine qGD ih n w.heap.size (.inr ⟨_,rfl⟩) lp.assign ia ha (fun l' e=>by cases e; rw [ho]; rfl) (aV _) r (by rw [hyt]; exact q2) (.nil _) hx fun c1 w1 a1 s1 he1 hm1=>?_
           obtain ⟨o1,ho1,hbr1⟩:=s1.rel.obj hb2 (by simp);have hln:l < h.n:=r.bound l _ hb;have hbeta1:=s1.evo.beta l hln;cases hbr1 with
           | loop _ _ _ _ _ _ l1 hst1 hpend1 he01 hps1 ha1 hb1 =>
            rw [hbeta1] at ho1;have hlt1:=(gJ.1 ho1).1;have hrd:=qCL hst1;have hgo:(getObj (c.β l)).run P w1=.ok (.loop l1) w1:=by simp [getObj,Sem.run,ho1]
            have hset:(setObj (c.β l) (.loop { l1 with state:=.busy })).run P w1=.ok () { w1 with heap:=w1.heap.setIfInBounds (c.β l) (.loop { l1 with state:=.busy }) }:=by simp [setObj,Sem.run,ho1]
            have s2:Stp P c1 h1 w1 c1 (h1.put l (.loop .busy pend2 env0 ps2 a2 b2)) { w1 with heap:=w1.heap.setIfInBounds (c.β l) (.loop { l1 with state:=.busy }) }:=by
             refine Stp.put (o₀:=.loop l1) (o:=.loop { l1 with state:=.busy }) s1.rel hb2 rfl (by rw [hbeta1]; exact ho1) (by simp) (by rw [hbeta1]; simp [hlt1]) (fun k hk=>?_) rfl rfl (.loop _ _ _ _ _ _ _ trivial hpend1 he01 hps1 ha1 hb1);rw [hbeta1] at hk;simp [nJ,Ne.symm hk]
            refine ⟨{ w1 with heap:=w1.heap.setIfInBounds (c.β l) (.loop { l1 with state:=.busy }) },by simp [Instr.beginRound,Instr.getLoop,hgo,hset,hrd],?_⟩;refine qGD ih n w.heap.size (.inr ⟨_,rfl⟩) lp.body ib hbb (fun l' e=>by cases e; simp [hlt1,na]) (by simpa using s1.fr.size) s2.rel (he1.evo s2.evo) (hm1.stp s2) hx2 fun c3 w3 a3 s3 he3 hm3=>?_
            obtain ⟨o4,ho4,hbr4⟩:=s3.rel.obj hb4 (by simp);have hln1:l < h1.n:=dD hln s1.evo.le;have hbeta3:c3.β l=c.β l:=(s3.evo.beta l hln1).trans hbeta1;cases hbr4 with
            | loop _ _ _ _ _ _ l4 hst4 hpend4 he4 hps4 ha4 hb4' =>
             rw [hbeta3] at ho4;have hlt4:=(gJ.1 ho4).1;have hgo4:(getObj (c.β l)).run P w3=.ok (.loop l4) w3:=by simp [getObj,Sem.run,ho4]
             have hset4:∀lx,(setObj (c.β l) (.loop lx)).run P w3=.ok () { w3 with heap:=w3.heap.setIfInBounds (c.β l) (.loop lx) }:=fun lx=>by simp [setObj,Sem.run,ho4]
             have hput:∀(st:LSt) (ls:LoopState) (pj:Option Jump),stR st ls→Stp P c3 h3 w3 c3 (h3.put l (.loop st pj env4 ps4 a4 b4)) { w3 with heap:=w3.heap.setIfInBounds (c.β l) (.loop { l4 with state:=ls,pending:=pj.map wE }) }:=by
              intro st ls pj hsl;refine Stp.put (o₀:=.loop l4) (o:=.loop { l4 with state:=ls,pending:=pj.map wE }) s3.rel hb4 rfl (by rw [hbeta3]; exact ho4) (by simp) (by rw [hbeta3]; simp [hlt4]) (fun k hk=>?_) rfl rfl (.loop _ _ _ _ _ _ _ hsl rfl he4 hps4 ha4 hb4');rw [hbeta3] at hk;simp [nJ,Ne.symm hk]
             have s123:=(s1.trans s2).trans s3;cases e3 with
             | nor =>
              simp only [sI,pI] at hs;obtain ⟨rfl,rfl⟩:=hs;refine ⟨.bool true,{ w3 with heap:=w3.heap.setIfInBounds (c.β l) (.loop { l4 with state:=.ready,pending:=none }) },?_,c3,s123.trans (hput .ready .ready none trivial),.bool true⟩;simp [Instr.endRound,Instr.getLoop,hgo4,hset4]
             | jmp j =>
              simp only [sI,pI] at hs;obtain ⟨rfl,rfl⟩:=hs;have hend:(Instr.endRound (c.β l) (some (wE j))).run P w3=.ok (.bool false) { w3 with heap:=w3.heap.setIfInBounds (c.β l) (.loop { l4 with state:=.done,pending:=some (wE j) }) }:=by
               simp [Instr.endRound,Instr.getLoop,hgo4,hset4]
              cases j with
              | ret=>exact ⟨_,_,hend,c3,s123.trans (hput .done .done (some .ret) trivial),.bool false⟩
              | exit i=>exact ⟨_,_,hend,c3,s123.trans (hput .done .done (some (.exit i)) trivial),.bool false⟩
          ·cases hs
         ·cases hs
        ·cases hs
    ·cases hs
   ·cases hs
end Ce
namespace Ce
open Go Go.RowKit
variable {P:Program}
def c0(W:World):Cx:=⟨fun _=>0,fun b=>b < W.heap.size⟩
theorem rel0(W:World):Rel P (c0 W) H.empty W where
 bound:=fun i b hb=>by cases hb
 blk:=fun i b hb=>by cases hb
 inj:=fun i j hi=>by obtain ⟨x,hx,_⟩:=hi; cases hx
 notIm:=fun i hi=>by obtain ⟨x,hx,_⟩:=hi; cases hx
 ro:=fun i cs hb=>by cases hb
 imlt:=fun b hb=>hb
def r5(W w':World):Prop:=W.keptBut w' (fun _=>False)∧(∀a,a.block < W.heap.size→w'.frozen? a=W.frozen? a)∧W.heap.size≤w'.heap.size
theorem qL1{W w':World}{c':Cx}{h':H}(s:Stp P (c0 W) H.empty W c' h' w'):r5 W w':=by
 have hno:∀i,¬bR H.empty i:=by rintro i ⟨x,hx,_⟩; cases hx
 refine ⟨⟨s.fr.outs.1,s.fr.outs.2,fun i hi=>?_⟩,fun a ha=>by rw [sg,sg,s.fr.fz _ ha],s.fr.size⟩;rw [s.fr.old i hi fun j hj=>absurd hj (hno j)];cases W.heap[i]? with
 | none=>rfl
 | some o=>cases o<;>first | exact ⟨rfl,rfl,rfl,fun _ _=>rfl⟩ | exact .inr ⟨rfl,rfl⟩ | rfl
theorem qDL{tbl:Nat→Option IF}(ht:xS P tbl){n f:Nat}{args:List CV}{x:CV}{h':H}(hs:run tbl n (.fn f) args H.empty=some (x,h')){W:World}{vs:List Value}(hv:VRs (c0 W) 0 W args vs) :
  Calls P f vs.toArray W fun e w'=>∃v c',e=.returned v∧VR c' h'.n w' x v∧r5 W w':=by
 obtain ⟨_,hc⟩:=qCT ht n (.fn f) args H.empty x h' hs (c0 W) W vs (rel0 W) hv;refine (callsIn_wide.1 hc).mono ?_;rintro (v | _ | _) w' hR
 ·obtain ⟨c',s,hx⟩:=hR; exact ⟨v,c',rfl,hx,qL1 s⟩
 ·exact hR.elim
 ·exact hR.elim
end Ce
namespace Ce
open Go
def qJ0(P:Program)(modes:Nat→Nat)(f:Nat):Option IF :=
 match P.funcs[f]? with
 | some fn=>if fn.name == "runtime.NumGoroutine" then none else match qM9 P f with
  | some F=>some { F with mode:=modes f }
  | none=>none
 | none=>none
theorem qIZ(P:Program)(modes:Nat→Nat)(h3:∀f,modes f=3→oi P f):xS P (qJ0 P modes):=by
 intro f F h;unfold qJ0 at h;split at h
 ·rename_i fn hf;split at h
  ·cases h
  ·rename_i hn;split at h
   ·rename_i F' hF;simp only [sI] at h; subst h;unfold qM9 at hF;rw [hf] at hF
    dsimp only at hF
    split at hF
    ·rename_i cd hb;split at hF
     ·rename_i b r hb' hr;simp only [sI] at hF; subst hF;exact ⟨fn,cd,hf,hb,by simpa using hn,hb',hr,rfl,h3 f⟩
     ·cases hF
    ·cases hF
   ·cases h
 ·cases h
end Ce
namespace Ce
noncomputable section
open Go
def Tr.put{α:Type}(v:α):Nat→Tr α→Nat→Tr α
 | 0,t,_=>t
 | f+1,.nil,i=>if i=0 then .node .nil (some v) .nil else if i % 2=1 then .node (Tr.put v f .nil (i / 2)) none .nil else .node .nil none (Tr.put v f .nil (i / 2 - 1))
 | f+1,.node l x r,i=>if i=0 then .node l (some v) r else if i % 2=1 then .node (Tr.put v f l (i / 2)) x r else .node l x (Tr.put v f r (i / 2 - 1))
theorem Tr.get_put{α:Type}(v:α):∀(f:Nat) (t:Tr α) (i j:Nat),i < f→(Tr.put v f t i).get j=if j=i then some v else t.get j
 | 0,t,i,j,h=>by omega
 | f+1,.nil,i,j,h=>by
  simp only [Tr.put];split
  ·rename_i e; subst e;simp only [Tr.get];split<;>simp_all
  ·split
   ·rename_i e1 e2;simp only [Tr.get];rw [Tr.get_put v f .nil (i / 2) (j / 2) (by omega)];by_cases hj0:j=0
    ·subst hj0; rw [aH rfl,aC (by omega)]
    ·rw [aC hj0];by_cases hj1:j % 2=1
     ·rw [aH hj1];by_cases hij:j=i
      ·rw [aH (by omega),aH hij]
      ·rw [aC (by omega),aC hij]; simp only [Tr.get]
     ·rw [aC hj1,aC (by omega)]
   ·rename_i e1 e2;simp only [Tr.get];rw [Tr.get_put v f .nil (i / 2 - 1) (j / 2 - 1) (by omega)];by_cases hj0:j=0
    ·subst hj0; rw [aH rfl,aC (by omega)]
    ·rw [aC hj0];by_cases hj1:j % 2=1
     ·rw [aH hj1,aC (by omega)]
     ·rw [aC hj1];by_cases hij:j=i
      ·rw [aH (by omega),aH hij]
      ·rw [aC (by omega),aC hij]; simp only [Tr.get]
 | f+1,.node l x r,i,j,h=>by
  simp only [Tr.put];split
  ·rename_i e; subst e;simp only [Tr.get];split<;>simp_all
  ·split
   ·rename_i e1 e2;simp only [Tr.get];rw [Tr.get_put v f l (i / 2) (j / 2) (by omega)];by_cases hj0:j=0
    ·subst hj0; rw [aH rfl,aC (by omega),aH rfl]
    ·rw [aC hj0,aC hj0];by_cases hj1:j % 2=1
     ·rw [aH hj1,aH hj1];by_cases hij:j=i
      ·rw [aH (by omega),aH hij]
      ·rw [aC (by omega),aC hij]
     ·rw [aC hj1,aC (by omega),aC hj1]
   ·rename_i e1 e2;simp only [Tr.get];rw [Tr.get_put v f r (i / 2 - 1) (j / 2 - 1) (by omega)];by_cases hj0:j=0
    ·subst hj0; rw [aH rfl,aC (by omega),aH rfl]
    ·rw [aC hj0,aC hj0];by_cases hj1:j % 2=1
     ·rw [aH hj1,aC (by omega),aH hj1]
     ·rw [aC hj1,aC hj1];by_cases hij:j=i
      ·rw [aH (by omega),aH hij]
      ·rw [aC (by omega),aC hij]
structure HK where
 n:Nat
 t:Tr Blk
namespace HK
def get(h:HK)(i:Nat):Option Blk:=h.t.get i
def put(h:HK)(i:Nat)(b:Blk):HK:=⟨h.n,Tr.put b (i+1) h.t i⟩
def push(h:HK)(b:Blk):HK:=⟨h.n+1,Tr.put b (h.n+1) h.t h.n⟩
def empty:HK:=⟨0,.nil⟩
end HK
def φ(h:HK):H:=⟨h.n,h.t.get⟩
theorem φ_put(h:HK)(i:Nat)(b:Blk):φ (h.put i b)=(φ h).put i b:=by
 simp only [φ,HK.put,H.put]; congr 1; funext j; exact Tr.get_put b (i+1) h.t i j (by omega)
theorem φ_push(h:HK)(b:Blk):φ (h.push b)=(φ h).push b:=by
 simp only [φ,HK.push,H.push]; congr 1; funext j; exact Tr.get_put b (h.n+1) h.t h.n j (by omega)
theorem φ_empty:φ HK.empty=H.empty:=by simp only [φ,HK.empty,H.empty]; congr 1
namespace K
def cellsOf(k n:Nat)(h:HK):CV→Option (List CV)
 | .nils=>if n=0 then some [] else none
 | .slc _ r off len _=>if n≤len then (match h.get r with
  | some (.cells c _)=>cut? c off (n*k)
  | _=>none) else none
 | .lst rows _=>if n≤rows.length&&eO k (rows.take n) then some (bo (rows.take n)) else none
 | _=>none
def slA(hp:HK)(x:CV)(n k:Nat)(lo hi mx:Option CV):Option CV :=
 match x with
 | .ptr r off =>
  match hp.get r with
  | some (.cells c _) =>
   if off+n*k≤c.length then
    match bnd mx n n with
    | none=>none
    | some m=>match bnd hi n m with
     | none=>none
     | some h=>match bnd lo 0 h with
      | none=>none
      | some l=>if h≤m then some (.slc k r (if m=l then off else off+l*k) (h - l) (some (m - l))) else none
   else none
  | _=>none
 | _=>none
def frzL(f:CV→HK→Option (CV × HK)):List CV→HK→Option (List CV × HK)
 | [],h=>some ([],h)
 | v::vs,h=>match f v h with
  | some (v,h)=>match frzL f vs h with
   | some (vs,h)=>some (v::vs,h)
   | none=>none
  | none=>none
def frz:Nat→CV→HK→Option (CV × HK)
 | 0,_,_=>none
 | n+1,v,h =>
  match v with
  | .slc k r off len _=>match h.get r with
   | some (.cells c _)=>match cut? c off (len*k) with
    | some cs=>match frzL (frz n) cs (h.put r (.cells c true)) with
     | some (cs,h)=>some (.lst (cP k len cs) false,h)
     | none=>none
    | none=>none
   | _=>none
  | .agg cs=>match frzL (frz n) cs h with
   | some (cs,h)=>some (.agg cs,h)
   | none=>none
  | .tup cs=>match frzL (frz n) cs h with
   | some (cs,h)=>some (.tup cs,h)
   | none=>none
  | v=>some (v,h)
def xpL(f:CV→HK × HK→Option (CV × HK × HK)):List CV→HK × HK→Option (List CV × HK × HK)
 | [],h=>some ([],h)
 | v::vs,h=>match f v h with
  | some (v,h)=>match xpL f vs h with
   | some (vs,h)=>some (v::vs,h)
   | none=>none
  | none=>none
def xp:Nat→CV→HK × HK→Option (CV × HK × HK)
 | 0,_,_=>none
 | n+1,v,h =>
  match v with
  | .slc k r off len cap=>match h.1.get r with
   | some (.cells c false)=>match xpL (xp n) c (h.1.put r .dead,h.2) with
    | some (c,hs,hc)=>some (.slc k hc.n off len cap,hs,hc.push (.cells c false))
    | none=>none
   | _=>none
  | .agg cs=>match xpL (xp n) cs h with
   | some (cs,h)=>some (.agg cs,h)
   | none=>none
  | .tup cs=>match xpL (xp n) cs h with
   | some (cs,h)=>some (.tup cs,h)
   | none=>none
  | .bool b=>some (.bool b,h)
  | .int k m=>some (.int k m,h)
  | .str s=>some (.str s,h)
  | .nilp=>some (.nilp,h)
  | .nils=>some (.nils,h)
  | .nilm=>some (.nilm,h)
  | .nilf=>some (.nilf,h)
  | .nili=>some (.nili,h)
  | _=>none
def ldV(ag:Option Nat)(a:CV)(h:HK):Option CV :=
 match a with
 | .ptr r off=>match h.get r with
  | some (.cells c _)=>cO ag c off
  | _=>none
 | .rptr c=>cO ag c 0
 | _=>none
def stV(n:Nat)(a x:CV)(h:HK):Option HK :=
 match a with
 | .ptr r off=>match h.get r with
  | some (.cells c false)=>if x.cells.length=n&&off+n≤c.length&&aM x.cells then some (h.put r (.cells (splice c off x.cells) false)) else none
  | _=>none
 | _=>none
def newC(c:List CV)(h:HK):CV × HK:=(.ptr h.n 0,h.push (.cells c false))
def appV(k bytes:Nat)(s x:CV)(h:HK):Option (CV × HK) :=
 match lenOf s,lenOf x with
 | some sl,some n =>
  if n=0 then some (s,h) else
  if (sl+n)*(bytes+1)>2 ^ 46 then none else
  match cellsOf k n h x with
  | none=>none
  | some new =>
   if aM new=false then none else
   match s with
   | .nils=>some (.slc k h.n 0 n none,h.push (.cells new false))
   | .lst rows true=>if eO k rows then some (.slc k h.n 0 (sl+n) none,h.push (.cells (bo rows++new) false)) else none
   | .slc k' r off len (some c) =>
    if k'≠k then none else
    match h.get r with
    | some (.cells cs ro) =>
     if len+n≤c then
      if ro then none else
      if off+(len+n)*k≤cs.length then some (.slc k r off (len+n) (some c),h.put r (.cells (splice cs (off+len*k) new) false)) else none
     else match cut? cs off (len*k) with
      | some old=>some (.slc k h.n 0 (len+n) none,h.push (.cells (old++new) false))
      | none=>none
    | _=>none
   | .slc k' r off len none =>
    if k'≠k then none else
    match h.get r with
    | some (.cells cs false)=>if off=0&&len*k=cs.length then some (.slc k h.n 0 (len+n) none,(h.put r .dead).push (.cells (cs++new) false)) else none
    | _=>none
   | _=>none
 | _,_=>none
def fzX(x:CV)(h:HK):Option HK :=
 match x with
 | .slc _ r _ _ _=>match h.get r with
  | some (.cells [.slc a b c d e] false)=>match frz 20 (.slc a b c d e) h with
   | some (v,h1)=>match h1.get r with
    | some (.cells [_] false)=>some (h1.put r (.cells [v] false))
    | _=>none
   | none=>none
  | some _=>some h
  | none=>none
 | _=>some h
def appW(k bytes:Nat)(s x:CV)(h:HK):Option (CV × HK) :=
 match Nat.beq bytes 24&&Nat.beq k 1 with
 | true=>match fzX x h with
  | some h=>appV k bytes s x h
  | none=>none
 | false=>appV k bytes s x h
def cpyV(k:Nat)(d s:CV)(h:HK):Option (CV × HK) :=
 match lenOf d,lenOf s with
 | some dl,some sl =>
  let n:=min sl dl
  if n=0 then some (.int .i64 0,h) else
  match cellsOf k n h s,d with
  | some new,.slc _ r off _ _=>match h.get r with
   | some (.cells cs false)=>if off+n*k≤cs.length&&aM new then some (.int .i64 n,h.put r (.cells (splice cs off new) false)) else none
   | _=>none
  | _,_=>none
 | _,_=>none
def mkslV(k bytes:Nat)(zero:List CV)(l c:CV)(h:HK):Option (CV × HK) :=
 match l,c with
 | .int _ l,.int _ c=>if 0≤l∧l≤c∧c*(bytes+1)≤2 ^ 40 then some (.slc k h.n 0 l.toNat (some c.toNat),h.push (.cells (dQ zero c.toNat) false)) else none
 | _,_=>none
def lkuV(ag:Bool)(ls:List Lf)(z x i:CV)(ok:Bool)(h:HK):Option CV :=
 if kOk ag ls i then (match x with
  | .nilm=>some (if ok then .tup [z,.bool false] else z)
  | .map r=>match h.get r with
   | some (.map es _)=>match bp es i with
    | some (some (v,_))=>some (if ok then .tup [v,.bool true] else v)
    | some none=>some (if ok then .tup [z,.bool false] else z)
    | none=>none
   | _=>none
  | _=>none) else none
def stepO(call:Tgt→List CV→HK→Option (CV × HK))(o:Ins)(env:List CV)(h:HK):Option (CV × HK) :=
 match o with
 | .mov x=>some (x.ev env,h)
 | .pick c a b=>match c.ev env with
  | .bool true=>some (a.ev env,h)
  | .bool false=>some (b.ev env,h)
  | _=>none
 | .alloc z=>some (newC z h)
 | .box x=>let v:=x.ev env
  if aM v.cells then some (newC v.cells h) else none
 | .build z ps=>match cG z env ps with
  | some c=>some (.agg c,h)
  | none=>none
 | .bsl k z len ps=>match gU k (dQ z len) env ps with
  | some c=>some (.slc k h.n 0 len (some len),h.push (.cells c false))
  | none=>none
 | .ld g a=>match ldV g (a.ev env) h with
  | some v=>some (v,h)
  | none=>none
 | .st n a x=>match stV n (a.ev env) (x.ev env) h with
  | some h=>some (undef,h)
  | none=>none
 | .nilck x=>match x.ev env with
  | .nilp | .nili | .nilf=>none
  | v=>some (v,h)
 | .bin op x y=>match bin op (x.ev env) (y.ev env) with
  | some v=>some (v,h)
  | none=>none
 | .eqo neg e x y=>match eqK e (x.ev env) (y.ev env) with
  | some b=>some (.bool (if neg then !b else b),h)
  | none=>none
 | .un op x=>match un op (x.ev env) with
  | some v=>some (v,h)
  | none=>none
 | .cvi k x=>match x.ev env with
  | .int _ n=>some (.int k (k.wrap n),h)
  | _=>none
 | .cvid x=>match x.ev env with
  | .str s=>some (.str s,h)
  | _=>none
 | .mkf f a b=>some (.clo f (evs env a) (evs env b),h)
 | .mkmap=>some (.map h.n,h.push (.map [] 0))
 | .mksl k bytes z l c=>mkslV k bytes z (l.ev env) (c.ev env) h
 | .slA n k x lo hi mx=>match slA h (x.ev env) n k (Opd.evo env lo) (Opd.evo env hi) (Opd.evo env mx) with
  | some v=>some (v,h)
  | none=>none
 | .slS k x lo hi mx=>match slS (x.ev env) k (Opd.evo env lo) (Opd.evo env hi) (Opd.evo env mx) with
  | some v=>some (v,h)
  | none=>none
 | .slT x lo hi=>match x.ev env with
  | .str s=>match bnd (Opd.evo env hi) s.size s.size with
   | some b=>match bnd (Opd.evo env lo) 0 b with
    | some a=>some (.str (s.extract a b),h)
    | none=>none
   | none=>none
  | _=>none
 | .fad off x=>match x.ev env with
  | .ptr r o=>some (.ptr r (o+off),h)
  | .rptr c=>some (.rptr (c.drop off),h)
  | _=>none
 | .fld off g x=>match x.ev env with
  | .agg c=>match cO g c off with
   | some v=>some (v,h)
   | none=>none
  | _=>none
 | .iaS k x i=>match x.ev env,bf? (i.ev env) with
  | .slc _ r off len _,some i=>if i < len then some (.ptr r (off+i*k),h) else none
  | .lst rows _,some i=>match nth? rows i with
   | some row=>if row.length=k then some (.rptr row,h) else none
   | none=>none
  | _,_=>none
 | .iaA n k x i=>match x.ev env,bf? (i.ev env) with
  | .ptr r off,some i=>if i < n then some (.ptr r (off+i*k),h) else none
  | .rptr c,some i=>if i < n then some (.rptr (c.drop (i*k)),h) else none
  | _,_=>none
 | .ixA n k g x i=>match x.ev env,bf? (i.ev env) with
  | .agg c,some i=>if i < n then (match cO g c (i*k) with
   | some v=>some (v,h)
   | none=>none) else none
  | _,_=>none
 | .ixT x i=>match x.ev env,bf? (i.ev env) with
  | .str s,some i=>match s.data.toList[i]? with
   | some b=>some (.int .u8 b.toNat,h)
   | none=>none
  | _,_=>none
 | .lku ag ls z x i ok=>match lkuV ag ls z (x.ev env) (i.ev env) ok h with
  | some v=>some (v,h)
  | none=>none
 | .mset ag ls m k v=>if kOk ag ls (k.ev env) then (match m.ev env with
  | .map r=>match frz 20 (v.ev env) h with
   | some (v,h)=>match h.get r with
    | some (.map es cl)=>match bp es (k.ev env) with
     | some (some _)=>some (undef,h.put r (.map (ra es (k.ev env) v) cl))
     | some none=>some (undef,h.put r (.map (es++[(k.ev env,v,cl)]) (cl+1)))
     | none=>none
    | _=>none
   | none=>none
  | _=>none) else none
 | .ment ag ls z m k=>if kOk ag ls (k.ev env) then (match m.ev env with
  | .map r=>match h.get r with
   | some (.map es cl)=>match bp es (k.ev env) with
    | some (some (v,b))=>some (.tup [v,.int .i64 b],h)
    | some none=>some (.tup [z,.int .i64 cl],h.put r (.map (es++[(k.ev env,z,cl)]) (cl+1)))
    | none=>none
   | _=>none
  | _=>none) else none
 | .msto m s v=>match m.ev env,s.ev env with
  | .map r,.int _ b=>match h.get r with
   | some (.map es cl)=>match qCO es b (v.ev env) with
    | some es=>some (undef,h.put r (.map es cl))
    | none=>none
   | _=>none
  | _,_=>none
 | .rngT x=>match x.ev env with
  | .str s=>some (.ptr h.n 0,h.push (.sit s 0))
  | _=>none
 | .nxtT it=>match it.ev env with
  | .ptr r 0=>match h.get r with
   | some (.sit s pos)=>if pos < s.size then
     let d:=Utf8.decode s pos
     some (.tup [.bool true,.int .i64 pos,.int .i32 d.1],h.put r (.sit s (pos+d.2)))
    else some (.tup [.bool false],h)
   | _=>none
  | _=>none
 | .ext t i=>match t.ev env with
  | .tup vs=>match nth? vs i with
   | some v=>some (v,h)
   | none=>none
  | _=>none
 | .app k bytes s x=>appW k bytes (s.ev env) (x.ev env) h
 | .lenS x=>match lenOf (x.ev env) with
  | some n=>some (.int .i64 n,h)
  | none=>none
 | .lenT x=>match x.ev env with
  | .str s=>some (.int .i64 s.size,h)
  | _=>none
 | .lenA n=>some (.int .i64 n,h)
 | .lenM x=>match x.ev env with
  | .nilm=>some (.int .i64 0,h)
  | .map r=>match h.get r with
   | some (.map es _)=>some (.int .i64 es.length,h)
   | _=>none
  | _=>none
 | .cpy k d s=>cpyV k (d.ev env) (s.ev env) h
 | .mn xs=>match mnL (evs env xs) with
  | some v=>some (v,h)
  | none=>none
 | .mx xs=>match mxL (evs env xs) with
  | some v=>some (v,h)
  | none=>none
 | .clr k z x=>match x.ev env with
  | .nilm | .nils=>some (.tup [],h)
  | .map r=>match h.get r with
   | some (.map _ cl)=>some (.tup [],h.put r (.map [] cl))
   | _=>none
  | .slc _ r off len _=>if len=0 then some (.tup [],h) else if k=0 then none else (match h.get r with
   | some (.cells cs false)=>if off+len*k≤cs.length&&aM z then some (.tup [],h.put r (.cells (splice cs off (dQ z len)) false)) else none
   | _=>none)
  | .lst [] _=>some (.tup [],h)
  | _=>none
 | .ckl g a x=>match ldV g (a.ev env) h with
  | some v=>if bA v (x.ev env) then some (undef,h) else none
  | none=>none
 | .cku ag ls z x i ok d=>match lkuV ag ls z (x.ev env) (i.ev env) ok h with
  | some v=>if bA v (d.ev env) then some (undef,h) else none
  | none=>none
 | .bad=>none
 | .callF f as=>call (.fn f) (evs env as) h
 | .callV f as=>match f.ev env with
  | .clo f a b=>call (.fn f) (a++evs env as++b) h
  | .yld r=>call (.yl r) (evs env as) h
  | _=>none
def noC:Tgt→List CV→HK→Option (CV × HK):=fun _ _ _=>none
def opsR(call:Tgt→List CV→HK→Option (CV × HK)):List IOp→List CV→HK→Option (List CV × HK)
 | [],env,h=>some (env,h)
 | o::os,env,h =>
  match grd o.guard env with
  | true=>match stepO call o.op env h with
   | some (v,h)=>opsR call os (put? env o.dst v) h
   | none=>none
  | false=>opsR call os (put? env o.dst undef) h
def loopR(body:List CV→HK→Option (Ex × List CV × HK)):Nat→List CV→HK→Option (Ex × List CV × HK)
 | 0,_,_=>none
 | n+1,env,h=>match body env h with
  | some (.nor,env,h)=>loopR body n env h
  | r=>r
def exec(call:Tgt→List CV→HK→Option (CV × HK))(n:Nat):IC→List CV→HK→Option (Ex × List CV × HK)
 | .skip,env,h=>some (.nor,env,h)
 | .ops l,env,h=>match opsR call l env h with
  | some (env,h)=>some (.nor,env,h)
  | none=>none
 | .seq a b,env,h=>match exec call n a env h with
  | some (.nor,env,h)=>exec call n b env h
  | r=>r
 | .cond x a b,env,h=>match x.ev env with
  | .bool true=>exec call n a env h
  | .bool false=>exec call n b env h
  | _=>none
 | .block id c,env,h=>match exec call n c env h with
  | some (.jmp (.exit i),env,h)=>if i=id then some (.nor,env,h) else some (.jmp (.exit i),env,h)
  | r=>r
 | .loop c,env,h=>loopR (exec call n c) n env h
 | .rangeF f ps a b,env,h =>
  let l:=h.n
  let h:=h.push (.loop .ready none env ps a b)
  let r:=match f.ev env with
   | .clo f x y=>call (.fn f) (x++[CV.yld l]++y) h
   | _=>none
  match r with
  | some (_,h)=>match h.get l with
   | some (.loop st pend env' ps' a' b') =>
    if st=LSt.busy then none else
    let h:=h.put l (.loop .exhausted pend env' ps' a' b')
    match pend with
    | none=>some (.nor,env,h)
    | some j=>some (.jmp j,env,h)
   | _=>none
  | none=>none
 | .exit id,env,h=>some (.jmp (.exit id),env,h)
 | .ret,env,h=>some (.jmp .ret,env,h)
def resV(rs:List IRes)(env:List CV)(h:HK):Option (List CV) :=
 match rs with
 | []=>some []
 | .tmp t::rs=>match resV rs env h with
  | some vs=>some (aR env t::vs)
  | none=>none
 | .cell t g::rs=>match ldV g (aR env t) h,resV rs env h with
  | some v,some vs=>some (v::vs)
  | _,_=>none
def bodyR(ex:List CV→HK→Option (Ex × List CV × HK))(F:IF)(args:List CV)(h:HK):Option (CV × HK) :=
 match ex (args++cB (F.ntmps - args.length)) h with
 | some (.nor,env,h) | some (.jmp .ret,env,h)=>match resV F.res env h with
  | some vs=>some (one? vs,h)
  | none=>none
 | _=>none
def srtV(args:List CV)(h:HK):Option HK:=match args with
 | [.slc _ r off len _]=>match h.get r with
  | some (.cells cs false)=>match cut? cs off len with
   | some xs=>match hZ xs with
    | some zs=>match Nat.ble zs.length 1099511627776 with
     | true=>some (h.put r (.cells (splice cs off (ax (dO zs))) false))
     | false=>none
    | none=>none
   | none=>none
  | _=>none
 | _=>none
def run(tbl:Nat→Option IF):Nat→Tgt→List CV→HK→Option (CV × HK)
 | 0,_,_,_=>none
 | n+1,.fn f,args,h=>match tbl f with
  | some F =>
   if F.mode=2 then
    match frzL (frz 20) args h with
    | some (args,h)=>if iD args=false then none else
     match bodyR (exec (run tbl n) n F.body) F args HK.empty with
     | some (v,hs)=>match xp 20 v (hs,h) with
      | some (v,_,h)=>some (v,h)
      | none=>none
     | none=>none
    | none=>none
   else match Nat.beq F.mode 3&&big args with
    | true=>match srtV args h with
     | some h=>some (.tup [],h)
     | none=>none
    | false=>match bodyR (exec (run tbl n) n F.body) F args h with
     | some (v,h)=>if F.mode=1 then frz 20 v h else some (v,h)
     | none=>none
  | none=>none
 | n+1,.yl l,args,h=>match h.get l with
  | some (.loop .ready _ env ps a b)=>match gv env ps args with
   | some env'=>match exec (run tbl n) n a env' h with
    | some (.nor,env',h)=>match h.get l with
     | some (.loop .ready pend' env0 ps' a' b') =>
      match exec (run tbl n) n b env' (h.put l (.loop .busy pend' env0 ps' a' b')) with
      | some (e,_,h)=>match h.get l with
       | some (.loop _ _ env0 ps' a' b')=>match e with
        | .nor=>some (.bool true,h.put l (.loop .ready none env0 ps' a' b'))
        | .jmp j=>some (.bool false,h.put l (.loop .done (some j) env0 ps' a' b'))
       | _=>none
      | none=>none
     | _=>none
    | _=>none
   | none=>none
  | _=>none
end K
end
end Ce
namespace Ce
open Go
def mp{α:Type}(r:Option (α × HK)):Option (α × H):=r.map fun p=>(p.1,φ p.2)
end Ce
namespace Ce
open Go
end Ce
namespace Ce
open Go
end Ce
namespace Ce
open Go
end Ce
namespace Ce
open Go
end Ce
namespace Ce.Q
noncomputable section
open Go
inductive D where
 | d0 | d1 | d2 | d3 | d4 | d5 | d6 | d7
inductive E8 (α:Type) where
 | mk (x0 x1 x2 x3 x4 x5 x6 x7:α)
def sel{α:Type}(d:D)(e:E8 α):α :=
 E8.rec (motive:=fun _=>α) (fun x0 x1 x2 x3 x4 x5 x6 x7=>D.rec (motive:=fun _=>α) x0 x1 x2 x3 x4 x5 x6 x7 d) e
def u0{α:Type}(f:α→α)(e:E8 α):E8 α:=E8.rec (motive:=fun _=>E8 α) (fun x0 x1 x2 x3 x4 x5 x6 x7=>.mk (f x0) x1 x2 x3 x4 x5 x6 x7) e
def u1{α:Type}(f:α→α)(e:E8 α):E8 α:=E8.rec (motive:=fun _=>E8 α) (fun x0 x1 x2 x3 x4 x5 x6 x7=>.mk x0 (f x1) x2 x3 x4 x5 x6 x7) e
def u2{α:Type}(f:α→α)(e:E8 α):E8 α:=E8.rec (motive:=fun _=>E8 α) (fun x0 x1 x2 x3 x4 x5 x6 x7=>.mk x0 x1 (f x2) x3 x4 x5 x6 x7) e
def u3{α:Type}(f:α→α)(e:E8 α):E8 α:=E8.rec (motive:=fun _=>E8 α) (fun x0 x1 x2 x3 x4 x5 x6 x7=>.mk x0 x1 x2 (f x3) x4 x5 x6 x7) e
def u4{α:Type}(f:α→α)(e:E8 α):E8 α:=E8.rec (motive:=fun _=>E8 α) (fun x0 x1 x2 x3 x4 x5 x6 x7=>.mk x0 x1 x2 x3 (f x4) x5 x6 x7) e
def u5{α:Type}(f:α→α)(e:E8 α):E8 α:=E8.rec (motive:=fun _=>E8 α) (fun x0 x1 x2 x3 x4 x5 x6 x7=>.mk x0 x1 x2 x3 x4 (f x5) x6 x7) e
def u6{α:Type}(f:α→α)(e:E8 α):E8 α:=E8.rec (motive:=fun _=>E8 α) (fun x0 x1 x2 x3 x4 x5 x6 x7=>.mk x0 x1 x2 x3 x4 x5 (f x6) x7) e
def u7{α:Type}(f:α→α)(e:E8 α):E8 α:=E8.rec (motive:=fun _=>E8 α) (fun x0 x1 x2 x3 x4 x5 x6 x7=>.mk x0 x1 x2 x3 x4 x5 x6 (f x7)) e
def upd{α:Type}(d:D)(f:α→α)(e:E8 α):E8 α:=D.rec (motive:=fun _=>(α→α)→E8 α→E8 α) u0 u1 u2 u3 u4 u5 u6 u7 d f e
theorem mG{α:Type}(d d':D)(f:α→α)(e:E8 α)[Decidable (d'=d)]:sel d' (upd d f e)=if d'=d then f (sel d e) else sel d' e:=by
 cases e; cases d<;>cases d' <;> first | (rw [aH rfl]; rfl) | (rw [aC (by intro h; cases h)]; rfl)
def dOf:Nat→D
 | 0=>.d0 | 1=>.d1 | 2=>.d2 | 3=>.d3 | 4=>.d4 | 5=>.d5 | 6=>.d6 | _=>.d7
def D.nat:D→Nat
 | .d0=>0 | .d1=>1 | .d2=>2 | .d3=>3 | .d4=>4 | .d5=>5 | .d6=>6 | .d7=>7
theorem ja(n:Nat)(h:n < 8):(dOf n).nat=n:=by
 match n,h with
 | 0,_ | 1,_ | 2,_ | 3,_ | 4,_ | 5,_ | 6,_ | 7,_=>rfl
inductive Pth where
 | p (a b:D)
 | q (c a b:D)
 | out
def vV(i:Nat):Pth:=if i < 64 then .p (dOf (i / 8)) (dOf (i % 8)) else if i < 512 then .q (dOf (i / 64)) (dOf (i / 8 % 8)) (dOf (i % 8)) else .out
inductive Env where
 | mk (lo:E8 (E8 CV)) (hi:E8 (E8 (E8 CV)))
def rd(i:Nat)(E:Env):CV:=Pth.rec (motive:=fun _=>CV) (fun a b=>Env.rec (motive:=fun _=>CV) (fun lo _=>sel b (sel a lo)) E) (fun c a b=>Env.rec (motive:=fun _=>CV) (fun _ hi=>sel b (sel a (sel c hi))) E) undef (vV i)
def wr(i:Nat)(v:CV)(E:Env):Env:=Pth.rec (motive:=fun _=>Env) (fun a b=>Env.rec (motive:=fun _=>Env) (fun lo hi=>.mk (upd a (upd b (fun _=>v)) lo) hi) E) (fun c a b=>Env.rec (motive:=fun _=>Env) (fun lo hi=>.mk lo (upd c (upd a (upd b (fun _=>v))) hi)) E) E (vV i)
theorem kq{i:Nat}(h:i < 64):vV i=.p (dOf (i / 8)) (dOf (i % 8)):=by simp only [vV,aH h]
theorem jE{i:Nat}(h:¬i < 64)(h':i < 512):vV i=.q (dOf (i / 64)) (dOf (i / 8 % 8)) (dOf (i % 8)):=by simp only [vV,aC h,aH h']
theorem qA0{i:Nat}(h:¬i < 512):vV i=.out:=by simp only [vV,aC h,aC (show ¬i < 64 by omega)]
theorem mg{m n:Nat}(hm:m < 8)(hn:n < 8)(h:dOf m=dOf n):m=n:=by
 have e1:=ja m hm; have e2:=ja n hn;rw [h] at e1; exact e1.symm.trans e2
theorem rd_wr{i j:Nat}{v:CV}{E:Env}(h:i < 512):rd j (wr i v E)=if j=i then v else rd j E:=by
 obtain ⟨lo,hi⟩:=E;by_cases hj:j < 64
 ·by_cases hi':i < 64
  ·have e:rd j (wr i v (.mk lo hi))=sel (dOf (j % 8)) (sel (dOf (j / 8)) (upd (dOf (i / 8)) (upd (dOf (i % 8)) (fun _=>v)) lo)):=by simp only [rd,wr,kq hj,kq hi']
   have e':rd j (.mk lo hi)=sel (dOf (j % 8)) (sel (dOf (j / 8)) lo):=by simp only [rd,kq hj]
   rw [e,e']
   haveI:Decidable (dOf (j / 8)=dOf (i / 8)):=Classical.propDecidable _
   haveI:Decidable (dOf (j % 8)=dOf (i % 8)):=Classical.propDecidable _
   rw [mG];by_cases h1:dOf (j / 8)=dOf (i / 8)
   ·rw [aH h1,mG];by_cases h2:dOf (j % 8)=dOf (i % 8)
    ·have:=mg (by omega) (by omega) h1;have:=mg (by omega) (by omega) h2;rw [aH h2,aH (by omega)]
    ·rw [aC h2,aC (by rintro rfl; exact h2 rfl),h1]
   ·rw [aC h1,aC (by rintro rfl; exact h1 rfl)]
  ·have e:rd j (wr i v (.mk lo hi))=rd j (.mk lo hi):=by simp only [rd,wr,kq hj,jE hi' h]
   rw [e,aC (by omega)]
 ·by_cases hj2:j < 512
  ·by_cases hi':i < 64
   ·have e:rd j (wr i v (.mk lo hi))=rd j (.mk lo hi):=by simp only [rd,wr,jE hj hj2,kq hi']
    rw [e,aC (by omega)]
   ·have e:rd j (wr i v (.mk lo hi))=sel (dOf (j % 8)) (sel (dOf (j / 8 % 8)) (sel (dOf (j / 64)) (upd (dOf (i / 64)) (upd (dOf (i / 8 % 8)) (upd (dOf (i % 8)) (fun _=>v))) hi))):=by simp only [rd,wr,jE hj hj2,jE hi' h]
    have e':rd j (.mk lo hi)=sel (dOf (j % 8)) (sel (dOf (j / 8 % 8)) (sel (dOf (j / 64)) hi)):=by simp only [rd,jE hj hj2]
    rw [e,e']
    haveI:Decidable (dOf (j / 64)=dOf (i / 64)):=Classical.propDecidable _
    haveI:Decidable (dOf (j / 8 % 8)=dOf (i / 8 % 8)):=Classical.propDecidable _
    haveI:Decidable (dOf (j % 8)=dOf (i % 8)):=Classical.propDecidable _
    rw [mG];by_cases h0:dOf (j / 64)=dOf (i / 64)
    ·rw [aH h0,mG];by_cases h1:dOf (j / 8 % 8)=dOf (i / 8 % 8)
     ·rw [aH h1,mG];by_cases h2:dOf (j % 8)=dOf (i % 8)
      ·have:=mg (by omega) (by omega) h0;have:=mg (by omega) (by omega) h1;have:=mg (by omega) (by omega) h2;rw [aH h2,aH (by omega)]
      ·rw [aC h2,aC (by rintro rfl; exact h2 rfl),h1,h0]
     ·rw [aC h1,aC (by rintro rfl; exact h1 rfl),h0]
    ·rw [aC h0,aC (by rintro rfl; exact h0 rfl)]
  ·have hne:j≠i:=by omega
   simp only [rd,qA0 hj2,aC hne]
def cw(n:Nat):List CV→List CV:=Nat.rec (motive:=fun _=>List CV→List CV) (fun l=>l) (fun _ ih l=>List.rec (motive:=fun _=>List CV) [] (fun _ t _=>ih t) l) n
theorem l7:∀(n:Nat) (l:List CV) (i:Nat),aR (cw n l) i=aR l (n+i)
 | 0,l,i=>by rw [dg]; rfl
 | n+1,[],i=>rfl
 | n+1,a::l,i=>by
  show aR (cw n l) i=_
  rw [l7 n l i,show n+1+i=(n+i)+1 by omega,bL]
def g1(l:List CV):E8 CV:=.mk (aR l 0) (aR l 1) (aR l 2) (aR l 3) (aR l 4) (aR l 5) (aR l 6) (aR l 7)
def g2(l:List CV):E8 (E8 CV):=.mk (g1 l) (g1 (cw 8 l)) (g1 (cw 16 l)) (g1 (cw 24 l)) (g1 (cw 32 l)) (g1 (cw 40 l)) (g1 (cw 48 l)) (g1 (cw 56 l))
def ofL(l:List CV):Env:=.mk (g2 l) (.mk (g2 l) (g2 (cw 64 l)) (g2 (cw 128 l)) (g2 (cw 192 l)) (g2 (cw 256 l)) (g2 (cw 320 l)) (g2 (cw 384 l)) (g2 (cw 448 l)))
theorem sel_g1(l:List CV)(b:D):sel b (g1 l)=aR l b.nat:=by cases b<;>rfl
theorem qGY(l:List CV)(a b:D):sel b (sel a (g2 l))=aR l (a.nat*8+b.nat):=by
 cases a<;>(show sel b (g1 _)=_)<;>rw [sel_g1]<;>(try rw [l7])<;>simp [D.nat]
theorem rd_ofL(l:List CV)(i:Nat)(h:i < 512):rd i (ofL l)=aR l i:=by
 by_cases hi:i < 64
 ·have e:rd i (ofL l)=sel (dOf (i % 8)) (sel (dOf (i / 8)) (g2 l)):=by simp only [rd,kq hi,ofL]
  rw [e,qGY,ja _ (by omega),ja _ (by omega)]
  congr 1; omega
 ·have e:∀c:D,sel c (.mk (g2 l) (g2 (cw 64 l)) (g2 (cw 128 l)) (g2 (cw 192 l)) (g2 (cw 256 l)) (g2 (cw 320 l)) (g2 (cw 384 l)) (g2 (cw 448 l)):E8 (E8 (E8 CV)))=g2 (cw (c.nat*64) l):=by intro c; cases c<;>rfl
  have e2:rd i (ofL l)=sel (dOf (i % 8)) (sel (dOf (i / 8 % 8)) (sel (dOf (i / 64)) (.mk (g2 l) (g2 (cw 64 l)) (g2 (cw 128 l)) (g2 (cw 192 l)) (g2 (cw 256 l)) (g2 (cw 320 l)) (g2 (cw 384 l)) (g2 (cw 448 l))))):=by simp only [rd,jE hi h,ofL]
  rw [e2,e,qGY,l7,ja _ (by omega),ja _ (by omega),ja _ (by omega)]
  congr 1; omega
def EL(nt:Nat)(E:Env)(l:List CV):Prop:=l.length=nt∧∀i,aR l i=rd i E
theorem uQ:∀(l:List CV) (i:Nat),l.length≤i→aR l i=undef
 | [],i,_=>rfl
 | a::l,0,h=>by simp at h
 | a::l,i+1,h=>by rw [bL]; exact uQ l i (by simpa using h)
theorem getl_setl:∀(l:List CV) (i j:Nat) (v:CV),i < l.length→aR (aL l i v) j=if j=i then v else aR l j
 | [],i,j,v,h=>by simp at h
 | a::l,0,0,v,h=>rfl
 | a::l,0,j+1,v,h=>by rw [jA,bL,bL,aC (by omega)]
 | a::l,i+1,0,v,h=>by rw [dG,fC,fC,aC (by omega)]
 | a::l,i+1,j+1,v,h=>by
  rw [dG,bL,bL,getl_setl l i j v (by simpa using h)];by_cases hh:j=i
  ·rw [aH hh,aH (by omega)]
  ·rw [aC hh,aC (by omega)]
theorem oP:∀(l:List CV) (i:Nat) (v:CV),(aL l i v).length=l.length
 | [],i,v=>rfl
 | a::l,0,v=>by simp [jA]
 | a::l,i+1,v=>by rw [dG]; simp [oP l i v]
theorem zC2{l:List CV}(h:l.length≤512):EL l.length (ofL l) l:=⟨rfl,fun i=>by
 by_cases hi:i < 512
 ·exact (rd_ofL l i hi).symm
 ·rw [uQ l i (by omega)]; simp only [rd,qA0 hi]⟩
theorem EL_wr{nt d:Nat}{E:Env}{l:List CV}(h:EL nt E l)(hd:d < nt)(h64:nt≤512)(v:CV):EL nt (wr d v E) (aL l d v) :=
 ⟨by rw [oP]; exact h.1,fun i=>by rw [getl_setl l d i v (by rw [h.1]; exact hd),rd_wr (by omega),h.2 i]⟩
def toL(E:Env)(m:Nat):List CV:=Nat.rec (motive:=fun _=>List CV→List CV) (fun acc=>acc) (fun i ih acc=>ih (rd i E::acc)) m []
theorem wJ(E:Env):∀(m:Nat) (acc:List CV) (i:Nat),aR (Nat.rec (motive:=fun _=>List CV→List CV) (fun acc=>acc) (fun i ih acc=>ih (rd i E::acc)) m acc) i=if i < m then rd i E else aR acc (i - m)
 | 0,acc,i=>by rw [aC (by omega)]; rfl
 | m+1,acc,i=>by
  refine (wJ E m (rd m E::acc) i).trans ?_;by_cases h:i < m
  ·rw [aH h,aH (by omega)]
  ·rw [aC h];by_cases h2:i=m
   ·subst h2; rw [aH (by omega),Nat.sub_self,fC]
   ·rw [aC (by omega),show i - m=(i - (m+1))+1 by omega,bL]
theorem qR(E:Env):∀(m:Nat) (acc:List CV),(Nat.rec (motive:=fun _=>List CV→List CV) (fun acc=>acc) (fun i ih acc=>ih (rd i E::acc)) m acc:List CV).length=m+acc.length
 | 0,acc=>by show acc.length=0+acc.length; omega
 | m+1,acc=>(qR E m (rd m E::acc)).trans (by simp; omega)
theorem wU:∀(l l':List CV),l.length=l'.length→(∀i,aR l i=aR l' i)→l=l'
 | [],[],_,_=>rfl
 | [],_::_,h,_=>by simp at h
 | _::_,[],h,_=>by simp at h
 | a::l,b::l',h,hh=>by
  have h0:=hh 0;rw [fC,fC] at h0;rw [h0,wU l l' (by simpa using h) fun i=>by have:=hh (i+1); rwa [bL,bL] at this]
theorem qGK{nt:Nat}{E:Env}{l:List CV}(h:EL nt E l):toL E nt=l:=by
 refine wU _ _ ((qR E nt []).trans (by simp [h.1])) fun i=>?_
 rw [h.2 i];refine (wJ E nt [] i).trans ?_;by_cases hi:i < nt
 ·rw [aH hi]
 ·rw [aC hi,qLA,←h.2 i,uQ l i (by rw [h.1]; omega)]
structure Le (k:HK) (h:H):Prop where
 n:k.n=h.n
 g:∀i b,k.get i=some b→h.get i=some b
theorem Le.put{k:HK}{h:H}(L:Le k h)(i:Nat)(b:Blk):Le (k.put i b) (h.put i b):=⟨L.n,fun j c hj=>by
 have:(φ (k.put i b)).get j=some c:=hj;rw [φ_put] at this;simp only [H.put,H.get] at this ⊢;split
 ·rename_i e; rw [aH e] at this; exact this
 ·rename_i e; rw [aC e] at this; exact L.g j c this⟩
theorem Le.push{k:HK}{h:H}(L:Le k h)(b:Blk):Le (k.push b) (h.push b):=⟨by simp [HK.push,H.push,L.n],fun j c hj=>by
 have:(φ (k.push b)).get j=some c:=hj;rw [φ_push] at this;have hn:(φ k).n=h.n:=L.n;simp only [H.push,H.get] at this ⊢;rw [hn] at this;split
 ·rename_i e; rw [aH e] at this; exact this
 ·rename_i e; rw [aC e] at this; exact L.g j c this⟩
theorem Le.refl(k:HK):Le k (φ k):=⟨rfl,fun _ _ h=>h⟩
def qLB(t:Tr Blk)(i:Nat):Option Blk:=Tr.rec (motive:=fun _=>Nat→Option Blk) (fun _=>none) (fun _ v _ ihl ihr i=>Bool.rec (motive:=fun _=>Option Blk) (Bool.rec (motive:=fun _=>Option Blk) (ihr (Nat.sub (Nat.div i 2) 1)) (ihl (Nat.div i 2)) (Nat.beq (Nat.mod i 2) 1)) v (Nat.beq i 0)) t i
theorem uS:∀(t:Tr Blk) (i:Nat),qLB t i=t.get i
 | .nil,i=>rfl
 | .node l v r,i=>by
  have e:qLB (.node l v r) i=Bool.rec (motive:=fun _=>Option Blk) (Bool.rec (motive:=fun _=>Option Blk) (qLB r (Nat.sub (Nat.div i 2) 1)) (qLB l (Nat.div i 2)) (Nat.beq (Nat.mod i 2) 1)) v (Nat.beq i 0):=rfl;rw [e];simp only [Tr.get];by_cases h0:i=0
  ·subst h0; rfl
  ·rw [aC h0];have:Nat.beq i 0=false:=by
    cases hb:Nat.beq i 0 with
    | false=>rfl
    | true=>exact absurd (nQ hb) h0
   rw [this];by_cases h1:i % 2=1
   ·rw [aH h1];have h2:Nat.beq (Nat.mod i 2) 1=true:=by rw [show Nat.mod i 2=1 from h1]; rfl
    rw [h2]; exact uS l (i / 2)
   ·rw [aC h1];have h2:Nat.beq (Nat.mod i 2) 1=false:=by
     cases hb:Nat.beq (Nat.mod i 2) 1 with
     | false=>rfl
     | true=>exact absurd (nQ hb) h1
    rw [h2]; exact uS r (i / 2 - 1)
end
end Ce.Q
namespace Ce.Q
noncomputable section
open Go
theorem zAH{g:Option Nat}{a v:CV}{k:HK}{h:H}(L:Le k h)(e:K.ldV g a k=some v):ldV g a h=some v:=by
 cases a<;>simp only [K.ldV,ldV] at e ⊢ <;> try (exact e)
 case ptr r off =>
  cases hg:k.get r with
  | none=>rw [hg] at e; cases e
  | some b=>rw [hg] at e; rw [L.g r b hg]; exact e
theorem sR{kk n:Nat}{x:CV}{cs:List CV}{k:HK}{h:H}(L:Le k h)(e:K.cellsOf kk n k x=some cs):cellsOf kk n h x=some cs:=by
 cases x<;>simp only [K.cellsOf,cellsOf] at e ⊢ <;> try (exact e)
 case slc k' r off len cap =>
  split at e
  ·rename_i hn;rw [aH hn];cases hg:k.get r with
   | none=>rw [hg] at e; cases e
   | some b=>rw [hg] at e; rw [L.g r b hg]; exact e
  ·cases e
theorem m_slA{x v:CV}{n kk:Nat}{lo hi mx:Option CV}{k:HK}{h:H}(L:Le k h)(e:K.slA k x n kk lo hi mx=some v):slA h x n kk lo hi mx=some v:=by
 cases x<;>simp only [K.slA,slA] at e ⊢ <;> try (cases e; done)
 case ptr r off =>
  cases hg:k.get r with
  | none=>rw [hg] at e; cases e
  | some b=>rw [hg] at e; rw [L.g r b hg]; exact e
theorem qJ1{ag ok:Bool}{ls:List Lf}{z x i v:CV}{k:HK}{h:H}(L:Le k h)(e:K.lkuV ag ls z x i ok k=some v):lkuV ag ls z x i ok h=some v:=by
 unfold K.lkuV at e; unfold lkuV;split at e
 ·rename_i hk;rw [aH hk];cases x<;>(try dsimp only at e ⊢)<;>try (exact e)
  case map r =>
   cases hg:k.get r with
   | none=>rw [hg] at e; cases e
   | some b=>rw [hg] at e; rw [L.g r b hg]; exact e
 ·cases e
theorem m_stV{n:Nat}{a x:CV}{k k':HK}{h:H}(L:Le k h)(e:K.stV n a x k=some k'):∃h',stV n a x h=some h'∧Le k' h':=by
 cases a<;>simp only [K.stV,stV] at e ⊢ <;> try (cases e; done)
 case ptr r off =>
  cases hg:k.get r with
  | none=>rw [hg] at e; cases e
  | some b =>
   rw [hg] at e; rw [L.g r b hg];cases b<;>(try dsimp only at e ⊢)<;>try (cases e; done)
   rename_i c ro;cases ro<;>(try dsimp only at e ⊢)<;>try (cases e; done)
   split at e
   ·rename_i hc;simp only [sI] at e; subst e;rw [aH hc];exact ⟨_,rfl,L.put _ _⟩
   ·cases e
def MO(r:Option (CV × HK))(s:Option (CV × H)):Prop:=∀v k',r=some (v,k')→∃h',s=some (v,h')∧Le k' h'
theorem MO.none{s:Option (CV × H)}:MO none s:=fun _ _ e=>by cases e
theorem MO.some{v:CV}{k:HK}{h:H}(L:Le k h):MO (some (v,k)) (some (v,h)):=fun _ _ e=>by
 simp only [sI,pI] at e;obtain ⟨rfl,rfl⟩:=e;exact ⟨_,rfl,L⟩
theorem qJ2(kk b:Nat)(s x:CV){k:HK}{h:H}(L:Le k h):MO (K.appV kk b s x k) (appV kk b s x h):=by
 unfold K.appV appV;split
 ·rename_i sl n hsl hn;simp only [hsl,hn];split
  ·exact MO.some L
  ·split
   ·exact MO.none
   ·split
    ·exact MO.none
    ·rename_i new hnew;rw [sR L hnew]
     dsimp only
     split
     ·exact MO.none
     ·rw [←L.n];cases s<;>(try dsimp only)<;>try (exact MO.none)
      case nils=>exact MO.some (L.push _)
      case lst rows ex =>
       cases ex
       ·exact MO.none
       ·dsimp only
        split
        ·exact MO.some (L.push _)
        ·exact MO.none
      case slc k' r off len cap =>
       cases cap with
       | none =>
        dsimp only
        split
        ·exact MO.none
        ·cases hg:k.get r with
         | none=>exact MO.none
         | some bl =>
          rw [L.g r bl hg];cases bl<;>(try dsimp only)<;>try (exact MO.none)
          rename_i cs ro;cases ro<;>(try dsimp only)<;>try (exact MO.none)
          split
          ·exact MO.some ((L.put _ _).push _)
          ·exact MO.none
       | some c =>
        dsimp only
        split
        ·exact MO.none
        ·cases hg:k.get r with
         | none=>exact MO.none
         | some bl =>
          rw [L.g r bl hg];cases bl<;>(try dsimp only)<;>try (exact MO.none)
          rename_i cs ro;split
          ·split
           ·exact MO.none
           ·split
            ·exact MO.some (L.put _ _)
            ·exact MO.none
          ·cases cut? cs off (len*kk)<;>first | exact MO.none | exact MO.some (L.push _)
 ·exact MO.none
theorem m_cpyV(kk:Nat)(d s:CV){k:HK}{h:H}(L:Le k h):MO (K.cpyV kk d s k) (cpyV kk d s h):=by
 unfold K.cpyV cpyV;split
 ·rename_i dl sl hd hs;simp only [hd,hs];split
  ·exact MO.some L
  ·cases hc:K.cellsOf kk (min sl dl) k s with
   | none=>exact MO.none
   | some new =>
    rw [sR L hc];cases d<;>(try dsimp only)<;>try (exact MO.none)
    rename_i k' r off len cap;cases hg:k.get r with
    | none=>exact MO.none
    | some bl =>
     rw [L.g r bl hg];cases bl<;>(try dsimp only)<;>try (exact MO.none)
     rename_i cs ro;cases ro<;>(try dsimp only)<;>try (exact MO.none)
     split
     ·exact MO.some (L.put _ _)
     ·exact MO.none
 ·exact MO.none
theorem qQI(kk b:Nat)(z:List CV)(l c:CV){k:HK}{h:H}(L:Le k h):MO (K.mkslV kk b z l c k) (mkslV kk b z l c h):=by
 unfold K.mkslV mkslV;rw [←L.n];cases l<;>cases c<;>(try dsimp only)<;>try (exact MO.none)
 split
 ·exact MO.some (L.push _)
 ·exact MO.none
theorem yK{f:CV→HK→Option (CV × HK)}{g:CV→H→Option (CV × H)}(hfg:∀v k h,Le k h→MO (f v k) (g v h)):∀(vs:List CV) (k:HK) (h:H),Le k h→∀r k',K.frzL f vs k=some (r,k')→∃h',frzL g vs h=some (r,h')∧Le k' h'
 | [],k,h,L,r,k',e=>by
  simp only [K.frzL,sI,pI] at e;obtain ⟨rfl,rfl⟩:=e;exact ⟨h,rfl,L⟩
 | v::vs,k,h,L,r,k',e=>by
  simp only [K.frzL] at e;cases h1:f v k with
  | none=>rw [h1] at e; cases e
  | some y =>
   obtain ⟨y1,y2⟩:=y;rw [h1] at e
   dsimp only at e
   obtain ⟨h2,e2,L2⟩:=hfg v k h L y1 y2 h1;cases h3:K.frzL f vs y2 with
   | none=>rw [h3] at e; cases e
   | some z =>
    obtain ⟨z1,z2⟩:=z;rw [h3] at e;simp only [sI,pI] at e;obtain ⟨rfl,rfl⟩:=e;obtain ⟨h4,e4,L4⟩:=yK hfg vs y2 h2 L2 z1 z2 h3;exact ⟨h4,by simp only [frzL,e2,e4],L4⟩
theorem vq:∀(n:Nat) (v:CV) (k:HK) (h:H),Le k h→MO (K.frz n v k) (frz n v h)
 | 0,v,k,h,L=>MO.none
 | n+1,v,k,h,L=>by
  have hL:=yK (vq n);unfold K.frz frz;cases v<;>(try dsimp only)<;>try (exact MO.some L)
  case slc k' r off len cap =>
   cases hg:k.get r with
   | none=>exact MO.none
   | some bl =>
    rw [L.g r bl hg];cases bl<;>(try dsimp only)<;>try (exact MO.none)
    rename_i c ro;cases cut? c off (len*k') with
    | none=>exact MO.none
    | some cs =>
     dsimp only
     cases h1:K.frzL (K.frz n) cs (k.put r (.cells c true)) with
     | none=>exact MO.none
     | some y =>
      obtain ⟨y1,y2⟩:=y;obtain ⟨h2,e2,L2⟩:=hL cs _ _ (L.put _ _) y1 y2 h1;rw [e2];exact MO.some L2
  case agg cs =>
   cases h1:K.frzL (K.frz n) cs k with
   | none=>exact MO.none
   | some y =>
    obtain ⟨y1,y2⟩:=y;obtain ⟨h2,e2,L2⟩:=hL cs _ _ L y1 y2 h1;rw [e2];exact MO.some L2
  case tup cs =>
   cases h1:K.frzL (K.frz n) cs k with
   | none=>exact MO.none
   | some y =>
    obtain ⟨y1,y2⟩:=y;obtain ⟨h2,e2,L2⟩:=hL cs _ _ L y1 y2 h1;rw [e2];exact MO.some L2
theorem m_fzX(x:CV){k:HK}{h:H}(L:Le k h):∀k',K.fzX x k=some k'→∃h',fzX x h=some h'∧Le k' h':=by
 intro k' e;unfold K.fzX at e;unfold fzX;cases x<;>(try dsimp only at e ⊢)<;>try (simp only [sI] at e; subst e; exact ⟨_,rfl,L⟩)
 rename_i kk r off len cap;cases hg:k.get r with
 | none=>rw [hg] at e; cases e
 | some b =>
  rw [hg] at e;rw [L.g r b hg];have keep:some k=some k'→∃h',some h=some h'∧Le k' h':=fun e=>by
   simp only [sI] at e; subst e; exact ⟨_,rfl,L⟩
  cases b with
  | cells cs ro =>
   match cs,ro,e with
   | [],_,e=>exact keep e
   | y::_::_,false,e=>cases y<;>exact keep e
   | y::_::_,true,e=>cases y<;>exact keep e
   | [y],true,e=>cases y<;>exact keep e
   | [y],false,e =>
    cases y<;>try exact keep e
    rename_i a1 b1 c1 d1 e1
    dsimp only at e ⊢
    cases h1:K.frz 20 (.slc a1 b1 c1 d1 e1) k with
    | none=>rw [h1] at e; cases e
    | some p =>
     obtain ⟨v,k1⟩:=p;rw [h1] at e;obtain ⟨h2,e2,L2⟩:=vq 20 _ _ _ L v k1 h1;rw [e2]
     dsimp only at e ⊢
     cases hg2:k1.get r with
     | none=>rw [hg2] at e; cases e
     | some b2 =>
      rw [hg2] at e;rw [L2.g r b2 hg2];cases b2 with
      | cells cs2 ro2 =>
       match cs2,ro2,e with
       | [],_,e=>cases e
       | _::_::_,_,e=>cases e
       | [_],true,e=>cases e
       | [_],false,e =>
        simp only [sI] at e; subst e;exact ⟨_,rfl,L2.put _ _⟩
      | _=>cases e
  | _=>exact keep e
theorem m_appW(kk b:Nat)(s x:CV){k:HK}{h:H}(L:Le k h):MO (K.appW kk b s x k) (appW kk b s x h):=by
 unfold K.appW appW;cases Nat.beq b 24&&Nat.beq kk 1 with
 | false=>exact qJ2 _ _ _ _ L
 | true =>
  dsimp only
  cases h1:K.fzX x k with
  | none=>exact MO.none
  | some k1 =>
   obtain ⟨h2,e2,L2⟩:=m_fzX x L k1 h1;rw [e2];exact qJ2 _ _ _ _ L2
theorem zAG{f:CV→HK × HK→Option (CV × HK × HK)}{g:CV→H × H→Option (CV × H × H)}(hfg:∀v k l h m,Le k h→Le l m→∀r k' l',f v (k,l)=some (r,k',l')→∃h' m',g v (h,m)=some (r,h',m')∧Le k' h'∧Le l' m') :
  ∀(vs:List CV) (k l:HK) (h m:H),Le k h→Le l m→∀r k' l',K.xpL f vs (k,l)=some (r,k',l')→∃h' m',xpL g vs (h,m)=some (r,h',m')∧Le k' h'∧Le l' m'
 | [],k,l,h,m,L,L',r,k',l',e=>by
  simp only [K.xpL,sI,pI] at e;obtain ⟨rfl,rfl,rfl⟩:=e;exact ⟨h,m,rfl,L,L'⟩
 | v::vs,k,l,h,m,L,L',r,k',l',e=>by
  simp only [K.xpL] at e;cases h1:f v (k,l) with
  | none=>rw [h1] at e; cases e
  | some y =>
   obtain ⟨y1,y2,y3⟩:=y;rw [h1] at e
   dsimp only at e
   obtain ⟨h2,m2,e2,L2,L3⟩:=hfg v k l h m L L' y1 y2 y3 h1;cases h3:K.xpL f vs (y2,y3) with
   | none=>rw [h3] at e; cases e
   | some z =>
    obtain ⟨z1,z2,z3⟩:=z;rw [h3] at e;simp only [sI,pI] at e;obtain ⟨rfl,rfl,rfl⟩:=e;obtain ⟨h4,m4,e4,L4,L5⟩:=zAG hfg vs y2 y3 h2 m2 L2 L3 z1 z2 z3 h3;exact ⟨h4,m4,by simp only [xpL,e2,e4],L4,L5⟩
theorem m_xp:∀(n:Nat) (v:CV) (k l:HK) (h m:H),Le k h→Le l m→∀r k' l',K.xp n v (k,l)=some (r,k',l')→∃h' m',xp n v (h,m)=some (r,h',m')∧Le k' h'∧Le l' m'
 | 0,v,k,l,h,m,L,L',r,k',l',e=>by cases e
 | n+1,v,k,l,h,m,L,L',r,k',l',e=>by
  have hL:=zAG (m_xp n);unfold K.xp at e; unfold xp;cases v<;>(try dsimp only at e ⊢)<;>try (cases e; done)
  case slc kk rr off len cap =>
   cases hg:k.get rr with
   | none=>rw [hg] at e; cases e
   | some bl =>
    rw [hg] at e; rw [L.g rr bl hg];cases bl<;>(try dsimp only at e ⊢)<;>try (cases e; done)
    rename_i c ro;cases ro<;>(try dsimp only at e ⊢)<;>try (cases e; done)
    cases h1:K.xpL (K.xp n) c (k.put rr .dead,l) with
    | none=>rw [h1] at e; cases e
    | some y =>
     obtain ⟨y1,y2,y3⟩:=y;rw [h1] at e;simp only [sI,pI] at e;obtain ⟨rfl,rfl,rfl⟩:=e;obtain ⟨h2,m2,e2,L2,L3⟩:=hL c _ _ _ _ (L.put _ _) L' y1 y2 y3 h1;rw [e2];exact ⟨_,_,by simp only [L3.n],L2,L3.push _⟩
  case agg cs =>
   cases h1:K.xpL (K.xp n) cs (k,l) with
   | none=>rw [h1] at e; cases e
   | some y =>
    obtain ⟨y1,y2,y3⟩:=y;rw [h1] at e;simp only [sI,pI] at e;obtain ⟨rfl,rfl,rfl⟩:=e;obtain ⟨h2,m2,e2,L2,L3⟩:=hL cs _ _ _ _ L L' y1 y2 y3 h1;rw [e2];exact ⟨_,_,rfl,L2,L3⟩
  case tup cs =>
   cases h1:K.xpL (K.xp n) cs (k,l) with
   | none=>rw [h1] at e; cases e
   | some y =>
    obtain ⟨y1,y2,y3⟩:=y;rw [h1] at e;simp only [sI,pI] at e;obtain ⟨rfl,rfl,rfl⟩:=e;obtain ⟨h2,m2,e2,L2,L3⟩:=hL cs _ _ _ _ L L' y1 y2 y3 h1;rw [e2];exact ⟨_,_,rfl,L2,L3⟩
  all_goals
   simp only [sI,pI] at e;obtain ⟨rfl,rfl,rfl⟩:=e;exact ⟨_,_,rfl,L,L'⟩
def isCall:Ins→Bool
 | .callF .. | .callV ..=>true
 | _=>false
theorem qQH(c:cS)(o:Ins)(ho:isCall o=false)(env:List CV){k:HK}{h:H}(L:Le k h):MO (K.stepO K.noC o env k) (stepO c o env h):=by
 cases o with
 | app kk b s x=>exact m_appW _ _ _ _ L
 | cpy kk d s=>exact m_cpyV _ _ _ L
 | mksl kk b z l c=>exact qQI _ _ _ _ _ L
 | callF f as=>cases ho
 | callV f as=>cases ho
 | ld g a =>
  simp only [K.stepO,stepO];cases e:K.ldV g (a.ev env) k with
  | none=>exact MO.none
  | some v=>rw [zAH L e]; exact MO.some L
 | lku ag ls z x i ok =>
  simp only [K.stepO,stepO];cases e:K.lkuV ag ls z (x.ev env) (i.ev env) ok k with
  | none=>exact MO.none
  | some v=>rw [qJ1 L e]; exact MO.some L
 | ckl g a x =>
  simp only [K.stepO,stepO];cases e:K.ldV g (a.ev env) k with
  | none=>exact MO.none
  | some v =>
   rw [zAH L e]
   dsimp only
   split
   ·exact MO.some L
   ·exact MO.none
 | cku ag ls z x i ok d =>
  simp only [K.stepO,stepO];cases e:K.lkuV ag ls z (x.ev env) (i.ev env) ok k with
  | none=>exact MO.none
  | some v =>
   rw [qJ1 L e]
   dsimp only
   split
   ·exact MO.some L
   ·exact MO.none
 | st n a x =>
  simp only [K.stepO,stepO];cases e:K.stV n (a.ev env) (x.ev env) k with
  | none=>exact MO.none
  | some k' =>
   obtain ⟨h',e',L'⟩:=m_stV L e;rw [e'];exact MO.some L'
 | bad=>exact MO.none
 | mov x=>exact MO.some L
 | alloc z=>simp only [K.stepO,stepO,K.newC,newC,L.n]; exact MO.some (L.push _)
 | mkmap=>simp only [K.stepO,stepO,L.n]; exact MO.some (L.push _)
 | lenA n=>exact MO.some L
 | bin op x y=>simp only [K.stepO,stepO]; cases bin op (x.ev env) (y.ev env)<;>first | exact MO.none | exact MO.some L
 | eqo neg e x y=>simp only [K.stepO,stepO]; cases eqK e (x.ev env) (y.ev env)<;>first | exact MO.none | exact MO.some L
 | un op x=>simp only [K.stepO,stepO]; cases un op (x.ev env)<;>first | exact MO.none | exact MO.some L
 | pick c a b =>
  simp only [K.stepO,stepO];cases c.ev env with
  | bool q=>cases q<;>exact MO.some L
  | _=>exact MO.none
 | build z ps=>simp only [K.stepO,stepO]; cases cG z env ps<;>first | exact MO.none | exact MO.some L
 | nilck x=>simp only [K.stepO,stepO]; cases x.ev env<;>first | exact MO.none | exact MO.some L
 | cvi kk x=>simp only [K.stepO,stepO]; cases x.ev env<;>first | exact MO.none | exact MO.some L
 | cvid x=>simp only [K.stepO,stepO]; cases x.ev env<;>first | exact MO.none | exact MO.some L
 | mkf f a b=>exact MO.some L
 | fad off x=>simp only [K.stepO,stepO]; cases x.ev env<;>first | exact MO.none | exact MO.some L
 | mn xs=>simp only [K.stepO,stepO]; cases mnL (evs env xs)<;>first | exact MO.none | exact MO.some L
 | mx xs=>simp only [K.stepO,stepO]; cases mxL (evs env xs)<;>first | exact MO.none | exact MO.some L
 | lenT x=>simp only [K.stepO,stepO]; cases x.ev env<;>first | exact MO.none | exact MO.some L
 | lenS x=>simp only [K.stepO,stepO]; cases lenOf (x.ev env)<;>first | exact MO.none | exact MO.some L
 | slS kk x lo hi mx=>simp only [K.stepO,stepO]; cases slS (x.ev env) kk (Opd.evo env lo) (Opd.evo env hi) (Opd.evo env mx)<;>first | exact MO.none | exact MO.some L
 | slA n kk x lo hi mx =>
  simp only [K.stepO,stepO];cases e:K.slA k (x.ev env) n kk (Opd.evo env lo) (Opd.evo env hi) (Opd.evo env mx) with
  | none=>exact MO.none
  | some v=>rw [m_slA L e]; exact MO.some L
 | box x =>
  simp only [K.stepO,stepO,K.newC,newC,L.n];split
  ·exact MO.some (L.push _)
  ·exact MO.none
 | bsl kk z len ps =>
  simp only [K.stepO,stepO,L.n];cases gU kk (dQ z len) env ps with
  | none=>exact MO.none
  | some c=>exact MO.some (L.push _)
 | slT x lo hi =>
  simp only [K.stepO,stepO];cases x.ev env<;>(try dsimp only)<;>try (exact MO.none)
  rename_i s;cases bnd (Opd.evo env hi) s.size s.size<;>(try dsimp only)<;>try (exact MO.none)
  rename_i b;cases bnd (Opd.evo env lo) 0 b<;>first | exact MO.none | exact MO.some L
 | fld off g x =>
  simp only [K.stepO,stepO];cases x.ev env<;>(try dsimp only)<;>try (exact MO.none)
  rename_i c;cases cO g c off<;>first | exact MO.none | exact MO.some L
 | iaS kk x i =>
  simp only [K.stepO,stepO];cases x.ev env<;>cases bf? (i.ev env)<;>(try dsimp only)<;>try (exact MO.none)
  ·split
   ·exact MO.some L
   ·exact MO.none
  ·rename_i rows ex i;cases nth? rows i<;>(try dsimp only)<;>try (exact MO.none)
   split
   ·exact MO.some L
   ·exact MO.none
 | iaA n kk x i =>
  simp only [K.stepO,stepO];cases x.ev env<;>cases bf? (i.ev env)<;>(try dsimp only)<;>try (exact MO.none)
  all_goals
   split
   ·exact MO.some L
   ·exact MO.none
 | ixA n kk g x i =>
  simp only [K.stepO,stepO];cases x.ev env<;>cases bf? (i.ev env)<;>(try dsimp only)<;>try (exact MO.none)
  rename_i c i;split
  ·cases cO g c (i*kk)<;>first | exact MO.none | exact MO.some L
  ·exact MO.none
 | ixT x i =>
  simp only [K.stepO,stepO];cases x.ev env<;>cases bf? (i.ev env)<;>(try dsimp only)<;>try (exact MO.none)
  rename_i s i;cases s.data.toList[i]? <;> first | exact MO.none | exact MO.some L
 | ext t i =>
  simp only [K.stepO,stepO];cases t.ev env<;>(try dsimp only)<;>try (exact MO.none)
  rename_i vs;cases nth? vs i<;>first | exact MO.none | exact MO.some L
 | rngT x =>
  simp only [K.stepO,stepO,L.n];cases x.ev env<;>first | exact MO.none | exact MO.some (L.push _)
 | nxtT it =>
  simp only [K.stepO,stepO];cases it.ev env<;>(try dsimp only)<;>try (exact MO.none)
  rename_i r off;cases off with
  | succ o=>exact MO.none
  | zero =>
   show MO (match k.get r with
    | some (.sit s pos)=>if pos < s.size then
      some (.tup [.bool true,.int .i64 pos,.int .i32 (Utf8.decode s pos).1],k.put r (.sit s (pos+(Utf8.decode s pos).2)))
     else some (.tup [.bool false],k)
    | _=>none) (match h.get r with
    | some (.sit s pos)=>if pos < s.size then
      some (.tup [.bool true,.int .i64 pos,.int .i32 (Utf8.decode s pos).1],h.put r (.sit s (pos+(Utf8.decode s pos).2)))
     else some (.tup [.bool false],h)
    | _=>none)
   cases hg:k.get r with
   | none=>exact MO.none
   | some bl =>
    rw [L.g r bl hg];cases bl<;>(try dsimp only)<;>try (exact MO.none)
    split
    ·exact MO.some (L.put _ _)
    ·exact MO.some L
 | lenM x =>
  simp only [K.stepO,stepO];cases x.ev env<;>(try dsimp only)<;>try (first | exact MO.none | exact MO.some L)
  rename_i r;cases hg:k.get r with
  | none=>exact MO.none
  | some bl =>
   rw [L.g r bl hg];cases bl<;>first | exact MO.none | exact MO.some L
 | mset ag ls m kk v =>
  simp only [K.stepO,stepO];split
  ·cases m.ev env<;>(try dsimp only)<;>try (exact MO.none)
   rename_i r;cases e:K.frz 20 (v.ev env) k with
   | none=>exact MO.none
   | some y =>
    obtain ⟨y1,y2⟩:=y;obtain ⟨h2,e2,L2⟩:=vq 20 (v.ev env) k h L y1 y2 e;rw [e2]
    dsimp only
    cases hg:y2.get r with
    | none=>exact MO.none
    | some bl =>
     rw [L2.g r bl hg];cases bl<;>(try dsimp only)<;>try (exact MO.none)
     rename_i es cl;cases bp es (kk.ev env) with
     | none=>exact MO.none
     | some o=>cases o<;>exact MO.some (L2.put _ _)
  ·exact MO.none
 | ment ag ls z m kk =>
  simp only [K.stepO,stepO];split
  ·cases m.ev env<;>(try dsimp only)<;>try (exact MO.none)
   rename_i r;cases hg:k.get r with
   | none=>exact MO.none
   | some bl =>
    rw [L.g r bl hg];cases bl<;>(try dsimp only)<;>try (exact MO.none)
    rename_i es cl;cases bp es (kk.ev env) with
    | none=>exact MO.none
    | some o=>cases o<;>first | exact MO.some (L.put _ _) | exact MO.some L
  ·exact MO.none
 | msto m s v =>
  simp only [K.stepO,stepO];cases m.ev env<;>cases s.ev env<;>(try dsimp only)<;>try (exact MO.none)
  rename_i r _ _;cases hg:k.get r with
  | none=>exact MO.none
  | some bl =>
   rw [L.g r bl hg];cases bl<;>(try dsimp only)<;>try (exact MO.none)
   rename_i es cl;cases qCO es _ (v.ev env)<;>first | exact MO.none | exact MO.some (L.put _ _)
 | clr kk z x =>
  simp only [K.stepO,stepO];cases x.ev env<;>(try dsimp only)<;>try (first | exact MO.none | exact MO.some L)
  case map r =>
   cases hg:k.get r with
   | none=>exact MO.none
   | some bl =>
    rw [L.g r bl hg];cases bl<;>first | exact MO.none | exact MO.some (L.put _ _)
  case slc k' r off len cap =>
   split
   ·exact MO.some L
   ·split
    ·exact MO.none
    ·cases hg:k.get r with
     | none=>exact MO.none
     | some bl =>
      rw [L.g r bl hg];cases bl<;>(try dsimp only)<;>try (exact MO.none)
      rename_i cs ro;cases ro<;>(try dsimp only)<;>try (exact MO.none)
      split
      ·exact MO.some (L.put _ _)
      ·exact MO.none
  case lst rows ex=>cases rows<;>first | exact MO.none | exact MO.some L
end
end Ce.Q
namespace Ce.Q
noncomputable section
open Go
abbrev KV:=CV→HK→Bool
abbrev fZ:=Tgt→List CV→HK→KV→Bool
def SQ(cq:fZ)(c:cS):Prop:=∀t a k K,cq t a k K=true→∀h,Le k h→∃v h' k',c t a h=some (v,h')∧Le k' h'∧K v k'=true
abbrev Op:=fZ→Nat→Env→HK→KV→Bool
def OpOK(q:Op)(o:Ins):Prop:=∀cq c,SQ cq c→∀nt E l,EL nt E l→∀k K,q cq nt E k K=true→∀h,Le k h→∃v h' k',stepO c o l h=some (v,h')∧Le k' h'∧K v k'=true
def ev(x:Opd)(E:Env):CV:=Opd.rec (motive:=fun _=>CV) (fun i=>rd i E) (fun v=>v) x
theorem dz{nt:Nat}{E:Env}{l:List CV}(h:EL nt E l)(x:Opd):x.ev l=ev x E:=by
 cases x with
 | t i=>exact h.2 i
 | c v=>rfl
def yY(os:List Opd)(E:Env):List CV:=List.rec (motive:=fun _=>List CV) [] (fun o _ ih=>ev o E::ih) os
theorem oD{nt:Nat}{E:Env}{l:List CV}(h:EL nt E l):∀os:List Opd,evs l os=yY os E
 | []=>rfl
 | o::os=>by
  show o.ev l::evs l os=ev o E::yY os E
  rw [dz h,oD h os]
def fI(kd:IntKind)(n:Int)(K:CV→Bool):Bool:=Int.rec (motive:=fun _=>Bool) (fun a=>Nat.rec (motive:=fun _=>Bool) (K (.int kd (.ofNat 0))) (fun m _=>K (.int kd (.ofNat (Nat.succ m)))) a) (fun a=>Nat.rec (motive:=fun _=>Bool) (K (.int kd (.negSucc 0))) (fun m _=>K (.int kd (.negSucc (Nat.succ m)))) a) n
theorem zBV(kd:IntKind)(n:Int)(K:CV→Bool):fI kd n K=K (.int kd n):=by
 cases n with
 | ofNat a=>cases a<;>rfl
 | negSucc a=>cases a<;>rfl
def fB(b:Bool)(K:CV→Bool):Bool:=Bool.rec (motive:=fun _=>Bool) (K (.bool false)) (K (.bool true)) b
theorem qLG(b:Bool)(K:CV→Bool):fB b K=K (.bool b):=by cases b<;>rfl
def in64(n:Int):Bool:=Int.rec (motive:=fun _=>Bool) (fun a=>Nat.ble a 9223372036854775807) (fun a=>Nat.ble a 9223372036854775807) n
def inR(kd:IntKind)(n:Int):Bool:=IntKind.rec (motive:=fun _=>Int→Bool) (fun _=>false) (fun _=>false) (fun _=>false) in64 (fun _=>false) (fun _=>false) (fun _=>false) (fun _=>false) kd n
theorem wrap_in{kd:IntKind}{n:Int}(h:inR kd n=true):kd.wrap n=n:=by
 cases kd<;>try (cases h; done)
 have h':in64 n=true:=h;have e1:(2:Int) ^ IntKind.i64.bits=18446744073709551616:=by decide
 have e2:(2:Int) ^ (IntKind.i64.bits - 1)=9223372036854775808:=by decide
 have e3:IntKind.i64.signed=true:=rfl;simp only [IntKind.wrap,e1,e2,e3,lJ,dT];cases n with
 | ofNat a =>
  have:a≤9223372036854775807:=el h';have e4:(Int.ofNat a)=(a:Int):=rfl;rw [e4];split<;>omega
 | negSucc a =>
  have:a≤9223372036854775807:=el h';have e4:(Int.negSucc a) = -((a:Int)+1):=Int.negSucc_eq a;rw [e4];split<;>omega
def fW(kd:IntKind)(n:Int)(K:CV→Bool):Bool:=Bool.rec (motive:=fun _=>Bool) (fI kd (kd.wrap n) K) (fI kd n K) (inR kd n)
theorem zBU(kd:IntKind)(n:Int)(K:CV→Bool):fW kd n K=K (.int kd (kd.wrap n)):=by
 unfold fW;cases h:inR kd n with
 | false=>exact zBV _ _ _
 | true=>rw [wrap_in h]; exact zBV _ _ _
def kix(k:IntKind):Nat:=IntKind.rec (motive:=fun _=>Nat) 0 1 2 3 4 5 6 7 k
def qJO(k k':IntKind):Bool:=Nat.beq (kix k) (kix k')
theorem qJN{k k':IntKind}(h:qJO k k'=true):k=k':=by
 cases k<;>cases k' <;> first | rfl | (exact absurd h (by decide))
def oo(x y:CV)(f:IntKind→Int→Int→Bool)(els:Bool):Bool:=match x with
 | .int k a=>(match y with
  | .int k' b=>Bool.rec (motive:=fun _=>Bool) els (f k a b) (qJO k k')
  | _=>els)
 | _=>els
theorem yQ{x y:CV}{f:IntKind→Int→Int→Bool}{els:Bool}(h:oo x y f els=true):els=true∨∃k a b,x=.int k a∧y=.int k b∧f k a b=true:=by
 unfold oo at h;split at h
 ·rename_i k a;split at h
  ·rename_i k' b;cases hb:qJO k k' with
   | false=>rw [hb] at h; exact .inl h
   | true =>
    rw [hb] at h;have:=qJN hb;subst this;exact .inr ⟨k,a,b,rfl,rfl,h⟩
  ·exact .inl h
 ·exact .inl h
def ltI(a b:Int):Bool:=Int.rec (motive:=fun _=>Bool) (fun a=>Int.rec (motive:=fun _=>Bool) (fun b=>Nat.ble (Nat.succ a) b) (fun _=>false) b) (fun a=>Int.rec (motive:=fun _=>Bool) (fun _=>true) (fun b=>Nat.ble (Nat.succ b) a) b) a
theorem yL(a b:Int):ltI a b=decide (a < b):=by
 have key:∀m n:Nat,Nat.ble m n=decide (m≤n):=fun m n=>by
  cases h:Nat.ble m n with
  | true=>exact (fQ (el h)).symm
  | false =>
   refine (eY fun hh=>?_).symm;rw [tT hh] at h; cases h
 cases a with
 | ofNat a =>
  cases b with
  | ofNat b =>
   show Nat.ble (Nat.succ a) b=_
   rw [key];refine decide_eq_decide.2 ?_;have e1:(Int.ofNat a)=(a:Int):=rfl;have e2:(Int.ofNat b)=(b:Int):=rfl;rw [e1,e2]; omega
  | negSucc b =>
   show false=_
   refine (eY ?_).symm;have e1:(Int.ofNat a)=(a:Int):=rfl;rw [e1,Int.negSucc_eq]; omega
 | negSucc a =>
  cases b with
  | ofNat b =>
   show true=_
   refine (fQ ?_).symm;have e1:(Int.ofNat b)=(b:Int):=rfl;rw [e1,Int.negSucc_eq]; omega
  | negSucc b =>
   show Nat.ble (Nat.succ b) a=_
   rw [key];refine decide_eq_decide.2 ?_;rw [Int.negSucc_eq,Int.negSucc_eq]; omega
def eqI(a b:Int):Bool:=Int.rec (motive:=fun _=>Bool) (fun a=>Int.rec (motive:=fun _=>Bool) (fun b=>Nat.beq a b) (fun _=>false) b) (fun a=>Int.rec (motive:=fun _=>Bool) (fun _=>false) (fun b=>Nat.beq a b) b) a
theorem nbeq(a b:Nat):Nat.beq a b=decide (a=b):=by
 cases h:Nat.beq a b with
 | true=>exact (fQ (nQ h)).symm
 | false=>exact (eY (Nat.ne_of_beq_eq_false h)).symm
theorem eqI_eq(a b:Int):eqI a b=(a==b):=by
 have hb:(a==b)=decide (a=b):=rfl;rw [hb];cases a with
 | ofNat a =>
  cases b with
  | ofNat b =>
   show Nat.beq a b=_
   rw [nbeq];refine decide_eq_decide.2 ⟨fun h=>by rw [h],fun h=>Int.ofNat.inj h⟩
  | negSucc b=>exact (eY (fun h=>by cases h)).symm
 | negSucc a =>
  cases b with
  | ofNat b=>exact (eY (fun h=>by cases h)).symm
  | negSucc b =>
   show Nat.beq a b=_
   rw [nbeq];refine decide_eq_decide.2 ⟨fun h=>by rw [h],fun h=>Int.negSucc.inj h⟩
def ef(op:BinOp)(x y:CV)(K:CV→Bool):Bool:=match bin op x y with
 | some v=>K v
 | none=>false
def b_add(x y:CV)(K:CV→Bool):Bool:=oo x y (fun kd a b=>fW kd (Int.add a b) K) (ef .add x y K)
def b_sub(x y:CV)(K:CV→Bool):Bool:=oo x y (fun kd a b=>fW kd (Int.sub a b) K) (ef .sub x y K)
def b_mul(x y:CV)(K:CV→Bool):Bool:=oo x y (fun kd a b=>fW kd (Int.mul a b) K) (ef .mul x y K)
def b_lss(x y:CV)(K:CV→Bool):Bool:=oo x y (fun _ a b=>fB (ltI a b) K) (ef .lss x y K)
def b_gtr(x y:CV)(K:CV→Bool):Bool:=oo x y (fun _ a b=>fB (ltI b a) K) (ef .gtr x y K)
def b_leq(x y:CV)(K:CV→Bool):Bool:=oo x y (fun _ a b=>fB (Bool.rec (motive:=fun _=>Bool) true false (ltI b a)) K) (ef .leq x y K)
def b_geq(x y:CV)(K:CV→Bool):Bool:=oo x y (fun _ a b=>fB (Bool.rec (motive:=fun _=>Bool) true false (ltI a b)) K) (ef .geq x y K)
def binQ(op:BinOp):CV→CV→(CV→Bool)→Bool:=BinOp.rec (motive:=fun _=>CV→CV→(CV→Bool)→Bool) b_add b_sub b_mul (ef .quo) (ef .rem) (ef .and) (ef .or) (ef .xor) (ef .shl) (ef .shr) (ef .andNot) (ef .eql) (ef .neq) b_lss b_leq b_gtr b_geq op
theorem rJ{op:BinOp}{x y:CV}{K:CV→Bool}(h:ef op x y K=true):∃v,bin op x y=some v∧K v=true:=by
 unfold ef at h;split at h
 ·rename_i v hv; exact ⟨v,hv,h⟩
 ·cases h
theorem qA6(a b:Int):(Bool.rec (motive:=fun _=>Bool) true false (ltI b a):Bool)=decide (a≤b):=by
 rw [yL];by_cases h:b < a
 ·rw [fQ h,eY (by omega:¬a≤b)]
 ·rw [eY h,fQ (by omega:a≤b)]
theorem qZI{op:BinOp}{x y:CV}{K:CV→Bool}(h:binQ op x y K=true):∃v,bin op x y=some v∧K v=true:=by
 have ar:∀(op:BinOp) (f:Int→Int→Int),(∀k a b,bin op (.int k a) (.int k b)=some (.int k (k.wrap (f a b))))→oo x y (fun kd a b=>fW kd (f a b) K) (ef op x y K)=true→∃v,bin op x y=some v∧K v=true:=by
  intro op f hf h;rcases yQ h with h | ⟨k,a,b,rfl,rfl,hq⟩
  ·exact rJ h
  ·rw [zBU] at hq;exact ⟨_,hf k a b,hq⟩
 have cm:∀(op:BinOp) (f:Int→Int→Bool),(∀k a b,bin op (.int k a) (.int k b)=some (.bool (f a b)))→oo x y (fun _ a b=>fB (f a b) K) (ef op x y K)=true→∃v,bin op x y=some v∧K v=true:=by
  intro op f hf h;rcases yQ h with h | ⟨k,a,b,rfl,rfl,hq⟩
  ·exact rJ h
  ·rw [qLG] at hq;exact ⟨_,hf k a b,hq⟩
 cases op
 case add=>exact ar .add Int.add (fun k a b=>by simp only [bin,aH,iS]; rfl) h
 case sub=>exact ar .sub Int.sub (fun k a b=>by simp only [bin,aH,iS]; rfl) h
 case mul=>exact ar .mul Int.mul (fun k a b=>by simp only [bin,aH,iS]; rfl) h
 case lss=>exact cm .lss ltI (fun k a b=>by simp only [bin,aH,iS,yL]) h
 case gtr=>exact cm .gtr (fun a b=>ltI b a) (fun k a b=>by simp only [bin,aH,iS,yL,GT.gt]) h
 case leq=>exact cm .leq (fun a b=>Bool.rec (motive:=fun _=>Bool) true false (ltI b a)) (fun k a b=>by simp only [bin,aH,iS,qA6]) h
 case geq=>exact cm .geq (fun a b=>Bool.rec (motive:=fun _=>Bool) true false (ltI a b)) (fun k a b=>by simp only [bin,aH,iS,qA6,GE.ge]) h
 all_goals exact rJ h
def o9(neg:Bool)(e:EqK)(x y:CV)(K:CV→Bool):Bool:=match eqK e x y with
 | some b=>fB (Bool.rec (motive:=fun _=>Bool) b (Bool.rec (motive:=fun _=>Bool) true false b) neg) K
 | none=>false
def lfI(ag:Bool)(ls:List Lf):Bool:=match ag,ls with
 | false,[.i]=>true
 | _,_=>false
def y9(neg ag:Bool)(ls:List Lf)(x y:CV)(K:CV→Bool):Bool :=
 Bool.rec (motive:=fun _=>Bool) (o9 neg (.leaf ag ls) x y K) (oo x y (fun _ a b=>fB (Bool.rec (motive:=fun _=>Bool) (eqI a b) (Bool.rec (motive:=fun _=>Bool) true false (eqI a b)) neg) K) (o9 neg (.leaf ag ls) x y K)) (lfI ag ls)
def eqQ(neg:Bool)(e:EqK):CV→CV→(CV→Bool)→Bool:=EqK.rec (motive:=fun _=>CV→CV→(CV→Bool)→Bool) (y9 neg) (o9 neg .ptr) (o9 neg .slc) (o9 neg .fn) (o9 neg .map) e
theorem qn{neg:Bool}{e:EqK}{x y:CV}{K:CV→Bool}(h:o9 neg e x y K=true):∃b,eqK e x y=some b∧K (.bool (if neg then !b else b))=true:=by
 unfold o9 at h;split at h
 ·rename_i b hb;rw [qLG] at h;refine ⟨b,hb,?_⟩;cases neg<;>cases b<;>exact h
 ·cases h
theorem eqQ_ok{neg:Bool}{e:EqK}{x y:CV}{K:CV→Bool}(h:eqQ neg e x y K=true):∃b,eqK e x y=some b∧K (.bool (if neg then !b else b))=true:=by
 cases e
 case leaf ag ls =>
  have h':y9 neg ag ls x y K=true:=h;unfold y9 at h';cases hl:lfI ag ls with
  | false=>rw [hl] at h'; exact qn h'
  | true =>
   rw [hl] at h';rcases yQ h' with h' | ⟨k,a,b,rfl,rfl,hq⟩
   ·exact qn h'
   ·unfold lfI at hl;split at hl
    ·rw [qLG] at hq;refine ⟨a==b,?_,?_⟩
     ·simp only [eqK,kOk,cK,CV.cells,eS,eqF,cr,eqv,eZ,lL,BEq.rfl,eA,ac];cases (a==b)<;>rfl
     ·rw [eqI_eq] at hq;cases hab:(a==b)<;>rw [hab] at hq<;>cases neg<;>exact hq
    ·cases hl
 all_goals exact qn h
def qLO(n:Nat):List CV→(List CV→Bool)→Bool:=Nat.rec (motive:=fun _=>List CV→(List CV→Bool)→Bool) (fun l f=>f l) (fun _ ih l f=>List.rec (motive:=fun _=>Bool) false (fun _ t _=>ih t f) l) n
theorem qo:∀(n:Nat) (l:List CV) (f:List CV→Bool),qLO n l f=true→n≤l.length∧f (l.drop n)=true
 | 0,l,f,h=>⟨fV _,h⟩
 | n+1,[],f,h=>by cases h
 | n+1,a::l,f,h=>by
  obtain ⟨h1,h2⟩:=qo n l f h;exact ⟨by simp; omega,h2⟩
def qZW(n:Nat):List CV→(List CV→Bool)→Bool:=Nat.rec (motive:=fun _=>List CV→(List CV→Bool)→Bool) (fun _ f=>f []) (fun _ ih l f=>List.rec (motive:=fun _=>Bool) false (fun a t _=>ih t (fun r=>f (a::r))) l) n
theorem uq:∀(n:Nat) (l:List CV) (f:List CV→Bool),qZW n l f=true→n≤l.length∧f (l.take n)=true
 | 0,l,f,h=>⟨fV _,h⟩
 | n+1,[],f,h=>by cases h
 | n+1,a::l,f,h=>by
  obtain ⟨h1,h2⟩:=uq n l (fun r=>f (a::r)) h;exact ⟨by simp; omega,h2⟩
def nthO(c:List CV)(i:Nat)(f:CV→Bool):Bool:=qLO i c (fun l=>List.rec (motive:=fun _=>Bool) false (fun a _ _=>f a) l)
theorem nth?_drop{α:Type}:∀(c:List α) (i:Nat) (a:α) (t:List α),c.drop i=a::t→nth? c i=some a
 | [],i,a,t,h=>by simp at h
 | x::c,0,a,t,h=>by
  simp only [kX,iJ] at h;rw [h.1]; rfl
 | x::c,i+1,a,t,h=>nth?_drop c i a t h
theorem qA4{c:List CV}{i:Nat}{f:CV→Bool}(h:nthO c i f=true):∃a,nth? c i=some a∧f a=true:=by
 obtain ⟨h1,h2⟩:=qo _ _ _ h;cases hd:c.drop i with
 | nil=>rw [hd] at h2; cases h2
 | cons a t=>rw [hd] at h2; exact ⟨a,nth?_drop c i a t hd,h2⟩
def cutO(c:List CV)(off n:Nat)(f:List CV→Bool):Bool:=qLO off c (fun l=>qZW n l f)
theorem qY1{c:List CV}{off n:Nat}{f:List CV→Bool}(h:cutO c off n f=true):∃l,cut? c off n=some l∧f l=true:=by
 obtain ⟨h1,h2⟩:=qo _ _ _ h;obtain ⟨h3,h4⟩:=uq _ _ _ h2;refine ⟨_,?_,h4⟩;simp only [fX] at h3;simp only [cut?];rw [aH (by omega)]
def vf(g:Option Nat)(c:List CV)(off:Nat)(f:CV→Bool):Bool:=Option.rec (motive:=fun _=>Bool) (nthO c off (fun v=>Bool.rec (motive:=fun _=>Bool) false (f v) v.one)) (fun n=>cutO c off n (fun l=>f (.agg l))) g
theorem mV{g:Option Nat}{c:List CV}{off:Nat}{f:CV→Bool}(h:vf g c off f=true):∃v,cO g c off=some v∧f v=true:=by
 cases g with
 | none =>
  obtain ⟨a,h1,h2⟩:=qA4 h;cases ho:a.one with
  | false=>rw [ho] at h2; cases h2
  | true=>rw [ho] at h2; exact ⟨a,by simp only [cO,h1,ho,ac],h2⟩
 | some n =>
  obtain ⟨l,h1,h2⟩:=qY1 h;exact ⟨_,by simp only [cO,h1,dh],h2⟩
def nk(l:List CV):Nat:=List.rec (motive:=fun _=>Nat) 0 (fun _ _ ih=>Nat.succ ih) l
theorem gS:∀l:List CV,nk l=l.length
 | []=>rfl
 | a::l=>congrArg Nat.succ (gS l)
def i6(l:List CV):Bool:=List.rec (motive:=fun _=>Bool) true (fun a _ ih=>Bool.rec (motive:=fun _=>Bool) false ih a.one) l
theorem iH:∀l:List CV,i6 l=aM l
 | []=>rfl
 | a::l=>by
  show (Bool.rec (motive:=fun _=>Bool) false (i6 l) a.one:Bool)=(a.one&&aM l)
  rw [iH l];cases a.one<;>rfl
def ux(c:List CV):Nat→List CV→List CV:=List.rec (motive:=fun _=>Nat→List CV→List CV) (fun _ _=>[]) (fun a t ih off xs=>Nat.rec (motive:=fun _=>List CV) (List.rec (motive:=fun _=>List CV) (a::t) (fun x xs' _=>x::ih 0 xs') xs) (fun m _=>a::ih m xs) off) c
theorem mD:∀(c:List CV) (off:Nat) (xs:List CV),ux c off xs=splice c off xs
 | [],0,[]=>rfl
 | [],0,_::_=>rfl
 | [],_+1,_=>rfl
 | a::c,0,[]=>by simp only [splice]; rfl
 | a::c,0,x::xs=>by
  show x::ux c 0 xs=_
  rw [mD c 0 xs]; simp only [splice]
 | a::c,n+1,xs=>by
  show a::ux c n xs=_
  rw [mD c n xs]; simp only [splice]
def getQ(k:HK)(i:Nat):Option Blk:=HK.rec (motive:=fun _=>Option Blk) (fun _ t=>qLB t i) k
theorem qBA(k:HK)(i:Nat):getQ k i=k.get i:=by cases k; exact uS _ _
def n6(b:Blk)(f:Nat):Tr Blk→Nat→Tr Blk:=Nat.rec (motive:=fun _=>Tr Blk→Nat→Tr Blk) (fun t _=>t) (fun _ ih t i=>Tr.rec (motive:=fun _=>Tr Blk)
 (Bool.rec (motive:=fun _=>Tr Blk) (Bool.rec (motive:=fun _=>Tr Blk) (.node .nil none (ih .nil (Nat.sub (Nat.div i 2) 1))) (.node (ih .nil (Nat.div i 2)) none .nil) (Nat.beq (Nat.mod i 2) 1)) (.node .nil (some b) .nil) (Nat.beq i 0))
 (fun l x r _ _=>Bool.rec (motive:=fun _=>Tr Blk) (Bool.rec (motive:=fun _=>Tr Blk) (.node l x (ih r (Nat.sub (Nat.div i 2) 1))) (.node (ih l (Nat.div i 2)) x r) (Nat.beq (Nat.mod i 2) 1)) (.node l (some b) r) (Nat.beq i 0)) t) f
theorem jW(b:Blk):∀(f:Nat) (t:Tr Blk) (i:Nat),n6 b f t i=Tr.put b f t i
 | 0,t,i=>rfl
 | f+1,.nil,i=>by
  have e:n6 b (f+1) .nil i=(Bool.rec (motive:=fun _=>Tr Blk) (Bool.rec (motive:=fun _=>Tr Blk) (.node .nil none (n6 b f .nil (Nat.sub (Nat.div i 2) 1))) (.node (n6 b f .nil (Nat.div i 2)) none .nil) (Nat.beq (Nat.mod i 2) 1)) (.node .nil (some b) .nil) (Nat.beq i 0)):=rfl;rw [e,jW b f,jW b f,nbeq,nbeq];simp only [Tr.put];by_cases h0:i=0
  ·rw [aH h0,fQ h0]
  ·rw [aC h0,eY h0];by_cases h1:i % 2=1
   ·rw [aH h1,fQ (show Nat.mod i 2=1 from h1)]; rfl
   ·rw [aC h1,eY (show ¬Nat.mod i 2=1 from h1)]; rfl
 | f+1,.node l x r,i=>by
  have e:n6 b (f+1) (.node l x r) i=(Bool.rec (motive:=fun _=>Tr Blk) (Bool.rec (motive:=fun _=>Tr Blk) (.node l x (n6 b f r (Nat.sub (Nat.div i 2) 1))) (.node (n6 b f l (Nat.div i 2)) x r) (Nat.beq (Nat.mod i 2) 1)) (.node l (some b) r) (Nat.beq i 0)):=rfl;rw [e,jW b f,jW b f,nbeq,nbeq];simp only [Tr.put];by_cases h0:i=0
  ·rw [aH h0,fQ h0]
  ·rw [aC h0,eY h0];by_cases h1:i % 2=1
   ·rw [aH h1,fQ (show Nat.mod i 2=1 from h1)]; rfl
   ·rw [aC h1,eY (show ¬Nat.mod i 2=1 from h1)]; rfl
def putQ(k:HK)(i:Nat)(b:Blk):HK:=HK.rec (motive:=fun _=>HK) (fun n t=>.mk n (n6 b (Nat.succ i) t i)) k
theorem mP(k:HK)(i:Nat)(b:Blk):putQ k i b=k.put i b:=by
 cases k
 show HK.mk _ (n6 b (i+1) _ i)=_
 rw [jW]; rfl
def vT(k:HK)(b:Blk)(f:Nat→HK→Bool):Bool:=HK.rec (motive:=fun _=>Bool) (fun n t=>Nat.rec (motive:=fun _=>Bool) (f 0 (.mk 1 (n6 b 1 t 0))) (fun m _=>f (Nat.succ m) (.mk (Nat.succ (Nat.succ m)) (n6 b (Nat.succ (Nat.succ m)) t (Nat.succ m)))) n) k
theorem mQ(k:HK)(b:Blk)(f:Nat→HK→Bool):vT k b f=f k.n (k.push b):=by
 obtain ⟨n,t⟩:=k;cases n with
 | zero =>
  show f 0 (.mk 1 (n6 b 1 t 0))=_
  rw [jW]; rfl
 | succ m =>
  show f (Nat.succ m) (.mk (Nat.succ (Nat.succ m)) (n6 b (Nat.succ (Nat.succ m)) t (Nat.succ m)))=_
  rw [jW]; rfl
def qXQ(k:HK)(r:Nat)(f:List CV→Bool→Bool):Bool:=Option.rec (motive:=fun _=>Bool) false (fun b=>Blk.rec (motive:=fun _=>Bool) f (fun _ _=>false) (fun _ _ _ _ _ _=>false) (fun _ _=>false) false b) (getQ k r)
theorem qBB{k:HK}{r:Nat}{f:List CV→Bool→Bool}(h:qXQ k r f=true):∃c ro,k.get r=some (.cells c ro)∧f c ro=true:=by
 unfold qXQ at h;rw [qBA] at h;cases hg:k.get r with
 | none=>rw [hg] at h; cases h
 | some b =>
  rw [hg] at h;cases b<;>first | exact ⟨_,_,rfl,h⟩ | cases h
end
end Ce.Q
namespace Ce.Q
noncomputable section
open Go
def cg(o:Ins):Op:=fun _ nt E k K=>match Ce.K.stepO Ce.K.noC o (toL E nt) k with
 | some (v,k')=>K v k'
 | none=>false
theorem j7{o:Ins}(ho:isCall o=false):OpOK (cg o) o:=by
 intro cq c hc nt E l hE k K h0 h L;unfold cg at h0;rw [qGK hE] at h0;split at h0
 ·rename_i v k' hs;obtain ⟨h',e,L'⟩:=qQH c o ho l L v k' hs;exact ⟨v,h',k',e,L',h0⟩
 ·cases h0
def zA4(x:Opd):Op:=fun _ _ E k K=>K (ev x E) k
theorem mov_ok(x:Opd):OpOK (zA4 x) (.mov x):=by
 intro cq c hc nt E l hE k K h0 h L;exact ⟨_,h,k,rfl,L,by rw [dz hE]; exact h0⟩
def tw(z:List CV):Op:=fun _ _ _ k K=>vT k (.cells z false) fun n k'=>K (.ptr n 0) k'
theorem qMO(z:List CV):OpOK (tw z) (.alloc z):=by
 intro cq c hc nt E l hE k K h0 h L;unfold tw at h0;rw [mQ,L.n] at h0;exact ⟨_,_,_,rfl,L.push _,h0⟩
def bslQ(kk:Nat)(E:Env)(ps:List (Nat × Opd)):List CV→(List CV→Bool)→Bool:=List.rec (motive:=fun _=>List CV→(List CV→Bool)→Bool) (fun cs f=>f cs)
 (fun p _ ih cs f=>Prod.rec (motive:=fun _=>Bool) (fun i o=>let v:=(ev o E).cells
  Bool.rec (motive:=fun _=>Bool) false (Bool.rec (motive:=fun _=>Bool) false (Bool.rec (motive:=fun _=>Bool) false (ih (ux cs (Nat.mul i kk) v) f) (i6 v)) (Nat.ble (Nat.add (Nat.mul i kk) kk) (nk cs))) (Nat.beq (nk v) kk)) p) ps
theorem qC5{kk nt:Nat}{E:Env}{l:List CV}(hE:EL nt E l):∀(ps:List (Nat × Opd)) (cs:List CV) (f:List CV→Bool),bslQ kk E ps cs f=true→∃r,gU kk cs l ps=some r∧f r=true
 | [],cs,f,h=>⟨cs,rfl,h⟩
 | (i,o)::ps,cs,f,h=>by
  have h':(Bool.rec (motive:=fun _=>Bool) false (Bool.rec (motive:=fun _=>Bool) false (Bool.rec (motive:=fun _=>Bool) false (bslQ kk E ps (ux cs (Nat.mul i kk) (ev o E).cells) f) (i6 (ev o E).cells)) (Nat.ble (Nat.add (Nat.mul i kk) kk) (nk cs))) (Nat.beq (nk (ev o E).cells) kk):Bool)=true:=h;rw [gS,gS,iH,mD] at h';cases h1:Nat.beq (ev o E).cells.length kk with
  | false=>rw [h1] at h'; cases h'
  | true =>
   rw [h1] at h';cases h2:Nat.ble (Nat.add (Nat.mul i kk) kk) cs.length with
   | false=>rw [h2] at h'; cases h'
   | true =>
    rw [h2] at h';cases h3:aM (ev o E).cells with
    | false=>rw [h3] at h'; cases h'
    | true =>
     rw [h3] at h';obtain ⟨r,h4,h5⟩:=qC5 hE ps _ f h';refine ⟨r,?_,h5⟩;simp only [gU,dz hE,h3,Bool.and_true];have e1:(ev o E).cells.length=kk:=nQ h1;have e2:i*kk+kk≤cs.length:=el h2;rw [aH (by simp only [e1,lI,lJ,dT]; exact e2)];exact h4
def qHT(z:List CV)(n:Nat):List CV:=Nat.rec (motive:=fun _=>List CV) [] (fun _ ih=>List.rec (motive:=fun _=>List CV) ih (fun a _ r=>a::r) z) n
theorem vR(z:List CV):∀n,qHT z n=dQ z n
 | 0=>rfl
 | n+1=>by
  have app:∀(z r:List CV),(List.rec (motive:=fun _=>List CV) r (fun a _ r=>a::r) z:List CV)=z++r:=by
   intro z r; induction z with
   | nil=>rfl
   | cons a z ih=>exact congrArg (List.cons a) ih
  show (List.rec (motive:=fun _=>List CV) (qHT z n) (fun a _ r=>a::r) z:List CV)=_
  rw [app,vR z n]; rfl
def qI5(kk:Nat)(z:List CV)(len:Nat)(ps:List (Nat × Opd)):Op:=fun _ _ E k K=>bslQ kk E ps (qHT z len) fun c=>vT k (.cells c false) fun n k'=>K (.slc kk n 0 len (some len)) k'
theorem bsl_ok(kk:Nat)(z:List CV)(len:Nat)(ps:List (Nat × Opd)):OpOK (qI5 kk z len ps) (.bsl kk z len ps):=by
 intro cq c hc nt E l hE k K h0 h L;unfold qI5 at h0;obtain ⟨r,h1,h2⟩:=qC5 hE _ _ _ h0;rw [mQ,L.n] at h2;rw [vR] at h1;have e:stepO c (.bsl kk z len ps) l h=some (.slc kk h.n 0 len (some len),h.push (.cells r false)):=by simp only [stepO,h1]
 exact ⟨_,_,_,e,L.push _,h2⟩
def ldQ(g:Option Nat)(a:CV)(k:HK)(f:CV→Bool):Bool:=match a with
 | .ptr r off=>qXQ k r fun c _=>vf g c off f
 | .rptr c=>vf g c 0 f
 | _=>false
theorem qJL{g:Option Nat}{a:CV}{k:HK}{h:H}{f:CV→Bool}(L:Le k h)(h0:ldQ g a k f=true):∃v,ldV g a h=some v∧f v=true:=by
 unfold ldQ at h0;split at h0
 ·rename_i r off;obtain ⟨c,ro,h1,h2⟩:=qBB h0;obtain ⟨v,h3,h4⟩:=mV h2;exact ⟨v,by simp only [ldV,L.g _ _ h1,h3],h4⟩
 ·obtain ⟨v,h3,h4⟩:=mV h0;exact ⟨v,by simp only [ldV,h3],h4⟩
 ·cases h0
def q_ld(g:Option Nat)(a:Opd):Op:=fun _ _ E k K=>ldQ g (ev a E) k fun v=>K v k
theorem ld_ok(g:Option Nat)(a:Opd):OpOK (q_ld g a) (.ld g a):=by
 intro cq c hc nt E l hE k K h0 h L;obtain ⟨v,h1,h2⟩:=qJL L h0;exact ⟨v,h,k,by simp only [stepO,dz hE,h1],L,h2⟩
def stQ(n:Nat)(a x:CV)(k:HK)(f:HK→Bool):Bool:=match a with
 | .ptr r off=>qXQ k r fun c ro=>let xs:=x.cells
  Bool.rec (motive:=fun _=>Bool) (Bool.rec (motive:=fun _=>Bool) false (Bool.rec (motive:=fun _=>Bool) false (Bool.rec (motive:=fun _=>Bool) false (f (putQ k r (.cells (ux c off xs) false))) (i6 xs)) (Nat.ble (Nat.add off n) (nk c))) (Nat.beq (nk xs) n)) false ro
 | _=>false
theorem stQ_ok{n:Nat}{a x:CV}{k:HK}{h:H}{f:HK→Bool}(L:Le k h)(h0:stQ n a x k f=true):∃h' k',stV n a x h=some h'∧Le k' h'∧f k'=true:=by
 unfold stQ at h0;split at h0
 ·rename_i r off;obtain ⟨c,ro,h1,h2⟩:=qBB h0;cases ro with
  | true=>cases h2
  | false =>
   dsimp only at h2
   rw [gS,gS,iH,mD,mP] at h2;cases h3:Nat.beq x.cells.length n with
   | false=>rw [h3] at h2; cases h2
   | true =>
    rw [h3] at h2;cases h4:Nat.ble (Nat.add off n) c.length with
    | false=>rw [h4] at h2; cases h2
    | true =>
     rw [h4] at h2;cases h5:aM x.cells with
     | false=>rw [h5] at h2; cases h2
     | true =>
      rw [h5] at h2;have e1:x.cells.length=n:=nQ h3;have e2:off+n≤c.length:=el h4;exact ⟨_,_,by simp only [stV,L.g _ _ h1,h5,Bool.and_true]; rw [aH (by simp only [e1,lI,lJ,dT]; exact e2)],L.put _ _,h2⟩
 ·cases h0
def q_st(n:Nat)(a x:Opd):Op:=fun _ _ E k K=>stQ n (ev a E) (ev x E) k fun k'=>K undef k'
theorem st_ok(n:Nat)(a x:Opd):OpOK (q_st n a x) (.st n a x):=by
 intro cq c hc nt E l hE k K h0 h L;obtain ⟨h',k',h1,h2,h3⟩:=stQ_ok L h0;exact ⟨_,h',k',by simp only [stepO,dz hE,h1],h2,h3⟩
def zA7(op:BinOp)(x y:Opd):Op:=fun _ _ E k K=>binQ op (ev x E) (ev y E) fun v=>K v k
theorem bin_ok(op:BinOp)(x y:Opd):OpOK (zA7 op x y) (.bin op x y):=by
 intro cq c hc nt E l hE k K h0 h L;obtain ⟨v,h1,h2⟩:=qZI h0;exact ⟨v,h,k,by simp only [stepO,dz hE,h1],L,h2⟩
def zA6(neg:Bool)(e:EqK)(x y:Opd):Op:=fun _ _ E k K=>eqQ neg e (ev x E) (ev y E) fun v=>K v k
theorem eqo_ok(neg:Bool)(e:EqK)(x y:Opd):OpOK (zA6 neg e x y) (.eqo neg e x y):=by
 intro cq c hc nt E l hE k K h0 h L;obtain ⟨b,h1,h2⟩:=eqQ_ok h0;exact ⟨_,h,k,by simp only [stepO,dz hE,h1],L,h2⟩
def zA5(f:Nat)(a b:List Opd):Op:=fun _ _ E k K=>K (.clo f (yY a E) (yY b E)) k
theorem mkf_ok(f:Nat)(a b:List Opd):OpOK (zA5 f a b) (.mkf f a b):=by
 intro cq c hc nt E l hE k K h0 h L;exact ⟨_,h,k,rfl,L,by rw [oD hE,oD hE]; exact h0⟩
def qI2(off:Nat)(x:Opd):Op:=fun cq nt E k K=>match ev x E with
 | .ptr r o=>K (.ptr r (Nat.add o off)) k
 | _=>cg (.fad off x) cq nt E k K
theorem fad_ok(off:Nat)(x:Opd):OpOK (qI2 off x) (.fad off x):=by
 intro cq c hc nt E l hE k K h0 h L;unfold qI2 at h0;split at h0
 ·rename_i r o hx;exact ⟨_,h,k,by simp only [stepO,dz hE,hx]; rfl,L,h0⟩
 ·exact j7 rfl cq c hc nt E l hE k K h0 h L
def qI1(off:Nat)(g:Option Nat)(x:Opd):Op:=fun _ _ E k K=>match ev x E with
 | .agg c=>vf g c off fun v=>K v k
 | _=>false
theorem fld_ok(off:Nat)(g:Option Nat)(x:Opd):OpOK (qI1 off g x) (.fld off g x):=by
 intro cq c hc nt E l hE k K h0 h L;unfold qI1 at h0;split at h0
 ·rename_i cs hx;obtain ⟨v,h1,h2⟩:=mV h0;exact ⟨v,h,k,by simp only [stepO,dz hE,hx,h1],L,h2⟩
 ·cases h0
def qIW(v:CV)(f:Nat→Bool):Bool:=match v with
 | .int _ n=>Int.rec (motive:=fun _=>Bool) (fun a=>f a) (fun _=>false) n
 | _=>false
theorem uG{v:CV}{f:Nat→Bool}(h:qIW v f=true):∃n,bf? v=some n∧f n=true:=by
 unfold qIW at h;split at h
 ·rename_i k n;cases n with
  | ofNat a =>
   refine ⟨a,?_,h⟩;have e:(Int.ofNat a)=(a:Int):=rfl;simp only [bf?];rw [aH (by rw [e]; omega)]; rfl
  | negSucc a=>cases h
 ·cases h
def qHZ(kk:Nat)(x i:Opd):Op:=fun cq nt E k K=>match ev x E with
 | .slc _ r off len _=>qIW (ev i E) fun i=>Bool.rec (motive:=fun _=>Bool) false (K (.ptr r (Nat.add off (Nat.mul i kk))) k) (Nat.ble (Nat.succ i) len)
 | _=>cg (.iaS kk x i) cq nt E k K
theorem iaS_ok(kk:Nat)(x i:Opd):OpOK (qHZ kk x i) (.iaS kk x i):=by
 intro cq c hc nt E l hE k K h0 h L;unfold qHZ at h0;split at h0
 ·rename_i k' r off len cap hx;obtain ⟨n,h1,h2⟩:=uG h0;cases h3:Nat.ble (Nat.succ n) len with
  | false=>rw [h3] at h2; cases h2
  | true =>
   rw [h3] at h2;have:n < len:=el h3;exact ⟨_,h,k,by simp only [stepO,dz hE,hx,h1]; rw [aH this]; rfl,L,h2⟩
 ·exact j7 rfl cq c hc nt E l hE k K h0 h L
def qI0(n kk:Nat)(x i:Opd):Op:=fun cq nt E k K=>match ev x E with
 | .ptr r off=>qIW (ev i E) fun i=>Bool.rec (motive:=fun _=>Bool) false (K (.ptr r (Nat.add off (Nat.mul i kk))) k) (Nat.ble (Nat.succ i) n)
 | _=>cg (.iaA n kk x i) cq nt E k K
theorem iaA_ok(n kk:Nat)(x i:Opd):OpOK (qI0 n kk x i) (.iaA n kk x i):=by
 intro cq c hc nt E l hE k K h0 h L;unfold qI0 at h0;split at h0
 ·rename_i r off hx;obtain ⟨m,h1,h2⟩:=uG h0;cases h3:Nat.ble (Nat.succ m) n with
  | false=>rw [h3] at h2; cases h2
  | true =>
   rw [h3] at h2;have:m < n:=el h3;exact ⟨_,h,k,by simp only [stepO,dz hE,hx,h1]; rw [aH this]; rfl,L,h2⟩
 ·exact j7 rfl cq c hc nt E l hE k K h0 h L
def qHY(n kk:Nat)(g:Option Nat)(x i:Opd):Op:=fun _ _ E k K=>match ev x E with
 | .agg c=>qIW (ev i E) fun i=>Bool.rec (motive:=fun _=>Bool) false (vf g c (Nat.mul i kk) fun v=>K v k) (Nat.ble (Nat.succ i) n)
 | _=>false
theorem ixA_ok(n kk:Nat)(g:Option Nat)(x i:Opd):OpOK (qHY n kk g x i) (.ixA n kk g x i):=by
 intro cq c hc nt E l hE k K h0 h L;unfold qHY at h0;split at h0
 ·rename_i cs hx;obtain ⟨m,h1,h2⟩:=uG h0;cases h3:Nat.ble (Nat.succ m) n with
  | false=>rw [h3] at h2; cases h2
  | true =>
   rw [h3] at h2;have:m < n:=el h3;obtain ⟨v,h4,h5⟩:=mV h2;have h4':cO g cs (m*kk)=some v:=h4;exact ⟨v,h,k,by simp only [stepO,dz hE,hx,h1]; rw [aH this,h4'],L,h5⟩
 ·cases h0
def qI3(t:Opd)(i:Nat):Op:=fun _ _ E k K=>match ev t E with
 | .tup vs=>nthO vs i fun v=>K v k
 | _=>false
theorem ext_ok(t:Opd)(i:Nat):OpOK (qI3 t i) (.ext t i):=by
 intro cq c hc nt E l hE k K h0 h L;unfold qI3 at h0;split at h0
 ·rename_i vs hx;obtain ⟨v,h1,h2⟩:=qA4 h0;exact ⟨v,h,k,by simp only [stepO,dz hE,hx,h1],L,h2⟩
 ·cases h0
def yC(x:Opd):Op:=fun cq nt E k K=>match ev x E with
 | .slc _ _ _ len _=>K (.int .i64 (Int.ofNat len)) k
 | _=>cg (.lenS x) cq nt E k K
theorem qQP(x:Opd):OpOK (yC x) (.lenS x):=by
 intro cq c hc nt E l hE k K h0 h L;unfold yC at h0;split at h0
 ·rename_i k' r off len cap hx;exact ⟨_,h,k,by simp only [stepO,dz hE,hx,lenOf]; rfl,L,h0⟩
 ·exact j7 rfl cq c hc nt E l hE k K h0 h L
def qHX(n:Nat):Op:=fun _ _ _ k K=>K (.int .i64 (Int.ofNat n)) k
theorem qQR(n:Nat):OpOK (qHX n) (.lenA n):=by
 intro cq c hc nt E l hE k K h0 h L;exact ⟨_,h,k,rfl,L,h0⟩
def tu(x:Opd):Op:=fun cq nt E k K=>match ev x E with
 | .ptr r o=>K (.ptr r o) k
 | _=>cg (.nilck x) cq nt E k K
theorem qIT(x:Opd):OpOK (tu x) (.nilck x):=by
 intro cq c hc nt E l hE k K h0 h L;unfold tu at h0;split at h0
 ·rename_i r o hx;exact ⟨_,h,k,by simp only [stepO,dz hE,hx],L,h0⟩
 ·exact j7 rfl cq c hc nt E l hE k K h0 h L
def yB(c a b:Opd):Op:=fun _ _ E k K=>match ev c E with
 | .bool t=>Bool.rec (motive:=fun _=>Bool) (K (ev b E) k) (K (ev a E) k) t
 | _=>false
theorem qQ5(x a b:Opd):OpOK (yB x a b) (.pick x a b):=by
 intro cq c hc nt E l hE k K h0 h L;unfold yB at h0;split at h0
 ·rename_i t hx;cases t with
  | true=>exact ⟨_,h,k,by simp only [stepO,dz hE,hx],L,h0⟩
  | false=>exact ⟨_,h,k,by simp only [stepO,dz hE,hx],L,h0⟩
 ·cases h0
def qLF(E:Env)(ps:List (Nat × Nat × Opd)):List CV→(List CV→Bool)→Bool:=List.rec (motive:=fun _=>List CV→(List CV→Bool)→Bool) (fun cs f=>f cs)
 (fun p _ ih cs f=>Prod.rec (motive:=fun _=>Bool) (fun off q=>Prod.rec (motive:=fun _=>Bool) (fun n o=>let v:=(ev o E).cells
  Bool.rec (motive:=fun _=>Bool) false (Bool.rec (motive:=fun _=>Bool) false (Bool.rec (motive:=fun _=>Bool) false (ih (ux cs off v) f) (i6 v)) (Nat.ble (Nat.add off n) (nk cs))) (Nat.beq (nk v) n)) q) p) ps
theorem wR{nt:Nat}{E:Env}{l:List CV}(hE:EL nt E l):∀(ps:List (Nat × Nat × Opd)) (cs:List CV) (f:List CV→Bool),qLF E ps cs f=true→∃r,cG cs l ps=some r∧f r=true
 | [],cs,f,h=>⟨cs,rfl,h⟩
 | (off,n,o)::ps,cs,f,h=>by
  have h':(Bool.rec (motive:=fun _=>Bool) false (Bool.rec (motive:=fun _=>Bool) false (Bool.rec (motive:=fun _=>Bool) false (qLF E ps (ux cs off (ev o E).cells) f) (i6 (ev o E).cells)) (Nat.ble (Nat.add off n) (nk cs))) (Nat.beq (nk (ev o E).cells) n):Bool)=true:=h;rw [gS,gS,iH,mD] at h';cases h1:Nat.beq (ev o E).cells.length n with
  | false=>rw [h1] at h'; cases h'
  | true =>
   rw [h1] at h';cases h2:Nat.ble (Nat.add off n) cs.length with
   | false=>rw [h2] at h'; cases h'
   | true =>
    rw [h2] at h';cases h3:aM (ev o E).cells with
    | false=>rw [h3] at h'; cases h'
    | true =>
     rw [h3] at h';obtain ⟨r,h4,h5⟩:=wR hE ps _ f h';refine ⟨r,?_,h5⟩;simp only [cG,dz hE,h3,Bool.and_true];have e1:(ev o E).cells.length=n:=nQ h1;have e2:off+n≤cs.length:=el h2;rw [aH (by simp only [e1,lI,lJ,dT]; exact e2)];exact h4
def zt(z:List CV)(ps:List (Nat × Nat × Opd)):Op:=fun _ _ E k K=>qLF E ps z fun c=>K (.agg c) k
theorem qMA(z:List CV)(ps:List (Nat × Nat × Opd)):OpOK (zt z ps) (.build z ps):=by
 intro cq c hc nt E l hE k K h0 h L;obtain ⟨r,h1,h2⟩:=wR hE _ _ _ h0;exact ⟨_,h,k,by simp only [stepO,h1],L,h2⟩
def qI6(x:Opd):Op:=fun _ _ E k K=>let v:=(ev x E).cells
 Bool.rec (motive:=fun _=>Bool) false (vT k (.cells v false) fun n k'=>K (.ptr n 0) k') (i6 v)
theorem box_ok(x:Opd):OpOK (qI6 x) (.box x):=by
 intro cq c hc nt E l hE k K h0 h L;unfold qI6 at h0
 dsimp only at h0
 rw [iH,mQ] at h0;cases h1:aM (ev x E).cells with
 | false=>rw [h1] at h0; cases h0
 | true =>
  rw [h1,L.n] at h0;have e:stepO c (.box x) l h=some (.ptr h.n 0,h.push (.cells (ev x E).cells false)):=by simp only [stepO,dz hE,h1,ac,newC]
  exact ⟨_,_,_,e,L.push _,h0⟩
def zr(f:Nat)(as:List Opd):Op:=fun cq _ E k K=>cq (.fn f) (yY as E) k K
theorem qM8(f:Nat)(as:List Opd):OpOK (zr f as) (.callF f as):=by
 intro cq c hc nt E l hE k K h0 h L;obtain ⟨v,h',k',h1,h2,h3⟩:=hc _ _ _ _ h0 h L;exact ⟨v,h',k',by simp only [stepO,oD hE,h1],h2,h3⟩
def qMK(a b:List CV):List CV:=List.rec (motive:=fun _=>List CV) b (fun x _ ih=>x::ih) a
theorem my:∀a b:List CV,qMK a b=a++b
 | [],b=>rfl
 | x::a,b=>congrArg (List.cons x) (my a b)
def tv(f:Opd)(as:List Opd):Op:=fun cq _ E k K=>match ev f E with
 | .clo f a b=>cq (.fn f) (qMK (qMK a (yY as E)) b) k K
 | .yld r=>cq (.yl r) (yY as E) k K
 | _=>false
theorem qM7(f:Opd)(as:List Opd):OpOK (tv f as) (.callV f as):=by
 intro cq c hc nt E l hE k K h0 h L;unfold tv at h0;split at h0
 ·rename_i f' a b hx;rw [my,my] at h0;obtain ⟨v,h',k',h1,h2,h3⟩:=hc _ _ _ _ h0 h L;exact ⟨v,h',k',by simp only [stepO,dz hE,hx,oD hE,h1],h2,h3⟩
 ·rename_i r hx;obtain ⟨v,h',k',h1,h2,h3⟩:=hc _ _ _ _ h0 h L;exact ⟨v,h',k',by simp only [stepO,dz hE,hx,oD hE,h1],h2,h3⟩
 ·cases h0
def q_un(op:UnOp)(x:Opd):Op:=cg (.un op x)
def qI4(a:IntKind)(x:Opd):Op:=fun cq nt E k K=>match ev x E with
 | .int _ n=>fW a n fun v=>K v k
 | _=>false
theorem cvi_ok(a:IntKind)(x:Opd):OpOK (qI4 a x) (.cvi a x):=by
 intro cq c hc nt E l hE k K h0 h L;unfold qI4 at h0;split at h0
 ·rename_i k' n hx;rw [zBU] at h0;exact ⟨_,h,k,by simp only [stepO,dz hE,hx],L,h0⟩
 ·cases h0
def qGQ(o:Ins):Op:=Ins.rec (motive:=fun _=>Op)
 zA4 yB tw qI6 zt qI5 q_ld q_st tu zA7 zA6 q_un qI4
 (fun x=>cg (.cvid x)) zA5 (cg .mkmap) (fun k b z l c=>cg (.mksl k b z l c))
 (fun n k x lo hi mx=>cg (.slA n k x lo hi mx)) (fun k x lo hi mx=>cg (.slS k x lo hi mx)) (fun x lo hi=>cg (.slT x lo hi))
 qI2 qI1 qHZ qI0 qHY (fun x i=>cg (.ixT x i)) (fun ag ls z x i ok=>cg (.lku ag ls z x i ok))
 (fun ag ls m k v=>cg (.mset ag ls m k v)) (fun ag ls z m k=>cg (.ment ag ls z m k)) (fun m s v=>cg (.msto m s v))
 (fun x=>cg (.rngT x)) (fun it=>cg (.nxtT it)) qI3 (fun k b s x=>cg (.app k b s x)) yC (fun x=>cg (.lenT x)) qHX
 (fun x=>cg (.lenM x)) (fun k d s=>cg (.cpy k d s)) (fun xs=>cg (.mn xs)) (fun xs=>cg (.mx xs)) (fun k z x=>cg (.clr k z x))
 (fun ag a x=>cg (.ckl ag a x)) (fun ag ls z x i ok d=>cg (.cku ag ls z x i ok d)) (cg .bad) zr tv o
theorem qGP(o:Ins):OpOK (qGQ o) o:=by
 cases o
 case mov=>exact mov_ok _
 case pick=>exact qQ5 _ _ _
 case alloc=>exact qMO _
 case box=>exact box_ok _
 case build=>exact qMA _ _
 case bsl=>exact bsl_ok _ _ _ _
 case ld=>exact ld_ok _ _
 case st=>exact st_ok _ _ _
 case nilck=>exact qIT _
 case bin=>exact bin_ok _ _ _
 case eqo=>exact eqo_ok _ _ _ _
 case cvi=>exact cvi_ok _ _
 case mkf=>exact mkf_ok _ _ _
 case fad=>exact fad_ok _ _
 case fld=>exact fld_ok _ _ _
 case iaS=>exact iaS_ok _ _ _
 case iaA=>exact iaA_ok _ _ _ _
 case ixA=>exact ixA_ok _ _ _ _ _
 case ext=>exact ext_ok _ _
 case lenS=>exact qQP _
 case lenA=>exact qQR _
 case callF=>exact qM8 _ _
 case callV=>exact qM7 _ _
 case un=>exact j7 (o:=.un _ _) rfl
 case mkmap=>exact j7 (o:=.mkmap) rfl
 case bad=>exact j7 (o:=.bad) rfl
 all_goals exact j7 (by rfl)
end
end Ce.Q
namespace Ce.Q
noncomputable section
open Go
abbrev KN:=Env→HK→Bool
abbrev KJ:=Jump→Env→HK→Bool
abbrev XC:=Env→HK→KN→KJ→Bool
def putQ?(nt:Nat)(d:Option Nat)(v:CV)(E:Env)(k:Env→Bool):Bool:=Option.rec (motive:=fun _=>Bool) (k E) (fun d=>Bool.rec (motive:=fun _=>Bool) false (k (wr d v E)) (Nat.ble (Nat.succ d) nt)) d
theorem putQ?_ok{nt:Nat}{d:Option Nat}{v:CV}{E:Env}{l:List CV}{k:Env→Bool}(h64:nt≤512)(hE:EL nt E l)(h:putQ? nt d v E k=true):∃E',EL nt E' (put? l d v)∧k E'=true:=by
 cases d with
 | none=>exact ⟨E,hE,h⟩
 | some d =>
  have h':(Bool.rec (motive:=fun _=>Bool) false (k (wr d v E)) (Nat.ble (Nat.succ d) nt):Bool)=true:=h;cases hb:Nat.ble (Nat.succ d) nt with
  | false=>rw [hb] at h'; cases h'
  | true =>
   rw [hb] at h';exact ⟨_,EL_wr hE (el hb) h64 v,h'⟩
def qQW(b:Bool)(v:CV)(x y:Bool):Bool:=match v with
 | .bool c=>Bool.rec (motive:=fun _=>Bool) (Bool.rec (motive:=fun _=>Bool) x y b) (Bool.rec (motive:=fun _=>Bool) y x b) c
 | _=>y
theorem qQV(b:Bool)(v:CV)(x y:Bool):qQW b v x y=if eL b v=true then x else y:=by
 unfold qQW eL;split
 ·rename_i c;cases c<;>cases b<;>rfl
 ·simp
def qXO(g:Option (Nat × Bool))(E:Env)(x y:Bool):Bool:=Option.rec (motive:=fun _=>Bool) x (fun p=>Prod.rec (motive:=fun _=>Bool) (fun s b=>qQW b (rd s E) x y) p) g
theorem qXN{nt:Nat}{E:Env}{l:List CV}(hE:EL nt E l)(g:Option (Nat × Bool))(x y:Bool):qXO g E x y=if grd g l=true then x else y:=by
 cases g with
 | none=>simp [qXO,grd]
 | some p =>
  obtain ⟨s,b⟩:=p
  show qQW b (rd s E) x y=_
  rw [qQV,←hE.2 s]; rfl
def qQ6(cq:fZ)(nt:Nat)(l:List IOp):Env→HK→KN→Bool:=List.rec (motive:=fun _=>Env→HK→KN→Bool) (fun E k K=>K E k)
 (fun o _ ih E k K=>IOp.rec (motive:=fun _=>Bool) (fun dst op g=>qXO g E (qGQ op cq nt E k fun v k'=>putQ? nt dst v E fun E'=>ih E' k' K) (putQ? nt dst undef E fun E'=>ih E' k K)) o) l
theorem tx{cq:fZ}{c:cS}(hc:SQ cq c){nt:Nat}(h64:nt≤512):∀(os:List IOp) (E:Env) (l:List CV) (k:HK) (K:KN),EL nt E l→qQ6 cq nt os E k K=true→∀h,Le k h→∃l' h' E' k',opsR c os l h=some (l',h')∧EL nt E' l'∧Le k' h'∧K E' k'=true
 | [],E,l,k,K,hE,h0,h,L=>⟨l,h,E,k,rfl,hE,L,h0⟩
 | ⟨dst,op,g⟩::os,E,l,k,K,hE,h0,h,L=>by
  have h1:qXO g E (qGQ op cq nt E k fun v k'=>putQ? nt dst v E fun E'=>qQ6 cq nt os E' k' K) (putQ? nt dst undef E fun E'=>qQ6 cq nt os E' k K)=true:=h0;rw [qXN hE] at h1;simp only [opsR];cases hg:grd g l with
  | true =>
   rw [hg,aH rfl] at h1;obtain ⟨v,h',k',e1,L',h2⟩:=qGP op cq c hc nt E l hE k _ h1 h L;obtain ⟨E',hE',h3⟩:=putQ?_ok h64 hE h2;obtain ⟨l2,h2',E2,k2,e2,r⟩:=tx hc h64 os E' _ k' K hE' h3 h' L';exact ⟨l2,h2',E2,k2,by simp only [e1]; exact e2,r⟩
  | false =>
   rw [hg,aC (by decide)] at h1;obtain ⟨E',hE',h3⟩:=putQ?_ok h64 hE h1;obtain ⟨l2,h2',E2,k2,e2,r⟩:=tx hc h64 os E' _ k K hE' h3 h L;exact ⟨l2,h2',E2,k2,e2,r⟩
def qLR(v:CV)(a b:Bool):Bool:=match v with
 | .bool t=>Bool.rec (motive:=fun _=>Bool) b a t
 | _=>false
def loopQ(ih:XC)(n:Nat):Env→HK→KJ→Bool:=Nat.rec (motive:=fun _=>Env→HK→KJ→Bool) (fun _ _ _=>false) (fun _ rec E k kj=>ih E k (fun E' k'=>rec E' k' kj) kj) n
def qFN(k:HK)(r:Nat)(f:LSt→Option Jump→List CV→List Nat→IC→IC→Bool):Bool:=Option.rec (motive:=fun _=>Bool) false (fun b=>Blk.rec (motive:=fun _=>Bool) (fun _ _=>false) (fun _ _=>false) f (fun _ _=>false) false b) (getQ k r)
theorem pO{k:HK}{r:Nat}{f:LSt→Option Jump→List CV→List Nat→IC→IC→Bool}(h:qFN k r f=true):∃st pend env ps a b,k.get r=some (.loop st pend env ps a b)∧f st pend env ps a b=true:=by
 unfold qFN at h;rw [qBA] at h;cases hg:k.get r with
 | none=>rw [hg] at h; cases h
 | some b =>
  rw [hg] at h;cases b<;>first | exact ⟨_,_,_,_,_,_,rfl,h⟩ | cases h
def x_skip:XC:=fun E k kn _=>kn E k
def x_ops(cq:fZ)(nt:Nat)(l:List IOp):XC:=fun E k kn _=>qQ6 cq nt l E k kn
def x_seq(_ _:IC)(iha ihb:XC):XC:=fun E k kn kj=>iha E k (fun E k=>ihb E k kn kj) kj
def x_cond(x:Opd)(_ _:IC)(iha ihb:XC):XC:=fun E k kn kj=>qLR (ev x E) (iha E k kn kj) (ihb E k kn kj)
def jmpB(id:Nat)(j:Jump)(a b:Bool):Bool:=Jump.rec (motive:=fun _=>Bool) b (fun i=>Bool.rec (motive:=fun _=>Bool) b a (Nat.beq i id)) j
def qNA(id:Nat)(_:IC)(ih:XC):XC:=fun E k kn kj=>ih E k kn (fun j E k=>jmpB id j (kn E k) (kj j E k))
def x_loop(n:Nat)(_:IC)(ih:XC):XC:=fun E k _ kj=>loopQ ih n E k kj
def rngEnd(l:Nat)(E:Env)(kn:KN)(kj:KJ)(k:HK):Bool:=qFN k l fun st pend env ps a b =>
 LSt.rec (motive:=fun _=>Bool→Bool) (fun x=>x) (fun _=>false) (fun x=>x) (fun x=>x) st
  (Option.rec (motive:=fun _=>Bool) (kn E (putQ k l (.loop .exhausted pend env ps a b))) (fun j=>kj j E (putQ k l (.loop .exhausted pend env ps a b))) pend)
def qGB(cq:fZ)(nt:Nat)(f:Opd)(ps:List Nat)(a b:IC)(_ _:XC):XC:=fun E k kn kj=>match ev f E with
 | .clo fn x y=>vT k (.loop .ready none (toL E nt) ps a b) fun l k'=>cq (.fn fn) (qMK (qMK x [.yld l]) y) k' fun _ k2=>rngEnd l E kn kj k2
 | _=>false
def x_exit(id:Nat):XC:=fun E k _ kj=>kj (.exit id) E k
def x_ret:XC:=fun E k _ kj=>kj .ret E k
def fN(cq:fZ)(nt n:Nat)(c:IC):XC:=IC.rec (motive:=fun _=>XC) x_skip (x_ops cq nt) x_seq x_cond qNA (x_loop n) (qGB cq nt) x_exit x_ret c
def zC4(nt:Nat)(kn:KN)(kj:KJ)(e:Ex)(l:List CV)(h:H):Prop:=∃E k,EL nt E l∧Le k h∧(match e with | .nor=>kn E k=true | .jmp j=>kj j E k=true)
def XOK(nt:Nat)(x:XC)(y:List CV→H→Option (Ex × List CV × H)):Prop:=∀E l k kn kj,EL nt E l→x E k kn kj=true→∀h,Le k h→∃e l' h',y l h=some (e,l',h')∧zC4 nt kn kj e l' h'
theorem vv{nt:Nat}{x:XC}{y:List CV→H→Option (Ex × List CV × H)}(hx:XOK nt x y)(kn:KN):∀(n:Nat) (E:Env) (l:List CV) (k:HK) (kj:KJ),EL nt E l→loopQ x n E k kj=true→∀h,Le k h→∃e l' h',loopR y n l h=some (e,l',h')∧zC4 nt kn kj e l' h'
 | 0,E,l,k,kj,hE,h0,h,L=>by cases h0
 | n+1,E,l,k,kj,hE,h0,h,L=>by
  have h1:x E k (fun E' k'=>loopQ x n E' k' kj) kj=true:=h0;obtain ⟨e,l',h',e1,E',k',hE',L',hk⟩:=hx _ _ _ _ _ hE h1 h L;cases e with
  | nor =>
   obtain ⟨e2,l2,h2,e3,r⟩:=vv hx kn n E' l' k' kj hE' hk h' L';exact ⟨e2,l2,h2,by simp only [loopR,e1]; exact e3,r⟩
  | jmp j=>exact ⟨.jmp j,l',h',by simp only [loopR,e1],E',k',hE',L',hk⟩
theorem md{cq:fZ}{c:cS}(hc:SQ cq c){nt:Nat}(h64:nt≤512)(n:Nat):∀code:IC,XOK nt (fN cq nt n code) (exec c n code):=by
 intro code
 induction code with
 | skip=>intro E l k kn kj hE h0 h L; exact ⟨.nor,l,h,rfl,E,k,hE,L,h0⟩
 | ops os =>
  intro E l k kn kj hE h0 h L;obtain ⟨l',h',E',k',e,hE',L',hk⟩:=tx hc h64 os E l k kn hE h0 h L;exact ⟨.nor,l',h',by simp only [exec,e],E',k',hE',L',hk⟩
 | seq a b iha ihb =>
  intro E l k kn kj hE h0 h L;have h1:fN cq nt n a E k (fun E k=>fN cq nt n b E k kn kj) kj=true:=h0;obtain ⟨e,l',h',e1,E',k',hE',L',hk⟩:=iha _ _ _ _ _ hE h1 h L;cases e with
  | nor =>
   obtain ⟨e2,l2,h2,e3,r⟩:=ihb _ _ _ _ _ hE' hk h' L';exact ⟨e2,l2,h2,by simp only [exec,e1]; exact e3,r⟩
  | jmp j=>exact ⟨.jmp j,l',h',by simp only [exec,e1],E',k',hE',L',hk⟩
 | cond x a b iha ihb =>
  intro E l k kn kj hE h0 h L;have h1:qLR (ev x E) (fN cq nt n a E k kn kj) (fN cq nt n b E k kn kj)=true:=h0;unfold qLR at h1;split at h1
  ·rename_i t hx;cases t with
   | true =>
    obtain ⟨e2,l2,h2,e3,r⟩:=iha _ _ _ _ _ hE h1 h L;exact ⟨e2,l2,h2,by simp only [exec,dz hE,hx]; exact e3,r⟩
   | false =>
    obtain ⟨e2,l2,h2,e3,r⟩:=ihb _ _ _ _ _ hE h1 h L;exact ⟨e2,l2,h2,by simp only [exec,dz hE,hx]; exact e3,r⟩
  ·cases h1
 | block id a iha =>
  intro E l k kn kj hE h0 h L;have h1:fN cq nt n a E k kn (fun j E k=>jmpB id j (kn E k) (kj j E k))=true:=h0;obtain ⟨e,l',h',e1,E',k',hE',L',hk⟩:=iha _ _ _ _ _ hE h1 h L;cases e with
  | nor=>exact ⟨.nor,l',h',by simp only [exec,e1],E',k',hE',L',hk⟩
  | jmp j =>
   cases j with
   | ret=>exact ⟨.jmp .ret,l',h',by simp only [exec,e1],E',k',hE',L',hk⟩
   | exit i =>
    have h2:(Bool.rec (motive:=fun _=>Bool) (kj (.exit i) E' k') (kn E' k') (Nat.beq i id):Bool)=true:=hk;rw [nbeq] at h2;by_cases hi:i=id
    ·rw [fQ hi] at h2;exact ⟨.nor,l',h',by simp only [exec,e1,aH hi],E',k',hE',L',h2⟩
    ·rw [eY hi] at h2;exact ⟨.jmp (.exit i),l',h',by simp only [exec,e1,aC hi],E',k',hE',L',h2⟩
 | loop a iha =>
  intro E l k kn kj hE h0 h L;exact vv iha kn n E l k kj hE h0 h L
 | rangeF f ps a b iha ihb =>
  intro E l k kn kj hE h0 h L;have h1:qGB cq nt f ps a b (fN cq nt n a) (fN cq nt n b) E k kn kj=true:=h0;unfold qGB at h1;split at h1
  ·rename_i fn x y hx;rw [mQ,my,my,qGK hE,L.n] at h1;obtain ⟨v,h',k',e1,L',h2⟩:=hc _ _ _ _ h1 _ (L.push _);obtain ⟨st,pend,env,ps',a',b',h3,h4⟩:=pO h2;have h5:=L'.g _ _ h3;have hst:st≠.busy:=by rintro rfl; cases h4
   have h6:(Option.rec (motive:=fun _=>Bool) (kn E (putQ k' h.n (.loop .exhausted pend env ps' a' b'))) (fun j=>kj j E (putQ k' h.n (.loop .exhausted pend env ps' a' b'))) pend:Bool)=true:=by
    cases st<;>first | exact h4 | exact absurd rfl hst
   rw [mP] at h6;simp only [exec,dz hE,hx,e1,h5,aC hst];cases pend with
   | none=>exact ⟨.nor,l,_,rfl,E,_,hE,L'.put _ _,h6⟩
   | some j=>exact ⟨.jmp j,l,_,rfl,E,_,hE,L'.put _ _,h6⟩
  ·cases h1
 | exit id=>intro E l k kn kj hE h0 h L; exact ⟨.jmp (.exit id),l,h,rfl,E,k,hE,L,h0⟩
 | ret=>intro E l k kn kj hE h0 h L; exact ⟨.jmp .ret,l,h,rfl,E,k,hE,L,h0⟩
def resQ(rs:List IRes)(E:Env)(k:HK):(List CV→Bool)→Bool:=List.rec (motive:=fun _=>(List CV→Bool)→Bool) (fun f=>f [])
 (fun r _ ih f=>IRes.rec (motive:=fun _=>Bool) (fun t=>ih fun vs=>f (rd t E::vs)) (fun t g=>ldQ g (rd t E) k fun v=>ih fun vs=>f (v::vs)) r) rs
theorem pF{nt:Nat}{E:Env}{l:List CV}(hE:EL nt E l){k:HK}{h:H}(L:Le k h):∀(rs:List IRes) (f:List CV→Bool),resQ rs E k f=true→∃vs,resV rs l h=some vs∧f vs=true
 | [],f,h0=>⟨[],by simp only [resV],h0⟩
 | .tmp t::rs,f,h0=>by
  obtain ⟨vs,h1,h2⟩:=pF hE L rs (fun vs=>f (rd t E::vs)) h0;exact ⟨rd t E::vs,by simp only [resV,h1,hE.2 t],h2⟩
 | .cell t g::rs,f,h0=>by
  obtain ⟨v,h1,h2⟩:=qJL (f:=fun v=>resQ rs E k fun vs=>f (v::vs)) L h0;obtain ⟨vs,h3,h4⟩:=pF hE L rs (fun vs=>f (v::vs)) h2;exact ⟨v::vs,by simp only [resV,hE.2 t,h1,h3],h4⟩
def finQ(rs:List IRes)(E:Env)(k:HK)(K:KV):Bool:=resQ rs E k fun vs=>K (one? vs) k
def lH(x:XC)(nt:Nat)(rs:List IRes)(args:List CV)(k:HK)(K:KV):Bool :=
 Bool.rec (motive:=fun _=>Bool) false (Bool.rec (motive:=fun _=>Bool) false (x (ofL args) k (fun E k=>finQ rs E k K) (fun j E k=>Jump.rec (motive:=fun _=>Bool) (finQ rs E k K) (fun _=>false) j)) (Nat.ble (nk args) nt)) (Nat.ble nt 512)
theorem iu:∀(l:List CV) (n i:Nat),aR (l++cB n) i=aR l i
 | [],0,i=>rfl
 | [],n+1,0=>rfl
 | [],n+1,i+1=>by
  show aR (undef::cB n) (i+1)=_
  rw [bL];exact iu [] n i
 | a::l,n,0=>rfl
 | a::l,n,i+1=>by
  show aR (a::(l++cB n)) (i+1)=_
  rw [bL,bL];exact iu l n i
theorem vQ:∀n,(cB n).length=n
 | 0=>rfl
 | n+1=>congrArg Nat.succ (vQ n)
theorem mr{x:XC}{F:IF}{y:List CV→H→Option (Ex × List CV × H)}(hx:F.ntmps≤512→XOK F.ntmps x y){args:List CV}{k:HK}{K:KV}(h0:lH x F.ntmps F.res args k K=true){h:H}(L:Le k h):∃v h' k',bodyR y F args h=some (v,h')∧Le k' h'∧K v k'=true:=by
 unfold lH at h0;cases h1:Nat.ble F.ntmps 512 with
 | false=>rw [h1] at h0; cases h0
 | true =>
  rw [h1] at h0;have h64:F.ntmps≤512:=el h1;rw [gS] at h0;cases h2:Nat.ble args.length F.ntmps with
  | false=>rw [h2] at h0; cases h0
  | true =>
   rw [h2] at h0;have hal:args.length≤F.ntmps:=el h2;have hE:EL F.ntmps (ofL args) (args++cB (F.ntmps - args.length)):=⟨by simp only [jP,vQ]; omega,fun i=>by
    rw [iu];exact (zC2 (l:=args) (by omega)).2 i⟩
   obtain ⟨e,l',h',e1,E',k',hE',L',hk⟩:=hx h64 _ _ _ _ _ hE h0 h L;cases e with
   | nor =>
    obtain ⟨vs,h3,h4⟩:=pF hE' L' F.res _ hk;exact ⟨_,h',k',by simp only [bodyR,e1,h3],L',h4⟩
   | jmp j =>
    cases j with
    | ret =>
     obtain ⟨vs,h3,h4⟩:=pF hE' L' F.res _ hk;exact ⟨_,h',k',by simp only [bodyR,e1,h3],L',h4⟩
    | exit i=>cases hk
end
end Ce.Q
namespace Ce
open Go
section
variable {tbl:Nat→Option IF} {env:List CV} {h:H}
theorem mc{n m:Nat}(hnm:n≤m){c:IC}{env:List CV}{h:H}{r:Ex × List CV × H}(hr:exec (run tbl n) n c env h=some r):exec (run tbl m) m c env h=some r :=
 eD (eJ tbl n m hnm) hnm _ _ _ _ hr
theorem xR{a:IC}{Q:Ex→List CV→H→Prop}(w:Wc tbl a env h (bn Q fun e h'=>Wc tbl (.loop a) e h' Q)):Wc tbl (.loop a) env h Q:=by
 obtain ⟨n,ex,e,h',r,q⟩:=w;cases ex with
 | jmp j=>exact ⟨n+1,_,_,_,by simp only [exec,loopR,mc (show n≤n+1 by omega) r],q⟩
 | nor =>
  obtain ⟨m,ex2,e2,h2,r2,q2⟩:=q;refine ⟨max n m+1,ex2,e2,h2,?_,q2⟩;simp only [exec,loopR,mc (show n≤max n m+1 by omega) r];simp only [exec] at r2;exact lX (fun env h r hr=>mc (show m≤max n m+1 by omega) hr) m (max n m) (by omega) _ _ _ r2
theorem tW{f:Opd}{ps:List Nat}{a b:IC}{Q:Ex→List CV→H→Prop}{fn:Nat}{x y:List CV}(hf:f.ev env=.clo fn x y)
  (w:Wf tbl (.fn fn) (x++[CV.yld h.n]++y) (h.push (.loop .ready none env ps a b)) fun _ h1=>∃st pend env' ps' a' b',h1.get h.n=some (.loop st pend env' ps' a' b')∧st≠LSt.busy ∧
   (match pend with
    | none=>Q .nor env (h1.put h.n (.loop .exhausted pend env' ps' a' b'))
    | some j=>Q (.jmp j) env (h1.put h.n (.loop .exhausted pend env' ps' a' b')))):Wc tbl (.rangeF f ps a b) env h Q:=by
 obtain ⟨n,v,h1,r,st,pend,env',ps',a',b',hg,hb,q⟩:=w;cases pend with
 | none=>exact ⟨n,.nor,env,_,by simp only [exec,hf,r,hg,aC hb],q⟩
 | some j=>exact ⟨n,.jmp j,env,_,by simp only [exec,hf,r,hg,aC hb],q⟩
theorem zC1{l:Nat}{args:List CV}{Q:CV→H→Prop}{pend0:Option Jump}{env0 env':List CV}{ps:List Nat}{a b:IC}(hg:h.get l=some (.loop .ready pend0 env0 ps a b))(hp:gv env0 ps args=some env')
  (w:Wc tbl a env' h fun ex e1 h1=>ex=.nor∧∃pend' env1 ps' a' b',h1.get l=some (.loop .ready pend' env1 ps' a' b')∧Wc tbl b e1 (h1.put l (.loop .busy pend' env1 ps' a' b')) fun ex2 _ h2=>∃s p env2 ps2 a2 b2,h2.get l=some (.loop s p env2 ps2 a2 b2) ∧
   (match ex2 with
    | .nor=>Q (.bool true) (h2.put l (.loop .ready none env2 ps2 a2 b2))
    | .jmp j=>Q (.bool false) (h2.put l (.loop .done (some j) env2 ps2 a2 b2)))):Wf tbl (.yl l) args h Q:=by
 obtain ⟨n,ex,e1,h1,r,rfl,pend',env1,ps',a',b',hg1,m,ex2,e2,h2,r2,s,p,env2,ps2,a2,b2,hg2,q⟩:=w;have r':=mc (show n≤max n m by omega) r;have r2':=mc (show m≤max n m by omega) r2;cases ex2 with
 | nor=>exact ⟨max n m+1,.bool true,_,by simp only [run,hg,hp,r',hg1,r2',hg2],q⟩
 | jmp j=>exact ⟨max n m+1,.bool false,_,by simp only [run,hg,hp,r',hg1,r2',hg2],q⟩
theorem oz:∀(l:List CV) (n:Nat),aL l n (aR l n)=l
 | [],_=>rfl
 | _::_,0=>rfl
 | a::l,n+1=>by simp only [dG,bL,oz l n]
theorem Wf_fn1{f:Nat}{F:IF}{args:List CV}{Q:CV→H→Prop}(hF:tbl f=some F)(hm:F.mode=1)(w:Wb tbl F args h fun v h1=>∃v' h2,frz 20 v h1=some (v',h2)∧Q v' h2):Wf tbl (.fn f) args h Q:=by
 obtain ⟨n,v,h1,r,v',h2,hz,q⟩:=w;refine ⟨n+1,v',h2,?_,q⟩;simp only [run,hF,hm,r];exact hz
theorem yr{f:Nat}{F:IF}{args:List CV}{Q:CV→H→Prop}(hF:tbl f=some F)(hm:F.mode=0)(w:Wb tbl F args h Q):Wf tbl (.fn f) args h Q:=by
 obtain ⟨n,v,h',r,q⟩:=w;refine ⟨n+1,v,h',?_,q⟩;simp only [run,hF,hm,r];rfl
end
end Ce
