/- A part of the proof of TopAnewClaimUptoSaid: for arguments of bulk at most 1048576 the law returns true and its argument reads as before. -/
import Derived.Test.YtglkncbccadnoadGreatA12b
import Derived.Test.YtglkncbccadnoadGreatA17b
import Derived.Test.YtglkncbccadnoadGreatA19b
import Derived.Test.YtglkncbccadnoadGreatA22b
import Derived.Test.YtglkncbccadnoadGreatA25b
import Derived.Test.YtglkncbccadnoadGreatA28b
import Derived.Test.YtglkncbccadnoadGreatA30b
import Derived.Test.YtglkncbccadnoadGreatA7b
import Derived.Test.YtglkncbccadnoadGreatAw
import Derived.Test.YtglkncbccadnoadGreatTbl
import Derived.JoinedCond
import Derived.OpenShut
import Derived.ProofKit
import Derived.Test.YtglkncbccadnoadGreatRows
import Derived.WalkKit
set_option linter.unusedVariables false
set_option linter.unusedSimpArgs false
set_option maxRecDepth 1000000
namespace Go.Proofs.YtglkncbccadnoadGreat.claimRow
open Go.ChangeShapes Go.WideShapes Go.ChangeAt Go.RowKit Ce Ce.L
theorem one_le{H:Type}(d:DataW H):1≤Rows.uptoBulk d:=by
  cases d with
  | lit l=>cases l<;>simp [Rows.uptoBulk]
  | nil=>simp [Rows.uptoBulk]
  | ptr d=>simp [Rows.uptoBulk]
  | slice elems spare=>simp [Rows.uptoBulk]
  | agg parts=>simp [Rows.uptoBulk]
  | iface t d=>simp [Rows.uptoBulk]
  | map entries=>simp [Rows.uptoBulk]
  | held h=>simp [Rows.uptoBulk]
theorem qA1{H:Type}{d:DataW H}{l:List (DataW H)}(h:d∈l):Rows.uptoBulk d≤Rows.uptoBulkAll l:=by
  induction l with
  | nil=>cases h
  | cons x r ih =>
    simp only [Rows.uptoBulkAll];cases List.mem_cons.1 h with
    | inl e=>subst e; omega
    | inr e=>have:=ih e; omega
theorem qDK{H:Type}(l:List (DataW H)):l.length≤Rows.uptoBulkAll l:=by
  induction l with
  | nil=>simp [Rows.uptoBulkAll]
  | cons x r ih=>have:=one_le x; simp only [Rows.uptoBulkAll,List.length_cons]; omega
def nO{H:Type}(d:DataW H):Prop:=Rows.uptoBulk d≤1048576
theorem qGU{H:Type}:BP (nO (H:=H)) where
  slice:=fun e s h=>by
    have h1:=qDK e;simp only [nO,Rows.uptoBulk] at h;refine ⟨by omega,fun d hd=>?_⟩;have:=qA1 hd;simp only [nO]; omega
  agg:=fun ps h p hp=>by
    have:=qA1 hp;simp only [nO,Rows.uptoBulk] at h;simp only [nO]; omega
theorem cell_spot{P:Program}{W:World}{r:Reach}{base:Nat}{u:TypeId}{a:Addr}{len cap:Nat}(h:Cell.okWide P W r base u (.slice (some a) len cap)):a.spot=none∧a.block < W.heap.size:=by
  have h':Cell.ok P W r base u (.slice (some a) len cap):=by
    unfold Cell.okWide at h;generalize P.underlying u=T at h;split at h<;>first | exact h | simp_all
  unfold Cell.ok at h';generalize P.underlying u=T at h';split at h' <;> try (first | exact h'.elim | (exfalso; simp_all; done))
  rename_i e1 e2;simp only [Value.slice.injEq,Option.some.injEq] at e2;obtain ⟨rfl,rfl,rfl⟩:=e2;obtain ⟨_,_,_,h2,row,cells,h3,_⟩:=h';refine ⟨h2,?_⟩;unfold World.shape? at h3;split at h3
  · rename_i h4; exact (Array.getElem?_eq_some_iff.1 h4).1
  · cases h3
theorem own:ownKnob Tryz.prog.godebug=none:=by kernel_rfl
theorem qZV:rT Tryz.prog 8 30=some Cl.tXs:=by kernel_rfl
theorem qZK{Hd:Type}{enc:TypeId × Value→Hd}{W:World}{base:Nat}{v0:Value}{d0:DataW Hd}{p0:List MemPlace}(hval:Value.okWide Tryz.prog W .any base 30 v0)(h0:DataW.Trod enc Tryz.prog W 0 (fun _=>true) true 30 v0 d0 p0)(hb:nO d0) :
    ∃x,Tv Cl.tX x∧VR (c0 W) 0 W x v0:=by
  have hv:∃cs,v0=.agg cs∧cs.size=Tryz.prog.cellsOf 30∧Row.okWide Tryz.prog W .any base 30 cs:=by
    unfold Value.okWide at hval;rw [Tryz.underlying30] at hval;exact hval
  obtain ⟨cs,rfl,hsz,ts,hts,_,hrow⟩:=hv;obtain ⟨fuel,hf⟩:=h0;obtain ⟨xs,h1,h2,h3⟩:=qHW (W:=W) qGU 8 30 Cl.tXs qZV fuel _ _ hf hb;refine ⟨.agg xs,cf h1,.agg xs cs (by simpa [Value.cells] using h2) fun i x v hx hv=>h3 i x v hx (by simpa [Value.cells] using hv)⟩
theorem walk{Hd:Type}{enc:TypeId × Value→Hd}{W:World}{base:Nat}{v0:Value}{d0:DataW Hd}{p0:List MemPlace}(htop:∀x,Tv Cl.tX x→Wf Cl.tbl (.fn 3) [x] H.empty fun v _=>v=.bool true)(hval:Value.okWide Tryz.prog W .any base 30 v0)(h0:DataW.Trod enc Tryz.prog W 0 (fun _=>true) true 30 v0 d0 p0)(hb:nO d0) :
    Calls Tryz.prog 3 #[v0] W fun e w'=>e=.returned (.bool true)∧r5 W w':=by
  obtain ⟨x,hx,hv⟩:=qZK hval h0 hb;obtain ⟨n,v,h',hr,rfl⟩:=htop x hx;refine (qDL claimTab.tbl_ok hr (vs:=[v0]) ⟨rfl,fun i y u hy hu=>?_⟩).mono ?_
  · cases i with
    | zero=>simp only [List.getElem?_cons_zero,Option.some.injEq] at hy hu; subst hy; subst hu; exact hv
    | succ i=>simp at hy
  · rintro e w' ⟨v,c',rfl,hvr,hg⟩;cases hvr;exact ⟨rfl,hg⟩
theorem qLQ(htop:∀x,Tv Cl.tX x→Wf Cl.tbl (.fn 3) [x] H.empty fun v _=>v=.bool true)(Hd:Type)(enc:TypeId × Value→Hd)(W:World)(base:Nat)(args:Array Value)(ds gs:List (DataW Hd))(before:List MemPlace)
    (hval:∀(j:Nat) t v,Tryz.f3.params[j]?=some t→args[j]?=some v→Value.okWide Tryz.prog W .any base t v)
    (hW:DataW.Whole enc Tryz.prog Tryz.f3.params.toList Rows.topAnewClaimSpec.vars false W args.toList ds gs before) (hk:Rows.uptoSmall Hd (ds++gs)=true) :
    Calls Tryz.prog 3 args W fun e W'=>∃v,e=.returned v∧Rows.topAnewClaimSpec.post enc Tryz.prog Tryz.f3 false true false false W args v W':=by
  have hW':=hW;obtain ⟨p,q,hA0,hV,rfl,hfz,hnd⟩:=hW;have hA:DataW.TrodAll enc Tryz.prog W 0 (fun _=>true) true Tryz.f3.params.toList args.toList ds p:=hA0;rw [Tryz.params3] at hA hval;obtain ⟨v0,vs0,d0,ds0,p0,q0,hargs,rfl,rfl,h0,r0⟩:=trodAll_cons hA;obtain ⟨rfl,rfl,rfl⟩:=trodAll_nil r0;obtain rfl:args=#[v0]:=by cases args; simp_all
  obtain ⟨rfl,rfl⟩:=trodVars_none hV;clear hA0;have hb:nO d0:=by
    have h:=of_decide_eq_true hk;simp only [List.append_nil,Rows.uptoBulkAll] at h;unfold nO;omega
  simp only [List.append_nil] at hW';refine (walk htop (hval 0 30 v0 rfl rfl) h0 hb).mono fun e W' ⟨he,hg⟩=>?_
  subst he;have hc:=yS hg;refine ⟨_,rfl,rc (pa:=p0++[]) (pv:=[]) hW' (fun _ _ _=>(trodAll_cons_mk (shut_bool Tryz.underlying4 _) trodAll_mk0)) (fun sp hsp=>?_) (fun _ _=>rfl) (by simp) hg (ok_one (by kernel_rfl) rfl (okWide_bool_mk Tryz.underlying4 _))⟩;obtain ⟨fuel,hf⟩:=h0;exact trodAll_cons_mk ⟨fuel,nR hc 8 30 Cl.tXs qZV fuel _ _ sp hf fun p hp=>hsp p (by simpa using hp)⟩ trodAll_mk0
end Go.Proofs.YtglkncbccadnoadGreat.claimRow
namespace Go.Proofs.YtglkncbccadnoadGreat.claimRow
open Go.ChangeShapes Go.WideShapes Go.ChangeAt Go.RowKit Ce Ce.L
theorem lifted(htop:∀x,Tv Cl.tX x→Wf Cl.tbl (.fn 3) [x] H.empty fun v _=>v=.bool true)(os:Os)(started:os.Started)(Hd:Type)(enc:TypeId × Value→Hd)(F:Stop.Interp) :
    ReturnsInHanded {} Tryz.checked os 3 .any ((Rows.OpenSpec.upto Rows.topAnewClaimSpec).pre6 enc Tryz.prog Tryz.f3 Rows.topAnewClaimUptoRow.domain false) (((Rows.OpenSpec.upto Rows.topAnewClaimSpec).at F).post enc Tryz.prog Tryz.f3 false true false false):=by
  refine returnsInHanded_of_cond (C:=Tryz.checked) (s:=Rows.OpenSpec.upto Rows.topAnewClaimSpec) (k:=Rows.uptoSmall) rfl own started (by kernel_rfl) Tryz.func3
    (OpenSpec.witness (enc:=enc) (C:=Tryz.checked) (s:=Rows.OpenSpec.upto Rows.topAnewClaimSpec) (k:=Rows.uptoSmall) rfl false ⟨#[],#[.agg #[.slice none 0 0,.slice none 0 0,.slice none 0 0,.slice none 0 0,.slice none 0 0,.int .i64 0,.int .i64 0,.int .i64 0,.int .i64 0]],[]⟩ 8 (by kernel_rfl) (by kernel_rfl) (by kernel_rfl)
      (x:=([.agg [.agg [.nil,.nil,.nil,.nil,.nil],.lit (.int .i64 0),.lit (.int .i64 0),.lit (.int .i64 0),.lit (.int .i64 0)]],[],[])) (by kernel_rfl) rfl (by kernel_rfl)) ?_
  intro W base args ds gs before hval hW _ hk _;exact qLQ htop Hd enc W base args ds gs before hval hW hk
theorem over(htop:∀x,Tv Cl.tX x→Wf Cl.tbl (.fn 3) [x] H.empty fun v _=>v=.bool true):Rows.topAnewClaimUptoRow.holds Tryz.pinned (Rows.OpenSpec.upto Rows.topAnewClaimSpec) :=
  OpenClaim.holds_of_cond 3 Tryz.f3 rfl rfl rfl rfl rfl rfl rfl ⟨rfl,rfl,rfl,rfl,rfl⟩ rfl rfl rfl rfl rfl (by kernel_rfl) Tryz.func3 (by kernel_rfl)
    (of_decide_eq_true (by kernel_rfl)) (by unfold Func.isWrapper; first | (rw [if_pos (by decide +kernel)]; kernel_rfl) | (rw [if_neg (by decide +kernel)]; exact ⟨rfl,rfl⟩))
    (fun os started H enc _ F=>lifted htop os started H enc F)
end Go.Proofs.YtglkncbccadnoadGreat.claimRow
namespace Go.Proofs.YtglkncbccadnoadGreat
open Ce.L
theorem topAnewClaimUpto:Rows.TopAnewClaimUptoSaid:=claimRow.over fun _ hx=>Cl.top Cl.ap7 Cl.ap12 Cl.ap17 Cl.ap19 Cl.ap22 Cl.ap25 Cl.ap28 Cl.ap30 Cl.awake hx _
#print axioms topAnewClaimUpto
end Go.Proofs.YtglkncbccadnoadGreat
