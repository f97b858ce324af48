/- A part of the proof of TopAnewRoomUptoSaid: for arguments of bulk at most 1048576 the law returns true and its argument reads as before. -/
import Derived.Test.YtfbknmgfnlckeaaA12
import Derived.Test.YtfbknmgfnlckeaaA15
import Derived.Test.YtfbknmgfnlckeaaA17
import Derived.Test.YtfbknmgfnlckeaaA19
import Derived.Test.YtfbknmgfnlckeaaA21
import Derived.Test.YtfbknmgfnlckeaaA26
import Derived.Test.YtfbknmgfnlckeaaA29
import Derived.Test.YtfbknmgfnlckeaaA32
import Derived.Test.YtfbknmgfnlckeaaA7
import Derived.Test.YtfbknmgfnlckeaaAw
import Derived.Test.YtfbknmgfnlckeaaTbl
import Derived.JoinedCond
import Derived.OpenShut
import Derived.ProofKit
import Derived.Test.YtfbknmgfnlckeaaRows
import Derived.WalkKit
set_option linter.unusedVariables false
set_option linter.unusedSimpArgs false
set_option maxRecDepth 1000000
namespace Go.Proofs.Ytfbknmgfnlckeaa.roomRow
open Go.ChangeShapes Go.WideShapes Go.ChangeAt Go.RowKit Ce Ce.L
theorem one_le {H : Type} (d : DataW H) : 1 ≤ Rows.uptoBulk d := by
  cases d with
  | lit l => cases l <;> simp [Rows.uptoBulk]
  | nil => simp [Rows.uptoBulk]
  | ptr d => simp [Rows.uptoBulk]
  | slice elems spare => simp [Rows.uptoBulk]
  | agg parts => simp [Rows.uptoBulk]
  | iface t d => simp [Rows.uptoBulk]
  | map entries => simp [Rows.uptoBulk]
  | held h => simp [Rows.uptoBulk]
theorem vC {H : Type} {d : DataW H} {l : List (DataW H)} (h : d ∈ l) : Rows.uptoBulk d ≤ Rows.uptoBulkAll l := by
  induction l with
  | nil => cases h
  | cons x r ih =>
    simp only [Rows.uptoBulkAll]
    cases List.mem_cons.1 h with
    | inl e => subst e; omega
    | inr e => have := ih e; omega
theorem xB {H : Type} (l : List (DataW H)) : l.length ≤ Rows.uptoBulkAll l := by
  induction l with
  | nil => simp [Rows.uptoBulkAll]
  | cons x r ih => have := one_le x; simp only [Rows.uptoBulkAll, List.length_cons]; omega
def kN {H : Type} (d : DataW H) : Prop := Rows.uptoBulk d ≤ 1048576
theorem yD {H : Type} : BP (kN (H := H)) where
  slice := fun e s h => by
    have h1 := xB e
    simp only [kN, Rows.uptoBulk] at h
    refine ⟨by omega, fun d hd => ?_⟩
    have := vC hd
    simp only [kN]; omega
  agg := fun ps h p hp => by
    have := vC hp
    simp only [kN, Rows.uptoBulk] at h
    simp only [kN]; omega
theorem xV {P : Program} {W : World} {r : Reach} {base : Nat} {u : TypeId} {a : Addr} {len cap : Nat} (h : Cell.okWide P W r base u (.slice (some a) len cap)) : a.spot = none ∧ a.block < W.heap.size := by
  have h' : Cell.ok P W r base u (.slice (some a) len cap) := by
    unfold Cell.okWide at h
    generalize P.underlying u = T at h
    split at h <;> first | exact h | simp_all
  unfold Cell.ok at h'
  generalize P.underlying u = T at h'
  split at h' <;> try (first | exact h'.elim | (exfalso; simp_all; done))
  rename_i e1 e2
  simp only [Value.slice.injEq, Option.some.injEq] at e2
  obtain ⟨rfl, rfl, rfl⟩ := e2
  obtain ⟨_, _, _, h2, row, cells, h3, _⟩ := h'
  refine ⟨h2, ?_⟩
  unfold World.shape? at h3
  split at h3
  · rename_i h4; exact (Array.getElem?_eq_some_iff.1 h4).1
  · cases h3
theorem own : ownKnob Try.prog.godebug = none := by kernel_rfl
theorem qFU : rT Try.prog 8 30 = some Ro.tXs := by kernel_rfl
theorem qFI {Hd : Type} {enc : TypeId × Value → Hd} {W : World} {base : Nat} {v0 : Value} {d0 : DataW Hd} {p0 : List MemPlace} (hval : Value.okWide Try.prog W .any base 30 v0) (h0 : DataW.Trod enc Try.prog W 0 (fun _ => true) true 30 v0 d0 p0) (hb : kN d0) :
    ∃ x, Tv Ro.tX x ∧ VR (c0 W) 0 W x v0 := by
  have hv : ∃ cs, v0 = .agg cs ∧ cs.size = Try.prog.cellsOf 30 ∧ Row.okWide Try.prog W .any base 30 cs := by
    unfold Value.okWide at hval
    rw [Try.underlying30] at hval
    exact hval
  obtain ⟨cs, rfl, hsz, ts, hts, _, hrow⟩ := hv
  obtain ⟨fuel, hf⟩ := h0
  obtain ⟨xs, h1, h2, h3⟩ := yi (W := W) yD 8 30 Ro.tXs qFU fuel _ _ hf hb fun _ c hc => by
    intro a len cap e
    obtain ⟨i, hi⟩ := List.mem_iff_getElem?.1 hc
    obtain ⟨u, _, hu⟩ := hrow i c (by simpa [Value.cells] using hi)
    subst e
    exact xV hu
  refine ⟨.agg xs, bD h1, .agg xs cs (by simpa [Value.cells] using h2) fun i x v hx hv => h3 i x v hx (by simpa [Value.cells] using hv)⟩
theorem walk {Hd : Type} {enc : TypeId × Value → Hd} {W : World} {base : Nat} {v0 : Value} {d0 : DataW Hd} {p0 : List MemPlace} (htop : ∀ x, Tv Ro.tX x → Wf Ro.tbl (.fn 3) [x] H.empty fun v _ => v = .bool true) (hval : Value.okWide Try.prog W .any base 30 v0) (h0 : DataW.Trod enc Try.prog W 0 (fun _ => true) true 30 v0 d0 p0) (hb : kN d0) :
    Calls Try.prog 3 #[v0] W fun e w' => e = .returned (.bool true) ∧ Grown W w' := by
  obtain ⟨x, hx, hv⟩ := qFI hval h0 hb
  obtain ⟨n, v, h', hr, rfl⟩ := htop x hx
  refine (xC roomTab.tbl_ok hr (vs := [v0]) ⟨rfl, fun i y u hy hu => ?_⟩).mono ?_
  · cases i with
    | zero => simp only [List.getElem?_cons_zero, Option.some.injEq] at hy hu; subst hy; subst hu; exact hv
    | succ i => simp at hy
  · rintro e w' ⟨v, c', rfl, hvr, hg⟩
    cases hvr
    exact ⟨rfl, hg⟩
theorem qAT (htop : ∀ x, Tv Ro.tX x → Wf Ro.tbl (.fn 3) [x] H.empty fun v _ => v = .bool true) (Hd : Type) (enc : TypeId × Value → Hd) (W : World) (base : Nat) (args : Array Value) (ds gs : List (DataW Hd)) (before : List MemPlace)
    (hval : ∀ (j : Nat) t v, Try.f3.params[j]? = some t → args[j]? = some v → Value.okWide Try.prog W .any base t v)
    (hW : DataW.Whole enc Try.prog Try.f3.params.toList Rows.topAnewRoomSpec.vars false W args.toList ds gs before) (hk : Rows.uptoSmall Hd (ds ++ gs) = true) :
    Calls Try.prog 3 args W fun e W' => ∃ v, e = .returned v ∧ Rows.topAnewRoomSpec.post enc Try.prog Try.f3 false true false false W args v W' := by
  have hW' := hW
  obtain ⟨p, q, hA0, hV, rfl, hfz, hnd⟩ := hW
  have hA : DataW.TrodAll enc Try.prog W 0 (fun _ => true) true Try.f3.params.toList args.toList ds p := hA0
  rw [Try.params3] at hA hval
  obtain ⟨v0, vs0, d0, ds0, p0, q0, hargs, rfl, rfl, h0, r0⟩ := trodAll_cons hA
  obtain ⟨rfl, rfl, rfl⟩ := trodAll_nil r0
  obtain rfl : args = #[v0] := by cases args; simp_all
  obtain ⟨rfl, rfl⟩ := trodVars_none hV
  clear hA0
  have hb : kN d0 := by
    have h := of_decide_eq_true hk
    simp only [List.append_nil, Rows.uptoBulkAll] at h
    unfold kN
    omega
  simp only [List.append_nil] at hW'
  refine (walk htop (hval 0 30 v0 rfl rfl) h0 hb).mono fun e W' ⟨he, hg⟩ => ?_
  subst he
  have hc := tv hg
  refine ⟨_, rfl, post_of_same (pa := p0 ++ []) (pv := []) hW' (fun _ _ _ => (trodAll_cons_mk (shut_bool Try.underlying4 _) trodAll_mk0)) (fun sp hsp => ?_) (fun _ _ => rfl) (by simp) (hg.frame _) hg.2.1 (ok_one (by kernel_rfl) rfl (okWide_bool_mk Try.underlying4 _))⟩
  obtain ⟨fuel, hf⟩ := h0
  exact trodAll_cons_mk ⟨fuel, kP hc 8 30 Ro.tXs qFU fuel _ _ sp hf fun p hp => hsp p (by simpa using hp)⟩ trodAll_mk0
end Go.Proofs.Ytfbknmgfnlckeaa.roomRow
namespace Go.Proofs.Ytfbknmgfnlckeaa.roomRow
open Go.ChangeShapes Go.WideShapes Go.ChangeAt Go.RowKit Ce Ce.L
theorem lifted (htop : ∀ x, Tv Ro.tX x → Wf Ro.tbl (.fn 3) [x] H.empty fun v _ => v = .bool true) (os : Os) (started : os.Started) (Hd : Type) (enc : TypeId × Value → Hd) (F : Stop.Interp) :
    ReturnsInHanded {} Try.checked os 3 .any ((Rows.OpenSpec.upto Rows.topAnewRoomSpec).pre6 enc Try.prog Try.f3 Rows.topAnewRoomUptoRow.domain false) (((Rows.OpenSpec.upto Rows.topAnewRoomSpec).at F).post enc Try.prog Try.f3 false true false false) := by
  refine returnsInHanded_of_cond (C := Try.checked) (s := Rows.OpenSpec.upto Rows.topAnewRoomSpec) (k := Rows.uptoSmall) rfl own started (by kernel_rfl) Try.func3
    (OpenSpec.witness (enc := enc) (C := Try.checked) (s := Rows.OpenSpec.upto Rows.topAnewRoomSpec) (k := Rows.uptoSmall) rfl false ⟨#[], #[.agg #[.int .i64 0, .int .i64 0, .int .i64 0, .slice none 0 0, .int .i64 0, .slice none 0 0, .slice none 0 0, .int .i64 0, .slice none 0 0, .int .i64 0]], []⟩ 8 (by kernel_rfl) (by kernel_rfl) (by kernel_rfl)
      (x := ([.agg [.agg [.lit (.int .i64 0), .agg [.lit (.int .i64 0), .lit (.int .i64 0)], .nil, .lit (.int .i64 0), .nil, .nil], .lit (.int .i64 0), .nil, .lit (.int .i64 0)]], [], [])) (by kernel_rfl) rfl (by kernel_rfl)) ?_
  intro W base args ds gs before hval hW _ hk _
  exact qAT htop Hd enc W base args ds gs before hval hW hk
theorem over (htop : ∀ x, Tv Ro.tX x → Wf Ro.tbl (.fn 3) [x] H.empty fun v _ => v = .bool true) : Rows.topAnewRoomUptoRow.holds Try.pinned (Rows.OpenSpec.upto Rows.topAnewRoomSpec) :=
  OpenClaim.holds_of_cond 3 Try.f3 rfl rfl rfl rfl rfl rfl rfl ⟨rfl, rfl, rfl, rfl, rfl⟩ rfl rfl rfl rfl rfl (by kernel_rfl) Try.func3 (by kernel_rfl)
    (of_decide_eq_true (by kernel_rfl)) (by unfold Func.isWrapper; first | (rw [if_pos (by decide +kernel)]; kernel_rfl) | (rw [if_neg (by decide +kernel)]; exact ⟨rfl, rfl⟩))
    (fun os started H enc _ F => lifted htop os started H enc F)
end Go.Proofs.Ytfbknmgfnlckeaa.roomRow
namespace Go.Proofs.Ytfbknmgfnlckeaa
open Ce.L
theorem topAnewRoomUpto : Rows.TopAnewRoomUptoSaid := roomRow.over fun _ hx => Ro.top Ro.ap7 Ro.ap12 Ro.ap15 Ro.ap17 Ro.ap19 Ro.ap21 Ro.ap26 Ro.ap29 Ro.ap32 Ro.awake hx _
#print axioms topAnewRoomUpto
end Go.Proofs.Ytfbknmgfnlckeaa
