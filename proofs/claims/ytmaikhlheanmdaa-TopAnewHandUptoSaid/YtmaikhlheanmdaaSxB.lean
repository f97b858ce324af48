/- A part of a proof. -/
import Derived.Test.YtmaikhlheanmdaaSxA
set_option linter.unusedVariables false
set_option linter.unusedSimpArgs false
set_option maxRecDepth 1000000
namespace Ce.S
noncomputable section
open Go
section
variable {X : Cx} {v : V} {st : St} {env : List CV} {h : H}
def xY (st : St) (k bytes : Nat) (s x : AV) : Option (List (AV × St)) :=
 match s, xE st k x with
 | .slc k' b off i len cap, some (R, xl) => match av b st.bl, hiC st.fa xl with
  | some (.blk _ (.cells l) _), some hi =>
   if k' = k ∧ i.s = 0 ∧ i.c = 0 ∧ len.s = 0 ∧ len.c = 0 ∧ cap.s = 0 ∧ cap.c = 0 ∧ off ≤ l.length ∧ leL st.fa ⟨0, 1⟩ xl 0 = true ∧ fL R = true ∧ 0 < k ∧ hi.toNat * (bytes + 1) ≤ 2 ^ 40 then
    some [(.vec k st.n xl, { st with n := st.n + 1, bl := .blk st.n (.rows k R xl) false :: st.bl })] else none
  | _, _ => none
 | _, _ => none
theorem qC5 (s : Sat X v st env h) {k bytes : Nat} {a x : AV} {outs : List (AV × St)} (hs : xY st k bytes a x = some outs) {ca cx : CV} {r : Option (CV × H)} (hr : r = appV k bytes ca cx h) (ha : ∀ w, Sat0 X w st env h → ca = den w a) (hx : ∀ w, Sat0 X w st env h → cx = den w x) : ae X v st env outs r := by
 have s0 := s.now
 unfold xY at hs
 split at hs <;> (try (cases hs; done))
 rename_i k' b off i len cap R xl hsrc
 obtain ⟨m, hm, hxl, hRk, hnew⟩ := pO s hsrc hx
 split at hs <;> (try (cases hs; done))
 rename_i b' l ro hi hb hhi
 split at hs
 ·rename_i hg
  obtain ⟨rfl, g1, g2, g3, g4, g5, g6, g7, g8, g9, g10, g11⟩ := hg
  simp only [sI] at hs; subst hs
  have hkey := (s0.blk hb).2
  simp only [cJ] at hkey; subst hkey
  have h8 := aK s0.fa g8
  have hup := da s0.z s0.fa hhi
  have hmv := hxl v s0
  have hm1 : 1 ≤ m := by simp only [Lin.ev, s0.z] at h8 hmv; omega
  have hsz : m * (bytes + 1) ≤ 2 ^ 40 := Nat.le_trans (Nat.mul_le_mul_right _ (by omega)) g11
  obtain ⟨new, hcells, hrows⟩ := hnew m (Nat.le_refl _) (by omega)
  have hone : aD new = true := jQ g9 (hrows v s0)
  obtain ⟨cs0, hcs0, ho0⟩ := (s0.blk hb).1
  simp only [cE] at ho0
  have hcl : cs0.length = l.length := by rw [ho0, ak]
  have hca : ca = .slc k' (v.b b') off 0 (some 0) := by
   rw [ha v s0]
   have e1 : i.ev v = 0 := by simp only [Lin.ev, g1, g2, s0.z]; omega
   have e2 : len.ev v = 0 := by simp only [Lin.ev, g3, g4, s0.z]; omega
   have e3 : cap.ev v = 0 := by simp only [Lin.ev, g5, g6, s0.z]; omega
   simp only [den, e1, e2, e3, Int.toNat_zero, Nat.zero_mul, Nat.add_zero]
  refine ae.mk' (w := upB v st.n h.n) (c := .slc k' h.n 0 m none) (h' := h.push (.cells new false)) mS (bj _ _ _ _ _ _) (Nat.le_succ _) rfl s.pos ?_ (fun u hu => ?_)
  ·rw [hr, hca]
   have hlo : lenOf (CV.slc k' (v.b b') off 0 (some 0)) = some 0 := rfl
   simp only [appV, hlo, hm, Nat.zero_add, if_neg (show ¬ m = 0 by omega), if_neg (show ¬ m * (bytes + 1) > 2 ^ 40 by omega), hcells, hone, Bool.true_eq_false, if_false, ne_eq, not_true_eq_false, hcs0]
   rw [if_neg (by omega)]
   simp only [Nat.zero_mul, cut?, Nat.add_zero]
   rw [if_pos (by omega)]
   simp only [List.take_zero, List.nil_append]
  ·obtain ⟨hau, _, _, hbu, _⟩ := bB hu
   have su := s.all u hau
   have hxu := hxl u su
   refine ⟨(su.wk' (st.n + 1)).push (q := .blk st.n (.rows k' R xl) false) (blk := .cells new false) (by simp only [adr, hbu]) ⟨new, by rw [hbu, dK, if_pos rfl], g10, hRk, by rw [hxu]; omega, by rw [hxu, Int.toNat_natCast]; exact hrows u su⟩, ?_⟩
   simp only [den]
   rw [if_neg (by omega), hxu, hbu, Int.toNat_natCast]
 ·cases hs
def jU (R : List Ty) : Nat → List Ty
 | 0 => []
 | n + 1 => R ++ jU R n
theorem pE {w : V} : ∀ {A B : List Ty} {a b : List CV}, a8 w A a → a8 w B b → a8 w (A ++ B) (a ++ b)
 | [], B, a, b, h1, h2 => by have : a = [] := h1; subst this; exact h2
 | T :: A, B, a, b, h1, h2 => by
  obtain ⟨c, cs, rfl, h3, h4⟩ := h1
  exact ⟨c, cs ++ b, rfl, h3, pE h4 h2⟩
theorem mX {w : V} {k : Nat} {R : List Ty} : ∀ (n : Nat) (cs : List CV), aO w k R cs n → a8 w (jU R n) cs
 | 0, cs, h => h
 | n + 1, cs, ⟨h1, h2, h3⟩ => by
  have := pE h2 (mX n _ h3)
  rwa [List.take_append_drop] at this
def qAJ (st : St) (k : Nat) (R : List Ty) (xl : Lin) (m : Nat) : AV × St :=
 (.vec k st.n xl, { st with n := (cK (st.n + 1) (jU R m)).2.2, fa := [.dc xl.s 0 (m - xl.c), .dc 0 xl.s (xl.c - m)] ++ ((cK (st.n + 1) (jU R m)).2.1 ++ st.fa), bl := .blk st.n (.cells (cK (st.n + 1) (jU R m)).1) false :: st.bl })
def tS (st : St) (k : Nat) (R : List Ty) (xl : Lin) : Nat → List (AV × St)
 | 0 => []
 | m + 1 => qAJ st k R xl (m + 1) :: tS st k R xl m
theorem n6 {st : St} {k : Nat} {R : List Ty} {xl : Lin} : ∀ {n m : Nat}, 1 ≤ m → m ≤ n → qAJ st k R xl m ∈ tS st k R xl n
 | 0, m, h1, h2 => by omega
 | n + 1, m, h1, h2 => by
  by_cases h : m = n + 1
  ·subst h; exact mS
  ·exact mC _ (n6 h1 (by omega))
def xX (st : St) (k bytes : Nat) (s x : AV) : Option (List (AV × St)) :=
 match s, xE st k x with
 | .slc k' b off i len cap, some (R, xl) => match av b st.bl, hiC st.fa xl with
  | some (.blk _ (.cells l) _), some hi =>
   if k' = k ∧ i.s = 0 ∧ i.c = 0 ∧ len.s = 0 ∧ len.c = 0 ∧ cap.s = 0 ∧ cap.c = 0 ∧ off ≤ l.length ∧ leL st.fa ⟨0, 1⟩ xl 0 = true ∧ fL R = true ∧ 2 ≤ k ∧ hi.toNat ≤ 4 ∧ hi.toNat * (bytes + 1) ≤ 2 ^ 40 then
    some (tS st k R xl hi.toNat) else none
  | _, _ => none
 | _, _ => none
theorem qC4 (s : Sat X v st env h) {k bytes : Nat} {a x : AV} {outs : List (AV × St)} (hs : xX st k bytes a x = some outs) {ca cx : CV} {r : Option (CV × H)} (hr : r = appV k bytes ca cx h) (ha : ∀ w, Sat0 X w st env h → ca = den w a) (hx : ∀ w, Sat0 X w st env h → cx = den w x) : ae X v st env outs r := by
 have s0 := s.now
 unfold xX at hs
 split at hs <;> (try (cases hs; done))
 rename_i k' b off i len cap R xl hsrc
 obtain ⟨m, hm, hxl, hRk, hnew⟩ := pO s hsrc hx
 split at hs <;> (try (cases hs; done))
 rename_i b' l ro hi hb hhi
 split at hs
 ·rename_i hg
  obtain ⟨rfl, g1, g2, g3, g4, g5, g6, g7, g8, g9, g10, g12, g11⟩ := hg
  simp only [sI] at hs; subst hs
  have hkey := (s0.blk hb).2
  simp only [cJ] at hkey; subst hkey
  have h8 := aK s0.fa g8
  have hup := da s0.z s0.fa hhi
  have hmv := hxl v s0
  have hm1 : 1 ≤ m := by simp only [Lin.ev, s0.z] at h8 hmv; omega
  have hmh : m ≤ hi.toNat := by omega
  have hsz : m * (bytes + 1) ≤ 2 ^ 40 := Nat.le_trans (Nat.mul_le_mul_right _ hmh) g11
  obtain ⟨new, hcells, hrows⟩ := hnew m (Nat.le_refl _) (by omega)
  have hone : aD new = true := jQ g9 (hrows v s0)
  obtain ⟨cs0, hcs0, ho0⟩ := (s0.blk hb).1
  simp only [cE] at ho0
  have hcl : cs0.length = l.length := by rw [ho0, ak]
  have hca : ca = .slc k' (v.b b') off 0 (some 0) := by
   rw [ha v s0]
   have e1 : i.ev v = 0 := by simp only [Lin.ev, g1, g2, s0.z]; omega
   have e2 : len.ev v = 0 := by simp only [Lin.ev, g3, g4, s0.z]; omega
   have e3 : cap.ev v = 0 := by simp only [Lin.ev, g5, g6, s0.z]; omega
   simp only [den, e1, e2, e3, Int.toNat_zero, Nat.zero_mul, Nat.add_zero]
  have hup0 : ∀ w, Agr (st.n + 1) (upB v st.n h.n) w → Sat0 X w st env h ∧ w.b st.n = h.n := fun w hw => by
   obtain ⟨hau, _, _, hbu, _⟩ := bB hw
   exact ⟨s.all w hau, hbu⟩
  obtain ⟨hle, w, hw, hall⟩ := gM (jU R m) (st.n + 1) (upB v st.n h.n) new (fun w hw => mX m new (hrows w (hup0 w hw).1))
  refine ae.mk' (w := w) (c := .slc k' h.n 0 m none) (h' := h.push (.cells new false)) (n6 hm1 hmh) ((bj _ _ _ _ _ _).trans hw (by omega)) (by show st.n ≤ (cK (st.n + 1) (jU R m)).2.2; omega) rfl s.pos ?_ (fun u hu => ?_)
  ·rw [hr, hca]
   have hlo : lenOf (CV.slc k' (v.b b') off 0 (some 0)) = some 0 := rfl
   simp only [appV, hlo, hm, Nat.zero_add, if_neg (show ¬ m = 0 by omega), if_neg (show ¬ m * (bytes + 1) > 2 ^ 40 by omega), hcells, hone, Bool.true_eq_false, if_false, ne_eq, not_true_eq_false, hcs0]
   rw [if_neg (by omega)]
   simp only [Nat.zero_mul, cut?, Nat.add_zero]
   rw [if_pos (by omega)]
   simp only [List.take_zero, List.nil_append]
  ·have hu1 : Agr (cK (st.n + 1) (jU R m)).2.2 w u := hu
   obtain ⟨hd, hfs⟩ := hall u hu1
   obtain ⟨su, hbu⟩ := hup0 u (hw.trans hu1 hle)
   have hxu := hxl u su
   have hz := su.z
   have h1 := su.push (q := .blk st.n (.cells (cK (st.n + 1) (jU R m)).1) false) (blk := .cells new false) (by simp only [adr, hbu]) ⟨new, by rw [hbu, dK, if_pos rfl], hd.symm⟩
   refine ⟨⟨h1.z, h1.env, fun f hf => ?_, h1.bl, h1.nd, h1.lt, h1.hn, h1.fr⟩, ?_⟩
   ·rcases List.mem_append.1 hf with hf | hf
    ·simp only [List.mem_cons, List.not_mem_nil, or_false] at hf
     simp only [Lin.ev] at hxu
     rcases hf with rfl | rfl <;> simp only [FOK] <;> omega
    ·rcases List.mem_append.1 hf with hf | hf
     ·exact hfs f hf
     ·exact su.fa f hf
   ·simp only [qAJ, den]
    rw [if_neg (by omega), hxu, hbu, Int.toNat_natCast]
 ·cases hs
def gi (st1 : St) (b off k : Nat) (t : Lin) : Nat → Nat → List (AV × St)
 | _, 0 => []
 | j, c + 1 => if oE st1.fa t j then gi st1 b off k t (j + 1) c else (.ptr b (off + j * k), { st1 with fa := [.dc t.s 0 (j - t.c), .dc 0 t.s (t.c - j)] ++ st1.fa }) :: gi st1 b off k t (j + 1) c
theorem gF {st1 : St} {b off k : Nat} {t : Lin} : ∀ {c j0 j : Nat}, j0 ≤ j → j < j0 + c → oE st1.fa t j = false → (AV.ptr b (off + j * k), ({ st1 with fa := [.dc t.s 0 (j - t.c), .dc 0 t.s (t.c - j)] ++ st1.fa } : St)) ∈ gi st1 b off k t j0 c
 | 0, j0, j, h1, h2, _ => by omega
 | c + 1, j0, j, h1, h2, hb => by
  simp only [gi]
  by_cases h : j = j0
  ·subst h; simp only [hb, Bool.false_eq_true, if_false]; exact mS
  ·split
   ·exact gF (by omega) (by omega) hb
   ·exact mC _ (gF (by omega) (by omega) hb)
def qD1 (st : St) (b : Nat) : Bool := match av b st.bl with
 | some (.blk _ (.cells _) _) => true
 | _ => false
def gJ (m : Int) (q : Nat) : AV × St → List (AV × St)
 | (.iptr b off k t, st1) => match hiC st1.fa t with
  | some hi => if leL st1.fa ⟨0, 0⟩ t 0 = true ∧ hi ≤ m ∧ qD1 st1 b = true ∧ q ≤ k ∧ 0 < k then gi st1 b off k t 0 (hi.toNat + 1) else [(.iptr b off k t, st1)]
  | none => [(.iptr b off k t, st1)]
 | o => [o]
theorem lE {m : Int} {q : Nat} {outs : List (AV × St)} {r : Option (CV × H)} (p : ae X v st env outs r) : ae X v st env (outs.flatMap (gJ m q)) r := by
 obtain ⟨o, ho, w, hw, hn, he, c, h', hr, sat, hd⟩ := p
 have keep : o ∈ gJ m q o → ae X v st env (outs.flatMap (gJ m q)) r := fun hm => ⟨o, List.mem_flatMap.2 ⟨o, ho, hm⟩, w, hw, hn, he, c, h', hr, sat, hd⟩
 obtain ⟨a, st1⟩ := o
 cases a <;> try exact keep mS
 rename_i b off k t
 simp only [gJ] at keep
 split at keep
 ·rename_i hi hhi
  split at keep
  ·rename_i hg
   obtain ⟨g1, g2, g3, g4', g4⟩ := hg
   have s0 := sat.now
   have z := s0.z
   have h1 := aK s0.fa g1
   have h2 := da z s0.fa hhi
   have h0 : 0 ≤ t.ev w := by simp only [Lin.ev, z] at h1 ⊢; omega
   have hbad : oE st1.fa t (t.ev w).toNat = false := by
    cases hb : oE st1.fa t (t.ev w).toNat with
    | false => rfl
    | true =>
     simp only [oE, Bool.or_eq_true] at hb
     rcases hb with hb | hb <;> (have := aK s0.fa hb; simp only [Lin.ev, z] at this h0; omega)
   have hm := gF (st1 := st1) (b := b) (off := off) (k := k) (t := t) (c := hi.toNat + 1) (j0 := 0) (j := (t.ev w).toNat) (by omega) (by omega) hbad
   have hsame : ∀ u, Agr st1.n w u → t.ev u = t.ev w := fun u hu => by
    have e1 := hd u hu
    have e2 := hd w (Agr.refl _ _)
    rw [← e2] at e1
    simp only [den, CV.ptr.injEq] at e1
    have su := sat.all u hu
    have h3 := aK su.fa g1
    simp only [Lin.ev, su.z, z] at h3 h1
    have hk : (t.ev u).toNat * k = (t.ev w).toNat * k := by omega
    have hk' := Nat.eq_of_mul_eq_mul_right (show 0 < k by omega) hk
    simp only [Lin.ev] at hk' ⊢; omega
   refine ⟨(AV.ptr b (off + (t.ev w).toNat * k), ({ st1 with fa := [.dc t.s 0 ((t.ev w).toNat - t.c), .dc 0 t.s (t.c - (t.ev w).toNat)] ++ st1.fa } : St)), List.mem_flatMap.2 ⟨_, ho, ?_⟩, w, hw, hn, he, c, h', hr, ⟨sat.pos, fun u hu => ?_⟩, fun u hu => ?_⟩
   ·simp only [gJ, hhi]
    rw [if_pos ⟨g1, g2, g3, g4', g4⟩]
    exact hm
   ·have su := sat.all u hu
    refine ⟨su.z, su.env, fun f hf => ?_, su.bl, su.nd, su.lt, su.hn, su.fr⟩
    rcases List.mem_append.1 hf with hf | hf
    ·have hsm := hsame u hu
     have hz := su.z
     simp only [List.mem_cons, List.not_mem_nil, or_false] at hf
     simp only [Lin.ev] at hsm h0
     rcases hf with rfl | rfl <;> simp only [FOK] <;> (simp only [Lin.ev]; omega)
    ·exact su.fa f hf
   ·have e1 := hd u hu
    rw [← e1]
    simp only [den, hsame u hu]
  ·exact keep mS
 ·exact keep mS
end
end
end Ce.S
namespace Ce.S
noncomputable section
open Go
section
variable {X : Cx} {v : V} {st : St} {env : List CV} {h : H}
def op? (st : St) : Option Opd → Option (Option AV)
 | none => some none
 | some o => (opA st.env o).map some
theorem op?_ok {w : V} (sw : Sat0 X w st env h) {o : Option Opd} {a : Option AV} (ha : op? st o = some a) : Opd.evo env o = a.map (den w) := by
 cases o with
 | none => simp only [op?, sI] at ha; subst ha; rfl
 | some o =>
  simp only [op?, Option.map_eq_some_iff] at ha
  obtain ⟨x, hx, rfl⟩ := ha
  simp only [Opd.evo, sw.op hx, Option.map_some]
def qc (fa : List Fact) (s : Nat) (i : Lin) : List Fact → Option (List AV)
 | [] => none
 | .row s' i' cs :: r => if s' == s && cF fa i' i then some cs else qc fa s i r
 | _ :: r => qc fa s i r
theorem xf {w : V} {fa : List Fact} (hf : ∀ f, f ∈ fa → FOK w f) {s : Nat} {i : Lin} {cs : List AV} : ∀ {l : List Fact}, (∀ f, f ∈ l → FOK w f) → qc fa s i l = some cs → FOK w (.row s i cs) := by
 intro l
 induction l with
 | nil => intro _ h; cases h
 | cons f r ih =>
  intro hl h
  have hrest := ih (fun f hm => hl f (mC _ hm))
  have h0 := hl f (mS)
  cases f with
  | row s' i' ds =>
   simp only [qc] at h
   split at h
   ·rename_i hc
    simp only [aT, beq_iff_eq] at hc
    simp only [sI] at h
    obtain ⟨rfl, h1⟩ := hc
    subst h
    have e := ay hf h1
    obtain ⟨q1, q2⟩ := h0
    rw [e] at q1 q2
    exact ⟨q1, q2⟩
   ·exact hrest h
  | _ => exact hrest h
def sIaR (st : St) (k : Nat) (x i : AV) : Option (List (AV × St)) := match x, jv i with
 | .sym s, some ii => match qc st.fa s ii st.fa with
  | some cs => if cs.length = k then some [(.rptr cs, st)] else xV st k x i
  | none => xV st k x i
 | _, _ => xV st k x i
theorem qBV (s : Sat X v st env h) {k : Nat} {x i : AV} {outs : List (AV × St)} (hs : sIaR st k x i = some outs) {cx ci : CV} (hx : ∀ w, Sat0 X w st env h → cx = den w x) (hi : ∀ w, Sat0 X w st env h → ci = den w i) {r : Option (CV × H)} (hr : r = match (generalizing := false) cx, bP? ci with
  | .slc _ r off len _, some i => if i < len then some (.ptr r (off + i * k), h) else none
  | .lst rows _, some i => match nth? rows i with
   | some row => if row.length = k then some (.rptr row, h) else none
   | none => none
  | _, _ => none) : ae X v st env outs r := by
 unfold sIaR at hs
 split at hs
 ·rename_i s1 ii hii
  split at hs
  ·rename_i cs hcs
   split at hs
   ·rename_i hk
    simp only [sI] at hs; subst hs
    refine aJ s fun w sw => ?_
    obtain ⟨q1, rows, ex, q2, q3⟩ := xf sw.fa sw.fa hcs
    obtain ⟨kk, e1⟩ := eu (w := w) hii
    rw [hr, hx w sw, hi w sw, e1]
    simp only [den, q2, bP?, if_pos q1, q3, ak, hk, if_true]
   ·exact pS s hs hx hi hr
  ·exact pS s hs hx hi hr
 ·exact pS s hs hx hi hr
def uU : BinOp → Bool
 | .shl | .shr => true
 | _ => false
def qEP : AV → Bool
 | .ptr _ _ | .iptr _ _ _ _ | .clo _ _ _ | .rptr _ => true
 | _ => false
def sO (o : Ins) (st : St) : Option (List (AV × St)) :=
 match o with
 | .mov x => (opA st.env x).map fun a => [(a, st)]
 | .pick c a b => match opA st.env c, opA st.env a, opA st.env b with
  | some c, some a, some b => xN st c a b
  | _, _, _ => none
 | .alloc z => sX st z
 | .box x => match opA st.env x with
  | some a => sBox st a
  | none => none
 | .build z ps => match gj z with
  | some l => (rY st l ps).map fun c => [(.agg c, st)]
  | none => none
 | .bsl k z len ps => sBsl st k z len ps
 | .ld g a => match opA st.env a with
  | some a => sLd st g a
  | none => none
 | .st n a x => match opA st.env a, opA st.env x with
  | some a, some x => sSt st n a x
  | _, _ => none
 | .nilck x => match opA st.env x with
  | some a => if qEP a then some [(a, st)] else none
  | none => none
 | .bin op x y => match opA st.env x, opA st.env y with
  | some (.int k s c), some (.int k' s' c') => if uU op then sV op k ⟨s, c⟩ ⟨s', c'⟩ st else if k = k' then sBin op k ⟨s, c⟩ ⟨s', c'⟩ st else none
  | _, _ => none
 | .eqo neg e x y => match opA st.env x, opA st.env y with
  | some a, some b => sEq neg e a b st
  | _, _ => none
 | .un op x => match opA st.env x with
  | some a => sUn op a st
  | none => none
 | .cvi k x => match opA st.env x with
  | some (.int _ s c) => some [ky st k (some ⟨s, c⟩) []]
  | _ => none
 | .mkf f a b => match mf st.env a, mf st.env b with
  | some a, some b => some [(.clo f a b, st)]
  | _, _ => none
 | .mkmap => some (xU st)
 | .mksl k bytes z l c => match opA st.env l, opA st.env c with
  | some l, some c => xT st k bytes z l c
  | _, _ => none
 | .slA n k x lo hi mx => match opA st.env x, op? st lo, op? st hi, op? st mx with
  | some x, some lo, some hi, some mx => sSlA st n k x lo hi mx
  | _, _, _, _ => none
 | .slS k x lo hi mx => match opA st.env x, op? st lo, op? st hi, op? st mx with
  | some x, some lo, some hi, some mx => sSlS st k x lo hi mx
  | _, _, _, _ => none
 | .fad off x => match opA st.env x with
  | some (.ptr b o) => some [(.ptr b (o + off), st)]
  | some (.iptr b o k i) => some [(.iptr b (o + off) k i, st)]
  | some (.rptr c) => some [(.rptr (c.drop off), st)]
  | _ => none
 | .fld off g x => match opA st.env x with
  | some (.agg l) => (lF st.fa g l off).map fun a => [(a, st)]
  | _ => none
 | .iaS k x i => match opA st.env x, opA st.env i with
  | some x, some i => (sIaR st k x i).map fun outs => outs.flatMap (gJ 3 2)
  | _, _ => none
 | .iaA n k x i => match opA st.env x, opA st.env i with
  | some x, some i => sIaA st n k x i
  | _, _ => none
 | .ixA n k g x i => match opA st.env x, opA st.env i with
  | some x, some i => sIxA st n k g x i
  | _, _ => none
 | .lku ag ls z x i ok => match opA st.env x, opA st.env i with
  | some x, some i => sLku st ag ls z x i ok
  | _, _ => none
 | .mset ag ls m k x => match opA st.env m, opA st.env k, opA st.env x with
  | some m, some k, some x => xR st ag ls m k x
  | _, _, _ => none
 | .ext t i => match opA st.env t with
  | some (.tup l) => (pd l i).map fun a => [(a, st)]
  | _ => none
 | .app k bytes s x => match opA st.env s, opA st.env x with
  | some s, some x => match xX st k bytes s x with
   | some r => some r
   | none => match sApp st k bytes s x with
    | some r => some r
    | none => xY st k bytes s x
  | _, _ => none
 | .lenS x => match opA st.env x with
  | some a => sLen a st
  | none => none
 | .lenA n => some [(.int .i64 0 n, st)]
 | .cpy k d s => match opA st.env d, opA st.env s with
  | some d, some s => sCpy st k d s
  | _, _ => none
 | .mn xs => match mf st.env xs with
  | some l => sMn l st
  | none => none
 | .mx xs => match mf st.env xs with
  | some l => sMx l st
  | none => none
 | .ckl g a x => match opA st.env a, opA st.env x with
  | some a, some x => sCkl st g a x
  | _, _ => none
 | .cku ag ls z x i ok d => match opA st.env x, opA st.env i, opA st.env d with
  | some x, some i, some d => sCku st ag ls z x i ok d
  | _, _, _ => none
 | _ => none
theorem qEG (s : Sat X v st env h) {o : Ins} {outs : List (AV × St)} (hs : sO o st = some outs) : ae X v st env outs (stepO noC o env h) := by
 have s0 := s.now
 cases o <;> simp only [sO] at hs <;> (try (cases hs; done))
 case mov x =>
  simp only [Option.map_eq_some_iff] at hs
  obtain ⟨a, ha, rfl⟩ := hs
  exact aJ s fun w sw => by simp only [stepO, sw.op ha]
 case pick c a b =>
  split at hs <;> (try (cases hs; done))
  rename_i c' a' b' h1 h2 h3
  exact xM s hs (by simp only [stepO]; rfl) (fun w z e => by rw [e]; exact fJ z h1) (fun w z e => by rw [e]; exact fJ z h2) (fun w z e => by rw [e]; exact fJ z h3)
 case alloc z => exact vY s hs rfl
 case box x =>
  split at hs <;> (try (cases hs; done))
  rename_i a ha
  exact qC1 s hs rfl (fun w sw => sw.op ha)
 case build z ps =>
  split at hs <;> (try (cases hs; done))
  rename_i l hl
  simp only [Option.map_eq_some_iff] at hs
  obtain ⟨c, hc, rfl⟩ := hs
  exact aJ s fun w sw => by
   have := rX sw ps l c hc
   rw [dR sw.z z l hl] at this
   simp only [stepO, this, den]
 case bsl k z len ps => exact qC0 s hs rfl
 case ld g a =>
  split at hs <;> (try (cases hs; done))
  rename_i a' ha
  exact sLd_ok s hs (fun w sw => sw.op ha) rfl
 case st n a x =>
  split at hs <;> (try (cases hs; done))
  rename_i a' x' ha hx
  exact sSt_ok s hs (fun w sw => sw.op ha) (fun w sw => sw.op hx) rfl
 case nilck x =>
  split at hs <;> (try (cases hs; done))
  rename_i a ha
  split at hs
  ·rename_i hn
   simp only [sI] at hs; subst hs
   refine aJ s fun w sw => ?_
   simp only [stepO, sw.op ha]
   cases a <;> first | rfl | (simp [qEP] at hn)
  ·cases hs
 case bin op x y =>
  split at hs <;> (try (cases hs; done))
  rename_i k s1 c k' s2 c' h1 h2
  have e1 : ∀ w, Sat0 X w st env h → x.ev env = .int k ((⟨s1, c⟩ : Lin).ev w) := fun w sw => sw.op h1
  have e2 : ∀ w, Sat0 X w st env h → y.ev env = .int k' ((⟨s2, c'⟩ : Lin).ev w) := fun w sw => sw.op h2
  have f1 : ∀ w, Sat0 X w st env h → (⟨s1, c⟩ : Lin).ev w = (⟨s1, c⟩ : Lin).ev v := fun w sw => by
   have := e1 w sw; rw [e1 v s0] at this; simp only [CV.int.injEq, true_and] at this; exact this.symm
  have f2 : ∀ w, Sat0 X w st env h → (⟨s2, c'⟩ : Lin).ev w = (⟨s2, c'⟩ : Lin).ev v := fun w sw => by
   have := e2 w sw; rw [e2 v s0] at this; simp only [CV.int.injEq, true_and] at this; exact this.symm
  split at hs
  ·rename_i hsh
   refine vW s hs f1 f2 ?_
   simp only [stepO, e1 v s0, e2 v s0]
   cases op <;> first | (simp [uU] at hsh; done) | rfl
  ·rename_i hsh
   split at hs
   ·rename_i hk; subst hk
    refine qC2 s hs f1 f2 ?_
    simp only [stepO, e1 v s0, e2 v s0]
    cases op <;> first | (simp only [Ce.bin, if_true]; done) | (simp only [Ce.bin, if_true]; rfl) | (exact absurd rfl hsh)
   ·cases hs
 case eqo neg e x y =>
  split at hs <;> (try (cases hs; done))
  rename_i a b h1 h2
  exact sEq_ok s hs (fun w sw => sw.op h1) (fun w sw => sw.op h2) rfl
 case un op x =>
  split at hs <;> (try (cases hs; done))
  rename_i a ha
  exact sUn_ok s hs (fun w sw => sw.op ha) rfl
 case cvi k x =>
  split at hs <;> (try (cases hs; done))
  rename_i k1 s1 c1 ha
  simp only [sI] at hs; subst hs
  have e1 : ∀ w, Sat0 X w st env h → x.ev env = .int k1 ((⟨s1, c1⟩ : Lin).ev w) := fun w sw => sw.op ha
  refine dp s (m := (⟨s1, c1⟩ : Lin).ev v) (by simp only [stepO, e1 v s0]) (fun w l' hl sw => ?_) (fun w sw hn f hf => by cases hf)
  simp only [sI] at hl; subst hl
  have := e1 w sw; rw [e1 v s0] at this; simp only [CV.int.injEq, true_and] at this; exact this.symm
 case mkf f a b =>
  split at hs <;> (try (cases hs; done))
  rename_i a' b' ha hb
  simp only [sI] at hs; subst hs
  exact aJ s fun w sw => by simp only [stepO, sw.ops ha, sw.ops hb, den]
 case mkmap =>
  simp only [sI] at hs; subst hs
  exact vX s rfl
 case mksl k bytes z l c =>
  split at hs <;> (try (cases hs; done))
  rename_i l' c' hl hc
  exact xS s hs rfl (fun w sw => sw.op hl) (fun w sw => sw.op hc)
 case slA n k x lo hi mx =>
  split at hs <;> (try (cases hs; done))
  rename_i x' lo' hi' mx' hx h1 h2 h3
  exact qBQ s hs rfl (fun w sw => sw.op hx) (fun w sw => op?_ok sw h1) (fun w sw => op?_ok sw h2) (fun w sw => op?_ok sw h3)
 case slS k x lo hi mx =>
  split at hs <;> (try (cases hs; done))
  rename_i x' lo' hi' mx' hx h1 h2 h3
  exact qBP s hs rfl (fun w sw => sw.op hx) (fun w sw => op?_ok sw h1) (fun w sw => op?_ok sw h2) (fun w sw => op?_ok sw h3)
 case fad off x =>
  split at hs <;> (try (cases hs; done))
  ·rename_i b o ha
   simp only [sI] at hs; subst hs
   exact aJ s fun w sw => by simp only [stepO, sw.op ha, den]
  ·rename_i b o k i ha
   simp only [sI] at hs; subst hs
   exact aJ s fun w sw => by simp only [stepO, sw.op ha, den]; rw [show o + (i.ev w).toNat * k + off = o + off + (i.ev w).toNat * k by omega]
  ·rename_i c ha
   simp only [sI] at hs; subst hs
   exact aJ s fun w sw => by simp only [stepO, sw.op ha, den, ft]
 case fld off g x =>
  split at hs <;> (try (cases hs; done))
  rename_i l ha
  simp only [Option.map_eq_some_iff] at hs
  obtain ⟨a, h1, rfl⟩ := hs
  exact aJ s fun w sw => by simp only [stepO, sw.op ha, den, fm sw.fa h1]
 case iaS k x i =>
  split at hs <;> (try (cases hs; done))
  rename_i x' i' h1 h2
  simp only [Option.map_eq_some_iff] at hs
  obtain ⟨o1, hs1, rfl⟩ := hs
  exact lE (qBV s hs1 (fun w sw => sw.op h1) (fun w sw => sw.op h2) rfl)
 case iaA n k x i =>
  split at hs <;> (try (cases hs; done))
  rename_i x' i' h1 h2
  exact qBW s hs (fun w sw => sw.op h1) (fun w sw => sw.op h2) rfl
 case ixA n k g x i =>
  split at hs <;> (try (cases hs; done))
  rename_i x' i' h1 h2
  exact qBU s hs (fun w sw => sw.op h1) (fun w sw => sw.op h2) rfl
 case lku ag ls z x i ok =>
  split at hs <;> (try (cases hs; done))
  rename_i x' i' h1 h2
  exact qBS s hs rfl (fun w sw => sw.op h1) (fun w sw => sw.op h2)
 case mset ag ls m k x =>
  split at hs <;> (try (cases hs; done))
  rename_i m' k' x' h1 h2 h3
  exact xQ s hs rfl (fun w z e => by rw [e]; exact fJ z h1) (fun w z e => by rw [e]; exact fJ z h2) (fun w z e => by rw [e]; exact fJ z h3)
 case ext t i =>
  split at hs <;> (try (cases hs; done))
  rename_i l ha
  simp only [Option.map_eq_some_iff] at hs
  obtain ⟨a, h1, rfl⟩ := hs
  exact aJ s fun w sw => by simp only [stepO, sw.op ha, den, qy h1]
 case app k bytes x y =>
  split at hs <;> (try (cases hs; done))
  rename_i x' y' h1 h2
  split at hs
  ·rename_i r hr
   simp only [sI] at hs; subst hs
   exact qC4 s hr rfl (fun w sw => sw.op h1) (fun w sw => sw.op h2)
  ·split at hs
   ·rename_i r hr
    simp only [sI] at hs; subst hs
    exact qC3 s hr rfl (fun w sw => sw.op h1) (fun w sw => sw.op h2)
   ·exact qC5 s hs rfl (fun w sw => sw.op h1) (fun w sw => sw.op h2)
 case lenS x =>
  split at hs <;> (try (cases hs; done))
  rename_i a ha
  exact qBT s hs (fun w sw => sw.op ha) rfl
 case lenA n =>
  simp only [sI] at hs; subst hs
  exact aJ s fun w sw => by simp only [stepO, den, sw.z, Int.zero_add]
 case cpy k d x =>
  split at hs <;> (try (cases hs; done))
  rename_i x' y' h1 h2
  exact qBX s hs rfl (fun w sw => sw.op h1) (fun w sw => sw.op h2)
 case mn xs =>
  split at hs <;> (try (cases hs; done))
  rename_i l hl
  exact sMn_ok s hs (fun w sw => sw.ops hl) rfl
 case mx xs =>
  split at hs <;> (try (cases hs; done))
  rename_i l hl
  exact sMx_ok s hs (fun w sw => sw.ops hl) rfl
 case ckl g a x =>
  split at hs <;> (try (cases hs; done))
  rename_i x' y' h1 h2
  exact qBZ s hs rfl (fun w sw => sw.op h1) (fun w sw => sw.op h2)
 case cku ag ls z x i ok d =>
  split at hs <;> (try (cases hs; done))
  rename_i x' i' d' h1 h2 h3
  exact qBY s hs rfl (fun w sw => sw.op h1) (fun w sw => sw.op h2) (fun w sw => sw.op h3)
def widT : Ty → Ty
 | .int k _ _ => de k
 | T => T
def sJ (lo hi : Nat) : Nat → List Ty → List Ty
 | _, [] => []
 | i, T :: Ts => (if lo ≤ i ∧ i < hi then widT T else T) :: sJ lo hi (i + 1) Ts
theorem mL (lo hi : Nat) : ∀ (i : Nat) (R : List Ty), (sJ lo hi i R).length = R.length
 | _, [] => rfl
 | i, T :: Ts => by simp only [sJ, List.length_cons, mL lo hi (i + 1) Ts]
def vO (st : St) (b lo hi : Nat) : St := match av b st.bl with
 | some (.blk b' (.rows k R n) ro) => if gX st.fa R (sJ lo hi 0 R) then { st with bl := cY b [.blk b' (.rows k (sJ lo hi 0 R) n) ro] st.bl } else st
 | some (.vec b' k R n ro) => if gX st.fa R (sJ lo hi 0 R) then { st with bl := cY b [.vec b' k (sJ lo hi 0 R) n ro] st.bl } else st
 | _ => st
theorem kK {w : V} {k : Nat} {R R2 : List Ty} (hR : ∀ c, a8 w R c → a8 w R2 c) : ∀ (n : Nat) (cs : List CV), aO w k R cs n → aO w k R2 cs n
 | 0, _, h => h
 | n + 1, _, ⟨h1, h2, h3⟩ => ⟨h1, hR _ h2, kK hR n _ h3⟩
theorem qBA (s : Sat X v st env h) (b lo hi : Nat) : Sat X v (vO st b lo hi) env h := by
 have one : ∀ (p q : BE), av b st.bl = some p → (∀ w, Sat0 X w st env h → BOK w h q) → (∀ w, adr w q = adr w p) → (∀ w, (adr w p).Nodup) → Sat X v { st with bl := cY b [q] st.bl } env h := by
  intro p q hl hq ha hnd
  refine ⟨s.pos, fun u hu => ?_⟩
  have su := s.all u hu
  obtain ⟨_, l1, l2, hbl, hm⟩ := cT hl
  have := su.upd (l1 := l1) (P := [p]) (P' := [q]) (l2 := l2) (h' := h) hbl (Nat.le_refl _) (fun j _ _ => rfl) (fun r hr => by
   simp only [List.mem_singleton] at hr; subst hr; exact hq u su) (by simpa [ha] using hnd u) (fun a hm => .inl (by simpa [ha] using hm))
  rw [← hm] at this
  exact this
 unfold vO
 split
 ·rename_i b' k R n ro hl
  split
  ·rename_i hst
   refine one _ _ hl (fun w sw => ?_) (fun w => rfl) (fun w => by simp [adr])
   obtain ⟨cs, h1, h2, h3, h4, h5⟩ := (sw.blk hl).1
   exact ⟨cs, h1, h2, by rw [mL]; exact h3, h4, kK (fun c => dM sw.fa _ _ hst c) _ _ h5⟩
  ·exact s
 ·rename_i b' k R n ro hl
  split
  ·rename_i hst
   refine one _ _ hl (fun w sw => ?_) (fun w => rfl) (fun w => by simp only [adr]; split <;> simp)
   rcases (sw.blk hl).1 with h0 | ⟨cs, h1, h2, h3, h4, h5⟩
   ·exact .inl h0
   ·exact .inr ⟨cs, h1, h2, by rw [mL]; exact h3, h4, kK (fun c => dM sw.fa _ _ hst c) _ _ h5⟩
  ·exact s
 ·exact s
theorem widB_n (st : St) (b lo hi : Nat) : (vO st b lo hi).n = st.n ∧ (vO st b lo hi).env = st.env := by
 unfold vO
 split
 ·split <;> exact ⟨rfl, rfl⟩
 ·split <;> exact ⟨rfl, rfl⟩
 ·exact ⟨rfl, rfl⟩
def dstB (n : Nat) : AV → Option (Nat × Nat × Nat)
 | .slc k b _ _ _ _ => some (b, 0, k)
 | .vec k b _ => some (b, 0, k)
 | .iptr b off _ _ => some (b, off, off + n)
 | _ => none
def wrB (o : Ins) (st : St) : Option (Nat × Nat × Nat) := match o with
 | .st n a _ => (opA st.env a).bind (dstB n)
 | .cpy _ d _ => (opA st.env d).bind (dstB 0)
 | .app _ _ d _ => (opA st.env d).bind (dstB 0)
 | _ => none
def sOw (o : Ins) (st : St) : Option (List (AV × St)) := match sO o st with
 | some r => some r
 | none => match wrB o st with
  | some (b, lo, hi) => sO o (vO st b lo hi)
  | none => none
theorem xO (s : Sat X v st env h) {o : Ins} {outs : List (AV × St)} (hs : sOw o st = some outs) : ae X v st env outs (stepO noC o env h) := by
 unfold sOw at hs
 split at hs
 ·rename_i r hr
  simp only [sI] at hs; subst hs
  exact qEG s hr
 ·split at hs
  ·rename_i b lo hi _
   have := qEG (qBA s b lo hi) hs
   obtain ⟨o', ho, w, hw, hn, he, rest⟩ := this
   obtain ⟨e1, e2⟩ := widB_n st b lo hi
   rw [e1] at hw hn; rw [e2] at he
   exact ⟨o', ho, w, hw, hn, he, rest⟩
  ·cases hs
end
end
end Ce.S
namespace Ce.S
noncomputable section
open Go
def hZ (fa : List Fact) (s : Nat) (i : Lin) (R : List Ty) : List Fact → Bool
 | [] => false
 | .pre s' i' R' :: r => (s' == s && gX fa R' R && (cF fa i' i || (leL fa i i' 1 && chkRow fa s i' R fa))) || hZ fa s i R r
 | _ :: r => hZ fa s i R r
where
 chkRow (fa : List Fact) (s : Nat) (i : Lin) (R : List Ty) : List Fact → Bool
 | [] => false
 | .row s' i' cs :: r => (s' == s && cF fa i' i && qO fa R cs) || chkRow fa s i R r
 | _ :: r => chkRow fa s i R r
def jn (fa : List Fact) (s : Nat) (i : Lin) (cs : List AV) : List Fact → Bool
 | [] => false
 | .row s' i' ds :: r => (s' == s && cF fa i' i && lW fa ds cs) || jn fa s i cs r
 | _ :: r => jn fa s i cs r
def wV (fa : List Fact) (θ : Sub) : Fact → Bool
 | .dc x y c => leL fa (θ.iL x) (θ.iL y) c
 | .ty s T => tyA fa (mM θ T) (θ.cA s)
 | .len s t => match θ.cA s with
  | .sym s' => match gY s' fa with
   | some t' => cF fa ⟨t', 0⟩ (θ.iL t)
   | none => false
  | .nils => cF fa ⟨0, 0⟩ (θ.iL t)
  | .lrows rows _ => cF fa ⟨0, rows.length⟩ (θ.iL t)
  | _ => false
 | .row s i cs => match θ.cA s with
  | .sym s' => jn fa s' (dH θ i) (jK θ cs) fa
  | _ => false
 | .ixd _ _ => false
 | .sum _ _ _ _ => false
 | .pre s i R => match θ.cA s with
  | .sym s' => leL fa (dH θ i) ⟨0, 0⟩ 0 || hZ fa s' (dH θ i) (dx θ R) fa || (leL fa (dH θ i) ⟨0, 1⟩ 0 && hZ.chkRow fa s' ⟨0, 0⟩ (dx θ R) fa)
  | .nils => true
  | _ => false
theorem ol {w : V} {fa : List Fact} (z : w.i 0 = 0) (hf : ∀ f, f ∈ fa → FOK w f) {s : Nat} {i : Lin} {R : List Ty} : ∀ {l : List Fact}, (∀ f, f ∈ l → FOK w f) → hZ.chkRow fa s i R l = true → 0 ≤ i.ev w ∧ ∃ rows ex r, w.c s = .lst rows ex ∧ nth? rows (i.ev w).toNat = some r ∧ a8 w R r := by
 intro l
 induction l with
 | nil => intro _ h; cases h
 | cons f r ih =>
  intro hl h
  have hrest := ih (fun f hm => hl f (mC _ hm))
  have h0 := hl f (mS)
  cases f with
  | row s' i' cs =>
   simp only [hZ.chkRow, Bool.or_eq_true, aT, beq_iff_eq] at h
   rcases h with ⟨⟨rfl, h1⟩, h2⟩ | h
   ·have e := ay hf h1
    obtain ⟨q1, rows, ex, q2, q3⟩ := h0
    rw [e] at q1 q3
    exact ⟨q1, rows, ex, _, q2, q3, gA z hf _ _ h2⟩
   ·exact hrest h
  | _ => exact hrest h
theorem wU {w : V} {fa : List Fact} (z : w.i 0 = 0) (hf : ∀ f, f ∈ fa → FOK w f) {s : Nat} {i : Lin} {R : List Ty} : ∀ {l : List Fact}, (∀ f, f ∈ l → FOK w f) → hZ fa s i R l = true → FOK w (.pre s i R) := by
 intro l
 induction l with
 | nil => intro _ h; cases h
 | cons f r ih =>
  intro hl h
  have hrest := ih (fun f hm => hl f (mC _ hm))
  have h0 := hl f (mS)
  cases f with
  | pre s' i' R' =>
   simp only [hZ, Bool.or_eq_true, aT, beq_iff_eq] at h
   rcases h with ⟨⟨rfl, h1⟩, h2⟩ | h
   ·simp only [FOK] at h0 ⊢
    intro rows ex hr j r hn hj
    rcases h2 with h2 | ⟨h2, h3⟩
    ·have e := ay hf h2
     exact dM hf _ _ h1 r (h0 rows ex hr j r hn (by omega))
    ·have e := aK hf h2
     by_cases hlt : (j : Int) < i'.ev w
     ·exact dM hf _ _ h1 r (h0 rows ex hr j r hn hlt)
     ·obtain ⟨q1, rows', ex', r', q2, q3, q4⟩ := ol z hf hf h3
      rw [hr] at q2; cases q2
      have hj' : j = (i'.ev w).toNat := by omega
      rw [hj', q3, sI] at hn; subst hn
      exact q4
   ·exact hrest h
  | _ => exact hrest h
theorem tK {w : V} {fa : List Fact} (z : w.i 0 = 0) (hf : ∀ f, f ∈ fa → FOK w f) {s : Nat} {i : Lin} {cs : List AV} : ∀ {l : List Fact}, (∀ f, f ∈ l → FOK w f) → jn fa s i cs l = true → FOK w (.row s i cs) := by
 intro l
 induction l with
 | nil => intro _ h; cases h
 | cons f r ih =>
  intro hl h
  have hrest := ih (fun f hm => hl f (mC _ hm))
  have h0 := hl f (mS)
  cases f with
  | row s' i' ds =>
   simp only [jn, Bool.or_eq_true, aT, beq_iff_eq] at h
   rcases h with ⟨⟨rfl, h1⟩, h2⟩ | h
   ·have e := ay hf h1
    have e2 := fO z hf _ _ h2
    obtain ⟨q1, rows, ex, q2, q3⟩ := h0
    rw [e] at q1 q3
    exact ⟨q1, rows, ex, q2, by rw [q3, e2]⟩
   ·exact hrest h
  | _ => exact hrest h
theorem qDS {w : V} {fa : List Fact} (z : w.i 0 = 0) (hf : ∀ f, f ∈ fa → FOK w f) {θ : Sub} {f : Fact} (h : wV fa θ f = true) : FOK (w.comp θ) f := by
 cases f with
 | dc x y c => exact aK hf h
 | ty s T =>
  simp only [wV] at h
  simp only [FOK]
  exact (iM w θ T _).1 (fT z hf _ _ h)
 | len s t =>
  simp only [wV] at h
  simp only [FOK, V.comp]
  split at h <;> (try (cases h; done))
  ·rename_i s' he
   split at h
   ·rename_i t' ht
    obtain ⟨n, hn, hi⟩ := d9 hf ht
    have e := ay hf h
    simp only [Lin.ev] at e ⊢
    exact ⟨n, by rw [he]; exact hn, by omega⟩
   ·cases h
  ·rename_i he
   have e := ay hf h
   simp only [Lin.ev, z] at e ⊢
   exact ⟨0, by rw [he]; rfl, by omega⟩
  ·rename_i rows ex he
   have e := ay hf h
   simp only [Lin.ev, z] at e ⊢
   exact ⟨rows.length, by rw [he]; simp only [den, cg, eA, List.length_map], by omega⟩
 | row s i cs =>
  simp only [wV] at h
  split at h
  ·rename_i s' he
   obtain ⟨q1, rows, ex, q2, q3⟩ := tK z hf hf h
   rw [bA] at q1 q3
   rw [cR] at q3
   exact ⟨q1, rows, ex, by show den w (θ.cA s) = _; rw [he]; exact q2, q3⟩
  ·cases h
 | ixd fw bw => cases h
 | sum a b t c => cases h
 | pre s i R =>
  simp only [wV] at h
  split at h <;> (try (cases h; done))
  ·rename_i s' he
   simp only [Bool.or_eq_true] at h
   have hc : (w.comp θ).c s = w.c s' := by simp only [V.comp, he, den]
   simp only [FOK]
   rcases h with (h | h) | h
   rotate_right
   ·simp only [aT] at h
    have e := aK hf h.1
    rw [bA] at e
    simp only [Lin.ev, z] at e
    obtain ⟨_, rows', ex', r', q2, q3, q4⟩ := ol z hf hf h.2
    intro rows ex hr j r hn hj
    rw [hc, q2] at hr
    cases hr
    have hj' : j = 0 := by simp only [Lin.ev] at hj; omega
    subst hj'
    have e0 : (Lin.ev w ⟨0, 0⟩).toNat = 0 := by simp only [Lin.ev, z]; rfl
    rw [e0, hn, sI] at q3
    subst q3
    exact (eZ w θ R r).1 q4
   ·have e := aK hf h
    rw [bA] at e
    simp only [Lin.ev, z] at e
    intro rows ex _ j r _ hj
    simp only [Lin.ev] at hj; omega
   ·have := wU z hf hf h
    simp only [FOK] at this
    rw [hc]
    intro rows ex hr j r hn hj
    rw [← bA] at hj
    exact (eZ w θ R r).1 (this rows ex hr j r hn hj)
  ·rename_i he
   simp only [FOK, V.comp, he, den]
   intro rows ex hr; cases hr
def uy (fa : List Fact) (θ : Sub) : List Fact → Bool
 | [] => true
 | f :: r => wV fa θ f && uy fa θ r
theorem qA2 {w : V} {fa : List Fact} (z : w.i 0 = 0) (hf : ∀ f, f ∈ fa → FOK w f) {θ : Sub} : ∀ {l : List Fact}, uy fa θ l = true → ∀ f, f ∈ l → FOK (w.comp θ) f := by
 intro l
 induction l with
 | nil => intro _ f h; cases h
 | cons x r ih =>
  intro h f hm
  simp only [uy, aT] at h
  rcases List.mem_cons.1 hm with rfl | hm
  ·exact qDS z hf h.1
  ·exact ih h.2 f hm
def gB (fa : List Fact) (k : Nat) (R : List Ty) (n : Lin) : Ct → Bool
 | .rows k' R' n' => k' == k && gX fa R' R && cF fa n' n
 | .cells l => decide (0 < k) && R.length == k && decide ((l.length / k) * k = l.length) && cF fa n ⟨0, (l.length / k : Nat)⟩ && pL fa R (ei k (l.length / k) l)
theorem il {w : V} {fa : List Fact} (z : w.i 0 = 0) (hf : ∀ f, f ∈ fa → FOK w f) {k : Nat} {R : List Ty} {n : Lin} {ct : Ct} {cs : List CV} (h : gB fa k R n ct = true) (hc : cE w cs ct) : cE w cs (.rows k R n) := by
 cases ct with
 | rows k' R' n' =>
  simp only [gB, aT, beq_iff_eq] at h
  obtain ⟨⟨rfl, h1⟩, h2⟩ := h
  obtain ⟨q1, q2, q3, q4⟩ := hc
  have e := ay hf h2
  have go : ∀ (m : Nat) (cs : List CV), aO w k' R' cs m → aO w k' R cs m := by
   intro m
   induction m with
   | zero => intro cs h; exact h
   | succ m ih => intro cs h; exact ⟨h.1, dM hf _ _ h1 _ h.2.1, ih _ h.2.2⟩
  have hl : R.length = R'.length := by
   have : ∀ {A B : List Ty}, gX fa A B = true → B.length = A.length := by
    intro A
    induction A with
    | nil => intro B hs; cases B with
     | nil => rfl
     | cons b B => cases hs
    | cons a A ih => intro B hs; cases B with
     | nil => cases hs
     | cons b B => simp only [gX, aT] at hs; simp only [List.length_cons, ih hs.2]
   exact this h1
  exact ⟨q1, by omega, by omega, by rw [← e]; exact go _ _ q4⟩
 | cells l =>
  simp only [gB, aT, beq_iff_eq, dT] at h
  obtain ⟨⟨⟨⟨h1, h2⟩, h3⟩, h4⟩, h5⟩ := h
  simp only [cE] at hc; subst hc
  have e := ay hf h4
  have e' : n.ev w = ((l.length / k : Nat) : Int) := by rw [e]; simp only [Lin.ev, z]; omega
  exact ⟨h1, h2, by rw [e']; exact Int.natCast_nonneg _, by rw [e', Int.toNat_natCast]; exact fZ z hf h3.symm h5⟩
def qA4 (fa : List Fact) (θ : Sub) (p q : BE) : Bool :=
 match p, q with
 | .blk b (.cells l) ro, .blk b' (.cells l') ro' => b' == θ.bN b && ro == ro' && lW fa l' (jK θ l)
 | .blk b (.rows k R n) ro, .blk b' ct ro' => b' == θ.bN b && ro == ro' && gB fa k (dx θ R) (dH θ n) ct
 | .vec b k R len ro, .blk b' ct ro' => b' == θ.bN b && ro == ro' && gB fa k (dx θ R) (dH θ len) ct && leL fa ⟨0, 1⟩ (dH θ len) 0
 | .vec b k R len ro, .vec b' k' R' len' ro' => b' == θ.bN b && ro == ro' && gB fa k (dx θ R) (dH θ len) (.rows k' R' len')
 | .map b ag ks T none, .map b' ag' ks' T' _ => b' == θ.bN b && ag == ag' && decide (ks = ks') && sty fa T' (mM θ T)
 | .map b _ _ _ none, .emap b' => b' == θ.bN b
 | .emap b, .emap b' => b' == θ.bN b
 | .loop b t s J, .loop b' t' s' J' => b' == θ.bN b && t == t' && s' == θ.nu s && decide (J = J')
 | _, _ => false
theorem qA3 {w : V} {fa : List Fact} {h : H} (z : w.i 0 = 0) (hf : ∀ f, f ∈ fa → FOK w f) {θ : Sub} {p q : BE} (hc : qA4 fa θ p q = true) (hq : BOK w h q) : BOK (w.comp θ) h p ∧ adr (w.comp θ) p = adr w q := by
 unfold qA4 at hc
 split at hc <;> (try (cases hc; done))
 ·rename_i b l ro b' l' ro'
  simp only [aT, beq_iff_eq] at hc
  obtain ⟨⟨rfl, rfl⟩, h1⟩ := hc
  obtain ⟨cs, h2, h3⟩ := hq
  refine ⟨⟨cs, h2, ?_⟩, rfl⟩
  simp only [cE] at h3 ⊢
  rw [h3, fO z hf _ _ h1, cR]
 ·rename_i b k R n ro b' ct ro'
  simp only [aT, beq_iff_eq] at hc
  obtain ⟨⟨rfl, rfl⟩, h1⟩ := hc
  obtain ⟨cs, h2, h3⟩ := hq
  have := il z hf h1 h3
  exact ⟨⟨cs, h2, (gd w θ cs (.rows k R n)).1 this⟩, rfl⟩
 ·rename_i b k R len ro b' ct ro'
  simp only [aT, beq_iff_eq] at hc
  obtain ⟨⟨⟨rfl, rfl⟩, h1⟩, h2⟩ := hc
  obtain ⟨cs, h3, h4⟩ := hq
  have := il z hf h1 h4
  have e := aK hf h2
  rw [bA] at e
  have ne : len.ev (w.comp θ) ≠ 0 := by simp only [Lin.ev, z] at e ⊢; omega
  exact ⟨.inr ⟨cs, h3, (gd w θ cs (.rows k R len)).1 this⟩, by simp only [adr, if_neg ne]; rfl⟩
 ·rename_i b k R len ro b' k' R' len' ro'
  simp only [aT, beq_iff_eq] at hc
  obtain ⟨⟨rfl, rfl⟩, h1⟩ := hc
  have h1' := h1
  simp only [gB, aT] at h1'
  have e := ay hf h1'.2
  rw [bA] at e
  refine ⟨?_, by simp only [adr, e]; rfl⟩
  rcases hq with hq | ⟨cs, h3, h4⟩
  ·exact .inl (by rw [← e]; exact hq)
  ·exact .inr ⟨cs, h3, (gd w θ cs (.rows k R len)).1 (il z hf h1 h4)⟩
 ·rename_i b ag ks T b' ag' ks' T' m
  simp only [aT, beq_iff_eq, dT] at hc
  obtain ⟨⟨⟨rfl, rfl⟩, rfl⟩, h1⟩ := hc
  obtain ⟨es, cl, h2, h3, _⟩ := hq
  exact ⟨⟨es, cl, h2, fun e he => ⟨(h3 e he).1, (iM w θ T _).1 (fU hf _ _ h1 _ (h3 e he).2)⟩, trivial⟩, rfl⟩
 ·rename_i b ag ks T b'
  simp only [beq_iff_eq] at hc; subst hc
  obtain ⟨cl, h2⟩ := hq
  exact ⟨⟨[], cl, h2, (fun e he => by cases he), trivial⟩, rfl⟩
 ·rename_i b b'
  simp only [beq_iff_eq] at hc; subst hc
  exact ⟨hq, rfl⟩
 ·rename_i b t s J b' t' s' J'
  simp only [aT, beq_iff_eq, dT] at hc
  obtain ⟨⟨⟨rfl, rfl⟩, rfl⟩, rfl⟩ := hc
  exact ⟨hq, rfl⟩
def qEO (fa : List Fact) (θ : Sub) : BE → Bool
 | .vec _ _ _ len _ => cF fa (dH θ len) ⟨0, 0⟩
 | _ => false
def oG (fa : List Fact) (θ : Sub) : List BE → List BE → Option (List BE)
 | [], rest => some rest
 | p :: ps, rest => if qEO fa θ p then oG fa θ ps rest else match av (θ.bN (cJ p)) rest with
  | some q => if qA4 fa θ p q then oG fa θ ps (cY (θ.bN (cJ p)) [] rest) else none
  | none => none
theorem ww {w : V} {fa : List Fact} {h : H} (z : w.i 0 = 0) (hf : ∀ f, f ∈ fa → FOK w f) {θ : Sub} : ∀ {ps rest rest' : List BE}, oG fa θ ps rest = some rest' → (∀ q, q ∈ rest → BOK w h q) → (rest.flatMap (adr w)).Nodup →
  (∀ p, p ∈ ps → BOK (w.comp θ) h p) ∧ (ps.flatMap (adr (w.comp θ)) ++ rest'.flatMap (adr w)).Nodup ∧ (∀ q, q ∈ rest' → q ∈ rest) ∧ ∀ a, a ∈ ps.flatMap (adr (w.comp θ)) → a ∈ rest.flatMap (adr w) := by
 intro ps
 induction ps with
 | nil =>
  intro rest rest' h hB hn
  simp only [oG, sI] at h; subst h
  exact ⟨(fun p hp => by cases hp), by simpa using hn, fun q hq => hq, (fun a ha => by simp at ha)⟩
 | cons p ps ih =>
  intro rest rest' h hB hn
  simp only [oG] at h
  split at h
  ·rename_i hno
   obtain ⟨h1, h2, h3, h4⟩ := ih h hB hn
   cases p <;> simp only [qEO] at hno <;> (try (cases hno; done))
   rename_i b k R len ro
   have e := ay hf hno
   rw [bA] at e
   have e0 : len.ev (w.comp θ) = 0 := by rw [e]; simp only [Lin.ev, z]; omega
   have ea : adr (w.comp θ) (.vec b k R len ro) = [] := by simp only [adr, if_pos e0]
   refine ⟨fun q hq => ?_, by simpa [ea] using h2, h3, fun a ha => h4 a (by simpa [ea] using ha)⟩
   rcases List.mem_cons.1 hq with rfl | hq
   ·exact .inl e0
   ·exact h1 q hq
  ·split at h
   ·rename_i q hq
    split at h
    ·rename_i hc
     obtain ⟨_, l1, l2, hl, hm⟩ := cT hq
     rw [hm] at h
     have hqm : q ∈ rest := (lookB_mem hq).1
     obtain ⟨hbp, hap⟩ := qA3 z hf hc (hB q hqm)
     rw [hl] at hn
     simp only [List.flatMap_append, List.flatMap_cons, List.flatMap_nil, List.append_nil] at hn
     obtain ⟨hn12, hnl2, hd2⟩ := bL.1 hn
     obtain ⟨hnl1, hnq, hd1⟩ := bL.1 hn12
     have hn' : ((l1 ++ [] ++ l2).flatMap (adr w)).Nodup := by
      simp only [List.append_nil, List.flatMap_append]
      exact bL.2 ⟨hnl1, hnl2, fun x hx => hd2 x (by simp [hx])⟩
     obtain ⟨h1, h2, h3, h4⟩ := ih h (fun x hx => hB x (by rw [hl]; simp only [List.append_nil, List.mem_append] at hx ⊢; exact hx.elim (fun h => .inl (.inl h)) .inr)) hn'
     have hdis : ∀ a, a ∈ adr w q → a ∉ (l1 ++ [] ++ l2).flatMap (adr w) := fun a ha hx => by
      simp only [List.append_nil, List.flatMap_append, List.mem_append] at hx
      rcases hx with hx | hx
      ·exact hd1 a hx ha
      ·exact hd2 a (by simp [ha]) hx
     refine ⟨fun x hx => ?_, ?_, fun x hx => ?_, fun a ha => ?_⟩
     ·rcases List.mem_cons.1 hx with rfl | hx
      ·exact hbp
      ·exact h1 x hx
     ·simp only [List.flatMap_cons, List.append_assoc]
      rw [hap]
      refine bL.2 ⟨hnq, h2, fun a ha hx => ?_⟩
      rcases List.mem_append.1 hx with hx | hx
      ·exact hdis a ha (h4 a hx)
      ·obtain ⟨y, hy, hay⟩ := List.mem_flatMap.1 hx
       exact hdis a ha (List.mem_flatMap.2 ⟨y, h3 y hy, hay⟩)
     ·have := h3 x hx
      rw [hl]; simp only [List.append_nil, List.mem_append] at this ⊢
      exact this.elim (fun h => .inl (.inl h)) .inr
     ·rw [hl]
      simp only [List.flatMap_cons, List.mem_append] at ha
      simp only [List.flatMap_append, List.flatMap_cons, List.flatMap_nil, List.append_nil, List.mem_append]
      rcases ha with ha | ha
      ·rw [hap] at ha; exact .inl (.inr ha)
      ·have := h4 a ha
       simp only [List.append_nil, List.flatMap_append, List.mem_append] at this
       exact this.elim (fun h => .inl (.inl h)) .inr
    ·cases h
   ·cases h
def mo (st : St) (θ : Sub) (as : List AV) (pre : St) : Option (List BE) :=
 if lW st.fa as (jK θ pre.env) && uy st.fa θ pre.fa then oG st.fa θ pre.bl st.bl else none
structure Mtch (w : V) (st : St) (θ : Sub) (as : List AV) (pre : St) (rest : List BE) (h : H) : Prop where
 env : aH (w.comp θ) pre.env = aH w as
 fa : ∀ f, f ∈ pre.fa → FOK (w.comp θ) f
 bl : ∀ p, p ∈ pre.bl → BOK (w.comp θ) h p
 nd : (pre.bl.flatMap (adr (w.comp θ)) ++ rest.flatMap (adr w)).Nodup
 rest : ∀ q, q ∈ rest → q ∈ st.bl
 sub : ∀ a, a ∈ pre.bl.flatMap (adr (w.comp θ)) → a ∈ st.bl.flatMap (adr w)
theorem lr {X : Cx} {w : V} {st : St} {env : List CV} {h : H} (sw : Sat0 X w st env h) {θ : Sub} {as : List AV} {pre : St} {rest : List BE} (hm : mo st θ as pre = some rest) : Mtch w st θ as pre rest h := by
 unfold mo at hm
 split at hm
 ·rename_i hc
  simp only [aT] at hc
  obtain ⟨h1, h2, h3, h4⟩ := ww sw.z sw.fa hm sw.bl sw.nd
  exact ⟨by rw [← cR, fO sw.z sw.fa _ _ hc.1], qA2 sw.z sw.fa hc.2, h1, h2, h3, h4⟩
 ·cases hm
def qDP (n : Nat) : List Fact → Bool
 | [] => true
 | f :: r => clF n f && qDP n r
def wS (n : Nat) : List BE → Bool
 | [] => true
 | f :: r => clB n f && wS n r
def iZ (P : St) : Bool := clL P.n P.env && qDP P.n P.fa && wS P.n P.bl
theorem qDO {n : Nat} {l : List Fact} (h : qDP n l = true) : ∀ f, f ∈ l → clF n f = true := by
 induction l with
 | nil => intro f hf; cases hf
 | cons x r ih =>
  simp only [qDP, aT] at h
  intro f hf
  rcases List.mem_cons.1 hf with rfl | hf
  ·exact h.1
  ·exact ih h.2 f hf
theorem uv {n : Nat} {l : List BE} (h : wS n l = true) : ∀ f, f ∈ l → clB n f = true := by
 induction l with
 | nil => intro f hf; cases hf
 | cons x r ih =>
  simp only [wS, aT] at h
  intro f hf
  rcases List.mem_cons.1 hf with rfl | hf
  ·exact h.1
  ·exact ih h.2 f hf
theorem Sat.ofClosed {X : Cx} {v : V} {P : St} {env : List CV} {h : H} {fs : List Fact} (hc : iZ P = true) (hp : 0 < P.n) (s : Sat0 X v P env h) (hfs : ∀ w, Agr P.n v w → ∀ f, f ∈ fs → FOK w f) : Sat X v { P with fa := P.fa ++ fs } env h := by
 simp only [iZ, aT] at hc
 refine ⟨hp, fun w hw => ?_⟩
 have ea : ∀ p, p ∈ P.bl → adr v p = adr w p := fun p hpm => uw hw (uv hc.2 p hpm)
 have eb : P.bl.flatMap (adr w) = P.bl.flatMap (adr v) := by
  have : ∀ l : List BE, (∀ p, p ∈ l → adr v p = adr w p) → l.flatMap (adr w) = l.flatMap (adr v) := by
   intro l
   induction l with
   | nil => intro _; rfl
   | cons p l ih => intro hl; simp only [List.flatMap_cons, hl p mS, ih (fun p hp => hl p (mC _ hp))]
  exact this _ ea
 refine ⟨by rw [← (hw 0 hp).1]; exact s.z, by rw [← dr hw _ hc.1.1]; exact s.env, fun f hf => ?_, fun p hpm => (clB_ok hw (uv hc.2 p hpm) h).1 (s.bl p hpm), by rw [eb]; exact s.nd, fun p hpm a ha => s.lt p hpm a (by rw [ea p hpm]; exact ha), s.hn, s.fr⟩
 rcases List.mem_append.1 hf with hf | hf
 ·exact clF_ok hw (qDO hc.1.2 f hf) (s.fa f hf)
 ·exact hfs w hw f hf
end
end Ce.S
namespace Ce.S
noncomputable section
open Go
structure Con where
 yl : Bool
 tg : Nat
 n0 : Nat
 pre : St
 posts : List (AV × St)
 ma : Lin
 mb : Lin
 lim : Option (Lin × Lin)
inductive Tg where
 | fn (f : Nat)
 | yl (b : Nat)
inductive Hint where
 | unroll
 | peel
 | inv (P : St) (ma mb : Lin)
 | invs (Fs : List (St × Lin × Lin))
 | rcs (f : Nat) (P : St) (posts : List (AV × St)) (ma mb : Lin)
 | rng (J : List Jump) (P : St) (posts : List (AV × St))
abbrev Hs := List Hint
def fQ (lo : Nat) (p : Lin) (a : Lin) (θ : Sub) : Sub := if lo ≤ p.s ∧ (fD θ.i p.s).isNone then { θ with i := (p.s, ⟨a.s, a.c - p.c⟩) :: θ.i } else θ
def ot (lo : Nat) (p : Nat) (a : Nat) (θ : Sub) : Sub := if lo ≤ p ∧ (fD θ.b p).isNone then { θ with b := (p, a) :: θ.b } else θ
def bindC (lo : Nat) (p : Nat) (a : AV) (θ : Sub) : Sub := if lo ≤ p ∧ (fD θ.c p).isNone then { θ with c := (p, a) :: θ.c } else θ
mutual
def bindA (lo : Nat) : AV → AV → Sub → Sub
 | .int _ s c, .int _ s' c', θ => fQ lo ⟨s, c⟩ ⟨s', c'⟩ θ
 | .sym s, a, θ => bindC lo s a θ
 | .ptr b _, .ptr b' _, θ => ot lo b b' θ
 | .iptr b _ _ i, .iptr b' _ _ i', θ => fQ lo i i' (ot lo b b' θ)
 | .rptr l, .rptr l', θ => js lo l l' θ
 | .slc _ b _ i n c, .slc _ b' _ i' n' c', θ => fQ lo c c' (fQ lo n n' (fQ lo i i' (ot lo b b' θ)))
 | .vec _ b n, .vec _ b' n', θ => fQ lo n n' (ot lo b b' θ)
 | .vec _ _ n, .nils, θ => fQ lo n ⟨0, 0⟩ θ
 | .map b, .map b', θ => ot lo b b' θ
 | .clo _ a b, .clo _ a' b', θ => js lo b b' (js lo a a' θ)
 | .yld b, .yld b', θ => ot lo b b' θ
 | .agg l, .agg l', θ => js lo l l' θ
 | .tup l, .tup l', θ => js lo l l' θ
 | _, _, θ => θ
def js (lo : Nat) : List AV → List AV → Sub → Sub
 | a :: l, b :: m, θ => js lo l m (bindA lo a b θ)
 | _, _, θ => θ
end
def tP (lo : Nat) (bl : List BE) : List BE → Sub → Sub
 | [], θ => θ
 | p :: ps, θ =>
  let θ := match p, av (θ.bN (cJ p)) bl with
   | .blk _ (.cells l) _, some (.blk _ (.cells l') _) => js lo l l' θ
   | .blk _ (.rows _ _ n) _, some (.blk _ (.rows _ _ n') _) => fQ lo n n' θ
   | .blk _ (.rows _ _ n) _, some (.vec _ _ _ n' _) => fQ lo n n' θ
   | .vec _ _ _ n _, some (.blk _ (.rows _ _ n') _) => fQ lo n n' θ
   | .vec _ _ _ n _, some (.vec _ _ _ n' _) => fQ lo n n' θ
   | _, _ => θ
  tP lo bl ps θ
def qH (lo : Nat) (fa : List Fact) : List Fact → Sub → Sub
 | [], θ => θ
 | .len s t :: r, θ =>
  let θ := match θ.cA s with
   | .sym s' => match gY s' fa with
    | some t' => fQ lo ⟨t, 0⟩ ⟨t', 0⟩ θ
    | none => θ
   | .nils => fQ lo ⟨t, 0⟩ ⟨0, 0⟩ θ
   | .lrows rows _ => fQ lo ⟨t, 0⟩ ⟨0, rows.length⟩ θ
   | _ => θ
  qH lo fa r θ
 | .row s i cs :: r, θ =>
  let θ := match θ.cA s with
   | .sym s' => bindRow lo fa s' (dH θ i) cs θ fa
   | _ => θ
  qH lo fa r θ
 | _ :: r, θ => qH lo fa r θ
where
 bindRow (lo : Nat) (fa : List Fact) (s : Nat) (i : Lin) (cs : List AV) (θ : Sub) : List Fact → Sub
 | [] => θ
 | .row s' i' ds :: r => if s' == s && cF fa i' i then js lo cs ds θ else bindRow lo fa s i cs θ r
 | _ :: r => bindRow lo fa s i cs θ r
def eF (lo base sh : Nat) (st : St) (as : List AV) (P : St) : Sub :=
 let θ := js lo P.env as ⟨[], [], [], lo, base, sh⟩
 let θ := tP lo st.bl P.bl θ
 let θ := tP lo st.bl P.bl θ
 qH lo st.fa P.fa θ
def i3 (lo hi n : Nat) (θ : Sub) : Bool :=
 θ.lo == lo && θ.base == hi && θ.i.all (fun x => decide (lo ≤ x.1) && decide (x.1 < hi) && decide (x.2.s < n)) && θ.c.all (fun x => decide (lo ≤ x.1) && decide (x.1 < hi) && clA n x.2) && θ.b.all (fun x => decide (lo ≤ x.1) && decide (x.1 < hi) && decide (x.2 < n))
def kX (fa : List Fact) (ma mb : Lin) : Option (Lin × Lin) → Bool
 | none => true
 | some (a, b) => leL fa b a (-1) && ((leL fa ma a (-1) && leL fa b mb 0) || (leL fa ma a 0 && leL fa b mb (-1)))
def yo (old : List Fact) : Fact → List Fact
 | .len s t => match gY s old with
  | some t0 => [.dc t t0 0, .dc t0 t 0]
  | none => []
 | _ => []
def pm (old : List Fact) : List Fact → List Fact
 | [] => []
 | f :: r => yo old f ++ pm old r
def yJ (θ : Sub) (st : St) (base : Nat) (rest : List BE) (o : AV × St) : AV × St :=
 (iY θ o.1, ⟨st.n + (o.2.n - base), st.env, pm st.fa (o.2.fa.filterMap (mN θ)) ++ (o.2.fa.filterMap (mN θ) ++ st.fa), o.2.bl.map (mO θ) ++ rest⟩)
def iG (c : Con) (as : List AV) (st : St) : Option (List (AV × St)) :=
 let θ := eF c.n0 c.pre.n st.n st as c.pre
 if i3 c.n0 c.pre.n st.n θ && θ.sh == st.n && decide (c.n0 ≤ c.pre.n) then match mo st θ as c.pre with
  | some rest => if kX st.fa (dH θ c.ma) (dH θ c.mb) c.lim then some (c.posts.map (yJ θ st c.pre.n rest)) else none
  | none => none
 else none
def fits (lo : Nat) (st : St) (r : AV) (o : AV × St) : Bool :=
 let P : St := { o.2 with env := [o.1] }
 let θ := eF lo o.2.n 0 st [r] P
 i3 lo o.2.n st.n θ && iZ P && decide (lo ≤ o.2.n) && (mo st θ [r] P).isSome
def eJ (lo : Nat) (st : St) (r : AV) : List (AV × St) → Bool
 | [] => false
 | o :: os => fits lo st r o || eJ lo st r os
def j9 {α β : Type} (f : α → Hs → Option (List β × Hs)) : List α → Hs → Option (List β × Hs)
 | [], hs => some ([], hs)
 | a :: as, hs => match f a hs with
  | some (bs, hs) => match j9 f as hs with
   | some (cs, hs) => some (bs ++ cs, hs)
   | none => none
  | none => none
theorem cS {α β : Type} {f : α → Hs → Option (List β × Hs)} : ∀ {as : List α} {hs hs' : Hs} {bs : List β}, j9 f as hs = some (bs, hs') → ∀ a, a ∈ as → ∃ h1 h2 cs, f a h1 = some (cs, h2) ∧ ∀ b, b ∈ cs → b ∈ bs
 | [], hs, hs', bs, h, a, ha => by cases ha
 | x :: as, hs, hs', bs, h, a, ha => by
  simp only [j9] at h
  split at h
  ·rename_i cs h1 hx
   split at h
   ·rename_i ds h2 hr
    simp only [sI, pI] at h
    obtain ⟨rfl, rfl⟩ := h
    rcases List.mem_cons.1 ha with rfl | ha
    ·exact ⟨_, _, _, hx, fun b hb => List.mem_append_left _ hb⟩
    ·obtain ⟨g1, g2, es, he, hm⟩ := cS hr a ha
     exact ⟨g1, g2, es, he, fun b hb => List.mem_append_right _ (hm b hb)⟩
   ·cases h
  ·cases h
def sQ (fa : List Fact) (a b t : Nat) (c : Int) : List Fact :=
 (match loC fa ⟨a, 0⟩ with | some l => [.dc b t (c - l)] | none => []) ++ ((match hiC fa ⟨a, 0⟩ with | some u => [.dc t b (u - c)] | none => []) ++
 ((match loC fa ⟨b, 0⟩ with | some l => [.dc a t (c - l)] | none => []) ++ (match hiC fa ⟨b, 0⟩ with | some u => [.dc t a (u - c)] | none => [])))
def kH (fa : List Fact) (x y : Nat) : List Fact → List Fact
 | [] => []
 | .sum a b t c :: r => (if a = x ∨ a = y ∨ b = x ∨ b = y ∨ t = x ∨ t = y then sQ fa a b t c else []) ++ kH fa x y r
 | _ :: r => kH fa x y r
def gtA (fa : List Fact) : List AV → List AV → Bool
 | .int _ s c :: l, .int _ s' c' :: m => leL fa ⟨s', c'⟩ ⟨s, c⟩ (-1) || gtA fa l m
 | _ :: l, _ :: m => gtA fa l m
 | _, _ => false
def m3 (fa : List Fact) (s : Nat) (i : Lin) (cs : List AV) : List Fact → List Fact
 | [] => []
 | .row s' j ds :: r => (if s' = s ∧ j.s = 0 ∧ i.s ≠ 0 ∧ gtA fa cs ds = true ∧ leL fa j i 0 = true then [.dc 0 i.s (i.c - j.c - 1)] else []) ++ m3 fa s i cs r
 | _ :: r => m3 fa s i cs r
def mZ (fa : List Fact) : List Fact → List Fact
 | [] => []
 | .row s i cs :: r => (if i.s = 0 then [] else m3 fa s i cs fa) ++ mZ fa r
 | _ :: r => mZ fa r
def q9 (x y : Nat) (st : St) : St :=
 let s1 := st.more (kH st.fa x y st.fa)
 s1.more (mZ s1.fa s1.fa)
def tH (st : St) (c : AV) : Option (List St × List St) := match uo st c with
 | some (T, F) => match c with
  | .cmp x y _ => some (T.map (q9 x y), F.map (q9 x y))
  | .eqc _ x y _ => some (T.map (q9 x y), F.map (q9 x y))
  | _ => some (T, F)
 | none => none
def qBL (t : Nat) (b : Bool) (st : St) : St := { st with env := mW st.env t (.bool b) }
def um (st : St) (t : Nat) : Option (List St × List St) :=
 match gZ st.env t with
 | .bool true => some ([st], [])
 | .bool false => some ([], [st])
 | c => match tH st c with
  | some (T, F) => some (T.map (qBL t true), F.map (qBL t false))
  | none => none
def Tr.upd {α : Type} (f : Option α → α) : Nat → Tr α → Nat → Tr α
 | 0, t, _ => t
 | n + 1, t, i => match t with
  | .nil => if i = 0 then .node .nil (some (f none)) .nil else if i % 2 = 1 then .node (Tr.upd f n .nil (i / 2)) none .nil else .node .nil none (Tr.upd f n .nil (i / 2 - 1))
  | .node l v r => if i = 0 then .node l (some (f v)) r else if i % 2 = 1 then .node (Tr.upd f n l (i / 2)) v r else .node l v (Tr.upd f n r (i / 2 - 1))
theorem Tr.upd_get {α : Type} (f : Option α → α) : ∀ (n : Nat) (t : Tr α) (i j : Nat), (Tr.upd f n t i).get j = t.get j ∨ (j = i ∧ (Tr.upd f n t i).get j = some (f (t.get j)))
 | 0, t, i, j => .inl rfl
 | n + 1, .nil, i, j => by
  simp only [Tr.upd]
  by_cases hi : i = 0
  ·rw [if_pos hi]
   simp only [Tr.get]
   by_cases hj : j = 0
   ·right; subst hi; exact ⟨hj, by rw [if_pos hj]⟩
   ·left; rw [if_neg hj]; split <;> rfl
  ·rw [if_neg hi]
   by_cases ho : i % 2 = 1
   ·rw [if_pos ho]
    simp only [Tr.get]
    by_cases hj : j = 0
    ·left; rw [if_pos hj]
    ·rw [if_neg hj]
     by_cases hjo : j % 2 = 1
     ·rw [if_pos hjo]
      rcases Tr.upd_get f n .nil (i / 2) (j / 2) with h | ⟨h1, h2⟩
      ·left; rw [h]; rfl
      ·right; refine ⟨by omega, by rw [h2]; rfl⟩
     ·left; rw [if_neg hjo]
   ·rw [if_neg ho]
    simp only [Tr.get]
    by_cases hj : j = 0
    ·left; rw [if_pos hj]
    ·rw [if_neg hj]
     by_cases hjo : j % 2 = 1
     ·left; rw [if_pos hjo]
     ·rw [if_neg hjo]
      rcases Tr.upd_get f n .nil (i / 2 - 1) (j / 2 - 1) with h | ⟨h1, h2⟩
      ·left; rw [h]; rfl
      ·right; refine ⟨by omega, by rw [h2]; rfl⟩
 | n + 1, .node l v r, i, j => by
  simp only [Tr.upd]
  by_cases hi : i = 0
  ·rw [if_pos hi]
   simp only [Tr.get]
   by_cases hj : j = 0
   ·right; subst hi; exact ⟨hj, by rw [if_pos hj, if_pos hj]⟩
   ·left; rw [if_neg hj, if_neg hj]
  ·rw [if_neg hi]
   by_cases ho : i % 2 = 1
   ·rw [if_pos ho]
    simp only [Tr.get]
    by_cases hj : j = 0
    ·left; rw [if_pos hj, if_pos hj]
    ·rw [if_neg hj, if_neg hj]
     by_cases hjo : j % 2 = 1
     ·rw [if_pos hjo, if_pos hjo]
      rcases Tr.upd_get f n l (i / 2) (j / 2) with h | ⟨h1, h2⟩
      ·exact .inl h
      ·exact .inr ⟨by omega, h2⟩
     ·left; rw [if_neg hjo, if_neg hjo]
   ·rw [if_neg ho]
    simp only [Tr.get]
    by_cases hj : j = 0
    ·left; rw [if_pos hj, if_pos hj]
    ·rw [if_neg hj, if_neg hj]
     by_cases hjo : j % 2 = 1
     ·left; rw [if_pos hjo, if_pos hjo]
     ·rw [if_neg hjo, if_neg hjo]
      rcases Tr.upd_get f n r (i / 2 - 1) (j / 2 - 1) with h | ⟨h1, h2⟩
      ·exact .inl h
      ·exact .inr ⟨by omega, h2⟩
def qE2 (t : Tr (List (Nat × Int))) (x y : Nat) (c : Int) : Tr (List (Nat × Int)) := Tr.upd (fun o => match o with
 | some l => (y, c) :: l
 | none => [(y, c)]) 16 t x
theorem rt {t : Tr (List (Nat × Int))} {x y a b : Nat} {c d : Int} (h : (b, d) ∈ edg (qE2 t x y c) a) : (b, d) ∈ edg t a ∨ (a = x ∧ b = y ∧ d = c) := by
 simp only [qE2, edg] at h ⊢
 rcases Tr.upd_get (fun o => match o with
  | some l => (y, c) :: l
  | none => [(y, c)]) 16 t x a with h1 | ⟨h1, h2⟩
 ·rw [h1] at h; exact .inl h
 ·rw [h2] at h
  cases hg : t.get a with
  | none => rw [hg] at h; simp at h; exact .inr ⟨h1, h⟩
  | some l =>
   rw [hg] at h
   simp only [List.mem_cons, pI] at h
   rcases h with h | h
   ·exact .inr ⟨h1, h⟩
   ·exact .inl h
def ru : List Fact → List Fact × Tr (List (Nat × Int)) × Tr (List (Nat × Int))
 | [] => ([], .nil, .nil)
 | .ixd fw bw :: r => (r, fw, bw)
 | .dc x y c :: r => match ru r with
  | (l, fw, bw) => (l, qE2 fw x y c, qE2 bw y x c)
 | f :: r => match ru r with
  | (l, fw, bw) => (f :: l, fw, bw)
def absF : List Fact → List Fact
 | .ixd fw bw :: r => .ixd fw bw :: r
 | fa => match ru fa with
  | (l, fw, bw) => .ixd fw bw :: l
theorem qAR {w : V} : ∀ {fa : List Fact}, (∀ f, f ∈ fa → FOK w f) → (∀ f, f ∈ (ru fa).1 → FOK w f) ∧ FOK w (.ixd (ru fa).2.1 (ru fa).2.2)
 | [], _ => ⟨(fun f hf => by cases hf), (fun x y c h => by cases h), (fun x y c h => by cases h)⟩
 | f :: r, hf => by
  have h0 := hf f mS
  have hr := fun g hg => hf g (mC _ hg)
  obtain ⟨h1, h2⟩ := qAR (fa := r) hr
  cases f with
  | ixd fw bw => exact ⟨hr, h0⟩
  | dc x y c =>
   simp only [ru]
   refine ⟨h1, fun a b d h => ?_, fun a b d h => ?_⟩
   ·rcases rt h with h | ⟨rfl, rfl, rfl⟩
    ·exact h2.1 a b d h
    ·exact h0
   ·rcases rt h with h | ⟨rfl, rfl, rfl⟩
    ·exact h2.2 a b d h
    ·exact h0
  | _ =>
   simp only [ru]
   refine ⟨fun g hg => ?_, h2⟩
   rcases List.mem_cons.1 hg with rfl | hg
   ·exact h0
   ·exact h1 g hg
theorem qE3 {w : V} {fa : List Fact} (hf : ∀ f, f ∈ fa → FOK w f) : ∀ f, f ∈ absF fa → FOK w f := by
 intro f hm
 unfold absF at hm
 split at hm
 ·exact hf f hm
 ·obtain ⟨h1, h2⟩ := qAR hf
  rcases List.mem_cons.1 hm with rfl | hm
  ·exact h2
  ·exact h1 f hm
abbrev i9 := Tg → List AV → St → Hs → Option (List (AV × St) × Hs)
def qF2 (d : Nat) : List IOp → Bool
 | [] => false
 | o :: os => (match o.op with | .ckl _ (.t t) _ => t == d | _ => false) || qF2 d os
def qEY (o : IOp) (os : List IOp) : Bool := match o.op, o.dst with
 | .iaA .., some d => qF2 d os
 | _, _ => false
def xP (call : i9) (fk : Bool) (o : Ins) (st : St) (hs : Hs) : Option (List (AV × St) × Hs) :=
 match o with
 | .callF f as => match mf st.env as with
  | some as => call (.fn f) as st hs
  | none => none
 | .callV f as => match opA st.env f, mf st.env as with
  | some (.clo f a b), some as => call (.fn f) (a ++ as ++ b) st hs
  | some (.yld b), some as => call (.yl b) as st hs
  | _, _ => none
 | o => (sOw o st).map fun outs => (if fk then outs.flatMap (gJ 7 1) else outs, hs)
def mV (d : Option Nat) (x : AV × St) : St := { x.2 with env := putA x.2.env d x.1, fa := absF x.2.fa }
def qEW : AV → Bool
 | .tup [] => true
 | _ => false
def pR (call : i9) : List IOp → St → Hs → Option (List St × Hs)
 | [], st, hs => some ([st], hs)
 | o :: os, st, hs =>
  match o.guard with
  | none => match xP call (qEY o os) o.op st hs with
   | some (outs, hs) => j9 (fun x hs => pR call os (mV o.dst x) hs) outs hs
   | none => none
  | some (t, b) => if qEW (gZ st.env t) then pR call os (mV o.dst (cC, st)) hs else match um st t with
   | some (T, F) => match j9 (fun st hs => match xP call (qEY o os) o.op st hs with
     | some (outs, hs) => j9 (fun x hs => pR call os (mV o.dst x) hs) outs hs
     | none => none) (if b then T else F) hs with
    | some (r1, hs) => match j9 (fun st hs => pR call os (mV o.dst (cC, st)) hs) (if b then F else T) hs with
     | some (r2, hs) => some (r1 ++ r2, hs)
     | none => none
    | none => none
   | none => none
def upg1 (fa : List Fact) (s : Nat) (i : Lin) (R : List Ty) : List Fact :=
 match gY s fa with
 | some t => if leL fa ⟨t, 0⟩ i 0 && !(db fa s (fun T => match T with | .lst R' _ _ => gX fa R' R | _ => false) fa) then [.ty s (.lst R ⟨t, 0⟩ ⟨t, 0⟩)] else []
 | none => []
def upgP (fa : List Fact) : Fact → List Fact
 | .pre s i R => upg1 fa s i R
 | _ => []
def qBE (fa : List Fact) : List Fact → List Fact
 | [] => []
 | f :: r => upgP fa f ++ qBE fa r
def upg (st : St) : St := { st with fa := qBE st.fa st.fa ++ st.fa }
abbrev cL := List (Ex × St)
def l7 (body : St → Hs → Option (cL × Hs)) : Nat → St → Hs → Option (cL × Hs)
 | 0, _, _ => none
 | n + 1, st, hs => match body st hs with
  | some (outs, hs) => j9 (fun x hs => match x with
   | (.nor, st) => l7 body n st hs
   | (.jmp j, st) => some ([(.jmp j, st)], hs)) outs hs
  | none => none
def tQ (lo : Nat) (P : St) (ma mb : Lin) (st : St) : Bool :=
 let θ := eF lo P.n 0 st st.env P
 i3 lo P.n st.n θ && (mo st θ st.env P).isSome && kX st.fa (dH θ ma) (dH θ mb) (some (ma, mb))
def ju (lo : Nat) (ma mb : Lin) (st : St) : List (St × Lin × Lin) → Bool
 | [] => false
 | (P, na, nb) :: r =>
  let θ := eF lo P.n 0 st st.env P
  (i3 lo P.n st.n θ && (mo st θ st.env P).isSome && kX st.fa (dH θ na) (dH θ nb) (some (ma, mb))) || ju lo ma mb st r
def gP (lo : Nat) (Fs : List (St × Lin × Lin)) (ma mb : Lin) : cL → Option cL
 | [] => some []
 | (.nor, st) :: r => if ju lo ma mb st Fs then gP lo Fs ma mb r else none
 | (.jmp j, st) :: r => match gP lo Fs ma mb r with
  | some l => some ((.jmp j, upg st) :: l)
  | none => none
def mA (lo : Nat) : List (St × Lin × Lin) → Bool
 | [] => true
 | (P, ma, mb) :: r => iZ P && decide (lo ≤ P.n) && decide (ma.s < P.n) && decide (mb.s < P.n) && mA lo r
def pz (lo : Nat) (st : St) : List (St × Lin × Lin) → Bool
 | [] => false
 | (P, _, _) :: r =>
  let θ := eF lo P.n 0 st st.env P
  (i3 lo P.n st.n θ && (mo st θ st.env P).isSome) || pz lo st r
def jt (lo : Nat) (P : St) (ma mb : Lin) : cL → Option cL
 | [] => some []
 | (.nor, st) :: r => if tQ lo P ma mb st then jt lo P ma mb r else none
 | (.jmp j, st) :: r => match jt lo P ma mb r with
  | some l => some ((.jmp j, upg st) :: l)
  | none => none
def ij : List AV → List Nat → List AV → Option (List AV)
 | env, [], [] => some env
 | env, p :: ps, v :: vs => ij (mW env p v) ps vs
 | _, _, _ => none
def fN (b t : Nat) (bl : List BE) : Option (Nat × List Jump) := match av b bl with
 | some (.loop _ t' s J) => if t' = t then some (s, J) else none
 | _ => none
def sT (b t s : Nat) (J : List Jump) (st : St) : St := { st with bl := cY b [.loop b t s J] st.bl }
def oh (b : Nat) (st : St) : St := { st with bl := cY b [] st.bl }
def iN (lb ls : Nat) (J : List Jump) (lo : Nat) (posts : List (AV × St)) : cL → Bool
 | [] => true
 | (.nor, st) :: r => (fN lb 2 st.bl == some (ls, J)) && eJ lo (sT lb 0 ls J st) (.bool true) posts && iN lb ls J lo posts r
 | (.jmp j, st) :: r => (fN lb 2 st.bl == some (ls, J)) && J.contains j && eJ lo (sT lb 1 ls J st) (.bool false) posts && iN lb ls J lo posts r
def lh (lb ls : Nat) (J : List Jump) (env : List AV) : List (AV × St) → Option cL
 | [] => some []
 | (_, st) :: r => match lh lb ls J env r with
  | none => none
  | some l => if fN lb 0 st.bl == some (ls, J) then some ((.nor, { oh lb st with env := env }) :: l)
   else if fN lb 1 st.bl == some (ls, J) then some (J.map (fun j => (Ex.jmp j, { oh lb st with env := env })) ++ l) else none
def vK (n : Nat) (P : St) (posts : List (AV × St)) : Con := ⟨true, n, n + 1, P, posts, ⟨0, 0⟩, ⟨0, 0⟩, none⟩
def uP (body : St → Hs → Option (cL × Hs)) (n : Nat) (st : St) (hs : Hs) : Option (cL × Hs) := match hs with
  | .unroll :: hs => l7 body n st hs
  | .inv P ma mb :: hs =>
   let θ := eF st.n P.n 0 st st.env P
   if i3 st.n P.n st.n θ && iZ P && decide (st.n ≤ P.n) && (mo st θ st.env P).isSome && decide (ma.s < P.n) && decide (mb.s < P.n) then
    match body { P with fa := P.fa ++ st.fa } hs with
    | some (outs, hs) => match jt st.n P ma mb outs with
     | some r => some (r, hs)
     | none => none
    | none => none
   else none
  | .invs Fs :: hs => if mA st.n Fs && pz st.n st Fs then
    j9 (fun (F : St × Lin × Lin) hs => match body { F.1 with fa := F.1.fa ++ st.fa } hs with
     | some (outs, hs) => match gP st.n Fs F.2.1 F.2.2 outs with
      | some r => some (r, hs)
      | none => none
     | none => none) Fs hs
   else none
  | _ => none
def yi (body : St → Hs → Option (cL × Hs)) (n : Nat) (st : St) (hs : Hs) : Option (cL × Hs) := match hs with
 | .peel :: hs => match body st hs with
  | some (outs, hs) => j9 (fun x hs => match x with
   | (.nor, st) => uP body n st hs
   | (.jmp j, st) => some ([(.jmp j, st)], hs)) outs hs
  | none => none
 | hs => uP body n st hs
def sC (callG : List Con → i9) (n : Nat) : IC → List Con → St → Hs → Option (cL × Hs)
 | .skip, _, st, hs => some ([(.nor, st)], hs)
 | .ops l, Γ, st, hs => match pR (callG Γ) l st hs with
  | some (outs, hs) => some (outs.map fun s => (.nor, s), hs)
  | none => none
 | .seq a b, Γ, st, hs => match sC callG n a Γ st hs with
  | some (outs, hs) => j9 (fun x hs => match x with
   | (.nor, st) => sC callG n b Γ st hs
   | (.jmp j, st) => some ([(.jmp j, st)], hs)) outs hs
  | none => none
 | .cond x a b, Γ, st, hs => match x with
  | .t t => match um st t with
   | some (T, F) => match j9 (fun st hs => sC callG n a Γ st hs) T hs with
    | some (r1, hs) => match j9 (fun st hs => sC callG n b Γ st hs) F hs with
     | some (r2, hs) => some (r1 ++ r2, hs)
     | none => none
    | none => none
   | none => none
  | .c (.bool true) => sC callG n a Γ st hs
  | .c (.bool false) => sC callG n b Γ st hs
  | _ => none
 | .block id c, Γ, st, hs => match sC callG n c Γ st hs with
  | some (outs, hs) => some (outs.map fun x => match x with
   | (.jmp (.exit i), st) => if i = id then (.nor, st) else (.jmp (.exit i), st)
   | x => x, hs)
  | none => none
 | .loop c, Γ, st, hs => yi (fun st hs => sC callG n c Γ st hs) n st hs
 | .rangeF f ps a b, Γ, st, hs => match opA st.env f, hs with
  | some (.clo fn x y), .rng J P posts :: hs =>
   let st1 : St := { st with n := st.n + 1, bl := .loop st.n 0 st.n J :: st.bl }
   if iZ P && decide (st.n + 1 ≤ P.n) && (fN st.n 0 P.bl == some (st.n, J)) then
    match ij st.env ps P.env with
    | some e => match sC callG n a Γ { P with env := e, fa := P.fa ++ st.fa } hs with
     | some (outsA, hs) => match j9 (fun x hs => match x with
       | (.nor, st2) => if fN st.n 0 st2.bl == some (st.n, J) then sC callG n b Γ (sT st.n 2 st.n J st2) hs else none
       | _ => none) outsA hs with
      | some (outsB, hs) => if iN st.n st.n J P.n posts outsB then
        match callG (vK st.n P posts :: Γ) (.fn fn) (x ++ [.yld st.n] ++ y) st1 hs with
        | some (outs, hs) => match lh st.n st.n J st.env outs with
         | some r => some (r, hs)
         | none => none
        | none => none
       else none
      | none => none
     | none => none
    | none => none
   else none
  | _, _ => none
 | .exit id, _, st, hs => some ([(.jmp (.exit id), st)], hs)
 | .ret, _, st, hs => some ([(.jmp .ret, st)], hs)
def nk (as : List AV) (st : St) : List Con → Tg → Option (List (AV × St))
 | [], _ => none
 | c :: r, .fn f => if c.yl = false ∧ c.tg = f then (match iG c as st with
  | some x => some x
  | none => nk as st r (.fn f)) else nk as st r (.fn f)
 | c :: r, .yl b => if c.yl = true ∧ c.tg = b then (match iG c as st with
  | some x => some x
  | none => nk as st r (.yl b)) else nk as st r (.yl b)
def rU : List (Nat × List Ty × Ty) → Nat → Option (List Ty × Ty)
 | [], _ => none
 | (f, x) :: r, g => if f = g then some x else rU r g
def qe (st : St) : List IRes → Option (List AV)
 | [] => some []
 | .tmp t :: r => (qe st r).map fun l => gZ st.env t :: l
 | .cell t g :: r => match ldD st g (gZ st.env t), qe st r with
  | some x, some l => some (x :: l)
  | _, _ => none
def qCH : List AV → AV
 | [a] => a
 | l => .tup l
def uk (F : IF) (env : List AV) : cL → Option (List (AV × St))
 | [] => some []
 | (ex, st) :: r => match ex with
  | .jmp (.exit _) => none
  | _ => match qe st F.res, uk F env r with
   | some l, some t => some ((qCH l, { st with env := env }) :: t)
   | _, _ => none
def ue : List (AV × St) → Option (List (AV × St))
 | [] => some []
 | (a, st) :: r => match frA a { st with env := [a] }, ue r with
  | some x, some l => some ((x.1, { x.2 with env := st.env }) :: l)
  | _, _ => none
def cl1 (fa : List Fact) : AV → Bool
 | .bool _ | .cmp _ _ _ | .eqc _ _ _ _ | .int _ _ _ | .str _ | .nilp | .nils | .nilm | .nilf | .nili => true
 | .sym s => db fa s oB fa
 | _ => false
def qDR (fa : List Fact) : List AV → Bool
 | [] => true
 | a :: l => cl1 fa a && qDR fa l
def zx (fa : List Fact) : AV → Bool
 | .agg l => qDR fa l
 | a => cl1 fa a
def qD (fa : List Fact) : List AV → Bool
 | [] => true
 | a :: l => zx fa a && qD fa l
def sc1 (fa : List Fact) : AV → Bool
 | .bool _ | .cmp _ _ _ | .eqc _ _ _ _ | .int _ _ _ | .str _ | .nilp | .nils | .nilm | .nilf | .nili => true
 | .sym s => db fa s (fun T => sty fa T .bool || sty fa T .str) fa
 | _ => false
def qBM (fa : List Fact) : List AV → Bool
 | [] => true
 | a :: l => sc1 fa a && qBM fa l
def tm (fa : List Fact) : AV → Bool
 | .tup l => qBM fa l
 | a => sc1 fa a
def mG (st : St) : List (AV × St) → Option (List (AV × St))
 | [] => some []
 | (a, s) :: r => if tm s.fa a then (mG st r).map fun l => (a, ⟨s.n, st.env, s.fa, st.bl⟩) :: l else none
def qh (f n0 : Nat) (P : St) (posts : List (AV × St)) (ma mb : Lin) (lim : Option (Lin × Lin)) : Con := ⟨false, f, n0, P, posts, ma, mb, lim⟩
def kg (lo : Nat) (posts : List (AV × St)) : List (AV × St) → Bool
 | [] => true
 | (a, s) :: r => eJ lo s a posts && kg lo posts r
def lA (callG : List Con → i9) (n : Nat) (F : IF) (Γ : List Con) (as : List AV) (st : St) (hs : Hs) : Option (List (AV × St) × Hs) :=
 match sC callG n F.body Γ { st with env := as ++ xk (F.ntmps - as.length) } hs with
 | some (outs, hs) => match uk F st.env outs with
  | some r => some (r, hs)
  | none => none
 | none => none
def takeR (f : Nat) : Hs → Option (St × List (AV × St) × Lin × Lin × Hs)
 | .rcs g P posts ma mb :: hs => if g = f then some (P, posts, ma, mb, hs) else none
 | _ => none
def sF (tbl : Nat → Option IF) (E : List (Nat × List Ty × Ty)) : Nat → List Con → i9
 | 0, _, _, _, _, _ => none
 | n + 1, Γ, tg, as, st, hs =>
  match nk as st Γ tg with
  | some r => some (r, hs)
  | none => match tg with
   | .yl _ => none
   | .fn f => match rU E f with
    | some (Ts, T) => if qO st.fa Ts as then some ([fresh st T], hs) else none
    | none => match tbl f with
     | none => none
     | some F => match takeR f hs with
      | some (P, posts, ma, mb, hs) => if F.mode = 0 ∧ iZ P = true ∧ st.n ≤ P.n ∧ ma.s < P.n ∧ mb.s < P.n then
        match lA (sF tbl E n) n F (qh f st.n P posts ma mb (some (ma, mb)) :: Γ) P.env { P with fa := P.fa ++ st.fa } hs with
        | some (outs, hs) => if kg P.n posts outs then (iG (qh f st.n P posts ma mb none) as st).map fun r => (r, hs) else none
        | none => none
       else none
      | none => match F.mode with
       | 0 => lA (sF tbl E n) n F Γ as st hs
       | 1 => match lA (sF tbl E n) n F Γ as st hs with
        | some (outs, hs) => match ue outs with
         | some r => some (r, hs)
         | none => none
        | none => none
       | _ => if F.mode = 2 ∧ qD st.fa as = true then match lA (sF tbl E n) n F [] as ⟨st.n, [], st.fa, []⟩ hs with
        | some (outs, hs) => match mG st outs with
         | some r => some (r, hs)
         | none => none
        | none => none
        else none
end
end Ce.S
namespace Ce.S
noncomputable section
open Go
def tgt (v : V) (c : Con) : Tgt := if c.yl then .yl (v.b c.tg) else .fn c.tg
def FrX (v : V) (P : St) (h : H) : Cx := ⟨h, P.bl.flatMap (adr v)⟩
def qF6 (v : V) (c : Con) (h : H) (r : CV) (h' : H) : Prop := ∃ o, o ∈ c.posts ∧ ∃ u, Agr c.pre.n v u ∧ c.pre.n ≤ o.2.n ∧ Sat (FrX v c.pre h) u { o.2 with env := [] } [] h' ∧ ∀ w, Agr o.2.n u w → den w o.1 = r
def ConOK (tbl : Nat → Option IF) (v : V) (c : Con) : Prop := ∀ (W : V) (args : List CV) (h : H), Agr c.n0 v W → Sat0 (FrX W c.pre h) W c.pre args h → (∀ a b, c.lim = some (a, b) → c.ma.ev W - c.mb.ev W < a.ev v - b.ev v ∧ 0 < a.ev v - b.ev v) → Wf tbl (tgt v c) args h (qF6 W c h)
structure GOK1 (tbl : Nat → Option IF) (v : V) (n : Nat) (c : Con) : Prop where
 pos : 0 < c.n0
 n0 : c.n0 ≤ n
 tg : c.yl = true → c.tg < c.n0
 cl : iZ c.pre = true
 lim : ∀ a b, c.lim = some (a, b) → a.s < n ∧ b.s < n
 ok : ConOK tbl v c
def GOK (tbl : Nat → Option IF) (v : V) (n : Nat) (Γ : List Con) : Prop := ∀ c, c ∈ Γ → GOK1 tbl v n c
theorem GOK.mono {tbl : Nat → Option IF} {v w : V} {n m : Nat} {Γ : List Con} (g : GOK tbl v n Γ) (hw : Agr n v w) (hm : n ≤ m) : GOK tbl w m Γ := fun c hc => by
 have g1 := g c hc
 refine ⟨g1.pos, Nat.le_trans g1.n0 hm, g1.tg, g1.cl, fun a b h => ⟨Nat.lt_of_lt_of_le (g1.lim a b h).1 hm, Nat.lt_of_lt_of_le (g1.lim a b h).2 hm⟩, ?_⟩
 intro W args h hW hs hl
 have ht : tgt w c = tgt v c := by
  unfold tgt
  split
  ·rename_i hy
   have := (hw c.tg (Nat.lt_of_lt_of_le (g1.tg hy) g1.n0)).2.2.1
   rw [this]
  ·rfl
 rw [ht]
 refine g1.ok W args h ((hw.mono g1.n0).trans hW (Nat.le_refl _)) hs (fun a b hab => ?_)
 have := hl a b hab
 obtain ⟨h1, h2⟩ := g1.lim a b hab
 rw [← Lin.agr hw h1, ← Lin.agr hw h2] at this
 exact this
theorem GOK.nil {tbl : Nat → Option IF} {v : V} {n : Nat} : GOK tbl v n [] := fun c hc => by cases hc
theorem GOK.cons {tbl : Nat → Option IF} {v : V} {n : Nat} {c : Con} {Γ : List Con} (h1 : GOK1 tbl v n c) (g : GOK tbl v n Γ) : GOK tbl v n (c :: Γ) := fun d hd => by
 rcases List.mem_cons.1 hd with rfl | hd
 ·exact h1
 ·exact g d hd
theorem kU {α : Type} {l : List (Nat × α)} {lo hi : Nat} {p : α → Bool} (h : l.all (fun x => decide (lo ≤ x.1) && decide (x.1 < hi) && p x.2) = true) {s : Nat} (hs : s < lo ∨ hi ≤ s) : fD l s = none := by
 induction l with
 | nil => rfl
 | cons x l ih =>
  obtain ⟨k, a⟩ := x
  simp only [List.all_cons, aT, dT] at h
  simp only [fD]
  rw [if_neg (by omega)]
  exact ih (by simpa using h.2)
theorem kT {α : Type} {l : List (Nat × α)} {lo hi : Nat} {p : α → Bool} (h : l.all (fun x => decide (lo ≤ x.1) && decide (x.1 < hi) && p x.2) = true) {s : Nat} {a : α} (hs : fD l s = some a) : p a = true := by
 induction l with
 | nil => cases hs
 | cons x l ih =>
  obtain ⟨k, b⟩ := x
  simp only [List.all_cons, aT, dT] at h
  simp only [fD] at hs
  split at hs
  ·simp only [sI] at hs; subst hs; exact h.1.2
  ·exact ih (by simpa using h.2) hs
structure SubOK (lo hi n : Nat) (θ : Sub) : Prop where
 elo : θ.lo = lo
 ebase : θ.base = hi
 i : ∀ s, s < lo ∨ hi ≤ s → fD θ.i s = none
 c : ∀ s, s < lo ∨ hi ≤ s → fD θ.c s = none
 b : ∀ s, s < lo ∨ hi ≤ s → fD θ.b s = none
 i' : ∀ s l, fD θ.i s = some l → l.s < n
 c' : ∀ s l, fD θ.c s = some l → clA n l = true
 b' : ∀ s l, fD θ.b s = some l → l < n
theorem f5 {lo hi n : Nat} {θ : Sub} (h : i3 lo hi n θ = true) : SubOK lo hi n θ := by
 simp only [i3, aT, beq_iff_eq] at h
 obtain ⟨⟨⟨⟨h1, h2⟩, h3⟩, h4⟩, h5⟩ := h
 have h3 : θ.i.all (fun x => decide (lo ≤ x.1) && decide (x.1 < hi) && (fun l : Lin => decide (l.s < n)) x.2) = true := h3
 have h4 : θ.c.all (fun x => decide (lo ≤ x.1) && decide (x.1 < hi) && clA n x.2) = true := h4
 have h5 : θ.b.all (fun x => decide (lo ≤ x.1) && decide (x.1 < hi) && (fun l : Nat => decide (l < n)) x.2) = true := h5
 exact ⟨h1, h2, fun s hs => kU (p := fun l : Lin => decide (l.s < n)) h3 hs, fun s hs => kU (p := clA n) h4 hs, fun s hs => kU (p := fun l : Nat => decide (l < n)) h5 hs, fun s l hl => by simpa using kT (p := fun l : Lin => decide (l.s < n)) h3 hl, fun s l hl => kT (p := clA n) h4 hl, fun s l hl => by simpa using kT (p := fun l : Nat => decide (l < n)) h5 hl⟩
theorem SubOK.agr {lo hi n : Nat} {θ : Sub} (h : SubOK lo hi n θ) (v : V) : Agr lo v (v.comp θ) := fun s hs => by
 have e1 := h.i s (.inl hs); have e2 := h.c s (.inl hs); have e3 := h.b s (.inl hs)
 have hn : θ.nu s = s := by simp only [Sub.nu, h.elo, if_pos hs]
 simp only [V.comp, Sub.iL, Sub.cA, Sub.bN, e1, e2, e3, hn, Lin.ev, den, Int.add_zero, and_self]
theorem SubOK.stable {lo hi n : Nat} {θ : Sub} (h : SubOK lo hi n θ) (hlo : lo ≤ n) (hn0 : 0 < n) {v w : V} (hw : Agr n v w) : Agr hi (v.comp θ) (w.comp θ) := fun s hs => by
 have hnu : θ.nu s < n := by
  simp only [Sub.nu, h.elo, h.ebase]
  split
  ·omega
  ·first | exact hn0 | (rw [if_pos hs]; exact hn0)
 refine ⟨?_, ?_, ?_, ?_⟩
 ·simp only [V.comp, Sub.iL]
  cases hl : fD θ.i s with
  | some l => exact Lin.agr hw (h.i' s l hl)
  | none => exact Lin.agr hw hnu
 ·simp only [V.comp, Sub.cA]
  cases hl : fD θ.c s with
  | some l => exact zy hw l (h.c' s l hl)
  | none => simp only [den]; exact (hw _ hnu).2.1
 ·simp only [V.comp, Sub.bN]
  cases hl : fD θ.b s with
  | some l => exact (hw _ (h.b' s l hl)).2.2.1
  | none => exact (hw _ hnu).2.2.1
 ·simp only [V.comp]; exact (hw _ hnu).2.2.2
theorem kW {w : V} {fa : List Fact} (hf : ∀ f, f ∈ fa → FOK w f) {ma mb : Lin} {lim : Option (Lin × Lin)} (h : kX fa ma mb lim = true) : ∀ a b, lim = some (a, b) → ma.ev w - mb.ev w < a.ev w - b.ev w ∧ 0 < a.ev w - b.ev w := by
 intro a b hl
 subst hl
 simp only [kX, aT, Bool.or_eq_true] at h
 obtain ⟨h1, h2⟩ := h
 have h1 := aK hf h1
 rcases h2 with h2 | h2 <;> (have h3 := aK hf h2.1; have h4 := aK hf h2.2; omega)
theorem oV {w : V} {old : List Fact} (ho : ∀ f, f ∈ old → FOK w f) : ∀ {l : List Fact}, (∀ f, f ∈ l → FOK w f) → ∀ f, f ∈ pm old l → FOK w f
 | [], _, f, hm => by cases hm
 | g :: l, hl, f, hm => by
  simp only [pm, List.mem_append] at hm
  rcases hm with hm | hm
  ·have h0 := hl g mS
   cases g <;> simp only [yo] at hm <;> (try (cases hm; done))
   split at hm
   ·rename_i s t t0 ht
    obtain ⟨n, hn, hi⟩ := d9 ho ht
    obtain ⟨m, hm', hj⟩ := h0
    rw [hn, sI] at hm'; subst hm'
    simp only [List.mem_cons, List.not_mem_nil, or_false] at hm
    rcases hm with rfl | rfl <;> simp only [FOK] <;> omega
   ·cases hm
  ·exact oV ho (fun f hf => hl f (mC _ hf)) f hm
section
variable {X : Cx} {v : V} {st : St} {env : List CV} {h : H} {tbl : Nat → Option IF}
def sA (X : Cx) (v : V) (st : St) (env : List CV) (outs : List (AV × St)) (r : CV) (h' : H) : Prop := ∃ o, o ∈ outs ∧ ∃ w, Agr st.n v w ∧ st.n ≤ o.2.n ∧ o.2.env = st.env ∧ Sat X w o.2 env h' ∧ ∀ u, Agr o.2.n w u → den u o.1 = r
theorem qAF {n : Nat} {v w : V} (hw : Agr n v w) : ∀ {l : List BE}, wS n l = true → l.flatMap (adr w) = l.flatMap (adr v)
 | [], _ => rfl
 | p :: l, hc => by
  simp only [wS, aT] at hc
  simp only [List.flatMap_cons, uw hw hc.1, qAF hw hc.2]
theorem Mtch.sat0 (s0 : Sat0 X v st env h) {θ : Sub} {as : List AV} {pre : St} {rest : List BE} (m : Mtch v st θ as pre rest h) (hz : 0 < θ.lo) (hi : fD θ.i 0 = none) : Sat0 X (v.comp θ) pre (aH v as) h where
 z := by simp only [V.comp, Sub.iL, hi, Sub.nu, if_pos hz, Lin.ev, s0.z]; rfl
 env := m.env.symm
 fa := m.fa
 bl := m.bl
 nd := (bL.1 m.nd).1
 lt := fun p hp a ha => by
  have := m.sub a (List.mem_flatMap.2 ⟨p, hp, ha⟩)
  obtain ⟨q, hq, haq⟩ := List.mem_flatMap.1 this
  exact s0.lt q hq a haq
 hn := s0.hn
 fr := s0.fr
theorem Mtch.satF (s0 : Sat0 X v st env h) {θ : Sub} {as : List AV} {pre : St} {rest : List BE} (m : Mtch v st θ as pre rest h) (hz : 0 < θ.lo) (hi : fD θ.i 0 = none) : Sat0 (FrX (v.comp θ) pre h) (v.comp θ) pre (aH v as) h :=
 let a := m.sat0 s0 hz hi
 ⟨a.z, a.env, a.fa, a.bl, a.nd, fun p hp x hx => ⟨(a.lt p hp x hx).1, .inl (List.mem_flatMap.2 ⟨p, hp, hx⟩)⟩, Nat.le_refl _, fun _ _ _ => rfl⟩
def tgT (v : V) : Tg → Tgt
 | .fn f => .fn f
 | .yl b => .yl (v.b b)
theorem ov (s : Sat X v st env h) {c : Con} (g : GOK1 tbl v st.n c) (hpos : 0 < c.n0) {as : List AV} {outs : List (AV × St)} (ha : iG c as st = some outs) : Wf tbl (tgt v c) (aH v as) h (sA X v st env outs) := by
 have s0 := s.now
 unfold iG at ha
 dsimp only at ha
 generalize hθ : eF c.n0 c.pre.n st.n st as c.pre = θ at ha
 split at ha
 ·rename_i hc
  simp only [aT, beq_iff_eq, dT] at hc
  obtain ⟨⟨c1, c2⟩, c3⟩ := hc
  have so := f5 c1
  split at ha
  ·rename_i rest hm
   split at ha
   ·rename_i hl
    simp only [sI] at ha; subst ha
    have hz : 0 < θ.lo := by rw [so.elo]; exact hpos
    have hi0 := so.i 0 (.inl hpos)
    have m := lr s0 hm
    have hW := m.satF s0 hz hi0
    have hlim : ∀ a b, c.lim = some (a, b) → c.ma.ev (v.comp θ) - c.mb.ev (v.comp θ) < a.ev v - b.ev v ∧ 0 < a.ev v - b.ev v := fun a b hab => by
     have := kW s0.fa hl a b hab
     rw [bA, bA] at this
     exact this
    refine (g.ok (v.comp θ) (aH v as) h (so.agr v) hW hlim).mono ?_
    rintro r h' ⟨o, ho, u, hu, hon, hsat, hden⟩
    have hpos' : 0 < st.n := s.pos
    let w : V := ⟨fun s => if s < st.n then v.i s else u.i (c.pre.n + (s - st.n)), fun s => if s < st.n then v.c s else u.c (c.pre.n + (s - st.n)), fun s => if s < st.n then v.b s else u.b (c.pre.n + (s - st.n)), fun s => if s < st.n then v.l s else u.l (c.pre.n + (s - st.n))⟩
    have hvw : Agr st.n v w := fun s hs => ⟨by simp only [w, if_pos hs], by simp only [w, if_pos hs], by simp only [w, if_pos hs], by simp only [w, if_pos hs]⟩
    have key : ∀ x, Agr (st.n + (o.2.n - c.pre.n)) w x → Agr o.2.n u (x.comp θ) := by
     intro x hx s hs
     have hvx : Agr st.n v x := hvw.trans hx (Nat.le_add_right _ _)
     by_cases hlt : s < c.pre.n
     ·obtain ⟨a1, a2, a3, a4⟩ := hu s hlt
      obtain ⟨b1, b2, b3, b4⟩ := so.stable g.n0 hpos' hvx s hlt
      exact ⟨a1.symm.trans b1, a2.symm.trans b2, a3.symm.trans b3, a4.symm.trans b4⟩
     ·have e1 := so.i s (.inr (by omega)); have e2 := so.c s (.inr (by omega)); have e3 := so.b s (.inr (by omega))
      have hnu : θ.nu s = st.n + (s - c.pre.n) := by
       simp only [Sub.nu, so.elo, so.ebase, c2]
       rw [if_neg (by omega), if_neg hlt]
      obtain ⟨x1, x2, x3, x4⟩ := hx (st.n + (s - c.pre.n)) (by omega)
      simp only [w] at x1 x2 x3 x4
      rw [if_neg (by omega), show c.pre.n + (st.n + (s - c.pre.n) - st.n) = s by omega] at x1 x2 x3 x4
      simp only [V.comp, Sub.iL, Sub.cA, Sub.bN, e1, e2, e3, hnu, Lin.ev, den, Int.add_zero]
      exact ⟨x1, x2, x3, x4⟩
    refine ⟨yJ θ st c.pre.n rest o, List.mem_map.2 ⟨o, ho, rfl⟩, w, hvw, Nat.le_add_right _ _, rfl, ⟨Nat.lt_of_lt_of_le s.pos (Nat.le_add_right _ _), fun x hx => ?_⟩, fun x hx => ?_⟩
    ·have hvx : Agr st.n v x := hvw.trans hx (Nat.le_add_right _ _)
     have sx := s.all x hvx
     have ox := hsat.all (x.comp θ) (key x hx)
     have mx := lr sx hm
     have hcl := g.cl
     simp only [iZ, aT] at hcl
     have hF : c.pre.bl.flatMap (adr (x.comp θ)) = c.pre.bl.flatMap (adr (v.comp θ)) := qAF (so.stable g.n0 s.pos hvx) hcl.2
     have hFst : ∀ a, a ∈ c.pre.bl.flatMap (adr (v.comp θ)) → a < h.n ∧ (a ∈ X.F ∨ X.h0.n ≤ a) := fun a ha => by
      obtain ⟨q, hq, haq⟩ := List.mem_flatMap.1 (m.sub a ha)
      exact s0.lt q hq a haq
     have hrest : ∀ q, q ∈ rest → ∀ a, a ∈ adr x q → a < h.n ∧ a ∉ c.pre.bl.flatMap (adr (v.comp θ)) := fun q hq a ha => by
      refine ⟨(sx.lt q (mx.rest q hq) a ha).1, fun hp => ?_⟩
      rw [← hF] at hp
      exact (bL.1 mx.nd).2.2 a hp (List.mem_flatMap.2 ⟨q, hq, ha⟩)
     have hfr : ∀ j, j < h.n → j ∉ c.pre.bl.flatMap (adr (v.comp θ)) → h'.get j = h.get j := fun j hj hjF => ox.fr j hj hjF
     have hblx : (o.2.bl.map (mO θ)).flatMap (adr x) = o.2.bl.flatMap (adr (x.comp θ)) := by
      have : ∀ l : List BE, (l.map (mO θ)).flatMap (adr x) = l.flatMap (adr (x.comp θ)) := by
       intro l
       induction l with
       | nil => rfl
       | cons p l ih => simp only [List.map_cons, List.flatMap_cons, qS, ih]
      exact this _
     have hnn : h.n ≤ h'.n := ox.hn
     refine ⟨sx.z, sx.env, fun f hf => ?_, fun p hp => ?_, ?_, fun p hp a ha => ?_, Nat.le_trans sx.hn hnn, fun j hj hjF => ?_⟩
     ·have hnew : ∀ f, f ∈ o.2.fa.filterMap (mN θ) → FOK x f := fun f hf => by
       obtain ⟨f0, hf0, hff⟩ := List.mem_filterMap.1 hf
       exact qBH hff (ox.fa f0 hf0)
      rcases List.mem_append.1 hf with hf | hf
      ·exact oV sx.fa hnew f hf
      ·rcases List.mem_append.1 hf with hf | hf
       ·exact hnew f hf
       ·exact sx.fa f hf
     ·rcases List.mem_append.1 hp with hp | hp
      ·obtain ⟨p0, hp0, rfl⟩ := List.mem_map.1 hp
       exact (qBJ x θ h' p0).2 (ox.bl p0 hp0)
      ·refine kv (fun a ha => ?_) (sx.bl p (mx.rest p hp))
       obtain ⟨e1, e2⟩ := hrest p hp a ha
       exact hfr a e1 e2
     ·show ((o.2.bl.map (mO θ) ++ rest).flatMap (adr x)).Nodup
      rw [List.flatMap_append, hblx]
      refine bL.2 ⟨ox.nd, (bL.1 mx.nd).2.1, fun a ha hb => ?_⟩
      obtain ⟨q, hq, haq⟩ := List.mem_flatMap.1 hb
      obtain ⟨e1, e2⟩ := hrest q hq a haq
      obtain ⟨p, hp, hap⟩ := List.mem_flatMap.1 ha
      rcases (ox.lt p hp a hap).2 with e3 | e3
      ·exact e2 e3
      ·have : h.n ≤ a := e3
       omega
     ·rcases List.mem_append.1 hp with hp | hp
      ·obtain ⟨p0, hp0, rfl⟩ := List.mem_map.1 hp
       rw [qS] at ha
       obtain ⟨e1, e2⟩ := ox.lt p0 hp0 a ha
       refine ⟨e1, ?_⟩
       rcases e2 with e2 | e2
       ·exact (hFst a e2).2
       ·have : h.n ≤ a := e2
        have := sx.hn
        exact .inr (by omega)
      ·have := sx.lt p (mx.rest p hp) a ha
       exact ⟨by omega, this.2⟩
     ·have hjn : j < h.n := by have := sx.hn; omega
      rw [hfr j hjn ?_, sx.fr j hj hjF]
      intro hp
      rcases (hFst j hp).2 with e | e
      ·exact hjF e
      ·omega
    ·have := hden (x.comp θ) (key x hx)
     simp only [yJ, mP]
     exact this
   ·cases ha
  ·cases ha
 ·cases ha
theorem qDC {n0 : Nat} (s : Sat X v st env h) (hn : n0 ≤ st.n) (hn0 : 0 < n0) {a : AV} {o : AV × St} (hf : fits n0 st a o = true) : ∃ u, Agr n0 v u ∧ n0 ≤ o.2.n ∧ Sat X u { o.2 with env := [] } [] h ∧ ∀ w, Agr o.2.n u w → den w o.1 = den v a := by
 have s0 := s.now
 unfold fits at hf
 dsimp only at hf
 generalize hθ : eF n0 o.2.n 0 st [a] { o.2 with env := [o.1] } = θ at hf
 simp only [aT, dT, Option.isSome_iff_exists] at hf
 obtain ⟨⟨⟨c1, c2⟩, c3⟩, rest, hm⟩ := hf
 have so := f5 c1
 have hz : 0 < θ.lo := by rw [so.elo]; exact hn0
 have m := lr s0 hm
 have hP := m.sat0 s0 hz (so.i 0 (.inl hn0))
 have hS := Sat.ofClosed (fs := []) c2 (show 0 < o.2.n by omega) hP (fun _ _ f hf => by cases hf)
 refine ⟨v.comp θ, so.agr v, c3, ⟨by show 0 < o.2.n; omega, fun w hw => ?_⟩, fun w hw => ?_⟩
 ·have := hS.all w hw
  exact ⟨this.z, rfl, fun f hf => this.fa f (List.mem_append_left _ hf), this.bl, this.nd, this.lt, this.hn, this.fr⟩
 ·have := (hS.all w hw).env
  simp only [aH, List.cons.injEq, and_true] at this
  exact this.symm
theorem dq {n0 : Nat} (s : Sat X v st env h) (hn : n0 ≤ st.n) (hn0 : 0 < n0) {a : AV} : ∀ {posts : List (AV × St)}, eJ n0 st a posts = true → ∃ o, o ∈ posts ∧ ∃ u, Agr n0 v u ∧ n0 ≤ o.2.n ∧ Sat X u { o.2 with env := [] } [] h ∧ ∀ w, Agr o.2.n u w → den w o.1 = den v a
 | [], hf => by cases hf
 | o :: os, hf => by
  simp only [eJ, Bool.or_eq_true] at hf
  rcases hf with hf | hf
  ·exact ⟨o, mS, qDC s hn hn0 hf⟩
  ·obtain ⟨o', h1, h2⟩ := dq s hn hn0 hf
   exact ⟨o', mC _ h1, h2⟩
end
end
end Ce.S
namespace Ce.S
noncomputable section
open Go
section
variable {X : Cx} {v : V} {st : St} {env : List CV} {h : H} {tbl : Nat → Option IF}
def CallOK (tbl : Nat → Option IF) (Γ : List Con) (call : i9) : Prop := ∀ (tg : Tg) (as : List AV) (st : St) (hs : Hs) (outs : List (AV × St)) (hs' : Hs), call tg as st hs = some (outs, hs') → ∀ (X : Cx) (v : V) (env : List CV) (h : H), Sat X v st env h → GOK tbl v st.n Γ → (∀ u, Agr st.n v u → aH u as = aH v as ∧ tgT u tg = tgT v tg) → Wf tbl (tgT v tg) (aH v as) h (sA X v st env outs)
theorem l9 {w : V} {o : AV × St} {c : CV} (s : Sat X w o.2 env h) (hd : ∀ u, Agr o.2.n w u → den u o.1 = c) (d : Option Nat) : Sat X w (mV d o) (put? env d c) h := by
 refine ⟨s.pos, fun u hu => ?_⟩
 have s0 := s.all u hu
 exact ⟨s0.z, by rw [s0.env, ← hd u hu, yG]; rfl, qE3 s0.fa, s0.bl, s0.nd, s0.lt, s0.hn, s0.fr⟩
def OpsQ (X : Cx) (v : V) (st : St) (outs : List St) (env' : List CV) (h' : H) : Prop := ∃ st', st' ∈ outs ∧ ∃ w, Agr st.n v w ∧ st.n ≤ st'.n ∧ Sat X w st' env' h'
theorem wx {w : V} {fa : List Fact} (z : w.i 0 = 0) (hf : ∀ f, f ∈ fa → FOK w f) {a b t : Nat} {c : Int} (h0 : FOK w (.sum a b t c)) : ∀ f, f ∈ sQ fa a b t c → FOK w f := by
 intro f hm
 simp only [FOK] at h0
 have lo : ∀ {l : Lin} {k : Int}, loC fa l = some k → k ≤ l.ev w := fun h => ix z hf h
 have hi : ∀ {l : Lin} {k : Int}, hiC fa l = some k → l.ev w ≤ k := fun h => da z hf h
 unfold sQ at hm
 simp only [List.mem_append] at hm
 rcases hm with hm | hm | hm | hm
 ·split at hm
  ·rename_i k hk
   have := lo hk
   simp only [Lin.ev] at this
   simp only [List.mem_singleton] at hm; subst hm
   simp only [FOK]; omega
  ·cases hm
 ·split at hm
  ·rename_i k hk
   have := hi hk
   simp only [Lin.ev] at this
   simp only [List.mem_singleton] at hm; subst hm
   simp only [FOK]; omega
  ·cases hm
 ·split at hm
  ·rename_i k hk
   have := lo hk
   simp only [Lin.ev] at this
   simp only [List.mem_singleton] at hm; subst hm
   simp only [FOK]; omega
  ·cases hm
 ·split at hm
  ·rename_i k hk
   have := hi hk
   simp only [Lin.ev] at this
   simp only [List.mem_singleton] at hm; subst hm
   simp only [FOK]; omega
  ·cases hm
theorem vS {w : V} {fa : List Fact} (z : w.i 0 = 0) (hf : ∀ f, f ∈ fa → FOK w f) {x y : Nat} : ∀ {l : List Fact}, (∀ f, f ∈ l → FOK w f) → ∀ f, f ∈ kH fa x y l → FOK w f := by
 intro l
 induction l with
 | nil => intro _ f h; cases h
 | cons g r ih =>
  intro hl f hm
  have hr := ih (fun f hm => hl f (mC _ hm))
  have h0 := hl g mS
  cases g <;> simp only [kH] at hm <;> (try (exact hr f hm))
  rename_i a b t c
  rcases List.mem_append.1 hm with hq | hq
  ·clear hm
   by_cases hc : a = x ∨ a = y ∨ b = x ∨ b = y ∨ t = x ∨ t = y
   ·rw [if_pos hc] at hq; exact wx z hf h0 f hq
   ·rw [if_neg hc] at hq; cases hq
  ·exact hr f hq
theorem z5 {w : V} {fa : List Fact} (hf : ∀ f, f ∈ fa → FOK w f) : ∀ {cs ds : List AV}, gtA fa cs ds = true → aH w cs ≠ aH w ds
 | [], [], h => by simp [gtA] at h
 | [], _ :: _, h => by simp [gtA] at h
 | a :: l, [], h => by cases a <;> simp [gtA] at h
 | a :: l, b :: m, h => by
  have tl : gtA fa l m = true → aH w (a :: l) ≠ aH w (b :: m) := fun h e => by
   simp only [aH, List.cons.injEq] at e
   exact z5 hf h e.2
  cases a <;> try (exact tl h)
  rename_i k s c
  cases b <;> try (exact tl h)
  rename_i k' s' c'
  simp only [gtA, Bool.or_eq_true] at h
  rcases h with h | h
  ·intro e
   simp only [aH, den, List.cons.injEq, CV.int.injEq] at e
   have := aK hf h
   simp only [Lin.ev] at this
   omega
  ·exact tl h
theorem xd {w : V} {fa : List Fact} (z : w.i 0 = 0) (hf : ∀ f, f ∈ fa → FOK w f) {s : Nat} {i : Lin} {cs : List AV} (h0 : FOK w (.row s i cs)) : ∀ {l : List Fact}, (∀ f, f ∈ l → FOK w f) → ∀ f, f ∈ m3 fa s i cs l → FOK w f := by
 intro l
 induction l with
 | nil => intro _ f h; cases h
 | cons g r ih =>
  intro hl f hm
  have hr := ih (fun f hm => hl f (mC _ hm))
  have h1 := hl g mS
  cases g <;> simp only [m3] at hm <;> (try (exact hr f hm))
  rename_i s' j ds
  rcases List.mem_append.1 hm with hq | hq
  ·clear hm
   by_cases hc : s' = s ∧ j.s = 0 ∧ i.s ≠ 0 ∧ gtA fa cs ds = true ∧ leL fa j i 0 = true
   ·rw [if_pos hc] at hq
    obtain ⟨rfl, c1, c2, c3, c4⟩ := hc
    simp only [List.mem_singleton] at hq; subst hq
    have hle := aK hf c4
    obtain ⟨a1, rows, ex, a2, a3⟩ := h0
    obtain ⟨b1, rows', ex', b2, b3⟩ := h1
    rw [a2] at b2
    cases b2
    have hne : i.ev w ≠ j.ev w := fun e => by
     rw [e, b3, sI] at a3
     exact z5 hf c3 a3.symm
    simp only [FOK, z]
    have ej : j.ev w = j.c := by simp only [Lin.ev, c1, z]; omega
    simp only [Lin.ev] at hle hne ej ⊢
    omega
   ·rw [if_neg hc] at hq; cases hq
  ·exact hr f hq
theorem v4 {w : V} {fa : List Fact} (z : w.i 0 = 0) (hf : ∀ f, f ∈ fa → FOK w f) : ∀ {l : List Fact}, (∀ f, f ∈ l → FOK w f) → ∀ f, f ∈ mZ fa l → FOK w f := by
 intro l
 induction l with
 | nil => intro _ f h; cases h
 | cons g r ih =>
  intro hl f hm
  have hr := ih (fun f hm => hl f (mC _ hm))
  have h0 := hl g mS
  cases g <;> simp only [mZ] at hm <;> (try (exact hr f hm))
  rename_i s i cs
  rcases List.mem_append.1 hm with hq | hq
  ·clear hm
   by_cases hc : i.s = 0
   ·rw [if_pos hc] at hq; cases hq
   ·rw [if_neg hc] at hq; exact xd z hf h0 hf f hq
  ·exact hr f hq
theorem qBN (s : Sat X v st env h) (x y : Nat) : Sat X v (q9 x y st) env h := by
 have s1 : Sat X v (st.more (kH st.fa x y st.fa)) env h := s.fact (fun u su f hf => vS su.z su.fa su.fa f hf)
 exact s1.fact (fun u su f hf => v4 su.z su.fa su.fa f hf)
theorem wP (s : Sat X v st env h) {c : AV} {T F : List St} (hc : tH st c = some (T, F)) {cv : CV} (hx : ∀ u, Sat0 X u st env h → cv = den u c) : ∃ b, cv = .bool b ∧ ∃ st', st' ∈ (if b then T else F) ∧ Sat X v st' env h ∧ st'.n = st.n ∧ st'.env = st.env := by
 unfold tH at hc
 split at hc
 ·rename_i T0 F0 h0
  obtain ⟨b, hb, st', hm, s', hn, he⟩ := rf s h0 hx
  have up : ∀ x y, T = T0.map (q9 x y) → F = F0.map (q9 x y) → ∃ b, cv = .bool b ∧ ∃ st', st' ∈ (if b then T else F) ∧ Sat X v st' env h ∧ st'.n = st.n ∧ st'.env = st.env := fun x y e1 e2 => by
   refine ⟨b, hb, q9 x y st', ?_, qBN s' x y, hn, he⟩
   subst e1; subst e2
   cases b
   ·exact List.mem_map.2 ⟨st', hm, rfl⟩
   ·exact List.mem_map.2 ⟨st', hm, rfl⟩
  split at hc
  ·simp only [sI, pI] at hc
   exact up _ _ hc.1.symm hc.2.symm
  ·simp only [sI, pI] at hc
   exact up _ _ hc.1.symm hc.2.symm
  ·simp only [sI, pI] at hc
   obtain ⟨rfl, rfl⟩ := hc
   exact ⟨b, hb, st', hm, s', hn, he⟩
 ·cases hc
theorem rc (s : Sat X v st env h) {t : Nat} {T F : List St} (hc : um st t = some (T, F)) : ∃ b, aM env t = .bool b ∧ ∃ st', st' ∈ (if b then T else F) ∧ Sat X v st' env h ∧ st'.n = st.n := by
 have gl : ∀ u, Sat0 X u st env h → aM env t = den u (gZ st.env t) := fun u su => by rw [su.env]; exact dz u st.env t
 have put : ∀ (b : Bool) (st' : St), aM env t = .bool b → Sat X v st' env h → Sat X v (qBL t b st') env h := fun b st' hb s' => by
  refine ⟨s'.pos, fun u hu => ?_⟩
  have s0 := s'.all u hu
  refine ⟨s0.z, ?_, s0.fa, s0.bl, s0.nd, s0.lt, s0.hn, s0.fr⟩
  have e1 := gg u st'.env t (.bool b)
  rw [← s0.env] at e1
  show env = aH u (mW st'.env t (.bool b))
  rw [← e1]
  have : den u (AV.bool b) = aM env t := hb.symm
  rw [this]; exact (l8 env t).symm
 unfold um at hc
 split at hc
 ·rename_i hg
  simp only [sI, pI] at hc
  obtain ⟨rfl, rfl⟩ := hc
  exact ⟨true, by rw [gl v s.now, hg]; rfl, st, by simp, s, rfl⟩
 ·rename_i hg
  simp only [sI, pI] at hc
  obtain ⟨rfl, rfl⟩ := hc
  exact ⟨false, by rw [gl v s.now, hg]; rfl, st, by simp, s, rfl⟩
 ·split at hc
  ·rename_i T' F' hc'
   simp only [sI, pI] at hc
   obtain ⟨rfl, rfl⟩ := hc
   obtain ⟨b, hb, st', hm, s', hn, _⟩ := wP s hc' gl
   refine ⟨b, hb, qBL t b st', ?_, put b st' hb s', hn⟩
   cases b with
   | true => simp only [if_true] at hm ⊢; exact List.mem_map.2 ⟨st', hm, rfl⟩
   | false => simp only [Bool.false_eq_true, if_false] at hm ⊢; exact List.mem_map.2 ⟨st', hm, rfl⟩
  ·cases hc
theorem qa {Γ : List Con} {call : i9} {fk : Bool} (hcall : CallOK tbl Γ call) {o : IOp} {os : List IOp} {hs hs' : Hs} {outs : List (AV × St)} (hg : grd o.guard env = true) (ho : xP call fk o.op st hs = some (outs, hs')) (s : Sat X v st env h) (g : GOK tbl v st.n Γ) {Q : List CV → H → Prop}
  (next : ∀ x, x ∈ outs → ∀ w c h', Agr st.n v w → st.n ≤ x.2.n → Sat X w (mV o.dst x) (put? env o.dst c) h' → Wo tbl os (put? env o.dst c) h' Q) : Wo tbl (o :: os) env h Q := by
 have s0 := s.now
 have viaCall : ∀ (tg : Tg) (as : List AV) (hs1 hs2 : Hs), call tg as st hs1 = some (outs, hs2) → (∀ u, Agr st.n v u → aH u as = aH v as ∧ tgT u tg = tgT v tg) → (∀ c : bY, stepO c o.op env h = c (tgT v tg) (aH v as) h) → Wo tbl (o :: os) env h Q := by
  intro tg as hs1 hs2 hc hrob hst
  have := hcall tg as st hs1 outs hs2 hc X v env h s g hrob
  refine bQ (d := o.dst) (g := o.guard) (o := o.op) (tgT v tg) (aH v as) hg hst (this.mono ?_)
  rintro r h' ⟨x, hx, w, hw, hn, he, sx, hd⟩
  exact next x hx w r h' hw hn (l9 sx hd o.dst)
 have viaOp : (sOw o.op st).map (fun outs => (if fk then outs.flatMap (gJ 7 1) else outs, hs)) = some (outs, hs') → isCall o.op = false → Wo tbl (o :: os) env h Q := by
  intro hso _
  simp only [Option.map_eq_some_iff, pI] at hso
  obtain ⟨outs', h1, rfl, _⟩ := hso
  have hp : ae X v st env (if fk then outs'.flatMap (gJ 7 1) else outs') (stepO noC o.op env h) := by
   split
   ·exact lE (xO s h1)
   ·exact xO s h1
  obtain ⟨x, hx, w, hw, hn, he, c, h', hr, sx, hd⟩ := hp
  exact aB hg hr (next x hx w c h' hw hn (l9 sx hd o.dst))
 obtain ⟨dst, op, guard⟩ := o
 cases op with
 | callF f as =>
  simp only [xP] at ho
  split at ho
  ·rename_i as' has
   exact viaCall (.fn f) as' hs hs' ho (fun u hu => ⟨by rw [← (s.all u hu).ops has, s0.ops has], rfl⟩) (fun c => by simp only [stepO, tgT, s0.ops has])
  ·cases ho
 | callV f as =>
  simp only [xP] at ho
  split at ho <;> (try (cases ho; done))
  ·rename_i fn a b as' hf has
   refine viaCall (.fn fn) (a ++ as' ++ b) hs hs' ho (fun u hu => ⟨?_, rfl⟩) (fun c => ?_)
   ·have e1 := (s.all u hu).op hf
    rw [s0.op hf] at e1
    simp only [den, CV.clo.injEq, true_and] at e1
    simp only [cw, e1.1, e1.2, ← (s.all u hu).ops has, s0.ops has]
   ·exact (fun (c : bY) => by simp only [stepO, tgT, s0.ops has, s0.op hf, den, cw]) c
  ·rename_i b as' hf has
   exact viaCall (.yl b) as' hs hs' ho (fun u hu => ⟨by rw [← (s.all u hu).ops has, s0.ops has], by
    have e1 := (s.all u hu).op hf
    rw [s0.op hf] at e1
    simp only [den, CV.yld.injEq] at e1
    simp only [tgT, e1]⟩) (fun c => by simp only [stepO, tgT, s0.ops has, s0.op hf, den])
 | _ => exact viaOp ho rfl
theorem qBR {Γ : List Con} {call : i9} (hcall : CallOK tbl Γ call) : ∀ (l : List IOp) (st : St) (hs hs' : Hs) (outs : List St), pR call l st hs = some (outs, hs') → ∀ (v : V) (env : List CV) (h : H), Sat X v st env h → GOK tbl v st.n Γ → Wo tbl l env h (OpsQ X v st outs) := by
 intro l
 induction l with
 | nil =>
  intro st hs hs' outs ho v env h s g
  simp only [pR, sI, pI] at ho
  obtain ⟨rfl, _⟩ := ho
  exact a5 ⟨st, mS, v, Agr.refl _ _, Nat.le_refl _, s⟩
 | cons o os ih =>
  intro st hs hs' outs ho v env h s g
  have rest : ∀ (st0 : St), st0.n = st.n → ∀ (x : AV × St) (h1 h2 : Hs) (r : List St), (∀ y, y ∈ r → y ∈ outs) → pR call os (mV o.dst x) h1 = some (r, h2) → ∀ w c h', Agr st0.n v w → st0.n ≤ x.2.n → Sat X w (mV o.dst x) (put? env o.dst c) h' → Wo tbl os (put? env o.dst c) h' (OpsQ X v st outs) := by
   intro st0 hn0 x h1 h2 r hsub hx w c h' hw hn sx
   rw [hn0] at hw hn
   have := ih (mV o.dst x) h1 h2 r hx w _ h' sx (g.mono hw hn)
   obtain ⟨n, e, h3, hr, st', hm, u, hu, hnn, sat⟩ := this
   exact ⟨n, e, h3, hr, st', hsub st' hm, u, hw.trans hu hn, Nat.le_trans hn hnn, sat⟩
  simp only [pR] at ho
  split at ho
  ·rename_i hgd
   split at ho
   ·rename_i outs1 hs1 h1
    refine qa hcall (by rw [hgd]; rfl) h1 s g (fun x hx w c h' hw hn sx => ?_)
    obtain ⟨k1, k2, r, hr, hsub⟩ := cS ho x hx
    exact rest st rfl x k1 k2 r hsub hr w c h' hw hn sx
   ·cases ho
  ·rename_i t b hgd
   split at ho
   ·rename_i hu
    have hund : aM env t = undef := by
     rw [s.now.env, dz]
     revert hu
     cases gZ st.env t <;> simp only [qEW] <;> (try (intro h; cases h; done))
     rename_i l
     cases l with
     | nil => intro _; rfl
     | cons a l => intro h; cases h
    refine qAT (by rw [hgd]; simp only [grd, hund, undef, cu]) ?_
    have sD : Sat X v (mV o.dst (cC, st)) (put? env o.dst undef) h := l9 (o := (cC, st)) s (fun u hu => rfl) o.dst
    exact rest st rfl (cC, st) _ _ outs (fun y hy => hy) ho v undef h (Agr.refl _ _) (Nat.le_refl _) sD
   split at ho
   ·rename_i T F hc
    split at ho
    ·rename_i r1 hs1 hm1
     split at ho
     ·rename_i r2 hs2 hm2
      simp only [sI, pI] at ho
      obtain ⟨rfl, _⟩ := ho
      obtain ⟨bb, hbb, st', hst', s', hn'⟩ := rc s hc
      by_cases he : bb = b
      ·subst he
       obtain ⟨k1, k2, r, hr, hsub⟩ := cS hm1 st' hst'
       split at hr
       ·rename_i outs1 hs3 ho1
        have g' : GOK tbl v st'.n Γ := by rw [hn']; exact g
        refine qa hcall (by rw [hgd]; simp only [grd, hbb, cu, beq_self_eq_true]) ho1 s' g' (fun x hx w c h' hw hn sx => ?_)
        obtain ⟨k3, k4, r', hr', hsub'⟩ := cS hr x hx
        exact rest st' hn' x k3 k4 r' (fun y hy => List.mem_append_left _ (hsub y (hsub' y hy))) hr' w c h' hw hn sx
       ·cases hr
      ·have hst2 : st' ∈ (if b then F else T) := by
        cases bb <;> cases b <;> first | (exact absurd rfl he) | (simpa using hst')
       obtain ⟨k1, k2, r, hr, hsub⟩ := cS hm2 st' hst2
       refine qAT (by rw [hgd]; simp only [grd, hbb, cu]; cases bb <;> cases b <;> first | rfl | exact absurd rfl he) ?_
       have sD : Sat X v (mV o.dst (cC, st')) (put? env o.dst undef) h := l9 (o := (cC, st')) s' (fun u hu => rfl) o.dst
       exact rest st' hn' (cC, st') k1 k2 r (fun y hy => List.mem_append_right _ (hsub y hy)) hr v undef h (Agr.refl _ _) (Nat.le_refl _) sD
     ·cases ho
    ·cases ho
   ·cases ho
def CQ (X : Cx) (v : V) (st : St) (outs : cL) (ex : Ex) (env' : List CV) (h' : H) : Prop := ∃ st', (ex, st') ∈ outs ∧ ∃ w, Agr st.n v w ∧ st.n ≤ st'.n ∧ Sat X w st' env' h'
theorem CQ.up {st1 : St} {w : V} {outs1 outs : cL} {ex : Ex} {e : List CV} {h' : H} (q : CQ X w st1 outs1 ex e h') (hw : Agr st.n v w) (hn : st.n ≤ st1.n) (hs : ∀ x, x ∈ outs1 → x ∈ outs) : CQ X v st outs ex e h' := by
 obtain ⟨st', hm, u, hu, hnn, sat⟩ := q
 exact ⟨st', hs _ hm, u, hw.trans hu hn, Nat.le_trans hn hnn, sat⟩
theorem upg1ok {w : V} {fa : List Fact} (hf : ∀ f, f ∈ fa → FOK w f) {s : Nat} {i : Lin} {R : List Ty} (h0 : FOK w (.pre s i R)) : ∀ f, f ∈ upg1 fa s i R → FOK w f := by
 intro f hm
 unfold upg1 at hm
 split at hm
 ·rename_i t ht
  split at hm
  ·rename_i hc
   simp only [aT] at hc
   simp only [List.mem_singleton] at hm; subst hm
   obtain ⟨n, hn, hti⟩ := d9 hf ht
   have hle := aK hf hc.1
   simp only [FOK, ah]
   simp only [FOK] at h0
   cases hcv : w.c s with
   | nils =>
    rw [hcv] at hn; simp only [cg, sI] at hn; subst hn
    exact .inl ⟨rfl, by simp only [Lin.ev]; omega, by simp only [Lin.ev]; omega⟩
   | lst rows ex =>
    rw [hcv] at hn; simp only [cg, sI] at hn; subst hn
    refine .inr ⟨rows, ex, rfl, by simp only [Lin.ev]; omega, by simp only [Lin.ev]; omega, fun r hr => ?_⟩
    obtain ⟨j, hj, hjr⟩ := List.getElem_of_mem hr
    refine h0 rows ex hcv j r (by rw [nth?_eq, List.getElem?_eq_getElem hj, hjr]) ?_
    simp only [Lin.ev] at hle ⊢; omega
   | _ => rw [hcv] at hn; cases hn
  ·cases hm
 ·cases hm
theorem qBD {w : V} {fa : List Fact} (hf : ∀ f, f ∈ fa → FOK w f) : ∀ {l : List Fact}, (∀ f, f ∈ l → FOK w f) → ∀ f, f ∈ qBE fa l → FOK w f := by
 intro l
 induction l with
 | nil => intro _ f h; cases h
 | cons x r ih =>
  intro hl f hm
  have hrest := ih (fun f hm => hl f (mC _ hm))
  have h0 := hl x mS
  simp only [qBE, List.mem_append] at hm
  rcases hm with hm | hm
  ·cases x <;> simp only [upgP] at hm <;> (try (cases hm; done))
   exact upg1ok hf h0 f hm
  ·exact hrest f hm
theorem wq (s : Sat X v st env h) : Sat X v (upg st) env h := s.fact (fun u su f hf => qBD su.fa su.fa f hf)
theorem kq {lo : Nat} {P : St} {ma mb : Lin} : ∀ {outs r : cL}, jt lo P ma mb outs = some r → ∀ st', (Ex.nor, st') ∈ outs → tQ lo P ma mb st' = true
 | [], r, h, st', hm => by cases hm
 | (.nor, s1) :: outs, r, h, st', hm => by
  simp only [jt] at h
  split at h
  ·rename_i hb
   rcases List.mem_cons.1 hm with hm | hm
   ·cases hm; exact hb
   ·exact kq h st' hm
  ·cases h
 | (.jmp j, s1) :: outs, r, h, st', hm => by
  simp only [jt] at h
  split at h
  ·rename_i l hl
   rcases List.mem_cons.1 hm with hm | hm
   ·cases hm
   ·exact kq hl st' hm
  ·cases h
theorem kr {lo : Nat} {P : St} {ma mb : Lin} {j : Jump} : ∀ {outs r : cL}, jt lo P ma mb outs = some r → ∀ st', (Ex.jmp j, st') ∈ outs → (Ex.jmp j, upg st') ∈ r
 | [], r, h, st', hm => by cases hm
 | (.nor, s1) :: outs, r, h, st', hm => by
  simp only [jt] at h
  split at h
  ·rcases List.mem_cons.1 hm with hm | hm
   ·cases hm
   ·exact kr h st' hm
  ·cases h
 | (.jmp j', s1) :: outs, r, h, st', hm => by
  simp only [jt] at h
  split at h
  ·rename_i l hl
   simp only [sI] at h; subst h
   rcases List.mem_cons.1 hm with hm | hm
   ·cases hm; exact mS
   ·exact mC _ (kr hl st' hm)
  ·cases h
theorem jC {lo : Nat} {Fs : List (St × Lin × Lin)} {ma mb : Lin} : ∀ {outs r : cL}, gP lo Fs ma mb outs = some r → ∀ st', (Ex.nor, st') ∈ outs → ju lo ma mb st' Fs = true
 | [], r, h, st', hm => by cases hm
 | (.nor, s1) :: outs, r, h, st', hm => by
  simp only [gP] at h
  split at h
  ·rename_i hb
   rcases List.mem_cons.1 hm with hm | hm
   ·cases hm; exact hb
   ·exact jC h st' hm
  ·cases h
 | (.jmp j, s1) :: outs, r, h, st', hm => by
  simp only [gP] at h
  split at h
  ·rename_i l hl
   rcases List.mem_cons.1 hm with hm | hm
   ·cases hm
   ·exact jC hl st' hm
  ·cases h
theorem jD {lo : Nat} {Fs : List (St × Lin × Lin)} {ma mb : Lin} {j : Jump} : ∀ {outs r : cL}, gP lo Fs ma mb outs = some r → ∀ st', (Ex.jmp j, st') ∈ outs → (Ex.jmp j, upg st') ∈ r
 | [], r, h, st', hm => by cases hm
 | (.nor, s1) :: outs, r, h, st', hm => by
  simp only [gP] at h
  split at h
  ·rcases List.mem_cons.1 hm with hm | hm
   ·cases hm
   ·exact jD h st' hm
  ·cases h
 | (.jmp j', s1) :: outs, r, h, st', hm => by
  simp only [gP] at h
  split at h
  ·rename_i l hl
   simp only [sI] at h; subst h
   rcases List.mem_cons.1 hm with hm | hm
   ·cases hm; exact mS
   ·exact mC _ (jD hl st' hm)
  ·cases h
theorem nY {lo : Nat} {ma mb : Lin} {st : St} : ∀ {Fs : List (St × Lin × Lin)}, ju lo ma mb st Fs = true → ∃ F, F ∈ Fs ∧ i3 lo F.1.n st.n (eF lo F.1.n 0 st st.env F.1) = true ∧ (∃ rest, mo st (eF lo F.1.n 0 st st.env F.1) st.env F.1 = some rest) ∧ kX st.fa (dH (eF lo F.1.n 0 st st.env F.1) F.2.1) (dH (eF lo F.1.n 0 st st.env F.1) F.2.2) (some (ma, mb)) = true
 | [], h => by cases h
 | (P, na, nb) :: r, h => by
  simp only [ju, Bool.or_eq_true, aT, Option.isSome_iff_exists] at h
  rcases h with ⟨⟨h1, h2⟩, h3⟩ | h
  ·exact ⟨(P, na, nb), mS, h1, h2, h3⟩
  ·obtain ⟨F, hF, h'⟩ := nY h
   exact ⟨F, mC _ hF, h'⟩
theorem og {lo : Nat} {st : St} : ∀ {Fs : List (St × Lin × Lin)}, pz lo st Fs = true → ∃ F, F ∈ Fs ∧ i3 lo F.1.n st.n (eF lo F.1.n 0 st st.env F.1) = true ∧ ∃ rest, mo st (eF lo F.1.n 0 st st.env F.1) st.env F.1 = some rest
 | [], h => by cases h
 | (P, na, nb) :: r, h => by
  simp only [pz, Bool.or_eq_true, aT, Option.isSome_iff_exists] at h
  rcases h with ⟨h1, h2⟩ | h
  ·exact ⟨(P, na, nb), mS, h1, h2⟩
  ·obtain ⟨F, hF, h'⟩ := og h
   exact ⟨F, mC _ hF, h'⟩
theorem nG {lo : Nat} : ∀ {Fs : List (St × Lin × Lin)}, mA lo Fs = true → ∀ F, F ∈ Fs → iZ F.1 = true ∧ lo ≤ F.1.n ∧ F.2.1.s < F.1.n ∧ F.2.2.s < F.1.n
 | [], h, F, hF => by cases hF
 | (P, na, nb) :: r, h, F, hF => by
  simp only [mA, aT, dT] at h
  rcases List.mem_cons.1 hF with rfl | hF
  ·exact ⟨h.1.1.1.1, h.1.1.1.2, h.1.1.2, h.1.2⟩
  ·exact nG h.2 F hF
theorem pq (s : Sat X v st env h) {lo : Nat} {P : St} {θ : Sub} {as : List AV} {rest : List BE} (so : SubOK lo P.n st.n θ) (hlo : 0 < lo) (hP : 0 < P.n) (hm : mo st θ as P = some rest) (hc : iZ P = true) {fs : List Fact} (hfs : ∀ w, Agr lo v w → ∀ f, f ∈ fs → FOK w f) (hl : lo ≤ P.n) :
  Agr lo v (v.comp θ) ∧ Sat X (v.comp θ) { P with fa := P.fa ++ fs } (aH v as) h := by
 have s0 := s.now
 have m := lr s0 hm
 have hz : 0 < θ.lo := by rw [so.elo]; exact hlo
 have s1 := m.sat0 s0 hz (so.i 0 (.inl hlo))
 exact ⟨so.agr v, Sat.ofClosed hc hP s1 (fun w hw f hf => hfs w ((so.agr v).trans hw hl) f hf)⟩
end
end
end Ce.S
namespace Ce.S
noncomputable section
open Go
section
variable {tbl : Nat → Option IF} {X : Cx} {v : V} {st : St} {env : List CV} {h : H}
theorem mT (w : V) : ∀ (ps : List Nat) (env vs e : List AV), ij env ps vs = some e → ed (aH w env) ps (aH w vs) = some (aH w e)
 | [], env, [], e, h => by simp only [ij, sI] at h; subst h; rfl
 | p :: ps, env, a :: vs, e, h => by
  simp only [ij] at h
  have := mT w ps (mW env p a) vs e h
  rw [← gg] at this
  simp only [aH, ed]
  exact this
 | [], env, a :: vs, e, h => by simp [ij] at h
 | p :: ps, env, [], e, h => by simp [ij] at h
theorem rK {b t : Nat} {bl : List BE} {s : Nat} {J : List Jump} (hr : fN b t bl = some (s, J)) : av b bl = some (.loop b t s J) := by
 unfold fN at hr
 split at hr
 ·rename_i b' t' s' J' hl
  split at hr
  ·rename_i ht; subst ht
   simp only [sI, pI] at hr
   obtain ⟨rfl, rfl⟩ := hr
   have := (lookB_mem hl).2
   simp only [cJ] at this; subst this
   exact hl
  ·cases hr
 ·cases hr
theorem jN (s : Sat X v st env h) {l t ls : Nat} {J : List Jump} (hr : fN l t st.bl = some (ls, J)) (hl : l < st.n) (hls : ls < st.n) : ∃ pend, h.get (v.b l) = some (.loop (lst? t) pend (v.l ls).env (v.l ls).ps (v.l ls).a (v.l ls).b) ∧ (t = 0 → pend = none) ∧ (t = 1 → pend ≠ none) ∧ (∀ j, pend = some j → j ∈ J) ∧
  ∀ (t' : Nat) (pend' : Option Jump), (t' = 0 → pend' = none) → (t' = 1 → pend' ≠ none) → (∀ j, pend' = some j → j ∈ J) → Sat X v (sT l t' ls J st) env (h.put (v.b l) (.loop (lst? t') pend' (v.l ls).env (v.l ls).ps (v.l ls).a (v.l ls).b)) := by
 have hb := rK hr
 obtain ⟨pend, hg, p1, p2, p3⟩ := (s.now.blk hb).1
 refine ⟨pend, hg, p1, p2, p3, fun t' pend' q1 q2 q3 => ⟨s.pos, fun u hu => ?_⟩⟩
 have su := s.all u hu
 have e1 := (hu l hl).2.2.1
 have e2 := (hu ls hls).2.2.2
 have := su.put hb (q := .loop l t' ls J) (blk := .loop (lst? t') pend' (v.l ls).env (v.l ls).ps (v.l ls).a (v.l ls).b) rfl rfl ⟨pend', by rw [get_put, if_pos rfl, e2], q1, q2, q3⟩
 rw [← e1] at this
 exact this
theorem zo (s : Sat X v st env h) {l t ls : Nat} {J : List Jump} (hr : fN l t st.bl = some (ls, J)) (hl : l < st.n) (blk : Blk) : Sat X v (oh l st) env (h.put (v.b l) blk) := by
 have hb := rK hr
 refine ⟨s.pos, fun u hu => ?_⟩
 have su := s.all u hu
 have e1 := (hu l hl).2.2.1
 obtain ⟨_, l1, l2, hbl, hm⟩ := cT hb
 have := su.upd (l1 := l1) (P := [.loop l t ls J]) (P' := []) (l2 := l2) (h' := h.put (v.b l) blk) hbl (Nat.le_refl _) (fun j _ hj => by
  rw [get_put, if_neg]
  rintro rfl
  exact hj (by simp [adr, e1])) (fun q hq => by cases hq) (by simp) (fun a ha => by simp at ha)
 rw [← hm] at this
 exact this
theorem ir {lb ls : Nat} {J : List Jump} {lo : Nat} {posts : List (AV × St)} : ∀ {outs : cL}, iN lb ls J lo posts outs = true → ∀ ex s, (ex, s) ∈ outs → fN lb 2 s.bl = some (ls, J) ∧ (match ex with
  | .nor => eJ lo (sT lb 0 ls J s) (.bool true) posts = true
  | .jmp j => j ∈ J ∧ eJ lo (sT lb 1 ls J s) (.bool false) posts = true)
 | [], _, ex, s, hm => by cases hm
 | (.nor, s1) :: r, h, ex, s, hm => by
  simp only [iN, aT, beq_iff_eq] at h
  rcases List.mem_cons.1 hm with hm | hm
  ·cases hm; exact ⟨h.1.1, h.1.2⟩
  ·exact ir h.2 ex s hm
 | (.jmp j, s1) :: r, h, ex, s, hm => by
  simp only [iN, aT, beq_iff_eq, List.contains_iff_mem] at h
  rcases List.mem_cons.1 hm with hm | hm
  ·cases hm; exact ⟨h.1.1.1, h.1.1.2, h.1.2⟩
  ·exact ir h.2 ex s hm
theorem iq {lb ls : Nat} {J : List Jump} {env : List AV} : ∀ {outs : List (AV × St)} {r : cL}, lh lb ls J env outs = some r → ∀ o, o ∈ outs → (fN lb 0 o.2.bl = some (ls, J) ∧ (Ex.nor, { oh lb o.2 with env := env }) ∈ r) ∨ (fN lb 1 o.2.bl = some (ls, J) ∧ ∀ j, j ∈ J → (Ex.jmp j, { oh lb o.2 with env := env }) ∈ r)
 | [], r, h, o, ho => by cases ho
 | (a, s) :: outs, r, h, o, ho => by
  simp only [lh] at h
  split at h
  ·cases h
  ·rename_i l hl
   split at h
   ·rename_i h0
    simp only [sI] at h; subst h
    rcases List.mem_cons.1 ho with rfl | ho
    ·exact .inl ⟨by simpa using h0, mS⟩
    ·rcases iq hl o ho with ⟨h1, h2⟩ | ⟨h1, h2⟩
     ·exact .inl ⟨h1, mC _ h2⟩
     ·exact .inr ⟨h1, fun j hj => mC _ (h2 j hj)⟩
   ·split at h
    ·rename_i h1
     simp only [sI] at h; subst h
     rcases List.mem_cons.1 ho with rfl | ho
     ·exact .inr ⟨by simpa using h1, fun j hj => List.mem_append_left _ (List.mem_map.2 ⟨j, hj, rfl⟩)⟩
     ·rcases iq hl o ho with ⟨h1, h2⟩ | ⟨h1, h2⟩
      ·exact .inl ⟨h1, List.mem_append_right _ h2⟩
      ·exact .inr ⟨h1, fun j hj => List.mem_append_right _ (h2 j hj)⟩
    ·cases h
theorem vQ {c : IC} {Γ : List Con} {body : St → Hs → Option (cL × Hs)} (hb : ∀ (st : St) (hs hs' : Hs) (outs : cL), body st hs = some (outs, hs') → ∀ (v : V) (env : List CV) (h : H), Sat X v st env h → GOK tbl v st.n Γ → Wc tbl c env h (CQ X v st outs)) :
  ∀ (n : Nat) (st : St) (hs hs' : Hs) (outs : cL), l7 body n st hs = some (outs, hs') → ∀ (v : V) (env : List CV) (h : H), Sat X v st env h → GOK tbl v st.n Γ → Wc tbl (.loop c) env h (CQ X v st outs) := by
 intro n
 induction n with
 | zero => intro st hs hs' outs ho; cases ho
 | succ n ih =>
  intro st hs hs' outs ho v env h s g
  simp only [l7] at ho
  split at ho
  ·rename_i outs1 hs1 h1
   refine rx ((hb st hs hs1 outs1 h1 v env h s g).mono ?_)
   rintro ex e h' ⟨st', hm, w, hw, hn, sat⟩
   obtain ⟨k1, k2, r, hr, hsub⟩ := cS ho (ex, st') hm
   cases ex with
   | nor =>
    have := ih st' k1 k2 r hr w e h' sat (g.mono hw hn)
    exact this.mono (fun x e h'' q => q.up hw hn hsub)
   | jmp j =>
    simp only [sI, pI] at hr
    obtain ⟨rfl, _⟩ := hr
    exact ⟨st', hsub _ mS, w, hw, hn, sat⟩
  ·cases ho
theorem eP {w : V} {st' : St} {e env' : List CV} (s : Sat X w st' e h) {as : List AV} (he : ∀ u, Agr st'.n w u → env' = aH u as) : Sat X w { st' with env := as } env' h :=
 ⟨s.pos, fun u hu => let a := s.all u hu; ⟨a.z, he u hu, a.fa, a.bl, a.nd, a.lt, a.hn, a.fr⟩⟩
theorem rC {c : IC} {Γ : List Con} {body : St → Hs → Option (cL × Hs)} (hb : ∀ (st : St) (hs hs' : Hs) (outs : cL), body st hs = some (outs, hs') → ∀ (v : V) (env : List CV) (h : H), Sat X v st env h → GOK tbl v st.n Γ → Wc tbl c env h (CQ X v st outs)) :
  ∀ (n : Nat) (st : St) (hs hs' : Hs) (outs : cL), uP body n st hs = some (outs, hs') → ∀ (v : V) (env : List CV) (h : H), Sat X v st env h → GOK tbl v st.n Γ → Wc tbl (.loop c) env h (CQ X v st outs) := by
 intro n st hs hs' outs ho v env h s g
 unfold uP at ho
 dsimp (config := { zeta := true }) only at ho
 split at ho
 ·exact vQ hb n st _ hs' outs ho v env h s g
 ·rename_i P ma mb hs1
  split at ho
  ·rename_i hc
   simp only [aT, dT, Option.isSome_iff_exists] at hc
   obtain ⟨⟨⟨⟨⟨c1, c2⟩, c3⟩, rest, c4⟩, c5⟩, c6⟩ := hc
   split at ho
   ·rename_i outs1 hs2 hbody
    split at ho
    ·rename_i r hbk
     simp only [sI, pI] at ho
     obtain ⟨rfl, _⟩ := ho
     have hPn : 0 < P.n := Nat.lt_of_lt_of_le s.pos c3
     have so := f5 c1
     have hfs : ∀ (w : V), Agr st.n v w → ∀ f, f ∈ st.fa → FOK w f := fun w hw f hf => (s.all w hw).fa f hf
     obtain ⟨ag0, s1⟩ := pq s so s.pos hPn c4 c2 hfs c3
     rw [← s.now.env] at s1
     refine gS (I := fun m e h' => ∃ W, Agr st.n v W ∧ Sat X W { P with fa := P.fa ++ st.fa } e h' ∧ (ma.ev W - mb.ev W).toNat = m) _ ⟨_, ag0, s1, rfl⟩ ?_
     rintro m e h' ⟨W, hW, sW, rfl⟩
     have gW : GOK tbl W P.n Γ := g.mono hW c3
     refine (hb { P with fa := P.fa ++ st.fa } hs1 hs2 outs1 hbody W e h' sW gW).mono ?_
     rintro ex e2 h2 ⟨st2, hm2, w2, hw2, hn2, sat2⟩
     cases ex with
     | jmp j =>
      exact ⟨upg st2, kr hbk st2 hm2, w2, hW.trans hw2 c3, Nat.le_trans c3 hn2, wq sat2⟩
     | nor =>
      have hbk2 := kq hbk st2 hm2
      unfold tQ at hbk2
      dsimp only at hbk2
      generalize hθ : eF st.n P.n 0 st2 st2.env P = θ at hbk2
      simp only [aT, Option.isSome_iff_exists] at hbk2
      obtain ⟨⟨b1, rest2, b2⟩, b3⟩ := hbk2
      have so2 := f5 b1
      have hfs2 : ∀ (w : V), Agr st.n w2 w → ∀ f, f ∈ st.fa → FOK w f := fun w hw f hf => (s.all w ((hW.trans hw2 c3).trans hw (Nat.le_refl _))).fa f hf
      obtain ⟨ag2, s2⟩ := pq sat2 so2 s.pos hPn b2 c2 hfs2 c3
      rw [← sat2.now.env] at s2
      have hl := kW sat2.now.fa b3 ma mb rfl
      rw [bA, bA] at hl
      have e1 : ma.ev w2 = ma.ev W := (Lin.agr hw2 c5).symm
      have e3 : mb.ev w2 = mb.ev W := (Lin.agr hw2 c6).symm
      exact ⟨_, by omega, w2.comp θ, (hW.trans hw2 c3).trans ag2 (Nat.le_refl _), s2, rfl⟩
    ·cases ho
   ·cases ho
  ·cases ho
 ·rename_i Fs hs1
  split at ho
  ·rename_i hc
   simp only [aT] at hc
   have hfo := nG hc.1
   obtain ⟨F0, hF0, c1, rest, c4⟩ := og hc.2
   have hfs : ∀ (w : V), Agr st.n v w → ∀ f, f ∈ st.fa → FOK w f := fun w hw f hf => (s.all w hw).fa f hf
   have hpos : ∀ F, F ∈ Fs → 0 < F.1.n := fun F hF => Nat.lt_of_lt_of_le s.pos (hfo F hF).2.1
   have so := f5 c1
   obtain ⟨ag0, s1⟩ := pq s so s.pos (hpos F0 hF0) c4 (hfo F0 hF0).1 hfs (hfo F0 hF0).2.1
   rw [← s.now.env] at s1
   refine gS (I := fun m e h' => ∃ F, F ∈ Fs ∧ ∃ W, Agr st.n v W ∧ Sat X W { F.1 with fa := F.1.fa ++ st.fa } e h' ∧ (F.2.1.ev W - F.2.2.ev W).toNat = m) _ ⟨F0, hF0, _, ag0, s1, rfl⟩ ?_
   rintro m e h' ⟨F, hF, W, hW, sW, rfl⟩
   obtain ⟨f1, f2, f3, f4⟩ := hfo F hF
   have gW : GOK tbl W F.1.n Γ := g.mono hW f2
   obtain ⟨k1, k2, r, hr, hsub⟩ := cS ho F hF
   split at hr
   ·rename_i outs1 hs2 hbody
    split at hr
    ·rename_i r' hbk
     simp only [sI, pI] at hr
     obtain ⟨rfl, _⟩ := hr
     refine (hb { F.1 with fa := F.1.fa ++ st.fa } k1 hs2 outs1 hbody W e h' sW gW).mono ?_
     rintro ex e2 h2 ⟨st2, hm2, w2, hw2, hn2, sat2⟩
     have hw2' : Agr F.1.n W w2 := hw2
     have hn2' : F.1.n ≤ st2.n := hn2
     cases ex with
     | jmp j =>
      exact ⟨upg st2, hsub _ (jD hbk st2 hm2), w2, hW.trans hw2' f2, Nat.le_trans f2 hn2', wq sat2⟩
     | nor =>
      obtain ⟨G, hG, b1, ⟨rest2, b2⟩, b3⟩ := nY (jC hbk st2 hm2)
      generalize hθ : eF st.n G.1.n 0 st2 st2.env G.1 = θ at b1 b2 b3
      obtain ⟨g1, g2, g3, g4⟩ := hfo G hG
      have so2 := f5 b1
      have hfs2 : ∀ (w : V), Agr st.n w2 w → ∀ f, f ∈ st.fa → FOK w f := fun w hw f hf => (s.all w ((hW.trans hw2' f2).trans hw (Nat.le_refl _))).fa f hf
      obtain ⟨ag2, s2⟩ := pq sat2 so2 s.pos (hpos G hG) b2 g1 hfs2 g2
      rw [← sat2.now.env] at s2
      have hl := kW sat2.now.fa b3 F.2.1 F.2.2 rfl
      rw [bA, bA] at hl
      have e1 : F.2.1.ev w2 = F.2.1.ev W := (Lin.agr hw2' f3).symm
      have e3 : F.2.2.ev w2 = F.2.2.ev W := (Lin.agr hw2' f4).symm
      exact ⟨_, by omega, G, hG, w2.comp θ, (hW.trans hw2' f2).trans ag2 (Nat.le_refl _), s2, rfl⟩
    ·cases hr
   ·cases hr
  ·cases ho
 ·cases ho
theorem yh {c : IC} {Γ : List Con} {body : St → Hs → Option (cL × Hs)} (hb : ∀ (st : St) (hs hs' : Hs) (outs : cL), body st hs = some (outs, hs') → ∀ (v : V) (env : List CV) (h : H), Sat X v st env h → GOK tbl v st.n Γ → Wc tbl c env h (CQ X v st outs)) :
  ∀ (n : Nat) (st : St) (hs hs' : Hs) (outs : cL), yi body n st hs = some (outs, hs') → ∀ (v : V) (env : List CV) (h : H), Sat X v st env h → GOK tbl v st.n Γ → Wc tbl (.loop c) env h (CQ X v st outs) := by
 intro n st hs hs' outs ho v env h s g
 unfold yi at ho
 split at ho
 ·rename_i hs0
  split at ho
  ·rename_i outs1 hs1 h1
   refine rx ((hb st hs0 hs1 outs1 h1 v env h s g).mono ?_)
   rintro ex e h' ⟨st', hm, w, hw, hn, sat⟩
   obtain ⟨k1, k2, r, hr, hsub⟩ := cS ho (ex, st') hm
   cases ex with
   | nor =>
    have := rC hb n st' k1 k2 r hr w e h' sat (g.mono hw hn)
    exact this.mono (fun x e h'' q => q.up hw hn hsub)
   | jmp j =>
    simp only [sI, pI] at hr
    obtain ⟨rfl, _⟩ := hr
    exact ⟨st', hsub _ mS, w, hw, hn, sat⟩
  ·cases ho
 ·exact rC hb n st hs hs' outs ho v env h s g
theorem qEH {callG : List Con → i9} (hcall : ∀ Γ, CallOK tbl Γ (callG Γ)) (n : Nat) : ∀ (c : IC) (X : Cx) (Γ : List Con) (st : St) (hs hs' : Hs) (outs : cL), sC callG n c Γ st hs = some (outs, hs') → ∀ (v : V) (env : List CV) (h : H), Sat X v st env h → GOK tbl v st.n Γ → Wc tbl c env h (CQ X v st outs) := by
 intro c
 induction c with
 | skip =>
  intro X Γ st hs hs' outs ho v env h s g
  simp only [sC, sI, pI] at ho
  obtain ⟨rfl, _⟩ := ho
  exact dN ⟨st, mS, v, Agr.refl _ _, Nat.le_refl _, s⟩
 | exit id =>
  intro X Γ st hs hs' outs ho v env h s g
  simp only [sC, sI, pI] at ho
  obtain ⟨rfl, _⟩ := ho
  exact iW ⟨st, mS, v, Agr.refl _ _, Nat.le_refl _, s⟩
 | ret =>
  intro X Γ st hs hs' outs ho v env h s g
  simp only [sC, sI, pI] at ho
  obtain ⟨rfl, _⟩ := ho
  exact ng ⟨st, mS, v, Agr.refl _ _, Nat.le_refl _, s⟩
 | ops l =>
  intro X Γ st hs hs' outs ho v env h s g
  simp only [sC] at ho
  split at ho
  ·rename_i outs1 hs1 h1
   simp only [sI, pI] at ho
   obtain ⟨rfl, _⟩ := ho
   obtain ⟨k, e, h', hr, st', hm, w, hw, hn, sat⟩ := qBR (hcall Γ) l st hs hs1 outs1 h1 v env h s g
   exact ac ⟨k, e, h', hr, st', List.mem_map.2 ⟨st', hm, rfl⟩, w, hw, hn, sat⟩
  ·cases ho
 | seq a b iha ihb =>
  intro X Γ st hs hs' outs ho v env h s g
  simp only [sC] at ho
  split at ho
  ·rename_i outs1 hs1 h1
   refine aX ((iha X Γ st hs hs1 outs1 h1 v env h s g).mono ?_)
   rintro ex e h' ⟨st', hm, w, hw, hn, sat⟩
   obtain ⟨k1, k2, r, hr, hsub⟩ := cS ho (ex, st') hm
   cases ex with
   | nor =>
    have := ihb X Γ st' k1 k2 r hr w e h' sat (g.mono hw hn)
    exact this.mono (fun x e h'' q => q.up hw hn hsub)
   | jmp j =>
    simp only [sI, pI] at hr
    obtain ⟨rfl, _⟩ := hr
    exact ⟨st', hsub _ mS, w, hw, hn, sat⟩
  ·cases ho
 | cond x a b iha ihb =>
  intro X Γ st hs hs' outs ho v env h s g
  simp only [sC] at ho
  split at ho
  ·rename_i t
   split at ho
   ·rename_i T F hc
    split at ho
    ·rename_i r1 hs1 hm1
     split at ho
     ·rename_i r2 hs2 hm2
      simp only [sI, pI] at ho
      obtain ⟨rfl, _⟩ := ho
      obtain ⟨bb, hbb, st', hst', s', hn'⟩ := rc s hc
      have g' : GOK tbl v st'.n Γ := by rw [hn']; exact g
      refine dG bb hbb (fun hb => ?_) (fun hb => ?_)
      ·subst hb
       obtain ⟨k1, k2, r, hr, hsub⟩ := cS hm1 st' (by simpa using hst')
       exact (iha X Γ st' k1 k2 r hr v env h s' g').mono (fun x e h'' q => q.up (Agr.refl _ _) (by omega) (fun y hy => List.mem_append_left _ (hsub y hy)))
      ·subst hb
       obtain ⟨k1, k2, r, hr, hsub⟩ := cS hm2 st' (by simpa using hst')
       exact (ihb X Γ st' k1 k2 r hr v env h s' g').mono (fun x e h'' q => q.up (Agr.refl _ _) (by omega) (fun y hy => List.mem_append_right _ (hsub y hy)))
     ·cases ho
    ·cases ho
   ·cases ho
  ·exact dG true rfl (fun _ => iha X Γ st hs hs' outs ho v env h s g) (fun hb => by cases hb)
  ·exact dG false rfl (fun hb => by cases hb) (fun _ => ihb X Γ st hs hs' outs ho v env h s g)
  ·cases ho
 | block id c ih =>
  intro X Γ st hs hs' outs ho v env h s g
  simp only [sC] at ho
  split at ho
  ·rename_i outs1 hs1 h1
   simp only [sI, pI] at ho
   obtain ⟨rfl, _⟩ := ho
   refine dB ((ih X Γ st hs hs1 outs1 h1 v env h s g).mono ?_)
   rintro ex e h' ⟨st', hm, w, hw, hn, sat⟩
   have hmap := List.mem_map_of_mem (f := fun x : Ex × St => match x with
    | (.jmp (.exit i), st) => if i = id then (Ex.nor, st) else (.jmp (.exit i), st)
    | x => x) hm
   match ex, hmap with
   | .nor, hmap => exact ⟨st', hmap, w, hw, hn, sat⟩
   | .jmp .ret, hmap => exact ⟨st', hmap, w, hw, hn, sat⟩
   | .jmp (.exit i), hmap =>
    simp only [fX]
    dsimp only at hmap
    by_cases hi : i = id
    ·rw [if_pos hi] at hmap ⊢; exact ⟨st', hmap, w, hw, hn, sat⟩
    ·rw [if_neg hi] at hmap ⊢; exact ⟨st', hmap, w, hw, hn, sat⟩
  ·cases ho
 | loop c ih =>
  intro X Γ st hs hs' outs ho v env h s g
  simp only [sC] at ho
  exact yh (fun st hs hs' outs hb v env h s g => ih X Γ st hs hs' outs hb v env h s g) n st hs hs' outs ho v env h s g
 | rangeF f ps a b iha ihb =>
  intro X Γ st hs hs' outs ho v env h s g
  simp only [sC] at ho
  split at ho <;> (try (cases ho; done))
  rename_i fn x y J P posts hs1 hf
  split at ho
  ·rename_i hc
   simp only [aT, dT, beq_iff_eq] at hc
   obtain ⟨⟨c1, c2⟩, c3⟩ := hc
   split at ho
   ·rename_i e he
    split at ho
    ·rename_i outsA hsA hA
     split at ho
     ·rename_i outsB hsB hB
      split at ho
      ·rename_i hends
       split at ho
       ·rename_i outs1 hs2 hF
        split at ho
        ·rename_i r hr
         simp only [sI, pI] at ho
         obtain ⟨rfl, _⟩ := ho
         have s0 := s.now
         let v1 : V := v.up st.n (v.i st.n) (v.c st.n) h.n ⟨env, ps, a, b⟩
         have hv1 : Agr st.n v v1 := bj _ _ _ _ _ _
         have at1 : ∀ u, Agr (st.n + 1) v1 u → Agr st.n v u ∧ u.b st.n = h.n ∧ u.l st.n = ⟨env, ps, a, b⟩ := fun u hu => by
          obtain ⟨x1, _, _, x4, x5⟩ := bB hu
          exact ⟨x1, x4, x5⟩
         have s1 : Sat X v1 { st with n := st.n + 1, bl := .loop st.n 0 st.n J :: st.bl } env (h.push (.loop .ready none env ps a b)) := by
          refine ⟨Nat.succ_pos _, fun u hu => ?_⟩
          obtain ⟨x1, x2, x3⟩ := at1 u hu
          have := ((s.all u x1).wk' (st.n + 1)).push (q := .loop st.n 0 st.n J) (blk := .loop .ready none env ps a b) (by simp only [adr, x2]) ⟨none, by rw [x2, x3, dK, if_pos rfl]; rfl, fun _ => rfl, (fun h => by cases h), (fun j h => by cases h)⟩
          exact this
         have hY : GOK1 tbl v1 (st.n + 1) (vK st.n P posts) := by
          refine ⟨Nat.succ_pos _, Nat.le_refl _, fun _ => Nat.lt_succ_self _, c1, (fun a b h => by cases h), ?_⟩
          intro W args h1 hW sP _
          obtain ⟨x1, x2, x3⟩ := at1 W hW
          have hPn : 0 < P.n := by omega
          have sC1 : Sat (FrX W P h1) W { P with fa := P.fa ++ st.fa } args h1 := Sat.ofClosed c1 hPn sP (fun w hw f hf => (s.all w (x1.trans hw (by omega))).fa f hf)
          have envs : ∀ u, Agr P.n W u → ed env ps args = some (aH u e) := fun u hu => by
           have e1 := mT u ps st.env P.env e he
           rw [← (s.all u (x1.trans hu (by omega))).env, ← (sC1.all u hu).env] at e1
           exact e1
          have eW := envs W (Agr.refl _ _)
          have sE : Sat (FrX W P h1) W { P with env := e, fa := P.fa ++ st.fa } (aH W e) h1 := eP sC1 (fun u hu => by have := envs u hu; rw [eW, sI] at this; exact this)
          have hlP : st.n < P.n := by omega
          obtain ⟨pend, hg, p1, _, _, _⟩ := jN (ls := st.n) sE c3 hlP hlP
          rw [x2, x3] at hg
          have htg : tgt v1 (vK st.n P posts) = .yl h.n := by
           have := (at1 v1 (Agr.refl _ _)).2.1
           simp only [tgt, vK, if_true, this]
          rw [htg]
          refine Wf_yl hg eW ?_
          have gW : GOK tbl W P.n Γ := g.mono x1 (by omega)
          refine (iha (FrX W P h1) Γ { P with env := e, fa := P.fa ++ st.fa } hs1 hsA outsA hA W (aH W e) h1 sE gW).mono ?_
          rintro ex e1 h2 ⟨st2, hm2, w2, hw2, hn2, sat2⟩
          obtain ⟨k1, k2, rr, hrr, hsub⟩ := cS hB (ex, st2) hm2
          cases ex with
          | jmp j => cases hrr
          | nor =>
           dsimp only at hrr hn2
           split at hrr
           ·rename_i hrdy
            simp only [beq_iff_eq] at hrdy
            have hl2 : st.n < st2.n := by omega
            obtain ⟨pend2, hg2, q1, _, _, put2⟩ := jN (ls := st.n) sat2 hrdy hl2 hl2
            have b2 : w2.b st.n = h.n := by rw [← (hw2 st.n hlP).2.2.1, x2]
            have l2 : w2.l st.n = ⟨env, ps, a, b⟩ := by rw [← (hw2 st.n hlP).2.2.2, x3]
            have hp2 : pend2 = none := q1 rfl
            subst hp2
            have sB := put2 2 none (fun h => by cases h) (fun h => by cases h) (fun j h => by cases h)
            rw [b2, l2] at hg2 sB
            refine ⟨rfl, none, env, ps, a, b, hg2, ?_⟩
            have g2 : GOK tbl w2 st2.n Γ := gW.mono hw2 hn2
            refine (ihb (FrX W P h1) Γ (sT st.n 2 st.n J st2) k1 k2 rr hrr w2 e1 _ sB g2).mono ?_
            rintro ex3 e3 h3 ⟨st3, hm3, w3, hw3, hn3, sat3⟩
            obtain ⟨rd3, fit3⟩ := ir hends ex3 st3 (hsub _ hm3)
            have hn3' : st2.n ≤ st3.n := hn3
            have hw3' : Agr st2.n w2 w3 := hw3
            have hl3 : st.n < st3.n := by omega
            obtain ⟨pend3, hg3, _, _, _, put3⟩ := jN (ls := st.n) sat3 rd3 hl3 hl3
            have b3 : w3.b st.n = h.n := by rw [← (hw3' st.n hl2).2.2.1, b2]
            have l3 : w3.l st.n = ⟨env, ps, a, b⟩ := by rw [← (hw3' st.n hl2).2.2.2, l2]
            rw [b3, l3] at hg3
            refine ⟨_, _, _, _, _, _, hg3, ?_⟩
            have hWw3 : Agr P.n W w3 := hw2.trans hw3' hn2
            cases ex3 with
            | nor =>
             dsimp only at fit3 ⊢
             have sF := put3 0 none (fun _ => rfl) (fun h => by cases h) (fun j h => by cases h)
             rw [b3, l3] at sF
             obtain ⟨o, ho, u, hu, hon, hsat, hden⟩ := dq sF (show P.n ≤ _ from by show P.n ≤ st3.n; omega) hPn fit3
             exact ⟨o, ho, u, hWw3.trans hu (Nat.le_refl _), hon, hsat, hden⟩
            | jmp j =>
             dsimp only at fit3 ⊢
             have sF := put3 1 (some j) (fun h => by cases h) (fun _ h => by cases h) (fun j' h => by cases h; exact fit3.1)
             rw [b3, l3] at sF
             obtain ⟨o, ho, u, hu, hon, hsat, hden⟩ := dq sF (show P.n ≤ _ from by show P.n ≤ st3.n; omega) hPn fit3.2
             exact ⟨o, ho, u, hWw3.trans hu (Nat.le_refl _), hon, hsat, hden⟩
           ·cases hrr
         have g1 : GOK tbl v1 (st.n + 1) (vK st.n P posts :: Γ) := GOK.cons hY (g.mono hv1 (Nat.le_succ _))
         have hclo : ∀ u, Agr (st.n + 1) v1 u → f.ev env = .clo fn (aH u x) (aH u y) := fun u hu => (s.all u (at1 u hu).1).op hf
         have hrob : ∀ u, Agr (st.n + 1) v1 u → aH u (x ++ [.yld st.n] ++ y) = aH v1 (x ++ [.yld st.n] ++ y) ∧ tgT u (.fn fn) = tgT v1 (.fn fn) := fun u hu => by
          have e1 := hclo u hu
          rw [hclo v1 (Agr.refl _ _)] at e1
          simp only [CV.clo.injEq, true_and] at e1
          refine ⟨?_, rfl⟩
          simp only [cw, e1.1, e1.2, aH, den, (at1 u hu).2.1, (at1 v1 (Agr.refl _ _)).2.1]
         have hw := hcall (vK st.n P posts :: Γ) (.fn fn) (x ++ [.yld st.n] ++ y) _ _ outs1 hs2 hF X v1 env _ s1 g1 hrob
         refine w6 (hclo v1 (Agr.refl _ _)) ?_
         have hargs : aH v1 (x ++ [.yld st.n] ++ y) = aH v1 x ++ [CV.yld h.n] ++ aH v1 y := by
          simp only [cw, aH, den, (at1 v1 (Agr.refl _ _)).2.1]
         rw [hargs] at hw
         refine hw.mono ?_
         rintro rv h1 ⟨o, ho, w, hw1, hn1, henv, sat, _⟩
         dsimp only at hn1 henv
         have hln : st.n < o.2.n := by omega
         have bw : w.b st.n = h.n := by rw [← (hw1 st.n (Nat.lt_succ_self _)).2.2.1]; exact (at1 v1 (Agr.refl _ _)).2.1
         have hvw : Agr st.n v w := hv1.trans hw1 (Nat.le_succ _)
         have fin : ∀ (t : Nat) (blk : Blk), fN st.n t o.2.bl = some (st.n, J) → Sat X w { oh st.n o.2 with env := st.env } env (h1.put h.n blk) := fun t blk hrd => by
          have := zo sat hrd hln blk
          rw [bw] at this
          exact eP this (fun u hu => (s.all u (hvw.trans hu (by show st.n ≤ o.2.n; omega))).env)
         rcases iq hr o ho with ⟨rd, hm⟩ | ⟨rd, hm⟩
         ·obtain ⟨pend, hg, p1, _, _, _⟩ := jN (ls := st.n) sat rd hln hln
          have hp := p1 rfl
          subst hp
          rw [bw] at hg
          exact ⟨_, none, _, _, _, _, hg, (fun h => by cases h), _, hm, w, hvw, by show st.n ≤ o.2.n; omega, fin 0 _ rd⟩
         ·obtain ⟨pend, hg, _, p2, p3, _⟩ := jN (ls := st.n) sat rd hln hln
          rw [bw] at hg
          cases pend with
          | none => exact absurd rfl (p2 rfl)
          | some j => exact ⟨_, some j, _, _, _, _, hg, (fun h => by cases h), _, hm j (p3 j rfl), w, hvw, by show st.n ≤ o.2.n; omega, fin 1 _ rd⟩
        ·cases ho
       ·cases ho
      ·cases ho
     ·cases ho
    ·cases ho
   ·cases ho
  ·cases ho
end
end
end Ce.S
namespace Ce.S
noncomputable section
open Go
section
variable {tbl : Nat → Option IF} {X : Cx} {v : V} {st : St} {env : List CV} {h : H}
theorem jT {w : V} (sw : Sat0 X w st env h) : ∀ {rs : List IRes} {l : List AV}, qe st rs = some l → resV rs env h = some (aH w l)
 | [], l, hr => by simp only [qe, sI] at hr; subst hr; rfl
 | .tmp t :: rs, l, hr => by
  simp only [qe, Option.map_eq_some_iff] at hr
  obtain ⟨l', h1, rfl⟩ := hr
  simp only [resV, jT sw h1, aH]
  rw [sw.env, dz]
 | .cell t g :: rs, l, hr => by
  simp only [qe] at hr
  split at hr
  ·rename_i x l' h1 h2
   simp only [sI] at hr; subst hr
   have e := sm sw h1
   simp only [resV, jT sw h2, aH]
   rw [show aM env t = den w (gZ st.env t) by rw [sw.env, dz], e]
  ·cases hr
theorem yT (w : V) : ∀ l : List AV, one? (aH w l) = den w (qCH l)
 | [] => rfl
 | [_] => rfl
 | _ :: _ :: _ => rfl
theorem r9 {F : IF} {env0 : List AV} : ∀ {outs : cL} {r : List (AV × St)}, uk F env0 outs = some r → ∀ ex s, (ex, s) ∈ outs → (ex = .nor ∨ ex = .jmp .ret) ∧ ∃ l, qe s F.res = some l ∧ (qCH l, { s with env := env0 }) ∈ r
 | [], r, h, ex, s, hm => by cases hm
 | (ex1, s1) :: outs, r, h, ex, s, hm => by
  simp only [uk] at h
  split at h
  ·cases h
  ·rename_i hne
   split at h
   ·rename_i l t h1 h2
    simp only [sI] at h; subst h
    rcases List.mem_cons.1 hm with hm | hm
    ·cases hm
     refine ⟨?_, l, h1, mS⟩
     match ex1, hne with
     | .nor, _ => exact .inl rfl
     | .jmp .ret, _ => exact .inr rfl
     | .jmp (.exit i), hne => exact absurd rfl (hne i)
    ·obtain ⟨h3, l', h4, h5⟩ := r9 h2 ex s hm
     exact ⟨h3, l', h4, mC _ h5⟩
   ·cases h
theorem f9 {callG : List Con → i9} (hcall : ∀ Γ, CallOK tbl Γ (callG Γ)) {n : Nat} {F : IF} {Γ : List Con} {as : List AV} {hs hs' : Hs} {outs : List (AV × St)} (ho : lA callG n F Γ as st hs = some (outs, hs')) (s : Sat X v st env h) (g : GOK tbl v st.n Γ) (hrob : ∀ u, Agr st.n v u → aH u as = aH v as) :
  Wb tbl F (aH v as) h (sA X v st env outs) := by
 unfold lA at ho
 split at ho
 ·rename_i outs1 hs1 hC
  split at ho
  ·rename_i r hr
   simp only [sI, pI] at ho
   obtain ⟨rfl, _⟩ := ho
   have sE : Sat X v { st with env := as ++ xk (F.ntmps - as.length) } (aH v as ++ bE (F.ntmps - (aH v as).length)) h := eP s (fun u hu => by
    rw [cw, hrob u hu, xj, ak])
   refine qAX ((qEH hcall n F.body X Γ _ hs hs1 outs1 hC v _ h sE g).mono ?_)
   rintro ex e h' ⟨st', hm, w, hw, hn, sat⟩
   dsimp only at hw hn
   obtain ⟨hex, l, hl, hmem⟩ := r9 hr ex st' hm
   have res : ∃ vs, resV F.res e h' = some vs ∧ sA X v st env r (one? vs) h' := by
    refine ⟨aH w l, jT sat.now hl, (qCH l, { st' with env := st.env }), hmem, w, hw, hn, rfl, eP sat (fun u hu => (s.all u (hw.trans hu hn)).env), fun u hu => ?_⟩
    have e1 := jT (sat.all u hu) hl
    rw [jT sat.now hl, sI] at e1
    rw [← yT, e1]
   rcases hex with rfl | rfl
   ·exact res
   ·exact res
  ·cases ho
 ·cases ho
theorem pM {as : List AV} {st : St} {r : List (AV × St)} : ∀ {Γ : List Con} {tg : Tg}, nk as st Γ tg = some r → ∃ c, c ∈ Γ ∧ (∀ w : V, tgt w c = tgT w tg) ∧ iG c as st = some r
 | [], tg, h => by cases tg <;> cases h
 | d :: Γ, .fn f, h => by
  have tl : nk as st Γ (.fn f) = some r → ∃ c, c ∈ d :: Γ ∧ (∀ w : V, tgt w c = tgT w (.fn f)) ∧ iG c as st = some r := fun h => by
   obtain ⟨c, h1, h2⟩ := pM h
   exact ⟨c, mC _ h1, h2⟩
  simp only [nk] at h
  split at h
  ·rename_i hc
   split at h
   ·rename_i x hx
    simp only [sI] at h; subst h
    exact ⟨d, mS, fun w => by simp only [tgt, hc.1, Bool.false_eq_true, if_false, hc.2, tgT], hx⟩
   ·exact tl h
  ·exact tl h
 | d :: Γ, .yl b, h => by
  have tl : nk as st Γ (.yl b) = some r → ∃ c, c ∈ d :: Γ ∧ (∀ w : V, tgt w c = tgT w (.yl b)) ∧ iG c as st = some r := fun h => by
   obtain ⟨c, h1, h2⟩ := pM h
   exact ⟨c, mC _ h1, h2⟩
  simp only [nk] at h
  split at h
  ·rename_i hc
   split at h
   ·rename_i x hx
    simp only [sI] at h; subst h
    exact ⟨d, mS, fun w => by simp only [tgt, hc.1, if_true, hc.2, tgT], hx⟩
   ·exact tl h
  ·exact tl h
theorem rO : ∀ {outs r : List (AV × St)}, ue outs = some r → ∀ o, o ∈ outs → ∃ x, frA o.1 { o.2 with env := [o.1] } = some x ∧ (x.1, { x.2 with env := o.2.env }) ∈ r
 | [], r, h, o, ho => by cases ho
 | (a, s) :: outs, r, h, o, ho => by
  simp only [ue] at h
  split at h
  ·rename_i x l h1 h2
   simp only [sI] at h; subst h
   rcases List.mem_cons.1 ho with rfl | ho
   ·exact ⟨x, h1, mS⟩
   ·obtain ⟨y, h3, h4⟩ := rO h2 o ho
    exact ⟨y, h3, mC _ h4⟩
  ·cases h
theorem pK {w : V} : ∀ (T : Ty) (c : CV), ah w T c → cln c = true
 | .int k lo hi, c, h => by obtain ⟨n, rfl, _⟩ := h; rfl
 | .bool, c, h => by obtain ⟨n, rfl⟩ := h; rfl
 | .str, c, h => by obtain ⟨n, rfl⟩ := h; rfl
 | .lst R lo hi, c, h => by
  simp only [ah] at h
  rcases h with ⟨rfl, _⟩ | ⟨rows, ex, rfl, _, _, hr⟩
  ·rfl
  ·have : ∀ l : List (List CV), (∀ r, r ∈ l → a8 w R r) → wQ l = true := by
    intro l
    induction l with
    | nil => intro _; rfl
    | cons r l ih =>
     intro hl
     have key : ∀ (R : List Ty) (cs : List CV), a8 w R cs → (∀ T, T ∈ R → ∀ c, ah w T c → cln c = true) → eK cs = true := by
      intro R
      induction R with
      | nil => intro cs h _; simp only [a8] at h; subst h; rfl
      | cons T Ts ihT =>
       intro cs h hT
       obtain ⟨c, cs', rfl, h1, h2⟩ := h
       simp only [eK, hT T mS c h1, ihT cs' h2 (fun T hm => hT T (mC _ hm)), Bool.and_self]
     simp only [wQ, key R r (hl r mS) (fun T hT c hc => pK T c hc), ih (fun r h => hl r (mC _ h)), Bool.and_self]
   simp only [cln, this rows hr]
 | .agg l, c, h => by
  obtain ⟨cs, rfl, hc⟩ := h
  have key : ∀ (R : List Ty) (cs : List CV), a8 w R cs → (∀ T, T ∈ R → ∀ c, ah w T c → cln c = true) → eK cs = true := by
   intro R
   induction R with
   | nil => intro cs h _; simp only [a8] at h; subst h; rfl
   | cons T Ts ihT =>
    intro cs h hT
    obtain ⟨c, cs', rfl, h1, h2⟩ := h
    simp only [eK, hT T mS c h1, ihT cs' h2 (fun T hm => hT T (mC _ hm)), Bool.and_self]
  simp only [cln, key l cs hc (fun T hT c hc => pK T c hc)]
theorem qF1 {w : V} {fa : List Fact} (hf : ∀ f, f ∈ fa → FOK w f) {a : AV} (hc : cl1 fa a = true) : cln (den w a) = true ∧ ∀ (k : Nat) (h : H), frz (k + 1) (den w a) h = some (den w a, h) := by
 cases a <;> simp only [cl1] at hc <;> (try (cases hc; done)) <;> (try exact ⟨rfl, fun _ _ => rfl⟩)
 rename_i s
 obtain ⟨T, h1, h2⟩ := cI hf hc
 exact ⟨pK T _ h2, fun k h => nh h2 h1 k h⟩
theorem ux {w : V} {fa : List Fact} (hf : ∀ f, f ∈ fa → FOK w f) : ∀ {l : List AV}, qDR fa l = true → eK (aH w l) = true ∧ ∀ (k : Nat) (h : H), frzL (frz (k + 1)) (aH w l) h = some (aH w l, h)
 | [], _ => ⟨rfl, fun _ _ => rfl⟩
 | a :: l, hc => by
  simp only [qDR, aT] at hc
  obtain ⟨h1, h2⟩ := qF1 hf hc.1
  obtain ⟨h3, h4⟩ := ux hf hc.2
  exact ⟨by simp only [aH, eK, h1, h3, Bool.and_self], fun k h => by simp only [aH, frzL, h2, h4]⟩
theorem zw {w : V} {fa : List Fact} (hf : ∀ f, f ∈ fa → FOK w f) {a : AV} (hc : zx fa a = true) : cln (den w a) = true ∧ ∀ (k : Nat) (h : H), frz (k + 2) (den w a) h = some (den w a, h) := by
 cases a <;> simp only [zx] at hc
 case agg l =>
  obtain ⟨h1, h2⟩ := ux hf hc
  exact ⟨by simp only [den, cln, h1], fun k h => by simp only [den]; unfold frz; simp only [h2]⟩
 all_goals (have := qF1 hf hc; exact ⟨this.1, fun k h => this.2 (k + 1) h⟩)
theorem oi {w : V} {fa : List Fact} (hf : ∀ f, f ∈ fa → FOK w f) : ∀ {l : List AV}, qD fa l = true → eK (aH w l) = true ∧ ∀ (k : Nat) (h : H), frzL (frz (k + 2)) (aH w l) h = some (aH w l, h)
 | [], _ => ⟨rfl, fun _ _ => rfl⟩
 | a :: l, hc => by
  simp only [qD, aT] at hc
  obtain ⟨h1, h2⟩ := zw hf hc.1
  obtain ⟨h3, h4⟩ := oi hf hc.2
  exact ⟨by simp only [aH, eK, h1, h3, Bool.and_self], fun k h => by simp only [aH, frzL, h2, h4]⟩
theorem qEF {w : V} {fa : List Fact} (hf : ∀ f, f ∈ fa → FOK w f) {a : AV} (hc : sc1 fa a = true) (k : Nat) (p : H × H) : xp (k + 1) (den w a) p = some (den w a, p) := by
 cases a <;> simp only [sc1] at hc <;> (try (cases hc; done)) <;> (try rfl)
 rename_i s
 obtain ⟨T, h1, h2⟩ := cI hf hc
 simp only [Bool.or_eq_true] at h1
 rcases h1 with h1 | h1
 ·obtain ⟨b, hb⟩ := fU hf _ _ h1 _ h2
  simp only [den, hb]; rfl
 ·obtain ⟨b, hb⟩ := fU hf _ _ h1 _ h2
  simp only [den, hb]; rfl
theorem tn {w : V} {fa : List Fact} (hf : ∀ f, f ∈ fa → FOK w f) : ∀ {l : List AV}, qBM fa l = true → ∀ (k : Nat) (p : H × H), xpL (xp (k + 1)) (aH w l) p = some (aH w l, p)
 | [], _, _, _ => rfl
 | a :: l, hc, k, p => by
  simp only [qBM, aT] at hc
  simp only [aH, xpL, qEF hf hc.1, tn hf hc.2]
theorem xL {w : V} {fa : List Fact} (hf : ∀ f, f ∈ fa → FOK w f) {a : AV} (hc : tm fa a = true) (k : Nat) (p : H × H) : xp (k + 2) (den w a) p = some (den w a, p) := by
 cases a <;> simp only [tm] at hc
 case tup l => simp only [den]; unfold xp; simp only [tn hf hc]
 all_goals exact qEF hf hc (k + 1) p
theorem nZ {st0 : St} : ∀ {outs r : List (AV × St)}, mG st0 outs = some r → ∀ o, o ∈ outs → tm o.2.fa o.1 = true ∧ (o.1, (⟨o.2.n, st0.env, o.2.fa, st0.bl⟩ : St)) ∈ r
 | [], r, h, o, ho => by cases ho
 | (a, s) :: outs, r, h, o, ho => by
  simp only [mG] at h
  split at h
  ·rename_i hs
   simp only [Option.map_eq_some_iff] at h
   obtain ⟨l, h1, rfl⟩ := h
   rcases List.mem_cons.1 ho with rfl | ho
   ·exact ⟨hs, mS⟩
   ·obtain ⟨h2, h3⟩ := nZ h1 o ho
    exact ⟨h2, mC _ h3⟩
  ·cases h
theorem iT {lo : Nat} {posts : List (AV × St)} : ∀ {outs : List (AV × St)}, kg lo posts outs = true → ∀ o, o ∈ outs → eJ lo o.2 o.1 posts = true
 | [], _, o, ho => by cases ho
 | (a, s) :: outs, h, o, ho => by
  simp only [kg, aT] at h
  rcases List.mem_cons.1 ho with rfl | ho
  ·exact h.1
  ·exact iT h.2 o ho
def EOK (tbl : Nat → Option IF) (E : List (Nat × List Ty × Ty)) : Prop := ∀ f Ts T, rU E f = some (Ts, T) → ∀ (v : V) (args : List CV) (h : H), v.i 0 = 0 → a8 v Ts args → Wf tbl (.fn f) args h fun r h' => h' = h ∧ ∀ w : V, w.i 0 = 0 → ah w T r
theorem ae.toF {outs : List (AV × St)} {c : CV} {h' : H} (p : ae X v st env outs (some (c, h'))) : sA X v st env outs c h' := by
 obtain ⟨o, ho, w, hw, hn, he, c', h2, hr, sat, hd⟩ := p
 simp only [sI, pI] at hr
 obtain ⟨rfl, rfl⟩ := hr
 exact ⟨o, ho, w, hw, hn, he, sat, hd⟩
theorem xW {E : List (Nat × List Ty × Ty)} (hE : EOK tbl E) : ∀ (n : Nat) (Γ : List Con), CallOK tbl Γ (sF tbl E n Γ) := by
 intro n
 induction n with
 | zero => intro Γ tg as st hs outs hs' ho; cases ho
 | succ n ih =>
  intro Γ tg as st hs outs hs' ho X v env h s g hrob
  have s0 := s.now
  simp only [sF] at ho
  split at ho
  ·rename_i r hc
   simp only [sI, pI] at ho
   obtain ⟨rfl, _⟩ := ho
   obtain ⟨c, hm, htg, hr⟩ := pM hc
   rw [← htg v]
   exact ov s (g c hm) (g c hm).pos hr
  ·split at ho
   ·cases ho
   ·rename_i f oY
    split at ho
    ·rename_i Ts T hfe
     split at ho
     ·rename_i hty
      simp only [sI, pI] at ho
      obtain ⟨rfl, _⟩ := ho
      refine (hE f Ts T hfe v (aH v as) h s0.z (gA s0.z s0.fa _ _ hty)).mono ?_
      rintro r h' ⟨rfl, hT⟩
      exact (dO s (r := some (r, h')) (c := r) rfl (fun w sw => hT w sw.z)).toF
     ·cases ho
    ·split at ho
     ·cases ho
     ·rename_i F hF
      split at ho
      ·rename_i P posts ma mb hs1 _
       split at ho
       ·rename_i hc
        obtain ⟨c2, c3, c4, c5, c6⟩ := hc
        split at ho
        ·rename_i outs1 hs2 hB
         split at ho
         ·rename_i hfit
          simp only [Option.map_eq_some_iff, pI] at ho
          obtain ⟨r, hr, rfl, _⟩ := ho
          have hPn : 0 < P.n := Nat.lt_of_lt_of_le s.pos c4
          have hall : ∀ (m : Nat) (W : V) (args : List CV) (h1 : H), Agr st.n v W → Sat0 (FrX W P h1) W P args h1 → (ma.ev W - mb.ev W).toNat ≤ m → Wf tbl (.fn f) args h1 (qF6 W (qh f st.n P posts ma mb none) h1) := by
           intro m
           induction m with
           | zero =>
            intro W args h1 hW sP hm
            have sC1 : Sat (FrX W P h1) W { P with fa := P.fa ++ st.fa } args h1 := Sat.ofClosed c3 hPn sP (fun w hw f hf => (s.all w (hW.trans hw c4)).fa f hf)
            have gW : GOK tbl W P.n (qh f st.n P posts ma mb (some (ma, mb)) :: Γ) := GOK.cons ⟨s.pos, c4, (fun h => by cases h), c3, (fun a b hab => by cases hab; exact ⟨c5, c6⟩), fun W' args' h' _ _ hl => by
             have := hl ma mb rfl; omega⟩ (g.mono hW c4)
            have := f9 (ih) hB sC1 gW (fun u hu => by
             simp only [iZ, aT] at c3
             exact (dr hu _ c3.1.1).symm)
            rw [← sP.env] at this
            refine tW hF c2 ?_
            obtain ⟨k, rv, h2, hrun, o, ho, w, hw, hn, _, sat, hd⟩ := this
            refine ⟨k, rv, h2, hrun, ?_⟩
            obtain ⟨p, hp, u, hu, hpn, hsat, hden⟩ := dq sat hn hPn (iT hfit o ho)
            exact ⟨p, hp, u, hw.trans hu (Nat.le_refl _), hpn, hsat, fun x hx => by rw [hden x hx]; exact hd w (Agr.refl _ _)⟩
           | succ m ihm =>
            intro W args h1 hW sP hm
            have sC1 : Sat (FrX W P h1) W { P with fa := P.fa ++ st.fa } args h1 := Sat.ofClosed c3 hPn sP (fun w hw f hf => (s.all w (hW.trans hw c4)).fa f hf)
            have gW : GOK tbl W P.n (qh f st.n P posts ma mb (some (ma, mb)) :: Γ) := GOK.cons ⟨s.pos, c4, (fun h => by cases h), c3, (fun a b hab => by cases hab; exact ⟨c5, c6⟩), fun W' args' h' hW' sP' hl => by
             have hl := hl ma mb rfl
             exact ihm W' args' h' (hW.trans hW' (Nat.le_refl _)) sP' (by
              have : (qh f st.n P posts ma mb (some (ma, mb))).ma.ev W' - (qh f st.n P posts ma mb (some (ma, mb))).mb.ev W' = ma.ev W' - mb.ev W' := rfl
              omega)⟩ (g.mono hW c4)
            have := f9 (ih) hB sC1 gW (fun u hu => by
             simp only [iZ, aT] at c3
             exact (dr hu _ c3.1.1).symm)
            rw [← sP.env] at this
            refine tW hF c2 ?_
            obtain ⟨k, rv, h2, hrun, o, ho, w, hw, hn, _, sat, hd⟩ := this
            refine ⟨k, rv, h2, hrun, ?_⟩
            obtain ⟨p, hp, u, hu, hpn, hsat, hden⟩ := dq sat hn hPn (iT hfit o ho)
            exact ⟨p, hp, u, hw.trans hu (Nat.le_refl _), hpn, hsat, fun x hx => by rw [hden x hx]; exact hd w (Agr.refl _ _)⟩
          have g0K : GOK1 tbl v st.n (qh f st.n P posts ma mb none) := ⟨s.pos, Nat.le_refl _, (fun h => by cases h), c3, (fun a b h => by cases h), fun W args h1 hW sP _ => hall _ W args h1 hW sP (Nat.le_refl _)⟩
          exact ov s g0K s.pos hr
         ·cases ho
        ·cases ho
       ·cases ho
      ·split at ho
       ·rename_i hm
        exact tW hF hm (f9 ih ho s g (fun u hu => (hrob u hu).1))
       ·rename_i hm
        split at ho
        ·rename_i outs1 hs1 hB
         split at ho
         ·rename_i r hr
          simp only [sI, pI] at ho
          obtain ⟨rfl, _⟩ := ho
          refine Wf_fn1 hF hm ?_
          obtain ⟨k, rv, h2, hrun, o, ho, w, hw, hn, he, sat, hd⟩ := f9 ih hB s g (fun u hu => (hrob u hu).1)
          refine ⟨k, rv, h2, hrun, ?_⟩
          obtain ⟨x, hx, hxr⟩ := rO hr o ho
          have sat1 : Sat X w { o.2 with env := [o.1] } [rv] h2 := eP sat (fun u hu => by simp only [aH, hd u hu])
          obtain ⟨o2, ho2, w2, hw2, hn2, he2, c2, h3, hz, sat2, hd2⟩ := za sat1 (a := o.1) (a' := x.1) (st' := x.2) hx (c := rv) (fun u su => by
           have := su.env
           simp only [aH, List.cons.injEq, and_true] at this
           exact this) 18
          simp only [List.mem_singleton] at ho2; subst ho2
          have hn2' : o.2.n ≤ x.2.n := hn2
          have hw2' : Agr o.2.n w w2 := hw2
          exact ⟨c2, h3, hz, _, hxr, w2, hw.trans hw2' hn, Nat.le_trans hn hn2', he, eP sat2 (fun u hu => (sat.all u (hw2'.trans hu hn2')).env), hd2⟩
         ·cases ho
        ·cases ho
       ·rename_i hm0 hm1
        split at ho
        ·rename_i hc
         obtain ⟨c1, c2⟩ := hc
         split at ho
         ·rename_i outs1 hs1 hB
          split at ho
          ·rename_i r hr
           simp only [sI, pI] at ho
           obtain ⟨rfl, _⟩ := ho
           obtain ⟨k1, k2⟩ := oi s0.fa c2
           refine qJ hF c1 (k2 18 h) k1 ?_
           have sN : Sat ⟨H.empty, []⟩ v ⟨st.n, [], st.fa, []⟩ [] H.empty := ⟨s.pos, fun u hu => ⟨(s.all u hu).z, rfl, (s.all u hu).fa, (fun p hp => by cases hp), by simp, (fun p hp => by cases hp), Nat.le_refl _, fun _ _ _ => rfl⟩⟩
           obtain ⟨k, rv, h2, hrun, o, ho, w, hw, hn, he, sat, hd⟩ := f9 ih hB sN GOK.nil (fun u hu => (hrob u hu).1)
           refine ⟨k, rv, h2, hrun, ?_⟩
           obtain ⟨b1, b2⟩ := nZ hr o ho
           have e1 := hd w (Agr.refl _ _)
           have e2 := xL sat.now.fa b1 18 (h2, h)
           rw [e1] at e2
           refine ⟨rv, h2, h, e2, _, b2, w, hw, hn, rfl, ⟨sat.pos, fun u hu => ?_⟩, hd⟩
           have su := s.all u (hw.trans hu hn)
           exact ⟨su.z, su.env, (sat.all u hu).fa, su.bl, su.nd, su.lt, su.hn, su.fr⟩
          ·cases ho
         ·cases ho
        ·cases ho
end
end
end Ce.S
namespace Ce.S
noncomputable section
open Go
section
variable {tbl : Nat → Option IF}
theorem con_ok {E : List (Nat × List Ty × Ty)} (hE : EOK tbl E) {n : Nat} {c : Con} {Γ : List Con} {hs hs' : Hs} {outs : List (AV × St)} (h1 : c.yl = false) (h0 : c.n0 = 1) (hcl : iZ c.pre = true) (hn : 1 ≤ c.pre.n) (hl : c.lim = none)
  (hrun : sF tbl E n Γ (.fn c.tg) c.pre.env c.pre hs = some (outs, hs')) (hfit : kg c.pre.n c.posts outs = true) (hΓ : ∀ v : V, v.i 0 = 0 → GOK tbl v 1 Γ) : ∀ v : V, v.i 0 = 0 → GOK1 tbl v 1 c := by
 intro v hv
 refine ⟨by omega, by omega, fun h => by (rw [h1] at h; cases h), hcl, fun a b h => by (rw [hl] at h; cases h), ?_⟩
 intro W args h hW sP _
 have hPn : 0 < c.pre.n := by omega
 have hz : W.i 0 = 0 := by rw [← (hW 0 (by omega)).1]; exact hv
 have sC1 : Sat (FrX W c.pre h) W c.pre args h := by
  have := Sat.ofClosed (fs := []) hcl hPn sP (fun _ _ f hf => by cases hf)
  simpa using this
 have hcl' := hcl
 simp only [iZ, aT] at hcl'
 have := xW hE n Γ (.fn c.tg) c.pre.env c.pre hs outs hs' hrun (FrX W c.pre h) W args h sC1 ((hΓ W hz).mono (Agr.refl _ _) hn) (fun u hu => ⟨(dr hu _ hcl'.1.1).symm, rfl⟩)
 rw [← sP.env] at this
 have ht : tgt v c = tgT W (.fn c.tg) := by simp only [tgt, h1, Bool.false_eq_true, if_false, tgT]
 rw [ht]
 refine this.mono ?_
 rintro r h' ⟨o, ho, w, hw, hnn, _, sat, hd⟩
 obtain ⟨p, hp, u, hu, hpn, hsat, hden⟩ := dq sat hnn hPn (iT hfit o ho)
 exact ⟨p, hp, u, hw.trans hu (Nat.le_refl _), hpn, hsat, fun x hx => by rw [hden x hx]; exact hd w (Agr.refl _ _)⟩
theorem dE : ∀ v : V, v.i 0 = 0 → GOK tbl v 1 [] := fun _ _ => GOK.nil
theorem ax {c : Con} {Γ : List Con} (h : ∀ v : V, v.i 0 = 0 → GOK1 tbl v 1 c) (hΓ : ∀ v : V, v.i 0 = 0 → GOK tbl v 1 Γ) : ∀ v : V, v.i 0 = 0 → GOK tbl v 1 (c :: Γ) := fun v hv => GOK.cons (h v hv) (hΓ v hv)
def v0 : V := ⟨fun _ => 0, fun _ => undef, fun _ => 0, fun _ => ⟨[], [], .skip, .skip⟩⟩
theorem api_ok {E : List (Nat × List Ty × Ty)} (hE : EOK tbl E) {n : Nat} {F : IF} {Γ : List Con} (hΓ : ∀ v : V, v.i 0 = 0 → GOK tbl v 1 Γ) {Ts : List Ty} {hs hs' : Hs} {outs : List (AV × St)}
  (hrun : lA (sF tbl E n) n F Γ (cK 1 Ts).1 ⟨(cK 1 Ts).2.2, [], (cK 1 Ts).2.1, []⟩ hs = some (outs, hs')) {args : List CV} (hT : ∀ v : V, v.i 0 = 0 → a8 v Ts args) :
  Wb tbl F args H.empty fun r h' => ∃ o, o ∈ outs ∧ ∃ w, Sat ⟨H.empty, []⟩ w o.2 [] h' ∧ ∀ u, Agr o.2.n w u → den u o.1 = r := by
 have hz : ∀ u : V, Agr 1 v0 u → u.i 0 = 0 := fun u hu => (hu 0 (by omega)).1.symm
 obtain ⟨hle, w, hw, hall⟩ := gM Ts 1 v0 args (fun u hu => hT u (hz u hu))
 have sat : Sat ⟨H.empty, []⟩ w ⟨(cK 1 Ts).2.2, [], (cK 1 Ts).2.1, []⟩ [] H.empty := ⟨by show 0 < (cK 1 Ts).2.2; omega, fun u hu => ⟨hz u (hw.trans hu hle), rfl, (hall u hu).2, (fun p hp => by cases hp), by simp, (fun p hp => by cases hp), Nat.le_refl _, fun _ _ _ => rfl⟩⟩
 have hd : ∀ u, Agr (cK 1 Ts).2.2 w u → aH u (cK 1 Ts).1 = args := fun u hu => (hall u hu).1
 have g : GOK tbl w (cK 1 Ts).2.2 Γ := (hΓ w (hz w hw)).mono (Agr.refl _ _) hle
 have := f9 (xW hE n) hrun sat g (fun u hu => by rw [hd u hu, hd w (Agr.refl _ _)])
 rw [hd w (Agr.refl _ _)] at this
 obtain ⟨k, r, h', hr, o, ho, w2, hw2, hn2, _, s2, hden⟩ := this
 refine ⟨k, r, h', hr, o, ho, w2, s2.agr (Agr.refl _ _) |> fun s => ?_, hden⟩
 exact ⟨s.pos, fun u hu => let a := s.all u hu; ⟨a.z, a.env, a.fa, a.bl, a.nd, a.lt, a.hn, a.fr⟩⟩
theorem uj : EOK tbl [] := fun f Ts T h => by cases h
end
end
end Ce.S
