/- A part of a proof. -/
import Derived.Test.YtfbknmgfnlckeaaSxA
set_option linter.unusedVariables false
set_option linter.unusedSimpArgs false
set_option maxRecDepth 1000000
namespace Ce.S
noncomputable section
open Go
section
variable {X : Cx} {v : V} {st : St} {env : List CV} {h : H}
theorem oH {w : V} {k : Nat} {R : List Ty} (hk : R.length = k) {M n i : Nat} {cs new : List CV} (hd : aN w k R cs M) (hn : aN w k R new n) (hi : i + n ≤ M) : i * k + new.length ≤ cs.length ∧ aN w k R (splice cs (i * k) new) M := by
 obtain ⟨h1, h2⟩ := (aU w k R hk M cs).1 hd
 obtain ⟨h3, h4⟩ := (aU w k R hk n new).1 hn
 have hM : (i + n) * k ≤ M * k := Nat.mul_le_mul_right k hi
 rw [Nat.add_mul] at hM
 have hl : i * k + new.length ≤ cs.length := by omega
 refine ⟨hl, (aU w k R hk M _).2 ⟨by rw [splice_len _ _ _ hl, h1], fun r hr j T hj => ?_⟩⟩
 have hjk : j < k := by rw [← hk]; exact (List.getElem?_eq_some_iff.1 hj).1
 rw [cI _ _ _ hl]
 by_cases hin : i ≤ r ∧ r < i + n
 ·have e1 : i * k ≤ r * k := Nat.mul_le_mul_right k hin.1
  have e2 : r * k + k ≤ (i + n) * k := by rw [← Nat.succ_mul]; exact Nat.mul_le_mul_right k hin.2
  rw [Nat.add_mul] at e2
  rw [if_pos (by omega)]
  obtain ⟨c, hc, hT⟩ := h4 (r - i) (by omega) j T hj
  refine ⟨c, ?_, hT⟩
  rw [Nat.mul_sub_right_distrib] at hc
  rw [show r * k + j - i * k = r * k - i * k + j by omega]; exact hc
 ·have : r * k + k ≤ i * k ∨ (i + n) * k ≤ r * k := by
   by_cases hlt : r < i
   ·left; rw [← Nat.succ_mul]; exact Nat.mul_le_mul_right k hlt
   ·right; exact Nat.mul_le_mul_right k (by omega)
  rw [Nat.add_mul] at this
  rw [if_neg (by omega)]; exact h2 r hr j T hj
def uF (st : St) (a b : Lin) : List Fact := [.dc 0 st.n 0, .dc st.n a.s a.c, .dc st.n b.s b.c]
def sCpy (st : St) (k : Nat) (d s : AV) : Option (List (AV × St)) :=
 match tT st k s, d with
 | some (R, sl), .slc k' b off i len _ =>
  if k' = k ∧ leL st.fa ⟨0, 0⟩ i 0 = true ∧ leL st.fa ⟨0, 0⟩ len 0 = true then
   match ai b st.bl with
   | some (.blk _ (.rows k2 R2 n) false) => (match qBS st i len with
    | some t => if k2 = k ∧ off = 0 ∧ leL st.fa t n 0 = true ∧ gm st.fa R R2 = true ∧ fE R2 = true then
      some [nA st .i64 (uF st len sl)] else none
    | none => none)
   | some (.blk _ (.cells l) false) => if k = 1 ∧ i.s = 0 ∧ i.c = 0 ∧ len.s = 0 ∧ off + len.c.toNat ≤ l.length then (match qGI ((l.drop off).take len.c.toNat) with
    | some kk => if mT st.fa kk ((l.drop off).take len.c.toNat) && gm st.fa R [dh kk] then
      let f := cF (st.n + 1) (List.replicate len.c.toNat (dh kk))
      some [(.int .i64 st.n 0, { st with n := f.2.2, fa := f.2.1 ++ (uF st len sl ++ st.fa), bl := cN b [.blk b (.cells (cX l off f.1)) false] st.bl })]
     else none
    | none => none) else none
   | _ => none
  else none
 | _, _ => none
theorem qb {w : V} {a b : Lin} {m : Nat} {x y : Nat} (z : w.i 0 = 0) (hn : w.i st.n = ((min y x : Nat) : Int)) (ha : a.ev w = x) (hb : b.ev w = y) : ∀ f, f ∈ uF st a b → FOK w f := by
 intro f hf
 simp only [uF, List.mem_cons, List.not_mem_nil, or_false] at hf
 simp only [Lin.ev] at ha hb
 rcases hf with rfl | rfl | rfl <;> simp only [FOK] <;> omega
theorem vu {k : Nat} {d : CV} {cs : CV} {dl sl : Nat} (h1 : lenOf d = some dl) (h2 : lenOf cs = some sl) : cpyV k d cs h = if min sl dl = 0 then some (.int .i64 0, h) else match cellsOf k (min sl dl) h cs, d with
  | some new, .slc _ r off _ _ => match h.get r with
   | some (.cells cs false) => if off + (min sl dl) * k ≤ cs.length && aJ new then some (.int .i64 (min sl dl : Nat), h.put r (.cells (splice cs off new) false)) else none
   | _ => none
  | _, _ => none := by
 simp only [cpyV, h1, h2]
 rfl
theorem qDE (s : Sat X v st env h) {k : Nat} {a x : AV} {outs : List (AV × St)} (hs : sCpy st k a x = some outs) {ca cx : CV} {r : Option (CV × H)} (hr : r = cpyV k ca cx h) (ha : ∀ w, Sat0 X w st env h → ca = den w a) (hx : ∀ w, Sat0 X w st env h → cx = den w x) : aY X v st env outs r := by
 have s0 := s.now
 unfold sCpy at hs
 split at hs <;> (try (cases hs; done))
 rename_i R sl k' b off i len cap hsrc
 obtain ⟨m, hm, hsl, hRk, hnew⟩ := lw s hsrc hx
 split at hs
 ·rename_i hg
  obtain ⟨rfl, g1, g2⟩ := hg
  have q : ∀ w, Sat0 X w st env h → 0 ≤ i.ev w ∧ 0 ≤ len.ev w := fun w sw => by
   have q1 := aF sw.fa g1; have q2 := aF sw.fa g2
   simp only [Lin.ev, sw.z] at q1 q2 ⊢; omega
  have hlen : lenOf ca = some (len.ev v).toNat := by rw [ha v s0]; rfl
  have same : ∀ w, Sat0 X w st env h → w.b b = v.b b ∧ (len.ev w).toNat = (len.ev v).toNat ∧ off + (i.ev w).toNat * k' = off + (i.ev v).toNat * k' := fun w sw => by
   have e1 := ha w sw
   rw [ha v s0] at e1
   simp only [den, CV.slc.injEq, true_and] at e1
   exact ⟨e1.1.symm, e1.2.2.1.symm, e1.2.1.symm⟩
  rw [vu hlen hm] at hr
  split at hs <;> (try (cases hs; done))
  ·rename_i b' k2 R2 n hb
   have hkey := (s0.blk hb).2
   simp only [cD] at hkey; subst hkey
   split at hs
   ·rename_i t ht
    split at hs
    ·rename_i hg
     obtain ⟨rfl, rfl, g3, g4, g5⟩ := hg
     simp only [sI] at hs; subst hs
     by_cases h0 : min m (len.ev v).toNat = 0
     ·rw [if_pos h0] at hr
      refine i5 s (m := 0) hr (fun w sw hn f hf => qb (m := m) sw.z (x := (len.ev v).toNat) (y := m) (by rw [hn, h0]; rfl) ?_ (hsl w sw) f hf)
      have := (same w sw).2.1; have := (q w sw).2; omega
     ·rw [if_neg h0] at hr
      obtain ⟨new, hcells, hrowsN⟩ := hnew (min m (len.ev v).toNat) (Nat.min_le_left _ _) h0
      obtain ⟨cs0, hcs0, hk0, hRk2, hn0, hrows0⟩ := (s0.blk hb).1
      have spl : ∀ w, Sat0 X w st env h → (i.ev w).toNat * k2 + new.length ≤ cs0.length ∧ aN w k2 R2 (splice cs0 ((i.ev w).toNat * k2) new) (n.ev w).toNat ∧ 0 ≤ n.ev w ∧ aJ new = true := fun w sw => by
       obtain ⟨cs1, hcs1, _, _, hn1, hrows1⟩ := (sw.blk hb).1
       rw [(same w sw).1, hcs0] at hcs1
       simp only [sI, Blk.cells.injEq, and_true] at hcs1; subst hcs1
       have hN : aN w k2 R2 new (min m (len.ev v).toNat) := by
        have := hrowsN w sw
        obtain ⟨e1, e2⟩ := (aU w k2 R hRk _ _).1 this
        refine (aU w k2 R2 hRk2 _ _).2 ⟨e1, fun r hr j T hj => ?_⟩
        have hrow : aZ w R ((new.drop (r * k2)).take k2) := by
         refine (bT w R _).2 ⟨?_, fun j T hj => ?_⟩
         ·have : r * k2 + k2 ≤ (min m (len.ev v).toNat) * k2 := by rw [← Nat.succ_mul]; exact Nat.mul_le_mul_right _ hr
          simp only [List.length_take, List.length_drop]; omega
         ·have hjk : j < k2 := by rw [← hRk]; exact (List.getElem?_eq_some_iff.1 hj).1
          obtain ⟨c, hc, hT⟩ := e2 r hr j T hj
          exact ⟨c, by rw [List.getElem?_take_of_lt hjk, List.getElem?_drop]; exact hc, hT⟩
        have hrow2 := dN sw.fa _ _ g4 _ hrow
        have hjk : j < k2 := by rw [← hRk2]; exact (List.getElem?_eq_some_iff.1 hj).1
        obtain ⟨c, hc, hT⟩ := ((bT w R2 _).1 hrow2).2 j T hj
        rw [List.getElem?_take_of_lt hjk, List.getElem?_drop] at hc
        exact ⟨c, hc, hT⟩
       have q3 := aF sw.fa g3
       have q4 := qFL sw ht
       have q5 := q w sw
       have q6 := (same w sw).2.1
       have := oH hRk2 hrows1 hN (i := (i.ev w).toNat) (by omega)
       exact ⟨this.1, this.2, hn1, gx g5 hN⟩
      have se : ∀ w, Sat0 X w st env h → (i.ev w).toNat * k2 = (i.ev v).toNat * k2 := fun w sw => by have := (same w sw).2.2; omega
      refine aY.mk' (w := upI v st.n ((min m (len.ev v).toNat : Nat) : Int)) (c := .int .i64 ((min m (len.ev v).toNat : Nat) : Int)) (h' := h.put (v.b b') (.cells (splice cs0 ((i.ev v).toNat * k2) new) false)) mS (bV _ _ _ _ _ _) (Nat.le_succ _) rfl s.pos ?_ (fun u hu => ?_)
      ·rw [hr, hcells, ha v s0]
       simp only [den, hcs0, Nat.zero_add]
       obtain ⟨e1, _, _, e2⟩ := spl v s0
       have hnl := ((aU v k2 R hRk _ _).1 (hrowsN v s0)).1
       rw [if_pos (by simp only [aT, dT]; exact ⟨by omega, e2⟩)]
      ·obtain ⟨hau, hiu, _⟩ := az hu
       have su := s.all u hau
       refine ⟨?_, by simp only [nA, den, hiu, Int.add_zero]⟩
       obtain ⟨_, e3, e4, _⟩ := spl u su
       have := (su.wk (st.n + 1) (uF st len sl) (qb (m := m) su.z (x := (len.ev v).toNat) (y := m) hiu (by have := (same u su).2.1; have := (q u su).2; omega) (hsl u su))).put hb (q := .blk b' (.rows k2 R2 n) false) (blk := .cells (splice cs0 ((i.ev u).toNat * k2) new) false) rfl rfl ⟨_, by rw [get_put, if_pos rfl], hk0, hRk2, e4, e3⟩
       rw [wt hb, (same u su).1, se u su] at this
       exact this
    ·cases hs
   ·cases hs
  ·rename_i b' l hb
   have hkey := (s0.blk hb).2
   simp only [cD] at hkey; subst hkey
   split at hs
   ·rename_i hg
    obtain ⟨rfl, g3, g4, g5, g6⟩ := hg
    split at hs
    ·rename_i kk hkk
     split at hs
     ·rename_i hg
      simp only [aT] at hg
      obtain ⟨g7, g8⟩ := hg
      simp only [sI] at hs; subst hs
      have hl0 : len.ev v = len.c := by simp only [Lin.ev, g5, s0.z]; omega
      have hi0 : ∀ w, Sat0 X w st env h → i.ev w = 0 := fun w sw => by simp only [Lin.ev, g3, g4, sw.z]; omega
      obtain ⟨cs0, hcs0, ho0⟩ := (s0.blk hb).1
      simp only [cC] at ho0
      have hcl : cs0.length = l.length := by rw [ho0, am]
      have hl0w : ∀ w, Sat0 X w st env h → cs0 = aG w l := fun w sw => by
       obtain ⟨cs1, hcs1, ho1⟩ := (sw.blk hb).1
       simp only [cC] at ho1
       rw [(same w sw).1, hcs0] at hcs1
       simp only [sI, Blk.cells.injEq, and_true] at hcs1
       rw [hcs1, ho1]
      have fin : ∀ (new : List CV), new.length ≤ len.c.toNat → (∀ w, Sat0 X w st env h → aN w 1 [dh kk] new new.length) → ∀ (nn : Nat), nn = min m (len.ev v).toNat → ∀ h', (∀ u : V, u.b b' = v.b b' → h' = h.put (u.b b') (.cells (splice cs0 off new) false) ∨ (h' = h ∧ new = [])) → r = some (.int .i64 (nn : Nat), h') →
        aY X v st env [(.int .i64 st.n 0, { st with n := (cF (st.n + 1) (List.replicate len.c.toNat (dh kk))).2.2, fa := (cF (st.n + 1) (List.replicate len.c.toNat (dh kk))).2.1 ++ (uF st len sl ++ st.fa), bl := cN b' [.blk b' (.cells (cX l off (cF (st.n + 1) (List.replicate len.c.toNat (dh kk))).1)) false] st.bl })] r := by
       intro new hnl hnT nn hnn h' hh hrr
       have hsl2 : (splice cs0 off new).length = cs0.length := splice_len _ _ _ (by omega)
       have htyp : ∀ w, Agr (st.n + 1) (upI v st.n (nn : Int)) w → aZ w (List.replicate len.c.toNat (dh kk)) (((splice cs0 off new).drop off).take len.c.toNat) := fun w hw => by
        obtain ⟨hau, _⟩ := az hw
        have sw := s.all w hau
        refine (bT w _ _).2 ⟨by simp only [List.length_take, List.length_drop, List.length_replicate]; omega, fun j T hj => ?_⟩
        have hjlt : j < len.c.toNat := by
         have := (List.getElem?_eq_some_iff.1 hj).1
         simpa using this
        rw [List.getElem?_replicate, if_pos hjlt, sI] at hj
        subst hj
        rw [List.getElem?_take_of_lt hjlt, List.getElem?_drop, cI _ _ _ (by omega)]
        by_cases he : j < new.length
        ·rw [if_pos (by omega), show off + j - off = j by omega]
         obtain ⟨_, e2⟩ := (aU w 1 [dh kk] rfl _ _).1 (hnT w sw)
         obtain ⟨c, hc, hT⟩ := e2 j he 0 (dh kk) rfl
         simp only [Nat.mul_one, Nat.add_zero] at hc
         exact ⟨c, hc, hT⟩
        ·rw [if_neg (by omega)]
         have hlj : l[off + j]? = some (l[off + j]'(by omega)) := List.getElem?_eq_getElem (by omega)
         have hmem : l[off + j]'(by omega) ∈ (l.drop off).take len.c.toNat := by
          refine List.mem_of_getElem? (i := j) ?_
          rw [List.getElem?_take_of_lt hjlt, List.getElem?_drop]; exact hlj
         refine ⟨den w (l[off + j]'(by omega)), ?_, ep sw.z sw.fa _ _ (uT g7 _ hmem)⟩
         exact (congrArg (fun z : List CV => z[off + j]?) (hl0w w sw)).trans (by
          rw [dW, List.getElem?_map, hlj]; rfl)
       obtain ⟨hle, w, hw, hall⟩ := gS _ (st.n + 1) (upI v st.n (nn : Int)) _ htyp
       refine aY.mk' (w := w) (c := .int .i64 (nn : Nat)) (h' := h') mS ((bV _ _ _ _ _ _).trans hw (Nat.le_succ _)) (by dsimp only; omega) rfl s.pos hrr (fun u hu => ?_)
       obtain ⟨hd, hf⟩ := hall u hu
       obtain ⟨hau, hiu, _⟩ := az (hw.trans hu hle)
       have su := s.all u hau
       refine ⟨?_, by simp only [den, hiu, Int.add_zero]⟩
       have swk := su.wk (cF (st.n + 1) (List.replicate len.c.toNat (dh kk))).2.2 ((cF (st.n + 1) (List.replicate len.c.toNat (dh kk))).2.1 ++ uF st len sl) (fun f hm => by
        rcases List.mem_append.1 hm with hm | hm
        ·exact hf f hm
        ·exact qb (m := m) su.z (x := (len.ev v).toNat) (y := m) (by rw [hiu, hnn]) (by have := (same u su).2.1; have := (q u su).2; omega) (hsl u su) f hm)
       rw [List.append_assoc] at swk
       have hcont : aG u (cX l off (cF (st.n + 1) (List.replicate len.c.toNat (dh kk))).1) = splice cs0 off new := by
        rw [co, hd, ← hl0w u su]
        refine (iu cs0 off new _ (by simp only [List.length_take, List.length_drop]; omega) 0 (by simp only [List.length_take, List.length_drop]; omega) (fun j hj => ?_)).symm
        simp only [List.length_take, List.length_drop] at hj
        rw [List.getElem?_take_of_lt (by omega), List.getElem?_drop]; rfl
       rcases hh u (same u su).1 with e | ⟨e, en⟩
       ·rw [e]
        exact swk.put hb (q := .blk b' (.cells (cX l off (cF (st.n + 1) (List.replicate len.c.toNat (dh kk))).1)) false) (blk := .cells (splice cs0 off new) false) rfl rfl ⟨_, by rw [get_put, if_pos rfl], hcont.symm⟩
       ·rw [e]
        refine swk.say hb rfl ⟨cs0, by rw [(same u su).1]; exact hcs0, ?_⟩
        simp only [cC]
        rw [hcont, en]
        have : ∀ (c : List CV) (o : Nat), splice c o [] = c := by
         intro c
         induction c with
         | nil => intro o; cases o <;> rfl
         | cons a c ih => intro o; cases o with
          | zero => rfl
          | succ o => simp only [splice, ih]
        rw [this]
      by_cases h0 : min m (len.ev v).toNat = 0
      ·rw [if_pos h0] at hr
       exact fin [] (by simp) (fun w sw => rfl) 0 h0.symm h (fun u hu => .inr ⟨rfl, rfl⟩) hr
      ·rw [if_neg h0] at hr
       obtain ⟨new, hcells, hrowsN⟩ := hnew (min m (len.ev v).toNat) (Nat.min_le_left _ _) h0
       have hnl := ((aU v 1 R hRk _ _).1 (hrowsN v s0)).1
       have hNT : ∀ w, Sat0 X w st env h → aN w 1 [dh kk] new new.length := fun w sw => by
        have h1 := hrowsN w sw
        have e0 : min m (len.ev v).toNat = new.length := by omega
        rw [e0] at h1
        have go : ∀ (n : Nat) (cs : List CV), aN w 1 R cs n → aN w 1 [dh kk] cs n := by
         intro n
         induction n with
         | zero => intro cs h; exact h
         | succ n ih => intro cs h; exact ⟨h.1, dN sw.fa _ _ g8 _ h.2.1, ih _ h.2.2⟩
        exact go _ _ h1
       have hone : aJ new = true := gx (R := [dh kk]) rfl (hNT v s0)
       refine fin new (by omega) hNT _ rfl (h.put (v.b b') (.cells (splice cs0 off new) false)) (fun u hu => .inl (by rw [hu])) ?_
       rw [hr, hcells, ha v s0]
       simp only [den, hi0 v s0, Int.toNat_zero, Nat.zero_mul, Nat.add_zero, hcs0]
       rw [if_pos (by simp only [aT, dT]; exact ⟨by omega, hone⟩)]
     ·cases hs
    ·cases hs
   ·cases hs
 ·cases hs
end
end
end Ce.S
namespace Ce.S
noncomputable section
open Go
section
variable {X : Cx} {v : V} {st : St} {env : List CV} {h : H}
def yZ (st : St) (k bytes : Nat) (s x : AV) : Option (List (AV × St)) :=
 match s, tT st k x with
 | .slc k' b off i len cap, some (R, xl) => match ai b st.bl, hiC st.fa xl with
  | some (.blk _ (.cells l) _), some hi =>
   if k' = k ∧ i.s = 0 ∧ i.c = 0 ∧ len.s = 0 ∧ len.c = 0 ∧ cap.s = 0 ∧ cap.c = 0 ∧ off ≤ l.length ∧ leL st.fa ⟨0, 1⟩ xl 0 = true ∧ fE R = true ∧ 0 < k ∧ hi.toNat * (bytes + 1) ≤ 2 ^ 40 then
    some [(.vec k st.n xl, { st with n := st.n + 1, bl := .blk st.n (.rows k R xl) false :: st.bl })] else none
  | _, _ => none
 | _, _ => none
theorem qDN (s : Sat X v st env h) {k bytes : Nat} {a x : AV} {outs : List (AV × St)} (hs : yZ st k bytes a x = some outs) {ca cx : CV} {r : Option (CV × H)} (hr : r = appV k bytes ca cx h) (ha : ∀ w, Sat0 X w st env h → ca = den w a) (hx : ∀ w, Sat0 X w st env h → cx = den w x) : aY X v st env outs r := by
 have s0 := s.now
 unfold yZ at hs
 split at hs <;> (try (cases hs; done))
 rename_i k' b off i len cap R xl hsrc
 obtain ⟨m, hm, hxl, hRk, hnew⟩ := lw s hsrc hx
 split at hs <;> (try (cases hs; done))
 rename_i b' l ro hi hb hhi
 split at hs
 ·rename_i hg
  obtain ⟨rfl, g1, g2, g3, g4, g5, g6, g7, g8, g9, g10, g11⟩ := hg
  simp only [sI] at hs; subst hs
  have hkey := (s0.blk hb).2
  simp only [cD] at hkey; subst hkey
  have h8 := aF s0.fa g8
  have hup := dQ s0.z s0.fa hhi
  have hmv := hxl v s0
  have hm1 : 1 ≤ m := by simp only [Lin.ev, s0.z] at h8 hmv; omega
  have hsz : m * (bytes + 1) ≤ 2 ^ 40 := Nat.le_trans (Nat.mul_le_mul_right _ (by omega)) g11
  obtain ⟨new, hcells, hrows⟩ := hnew m (Nat.le_refl _) (by omega)
  have hone : aJ new = true := gx g9 (hrows v s0)
  obtain ⟨cs0, hcs0, ho0⟩ := (s0.blk hb).1
  simp only [cC] at ho0
  have hcl : cs0.length = l.length := by rw [ho0, am]
  have hca : ca = .slc k' (v.b b') off 0 (some 0) := by
   rw [ha v s0]
   have e1 : i.ev v = 0 := by simp only [Lin.ev, g1, g2, s0.z]; omega
   have e2 : len.ev v = 0 := by simp only [Lin.ev, g3, g4, s0.z]; omega
   have e3 : cap.ev v = 0 := by simp only [Lin.ev, g5, g6, s0.z]; omega
   simp only [den, e1, e2, e3, Int.toNat_zero, Nat.zero_mul, Nat.add_zero]
  refine aY.mk' (w := upB v st.n h.n) (c := .slc k' h.n 0 m none) (h' := h.push (.cells new false)) mS (bV _ _ _ _ _ _) (Nat.le_succ _) rfl s.pos ?_ (fun u hu => ?_)
  ·rw [hr, hca]
   have hlo : lenOf (CV.slc k' (v.b b') off 0 (some 0)) = some 0 := rfl
   simp only [appV, hlo, hm, Nat.zero_add, if_neg (show ¬ m = 0 by omega), if_neg (show ¬ m * (bytes + 1) > 2 ^ 40 by omega), hcells, hone, Bool.true_eq_false, if_false, ne_eq, not_true_eq_false, hcs0]
   rw [if_neg (by omega)]
   simp only [Nat.zero_mul, cut?, Nat.add_zero]
   rw [if_pos (by omega)]
   simp only [List.take_zero, List.nil_append]
  ·obtain ⟨hau, _, _, hbu, _⟩ := az hu
   have su := s.all u hau
   have hxu := hxl u su
   refine ⟨(su.wk' (st.n + 1)).push (q := .blk st.n (.rows k' R xl) false) (blk := .cells new false) (by simp only [adr, hbu]) ⟨new, by rw [hbu, dL, if_pos rfl], g10, hRk, by rw [hxu]; omega, by rw [hxu, Int.toNat_natCast]; exact hrows u su⟩, ?_⟩
   simp only [den]
   rw [if_neg (by omega), hxu, hbu, Int.toNat_natCast]
 ·cases hs
def ja (R : List Ty) : Nat → List Ty
 | 0 => []
 | n + 1 => R ++ ja R n
theorem pd {w : V} : ∀ {A B : List Ty} {a b : List CV}, aZ w A a → aZ w B b → aZ w (A ++ B) (a ++ b)
 | [], B, a, b, h1, h2 => by have : a = [] := h1; subst this; exact h2
 | T :: A, B, a, b, h1, h2 => by
  obtain ⟨c, cs, rfl, h3, h4⟩ := h1
  exact ⟨c, cs ++ b, rfl, h3, pd h4 h2⟩
theorem md {w : V} {k : Nat} {R : List Ty} : ∀ (n : Nat) (cs : List CV), aN w k R cs n → aZ w (ja R n) cs
 | 0, cs, h => h
 | n + 1, cs, ⟨h1, h2, h3⟩ => by
  have := pd h2 (md n _ h3)
  rwa [List.take_append_drop] at this
def qBM (st : St) (k : Nat) (R : List Ty) (xl : Lin) (m : Nat) : AV × St :=
 (.vec k st.n xl, { st with n := (cF (st.n + 1) (ja R m)).2.2, fa := [.dc xl.s 0 (m - xl.c), .dc 0 xl.s (xl.c - m)] ++ ((cF (st.n + 1) (ja R m)).2.1 ++ st.fa), bl := .blk st.n (.cells (cF (st.n + 1) (ja R m)).1) false :: st.bl })
def uQ (st : St) (k : Nat) (R : List Ty) (xl : Lin) : Nat → List (AV × St)
 | 0 => []
 | m + 1 => qBM st k R xl (m + 1) :: uQ st k R xl m
theorem nx {st : St} {k : Nat} {R : List Ty} {xl : Lin} : ∀ {n m : Nat}, 1 ≤ m → m ≤ n → qBM st k R xl m ∈ uQ st k R xl n
 | 0, m, h1, h2 => by omega
 | n + 1, m, h1, h2 => by
  by_cases h : m = n + 1
  ·subst h; exact mS
  ·exact mC _ (nx h1 (by omega))
def yY (st : St) (k bytes : Nat) (s x : AV) : Option (List (AV × St)) :=
 match s, tT st k x with
 | .slc k' b off i len cap, some (R, xl) => match ai b st.bl, hiC st.fa xl with
  | some (.blk _ (.cells l) _), some hi =>
   if k' = k ∧ i.s = 0 ∧ i.c = 0 ∧ len.s = 0 ∧ len.c = 0 ∧ cap.s = 0 ∧ cap.c = 0 ∧ off ≤ l.length ∧ leL st.fa ⟨0, 1⟩ xl 0 = true ∧ fE R = true ∧ 2 ≤ k ∧ hi.toNat ≤ 4 ∧ hi.toNat * (bytes + 1) ≤ 2 ^ 40 then
    some (uQ st k R xl hi.toNat) else none
  | _, _ => none
 | _, _ => none
theorem qDM (s : Sat X v st env h) {k bytes : Nat} {a x : AV} {outs : List (AV × St)} (hs : yY st k bytes a x = some outs) {ca cx : CV} {r : Option (CV × H)} (hr : r = appV k bytes ca cx h) (ha : ∀ w, Sat0 X w st env h → ca = den w a) (hx : ∀ w, Sat0 X w st env h → cx = den w x) : aY X v st env outs r := by
 have s0 := s.now
 unfold yY at hs
 split at hs <;> (try (cases hs; done))
 rename_i k' b off i len cap R xl hsrc
 obtain ⟨m, hm, hxl, hRk, hnew⟩ := lw s hsrc hx
 split at hs <;> (try (cases hs; done))
 rename_i b' l ro hi hb hhi
 split at hs
 ·rename_i hg
  obtain ⟨rfl, g1, g2, g3, g4, g5, g6, g7, g8, g9, g10, g12, g11⟩ := hg
  simp only [sI] at hs; subst hs
  have hkey := (s0.blk hb).2
  simp only [cD] at hkey; subst hkey
  have h8 := aF s0.fa g8
  have hup := dQ s0.z s0.fa hhi
  have hmv := hxl v s0
  have hm1 : 1 ≤ m := by simp only [Lin.ev, s0.z] at h8 hmv; omega
  have hmh : m ≤ hi.toNat := by omega
  have hsz : m * (bytes + 1) ≤ 2 ^ 40 := Nat.le_trans (Nat.mul_le_mul_right _ hmh) g11
  obtain ⟨new, hcells, hrows⟩ := hnew m (Nat.le_refl _) (by omega)
  have hone : aJ new = true := gx g9 (hrows v s0)
  obtain ⟨cs0, hcs0, ho0⟩ := (s0.blk hb).1
  simp only [cC] at ho0
  have hcl : cs0.length = l.length := by rw [ho0, am]
  have hca : ca = .slc k' (v.b b') off 0 (some 0) := by
   rw [ha v s0]
   have e1 : i.ev v = 0 := by simp only [Lin.ev, g1, g2, s0.z]; omega
   have e2 : len.ev v = 0 := by simp only [Lin.ev, g3, g4, s0.z]; omega
   have e3 : cap.ev v = 0 := by simp only [Lin.ev, g5, g6, s0.z]; omega
   simp only [den, e1, e2, e3, Int.toNat_zero, Nat.zero_mul, Nat.add_zero]
  have hup0 : ∀ w, Agr (st.n + 1) (upB v st.n h.n) w → Sat0 X w st env h ∧ w.b st.n = h.n := fun w hw => by
   obtain ⟨hau, _, _, hbu, _⟩ := az hw
   exact ⟨s.all w hau, hbu⟩
  obtain ⟨hle, w, hw, hall⟩ := gS (ja R m) (st.n + 1) (upB v st.n h.n) new (fun w hw => md m new (hrows w (hup0 w hw).1))
  refine aY.mk' (w := w) (c := .slc k' h.n 0 m none) (h' := h.push (.cells new false)) (nx hm1 hmh) ((bV _ _ _ _ _ _).trans hw (by omega)) (by show st.n ≤ (cF (st.n + 1) (ja R m)).2.2; omega) rfl s.pos ?_ (fun u hu => ?_)
  ·rw [hr, hca]
   have hlo : lenOf (CV.slc k' (v.b b') off 0 (some 0)) = some 0 := rfl
   simp only [appV, hlo, hm, Nat.zero_add, if_neg (show ¬ m = 0 by omega), if_neg (show ¬ m * (bytes + 1) > 2 ^ 40 by omega), hcells, hone, Bool.true_eq_false, if_false, ne_eq, not_true_eq_false, hcs0]
   rw [if_neg (by omega)]
   simp only [Nat.zero_mul, cut?, Nat.add_zero]
   rw [if_pos (by omega)]
   simp only [List.take_zero, List.nil_append]
  ·have hu1 : Agr (cF (st.n + 1) (ja R m)).2.2 w u := hu
   obtain ⟨hd, hfs⟩ := hall u hu1
   obtain ⟨su, hbu⟩ := hup0 u (hw.trans hu1 hle)
   have hxu := hxl u su
   have hz := su.z
   have h1 := su.push (q := .blk st.n (.cells (cF (st.n + 1) (ja R m)).1) false) (blk := .cells new false) (by simp only [adr, hbu]) ⟨new, by rw [hbu, dL, if_pos rfl], hd.symm⟩
   refine ⟨⟨h1.z, h1.env, fun f hf => ?_, h1.bl, h1.nd, h1.lt, h1.hn, h1.fr⟩, ?_⟩
   ·rcases List.mem_append.1 hf with hf | hf
    ·simp only [List.mem_cons, List.not_mem_nil, or_false] at hf
     simp only [Lin.ev] at hxu
     rcases hf with rfl | rfl <;> simp only [FOK] <;> omega
    ·rcases List.mem_append.1 hf with hf | hf
     ·exact hfs f hf
     ·exact su.fa f hf
   ·simp only [qBM, den]
    rw [if_neg (by omega), hxu, hbu, Int.toNat_natCast]
 ·cases hs
def gz (st1 : St) (b off k : Nat) (t : Lin) : Nat → Nat → List (AV × St)
 | _, 0 => []
 | j, c + 1 => if oX st1.fa t j then gz st1 b off k t (j + 1) c else (.ptr b (off + j * k), { st1 with fa := [.dc t.s 0 (j - t.c), .dc 0 t.s (t.c - j)] ++ st1.fa }) :: gz st1 b off k t (j + 1) c
theorem gL {st1 : St} {b off k : Nat} {t : Lin} : ∀ {c j0 j : Nat}, j0 ≤ j → j < j0 + c → oX st1.fa t j = false → (AV.ptr b (off + j * k), ({ st1 with fa := [.dc t.s 0 (j - t.c), .dc 0 t.s (t.c - j)] ++ st1.fa } : St)) ∈ gz st1 b off k t j0 c
 | 0, j0, j, h1, h2, _ => by omega
 | c + 1, j0, j, h1, h2, hb => by
  simp only [gz]
  by_cases h : j = j0
  ·subst h; simp only [hb, Bool.false_eq_true, if_false]; exact mS
  ·split
   ·exact gL (by omega) (by omega) hb
   ·exact mC _ (gL (by omega) (by omega) hb)
def qEK (st : St) (b : Nat) : Bool := match ai b st.bl with
 | some (.blk _ (.cells _) _) => true
 | _ => false
def fb (m : Int) (q : Nat) : AV × St → List (AV × St)
 | (.iptr b off k t, st1) => match hiC st1.fa t with
  | some hi => if leL st1.fa ⟨0, 0⟩ t 0 = true ∧ hi ≤ m ∧ qEK st1 b = true ∧ q ≤ k ∧ 0 < k then gz st1 b off k t 0 (hi.toNat + 1) else [(.iptr b off k t, st1)]
  | none => [(.iptr b off k t, st1)]
 | o => [o]
theorem hO {m : Int} {q : Nat} {outs : List (AV × St)} {r : Option (CV × H)} (p : aY X v st env outs r) : aY X v st env (outs.flatMap (fb m q)) r := by
 obtain ⟨o, ho, w, hw, hn, he, c, h', hr, sat, hd⟩ := p
 have keep : o ∈ fb m q o → aY X v st env (outs.flatMap (fb m q)) r := fun hm => ⟨o, List.mem_flatMap.2 ⟨o, ho, hm⟩, w, hw, hn, he, c, h', hr, sat, hd⟩
 obtain ⟨a, st1⟩ := o
 cases a <;> try exact keep mS
 rename_i b off k t
 simp only [fb] at keep
 split at keep
 ·rename_i hi hhi
  split at keep
  ·rename_i hg
   obtain ⟨g1, g2, g3, g4', g4⟩ := hg
   have s0 := sat.now
   have z := s0.z
   have h1 := aF s0.fa g1
   have h2 := dQ z s0.fa hhi
   have h0 : 0 ≤ t.ev w := by simp only [Lin.ev, z] at h1 ⊢; omega
   have hbad : oX st1.fa t (t.ev w).toNat = false := by
    cases hb : oX st1.fa t (t.ev w).toNat with
    | false => rfl
    | true =>
     simp only [oX, Bool.or_eq_true] at hb
     rcases hb with hb | hb <;> (have := aF s0.fa hb; simp only [Lin.ev, z] at this h0; omega)
   have hm := gL (st1 := st1) (b := b) (off := off) (k := k) (t := t) (c := hi.toNat + 1) (j0 := 0) (j := (t.ev w).toNat) (by omega) (by omega) hbad
   have hsame : ∀ u, Agr st1.n w u → t.ev u = t.ev w := fun u hu => by
    have e1 := hd u hu
    have e2 := hd w (Agr.refl _ _)
    rw [← e2] at e1
    simp only [den, CV.ptr.injEq] at e1
    have su := sat.all u hu
    have h3 := aF su.fa g1
    simp only [Lin.ev, su.z, z] at h3 h1
    have hk : (t.ev u).toNat * k = (t.ev w).toNat * k := by omega
    have hk' := Nat.eq_of_mul_eq_mul_right (show 0 < k by omega) hk
    simp only [Lin.ev] at hk' ⊢; omega
   refine ⟨(AV.ptr b (off + (t.ev w).toNat * k), ({ st1 with fa := [.dc t.s 0 ((t.ev w).toNat - t.c), .dc 0 t.s (t.c - (t.ev w).toNat)] ++ st1.fa } : St)), List.mem_flatMap.2 ⟨_, ho, ?_⟩, w, hw, hn, he, c, h', hr, ⟨sat.pos, fun u hu => ?_⟩, fun u hu => ?_⟩
   ·simp only [fb, hhi]
    rw [if_pos ⟨g1, g2, g3, g4', g4⟩]
    exact hm
   ·have su := sat.all u hu
    refine ⟨su.z, su.env, fun f hf => ?_, su.bl, su.nd, su.lt, su.hn, su.fr⟩
    rcases List.mem_append.1 hf with hf | hf
    ·have hsm := hsame u hu
     have hz := su.z
     simp only [List.mem_cons, List.not_mem_nil, or_false] at hf
     simp only [Lin.ev] at hsm h0
     rcases hf with rfl | rfl <;> simp only [FOK] <;> (simp only [Lin.ev]; omega)
    ·exact su.fa f hf
   ·have e1 := hd u hu
    rw [← e1]
    simp only [den, hsame u hu]
  ·exact keep mS
 ·exact keep mS
end
end
end Ce.S
namespace Ce.S
noncomputable section
open Go
section
variable {X : Cx} {v : V} {st : St} {env : List CV} {h : H}
def qE7 (f : St → Option (List (Bool × St))) : List St → Option (List (Bool × St))
 | [] => some []
 | s :: ss => match f s, qE7 f ss with
  | some a, some b => some (a ++ b)
  | _, _ => none
theorem rj {f : St → Option (List (Bool × St))} : ∀ {l : List St} {r : List (Bool × St)}, qE7 f l = some r → ∀ s, s ∈ l → ∃ a, f s = some a ∧ ∀ x, x ∈ a → x ∈ r
 | [], r, h, s, hs => by cases hs
 | t :: l, r, h, s, hs => by
  simp only [qE7] at h
  split at h
  ·rename_i a b ha hb
   simp only [sI] at h; subst h
   rcases List.mem_cons.1 hs with rfl | hs
   ·exact ⟨a, ha, fun x hx => List.mem_append_left _ hx⟩
   ·obtain ⟨c, hc, hm⟩ := rj hb s hs
    exact ⟨c, hc, fun x hx => List.mem_append_right _ (hm x hx)⟩
  ·cases h
def eqS : List AV → List AV → St → Option (List (Bool × St))
 | [], [], st => some [(true, st)]
 | .int k s c :: as, .int k' s' c' :: bs, st => if k = k' then match sf st (wv st.fa false s s' (c' - c)) with
   | some (T, F) => match qE7 (eqS as bs) T with
    | some r => some (F.map (fun x => (false, x)) ++ r)
    | none => none
   | none => none
  else none
 | _, _, _ => none
theorem qAN : ∀ {as bs : List AV} {A B : List CV} {st : St} {outs : List (Bool × St)}, eqS as bs st = some outs → Sat X v st env h →
  (∀ (st2 : St) (u : V), st2.env = st.env → Sat0 X u st2 env h → A = aG u as ∧ B = aG u bs) →
  ∃ b st', (b, st') ∈ outs ∧ Sat X v st' env h ∧ st'.n = st.n ∧ st'.env = st.env ∧ bj A B = some b
 | [], [], A, B, st, outs, ho, s, hp => by
  simp only [eqS, sI] at ho; subst ho
  obtain ⟨rfl, rfl⟩ := hp st v rfl s.now
  exact ⟨true, st, mS, s, rfl, rfl, rfl⟩
 | .int k sa c :: as, .int k' sb c' :: bs, A, B, st, outs, ho, s, hp => by
  simp only [eqS] at ho
  split at ho
  ·rename_i hk; subst hk
   split at ho
   ·rename_i T F hc
    split at ho
    ·rename_i r hr
     simp only [sI] at ho; subst ho
     have e0 := hp st v rfl s.now
     have hcv : ∀ u, Sat0 X u st env h → CV.bool ((v.i sa + c) == (v.i sb + c')) = den u (wv st.fa false sa sb (c' - c)) := fun u su => by
      have e1 := hp st u rfl su
      rw [e0.1, e0.2] at e1
      simp only [aG, List.cons.injEq, den, CV.int.injEq, true_and] at e1
      rw [nB su.fa, e1.1.1, e1.2.1]
      have e : (u.i sa + c == u.i sb + c') = decide (u.i sa - u.i sb = c' - c) := by
       rw [Bool.eq_iff_iff, beq_iff_eq, dT]; omega
      rw [e]
      cases decide (u.i sa - u.i sb = c' - c) <;> rfl
     obtain ⟨b, hb, st', hm, s', hn, he⟩ := nf s hc hcv
     have hb2 : (v.i sa + c == v.i sb + c') = b := by simpa using hb
     have hev : bj A B = if b then bj (aG v as) (aG v bs) else some false := by
      rw [e0.1, e0.2, ← hb2]
      simp only [aG, den, bj, eqv, if_true]
      cases (v.i sa + c == v.i sb + c') <;> rfl
     clear hb hb2
     cases b with
     | false =>
      simp only [Bool.false_eq_true, if_false] at hm
      exact ⟨false, st', List.mem_append_left _ (List.mem_map.2 ⟨st', hm, rfl⟩), s', hn, he, hev⟩
     | true =>
      simp only [if_true] at hm
      obtain ⟨a, ha, hsub⟩ := rj hr st' hm
      obtain ⟨b2, st2, hm2, s2, hn2, he2, hv2⟩ := qAN (A := aG v as) (B := aG v bs) ha s' (fun st3 u h3 su => by
       have e1 := hp st3 u (h3.trans he) su
       rw [e0.1, e0.2] at e1
       simp only [aG, List.cons.injEq] at e1
       exact ⟨e1.1.2, e1.2.2⟩)
      exact ⟨b2, st2, List.mem_append_right _ (hsub _ hm2), s2, hn2.trans hn, he2.trans he, hev.trans hv2⟩
    ·cases ho
   ·cases ho
  ·cases ho
 | [], _ :: _, _, _, _, _, ho, _, _ => by simp [eqS] at ho
def sEqA (neg : Bool) (e : EqK) (a b : AV) (st : St) : Option (List (AV × St)) :=
 match e, a, b with
 | .leaf true ls, .agg la, .agg lb =>
  if Nat.ble la.length 2 && !(eqA st.fa a b) then
   match nN st.fa a, nN st.fa b, eqS la lb st with
   | some (_, ks1), some (_, ks2), some r => if ks1 = ks2 ∧ ks1.map LK.lf = ls then some (r.map fun x => (.bool (if neg then !x.1 else x.1), x.2)) else none
   | _, _, _ => sEq neg e a b st
  else sEq neg e a b st
 | _, _, _ => sEq neg e a b st
theorem qDD (s : Sat X v st env h) {neg : Bool} {e : EqK} {a b : AV} {outs : List (AV × St)} (hs : sEqA neg e a b st = some outs) {x y : CV} {r : Option (CV × H)} (hx : ∀ (st2 : St) (w : V), st2.env = st.env → Sat0 X w st2 env h → x = den w a) (hy : ∀ (st2 : St) (w : V), st2.env = st.env → Sat0 X w st2 env h → y = den w b) (hr : r = match eqK e x y with
  | some b => some (.bool (if neg then !b else b), h)
  | none => none) : aY X v st env outs r := by
 have base : sEq neg e a b st = some outs → aY X v st env outs r := fun h1 => sEq_ok s h1 (fun w sw => hx st w rfl sw) (fun w sw => hy st w rfl sw) hr
 unfold sEqA at hs
 split at hs
 ·rename_i ls la lb
  split at hs
  ·split at hs
   ·rename_i a1 ks1 a2 ks2 r1 h1 h2 h3
    split at hs
    ·rename_i hc
     obtain ⟨rfl, rfl⟩ := hc
     simp only [sI] at hs; subst hs
     have s0 := s.now
     have k1 := fX s0.fa h1
     have k2 := fX s0.fa h2
     have ag1 : a1 = true := by
      simp only [nN, Option.map_eq_some_iff, pI] at h1
      obtain ⟨_, _, q, _⟩ := h1
      exact q.symm
     have ag2 : a2 = true := by
      simp only [nN, Option.map_eq_some_iff, pI] at h2
      obtain ⟨_, _, q, _⟩ := h2
      exact q.symm
     subst ag1; subst ag2
     obtain ⟨bb, st', hm, s', hn, he, hv⟩ := qAN (A := aG v la) (B := aG v lb) h3 s (fun st2 u hu su => by
      have e1 := hx st2 u hu su
      have e2 := hy st2 u hu su
      rw [hx st v rfl s0] at e1
      rw [hy st v rfl s0] at e2
      simp only [den, CV.agg.injEq] at e1 e2
      exact ⟨e1, e2⟩)
     obtain ⟨b', hb'⟩ := kv k1 k2
     have hbb : b' = bb := by
      have this := hb'
      unfold eqF at this
      have e2 : bj (den v (.agg la)).cells (den v (.agg lb)).cells = bj (aG v la) (aG v lb) := by simp only [den, CV.cells]
      split at this
      ·rw [e2, hv, sI] at this; exact this.symm
      ·cases this
     refine ⟨_, List.mem_map.2 ⟨(bb, st'), hm, rfl⟩, v, Agr.refl _ _, by rw [hn]; exact Nat.le_refl _, he, .bool (if neg then !bb else bb), h, ?_, s', fun u hu => rfl⟩
     rw [hr, hx st v rfl s0, hy st v rfl s0]
     simp only [eqK, ef k1, if_true, hb', hbb]
    ·cases hs
   ·exact base hs
  ·exact base hs
 ·exact base hs
end
end
end Ce.S
namespace Ce.S
noncomputable section
open Go
section
variable {X : Cx} {v : V} {st : St} {env : List CV} {h : H}
def yX (st : St) (k bytes : Nat) (s x : AV) : Option (List (AV × St)) :=
 match ji st k x with
 | none => none
 | some (m, new) => match s with
  | .slc k' b off i len cap => match hiC st.fa len with
   | none => none
   | some hi => if k' = k ∧ off = 0 ∧ i.s = 0 ∧ i.c = 0 ∧ leL st.fa ⟨0, 1⟩ len 0 = true ∧ leL st.fa cap len 0 = true ∧ (hi.toNat + m) * (bytes + 1) ≤ 2 ^ 40 then
     match ai b st.bl with
     | some (.blk _ (.rows k2 R n) _) => if k2 = k ∧ leL st.fa len n 0 = true ∧ l9 st.fa R (dp k m new) = true then
       some [(.vec k st.n (len.add m), { st with n := st.n + 1, bl := .blk st.n (.rows k R (len.add m)) false :: st.bl })] else none
     | some (.vec _ k2 R n _) => if k2 = k ∧ leL st.fa len n 0 = true ∧ l9 st.fa R (dp k m new) = true then
       some [(.vec k st.n (len.add m), { st with n := st.n + 1, bl := .blk st.n (.rows k R (len.add m)) false :: st.bl })] else none
     | _ => none
    else none
  | _ => none
theorem sq (s : Sat X v st env h) {k bytes m b : Nat} {new : List AV} {len cap n : Lin} {R : List Ty} {ro : Bool} {ca cx : CV} {r : Option (CV × H)} {cs0 : List CV} {i : Lin} {hi : Int}
  (hr : r = appV k bytes ca cx h) (ha : ∀ w, Sat0 X w st env h → ca = den w (.slc k b 0 i len cap)) (hi0 : i.s = 0 ∧ i.c = 0)
  (hnew : ∀ w, Sat0 X w st env h → 0 < m ∧ new.length = m * k ∧ lenOf cx = some m ∧ cellsOf k m h cx = some (aG w new) ∧ aJ (aG w new) = true)
  (hh : hiC st.fa len = some hi) (g5 : leL st.fa ⟨0, 1⟩ len 0 = true) (g6 : leL st.fa cap len 0 = true) (g7 : (hi.toNat + m) * (bytes + 1) ≤ 2 ^ 40)
  (g8 : leL st.fa len n 0 = true) (g9 : l9 st.fa R (dp k m new) = true)
  (hblk : ∀ w, Sat0 X w st env h → h.get (w.b b) = some (.cells cs0 ro) ∧ 0 < k ∧ R.length = k ∧ aN w k R cs0 (n.ev w).toNat) :
  aY X v st env [(.vec k st.n (len.add m), { st with n := st.n + 1, bl := .blk st.n (.rows k R (len.add m)) false :: st.bl })] r := by
 have s0 := s.now
 have basics : ∀ w, Sat0 X w st env h → 1 ≤ len.ev w ∧ cap.ev w ≤ len.ev w ∧ len.ev w ≤ hi ∧ len.ev w ≤ n.ev w ∧ i.ev w = 0 := fun w sw => by
  have q1 := aF sw.fa g5
  have q2 := aF sw.fa g6
  have q3 := dQ sw.z sw.fa hh
  have q4 := aF sw.fa g8
  have q5 : i.ev w = 0 := by simp only [Lin.ev, hi0.1, hi0.2, sw.z]; omega
  simp only [Lin.ev, sw.z] at q1 q2 q3 q4 ⊢
  simp only [Lin.ev] at q5
  omega
 have same : ∀ w, Sat0 X w st env h → w.b b = v.b b ∧ (len.ev w).toNat = (len.ev v).toNat := fun w sw => by
  have e1 := ha w sw
  rw [ha v s0] at e1
  simp only [den, CV.slc.injEq, true_and] at e1
  exact ⟨e1.1.symm, e1.2.2.1.symm⟩
 have hcut : ∀ w, Sat0 X w st env h → cut? cs0 0 ((len.ev w).toNat * k) = some ((cs0.drop 0).take ((len.ev w).toNat * k)) ∧ aN w k R ((cs0.drop 0).take ((len.ev w).toNat * k)) (len.ev w).toNat := fun w sw => by
  obtain ⟨_, hk0, hRk, hrows⟩ := hblk w sw
  have hb := basics w sw
  have hl := ((aU w k R hRk _ _).1 hrows).1
  have hle : (len.ev w).toNat * k ≤ (n.ev w).toNat * k := Nat.mul_le_mul_right _ (by omega)
  refine ⟨?_, ?_⟩
  ·unfold cut?; rw [if_pos (by omega)]
  ·rw [List.drop_zero]; exact f7 hRk hrows (by omega)
 refine ed s (cs := (cs0.drop 0).take ((len.ev v).toNat * k) ++ aG v new) (fun u hu su => ?_) (fun u su => ?_)
 ·have hb := basics u su
  obtain ⟨n1, n2, n3, n4, n5⟩ := hnew u su
  obtain ⟨_, _, _, n4v, n5v⟩ := hnew v s0
  obtain ⟨hg, hk0, hRk, hrows⟩ := hblk u su
  have hc := (hcut u su).1
  have hsz : ((len.ev u).toNat + m) * (bytes + 1) ≤ 2 ^ 40 := Nat.le_trans (Nat.mul_le_mul_right _ (by omega)) g7
  rw [hr, ha u su]
  have e0 : i.ev u = 0 := hb.2.2.2.2
  simp only [den, e0, Int.toNat_zero, Nat.zero_mul, Nat.add_zero]
  have hlo : lenOf (CV.slc k (u.b b) 0 (len.ev u).toNat (some (cap.ev u).toNat)) = some (len.ev u).toNat := rfl
  simp only [appV, hlo, n3, if_neg (show ¬ m = 0 by omega), if_neg (show ¬ ((len.ev u).toNat + m) * (bytes + 1) > 2 ^ 40 by omega), n4v, n5v, Bool.true_eq_false, if_false, ne_eq, not_true_eq_false, hg]
  rw [if_neg (by omega), hc]
  simp only [(same u su).2]
  have hl2 : (len.add ↑m).ev u = (((len.ev v).toNat + m : Nat) : Int) := by
   rw [Lin.add_ev]; have := (same u su).2; omega
  rw [if_neg (by omega), hl2, hu, Int.toNat_natCast]
 ·obtain ⟨n1, n2, n3, n4, n5⟩ := hnew u su
  obtain ⟨_, _, _, n4v, _⟩ := hnew v s0
  obtain ⟨hg, hk0, hRk, hrows⟩ := hblk u su
  have hb := basics u su
  have hc := (hcut u su).2
  have hnw : aG v new = aG u new := by rw [n4] at n4v; exact (Option.some.inj n4v).symm
  have hl2 : (len.add ↑m).ev u = (((len.ev v).toNat + m : Nat) : Int) := by
   rw [Lin.add_ev]; have := (same u su).2; omega
  refine ⟨hk0, hRk, by rw [hl2]; omega, ?_⟩
  rw [hl2, Int.toNat_natCast, hnw]
  rw [(same u su).2] at hc
  exact gg hc (eT su.z su.fa n2 g9)
theorem qDL (s : Sat X v st env h) {k bytes : Nat} {a x : AV} {outs : List (AV × St)} (hs : yX st k bytes a x = some outs) {ca cx : CV} {r : Option (CV × H)} (hr : r = appV k bytes ca cx h) (ha : ∀ w, Sat0 X w st env h → ca = den w a) (hx : ∀ w, Sat0 X w st env h → cx = den w x) : aY X v st env outs r := by
 have s0 := s.now
 unfold yX at hs
 split at hs <;> (try (cases hs; done))
 rename_i m new hnc
 have hnew : ∀ w, Sat0 X w st env h → 0 < m ∧ new.length = m * k ∧ lenOf cx = some m ∧ cellsOf k m h cx = some (aG w new) ∧ aJ (aG w new) = true := fun w sw => by
  rw [hx w sw]; exact iB sw hnc
 split at hs <;> (try (cases hs; done))
 rename_i k' b off i len cap
 split at hs <;> (try (cases hs; done))
 rename_i hi hh
 split at hs <;> (try (cases hs; done))
 rename_i hg
 obtain ⟨rfl, rfl, g3, g4, g5, g6, g7⟩ := hg
 split at hs <;> (try (cases hs; done))
 ·rename_i b' k2 R n ro hb
  have hkey := (s0.blk hb).2
  simp only [cD] at hkey; subst hkey
  split at hs <;> (try (cases hs; done))
  rename_i hg2
  obtain ⟨rfl, g8, g9⟩ := hg2
  simp only [sI] at hs; subst hs
  obtain ⟨cs0, hcs0, _⟩ := (s0.blk hb).1
  refine sq s hr ha ⟨g3, g4⟩ hnew hh g5 g6 g7 g8 g9 (cs0 := cs0) (ro := ro) (fun w sw => ?_)
  obtain ⟨cs1, hcs1, hk0, hRk, hn0, hrows⟩ := (sw.blk hb).1
  have e1 := ha w sw
  rw [ha v s0] at e1
  simp only [den, CV.slc.injEq, true_and] at e1
  rw [← e1.1] at hcs1 ⊢
  rw [hcs0] at hcs1
  simp only [sI, Blk.cells.injEq, and_true] at hcs1; subst hcs1
  exact ⟨hcs0, hk0, hRk, hrows⟩
 ·rename_i b' k2 R n ro hb
  have hkey := (s0.blk hb).2
  simp only [cD] at hkey; subst hkey
  split at hs <;> (try (cases hs; done))
  rename_i hg2
  obtain ⟨rfl, g8, g9⟩ := hg2
  simp only [sI] at hs; subst hs
  have pos : ∀ w, Sat0 X w st env h → ¬ n.ev w = 0 := fun w sw => by
   have q1 := aF sw.fa g5
   have q4 := aF sw.fa g8
   simp only [Lin.ev, sw.z] at q1 q4 ⊢; omega
  rcases (s0.blk hb).1 with h0 | ⟨cs0, hcs0, _⟩
  ·exact absurd h0 (pos v s0)
  refine sq s hr ha ⟨g3, g4⟩ hnew hh g5 g6 g7 g8 g9 (cs0 := cs0) (ro := ro) (fun w sw => ?_)
  rcases (sw.blk hb).1 with h0 | ⟨cs1, hcs1, hk0, hRk, hn0, hrows⟩
  ·exact absurd h0 (pos w sw)
  have e1 := ha w sw
  rw [ha v s0] at e1
  simp only [den, CV.slc.injEq, true_and] at e1
  rw [← e1.1] at hcs1 ⊢
  rw [hcs0] at hcs1
  simp only [sI, Blk.cells.injEq, and_true] at hcs1; subst hcs1
  exact ⟨hcs0, hk0, hRk, hrows⟩
theorem m6 : ∀ (cs new : List CV), cs.length = new.length → splice cs 0 new = new
 | [], [], _ => rfl
 | [], _ :: _, h => by simp at h
 | _ :: _, [], h => by simp at h
 | c :: cs, x :: xs, h => by simp only [splice]; rw [m6 cs xs (by simpa using h)]
def yW (st : St) (k : Nat) (d s : AV) : Option (List (AV × St)) :=
 match tT st k s, d with
 | some (R, sl), .slc k' b off i len _ =>
  if k' = k ∧ off = 0 ∧ i.s = 0 ∧ i.c = 0 ∧ leL st.fa ⟨0, 0⟩ len 0 = true ∧ leL st.fa len sl 0 = true ∧ fE R = true then
   match ai b st.bl with
   | some (.blk _ (.rows k2 _ n) false) => if k2 = k ∧ bL st.fa len n = true then
     some [(.int .i64 len.s len.c, { st with bl := cN b [.blk b (.rows k R len) false] st.bl })] else none
   | _ => none
  else none
 | _, _ => none
theorem yV (s : Sat X v st env h) {k : Nat} {a x : AV} {outs : List (AV × St)} (hs : yW st k a x = some outs) {ca cx : CV} {r : Option (CV × H)} (hr : r = cpyV k ca cx h) (ha : ∀ w, Sat0 X w st env h → ca = den w a) (hx : ∀ w, Sat0 X w st env h → cx = den w x) : aY X v st env outs r := by
 have s0 := s.now
 unfold yW at hs
 split at hs <;> (try (cases hs; done))
 rename_i R sl k' b off i len cap hsrc
 obtain ⟨m, hm, hsl, hRk, hnew⟩ := lw s hsrc hx
 split at hs <;> (try (cases hs; done))
 rename_i hg
 obtain ⟨rfl, rfl, g1, g2, g3, g4, g5⟩ := hg
 split at hs <;> (try (cases hs; done))
 rename_i b' k2 R2 n hb
 have hkey := (s0.blk hb).2
 simp only [cD] at hkey; subst hkey
 split at hs <;> (try (cases hs; done))
 rename_i hg2
 obtain ⟨rfl, g6⟩ := hg2
 simp only [sI] at hs; subst hs
 have basics : ∀ w, Sat0 X w st env h → 0 ≤ len.ev w ∧ len.ev w ≤ (m : Int) ∧ n.ev w = len.ev w ∧ i.ev w = 0 := fun w sw => by
  have q1 := aF sw.fa g3
  have q2 := aF sw.fa g4
  have q3 := a8 sw.fa g6
  have q4 := hsl w sw
  have q5 : i.ev w = 0 := by simp only [Lin.ev, g1, g2, sw.z]; omega
  simp only [Lin.ev, sw.z] at q1 q2 q3 q4 ⊢
  simp only [Lin.ev] at q5
  omega
 have hlen : lenOf ca = some (len.ev v).toNat := by rw [ha v s0]; rfl
 have same : ∀ w, Sat0 X w st env h → w.b b' = v.b b' ∧ (len.ev w).toNat = (len.ev v).toNat := fun w sw => by
  have e1 := ha w sw
  rw [ha v s0] at e1
  simp only [den, CV.slc.injEq, true_and] at e1
  exact ⟨e1.1.symm, e1.2.2.1.symm⟩
 rw [vu hlen hm] at hr
 have bv := basics v s0
 have hmin : min m (len.ev v).toNat = (len.ev v).toNat := Nat.min_eq_right (by omega)
 rw [hmin] at hr
 obtain ⟨cs0, hcs0, hk0, _, hn0, hrows0⟩ := (s0.blk hb).1
 have dv : ∀ w, Sat0 X w st env h → den w (.int .i64 len.s len.c) = .int .i64 ((len.ev v).toNat : Nat) := fun w sw => by
  have := (basics w sw).1
  have := (same w sw).2
  simp only [den]
  congr 1
  show len.ev w = _
  omega
 by_cases h0 : (len.ev v).toNat = 0
 ·rw [if_pos h0] at hr
  refine aY.mk' (w := v) (c := .int .i64 0) (h' := h) mS (Agr.refl _ _) (Nat.le_refl _) rfl s.pos hr (fun u hu => ?_)
  have su := s.all u hu
  refine ⟨su.say hb rfl ⟨cs0, ?_, hk0, hRk, (basics u su).1, ?_⟩, by rw [dv u su, h0]; rfl⟩
  ·rw [(same u su).1]; exact hcs0
  ·have e : (len.ev u).toNat = 0 := by rw [(same u su).2, h0]
   have e2 : (n.ev v).toNat = 0 := by rw [bv.2.2.1]; exact h0
   rw [e2] at hrows0
   rw [e]
   exact hrows0
 ·rw [if_neg h0] at hr
  obtain ⟨new, hcells, hrowsN⟩ := hnew (len.ev v).toNat (by omega) h0
  have hone : aJ new = true := gx g5 (hrowsN v s0)
  have hnl := ((aU v k2 R hRk _ _).1 (hrowsN v s0)).1
  refine mq s hb (fun u => rfl) (cs := new) (ro := false) (fun u su => ?_) (fun u su => ?_)
  ·obtain ⟨cs1, hcs1, _, hR1, _, hrows1⟩ := (su.blk hb).1
   have hl1 := ((aU u k2 R2 hR1 _ _).1 hrows1).1
   have bu := basics u su
   have sm := same u su
   rw [bu.2.2.1, sm.2] at hl1
   rw [hr, hcells, dv u su, ha u su]
   simp only [den, hcs1, bu.2.2.2, Int.toNat_zero, Nat.zero_mul, Nat.add_zero, Nat.zero_add]
   rw [if_pos (by simp only [aT, dT]; exact ⟨by omega, hone⟩), m6 _ _ (by omega)]
  ·refine ⟨hk0, hRk, (basics u su).1, ?_⟩
   rw [(same u su).2]
   exact hrowsN u su
end
end
end Ce.S
namespace Ce.S
noncomputable section
open Go
section
variable {X : Cx} {v : V} {st : St} {env : List CV} {h : H}
def op? (st : St) : Option Opd → Option (Option AV)
 | none => some none
 | some o => (opA st.env o).map some
theorem op?_ok {w : V} (sw : Sat0 X w st env h) {o : Option Opd} {a : Option AV} (ha : op? st o = some a) : Opd.evo env o = a.map (den w) := by
 cases o with
 | none => simp only [op?, sI] at ha; subst ha; rfl
 | some o =>
  simp only [op?, Option.map_eq_some_iff] at ha
  obtain ⟨x, hx, rfl⟩ := ha
  simp only [Opd.evo, sw.op hx, Option.map_some]
def rJ (fa : List Fact) (s : Nat) (i : Lin) : List Fact → Option (List AV)
 | [] => none
 | .row s' i' cs :: r => if s' == s && bL fa i' i then some cs else rJ fa s i r
 | _ :: r => rJ fa s i r
theorem ye {w : V} {fa : List Fact} (hf : ∀ f, f ∈ fa → FOK w f) {s : Nat} {i : Lin} {cs : List AV} : ∀ {l : List Fact}, (∀ f, f ∈ l → FOK w f) → rJ fa s i l = some cs → FOK w (.row s i cs) := by
 intro l
 induction l with
 | nil => intro _ h; cases h
 | cons f r ih =>
  intro hl h
  have hrest := ih (fun f hm => hl f (mC _ hm))
  have h0 := hl f (mS)
  cases f with
  | row s' i' ds =>
   simp only [rJ] at h
   split at h
   ·rename_i hc
    simp only [aT, beq_iff_eq] at hc
    simp only [sI] at h
    obtain ⟨rfl, h1⟩ := hc
    subst h
    have e := a8 hf h1
    obtain ⟨q1, q2⟩ := h0
    rw [e] at q1 q2
    exact ⟨q1, q2⟩
   ·exact hrest h
  | _ => exact hrest h
def sIaR (st : St) (k : Nat) (x i : AV) : Option (List (AV × St)) := match x, asLin i with
 | .sym s, some ii => match rJ st.fa s ii st.fa with
  | some cs => if cs.length = k then some [(.rptr cs, st)] else yT st k x i
  | none => yT st k x i
 | _, _ => yT st k x i
theorem qD9 (s : Sat X v st env h) {k : Nat} {x i : AV} {outs : List (AV × St)} (hs : sIaR st k x i = some outs) {cx ci : CV} (hx : ∀ w, Sat0 X w st env h → cx = den w x) (hi : ∀ w, Sat0 X w st env h → ci = den w i) {r : Option (CV × H)} (hr : r = match (generalizing := false) cx, bG? ci with
  | .slc _ r off len _, some i => if i < len then some (.ptr r (off + i * k), h) else none
  | .lst rows _, some i => match nth? rows i with
   | some row => if row.length = k then some (.rptr row, h) else none
   | none => none
  | _, _ => none) : aY X v st env outs r := by
 unfold sIaR at hs
 split at hs
 ·rename_i s1 ii hii
  split at hs
  ·rename_i cs hcs
   split at hs
   ·rename_i hk
    simp only [sI] at hs; subst hs
    refine aK s fun w sw => ?_
    obtain ⟨q1, rows, ex, q2, q3⟩ := ye sw.fa sw.fa hcs
    obtain ⟨kk, e1⟩ := dC (w := w) hii
    rw [hr, hx w sw, hi w sw, e1]
    simp only [den, q2, bG?, if_pos q1, q3, am, hk, if_true]
   ·exact px s hs hx hi hr
  ·exact px s hs hx hi hr
 ·exact px s hs hx hi hr
def vY : BinOp → Bool
 | .shl | .shr => true
 | _ => false
def qGC : AV → Bool
 | .ptr _ _ | .iptr _ _ _ _ | .clo _ _ _ | .rptr _ => true
 | _ => false
def sO (o : Ins) (st : St) : Option (List (AV × St)) :=
 match o with
 | .mov x => (opA st.env x).map fun a => [(a, st)]
 | .pick c a b => match opA st.env c, opA st.env a, opA st.env b with
  | some c, some a, some b => yL st c a b
  | _, _, _ => none
 | .alloc z => tY st z
 | .box x => match opA st.env x with
  | some a => sBox st a
  | none => none
 | .build z ps => match hZ z with
  | some l => (sV st l ps).map fun c => [(.agg c, st)]
  | none => none
 | .bsl k z len ps => sBsl st k z len ps
 | .ld g a => match opA st.env a with
  | some a => sLd st g a
  | none => none
 | .st n a x => match opA st.env a, opA st.env x with
  | some a, some x => sSt st n a x
  | _, _ => none
 | .nilck x => match opA st.env x with
  | some a => if qGC a then some [(a, st)] else none
  | none => none
 | .bin op x y => match opA st.env x, opA st.env y with
  | some (.int k s c), some (.int k' s' c') => if vY op then tW op k ⟨s, c⟩ ⟨s', c'⟩ st else if k = k' then sBin op k ⟨s, c⟩ ⟨s', c'⟩ st else none
  | _, _ => none
 | .eqo neg e x y => match opA st.env x, opA st.env y with
  | some a, some b => sEqA neg e a b st
  | _, _ => none
 | .un op x => match opA st.env x with
  | some a => sUn op a st
  | none => none
 | .cvi k x => match opA st.env x with
  | some (.int _ s c) => some [lM st k (some ⟨s, c⟩) []]
  | _ => none
 | .mkf f a b => match mu st.env a, mu st.env b with
  | some a, some b => some [(.clo f a b, st)]
  | _, _ => none
 | .mkmap => some (yS st)
 | .mksl k bytes z l c => match opA st.env l, opA st.env c with
  | some l, some c => yR st k bytes z l c
  | _, _ => none
 | .slA n k x lo hi mx => match opA st.env x, op? st lo, op? st hi, op? st mx with
  | some x, some lo, some hi, some mx => sSlA st n k x lo hi mx
  | _, _, _, _ => none
 | .slS k x lo hi mx => match opA st.env x, op? st lo, op? st hi, op? st mx with
  | some x, some lo, some hi, some mx => sSlS st k x lo hi mx
  | _, _, _, _ => none
 | .fad off x => match opA st.env x with
  | some (.ptr b o) => some [(.ptr b (o + off), st)]
  | some (.iptr b o k i) => some [(.iptr b (o + off) k i, st)]
  | some (.rptr c) => some [(.rptr (c.drop off), st)]
  | _ => none
 | .fld off g x => match opA st.env x with
  | some (.agg l) => (lS st.fa g l off).map fun a => [(a, st)]
  | _ => none
 | .iaS k x i => match opA st.env x, opA st.env i with
  | some x, some i => (sIaR st k x i).map fun outs => outs.flatMap (fb 3 2)
  | _, _ => none
 | .iaA n k x i => match opA st.env x, opA st.env i with
  | some x, some i => (qDC st n k x i).map fun outs => outs.flatMap (fb 6 2)
  | _, _ => none
 | .ixA n k g x i => match opA st.env x, opA st.env i with
  | some x, some i => sIxA st n k g x i
  | _, _ => none
 | .lku ag ls z x i ok => match opA st.env x, opA st.env i with
  | some x, some i => sLku st ag ls z x i ok
  | _, _ => none
 | .mset ag ls m k x => match opA st.env m, opA st.env k, opA st.env x with
  | some m, some k, some x => yP st ag ls m k x
  | _, _, _ => none
 | .ext t i => match opA st.env t with
  | some (.tup l) => (oT l i).map fun a => [(a, st)]
  | _ => none
 | .app k bytes s x => match opA st.env s, opA st.env x with
  | some s, some x => match yY st k bytes s x with
   | some r => some r
   | none => match sApp st k bytes s x with
    | some r => some r
    | none => match yZ st k bytes s x with
     | some r => some r
     | none => yX st k bytes s x
  | _, _ => none
 | .lenS x => match opA st.env x with
  | some a => sLen a st
  | none => none
 | .lenA n => some [(.int .i64 0 n, st)]
 | .cpy k d s => match opA st.env d, opA st.env s with
  | some d, some s => match yW st k d s with
   | some r => some r
   | none => sCpy st k d s
  | _, _ => none
 | .mn xs => match mu st.env xs with
  | some l => sMn l st
  | none => none
 | .mx xs => match mu st.env xs with
  | some l => sMx l st
  | none => none
 | .ckl g a x => match opA st.env a, opA st.env x with
  | some a, some x => sCkl st g a x
  | _, _ => none
 | .cku ag ls z x i ok d => match opA st.env x, opA st.env i, opA st.env d with
  | some x, some i, some d => sCku st ag ls z x i ok d
  | _, _, _ => none
 | _ => none
theorem qG1 (s : Sat X v st env h) {o : Ins} {outs : List (AV × St)} (hs : sO o st = some outs) : aY X v st env outs (stepO noC o env h) := by
 have s0 := s.now
 cases o <;> simp only [sO] at hs <;> (try (cases hs; done))
 case mov x =>
  simp only [Option.map_eq_some_iff] at hs
  obtain ⟨a, ha, rfl⟩ := hs
  exact aK s fun w sw => by simp only [stepO, sw.op ha]
 case pick c a b =>
  split at hs <;> (try (cases hs; done))
  rename_i c' a' b' h1 h2 h3
  exact yK s hs (by simp only [stepO]; rfl) (fun w z e => by rw [e]; exact fT z h1) (fun w z e => by rw [e]; exact fT z h2) (fun w z e => by rw [e]; exact fT z h3)
 case alloc z => exact wW s hs rfl
 case box x =>
  split at hs <;> (try (cases hs; done))
  rename_i a ha
  exact qDI s hs rfl (fun w sw => sw.op ha)
 case build z ps =>
  split at hs <;> (try (cases hs; done))
  rename_i l hl
  simp only [Option.map_eq_some_iff] at hs
  obtain ⟨c, hc, rfl⟩ := hs
  exact aK s fun w sw => by
   have := sU sw ps l c hc
   rw [dU sw.z z l hl] at this
   simp only [stepO, this, den]
 case bsl k z len ps => exact qDH s hs rfl
 case ld g a =>
  split at hs <;> (try (cases hs; done))
  rename_i a' ha
  exact sLd_ok s hs (fun w sw => sw.op ha) rfl
 case st n a x =>
  split at hs <;> (try (cases hs; done))
  rename_i a' x' ha hx
  exact sSt_ok s hs (fun w sw => sw.op ha) (fun w sw => sw.op hx) rfl
 case nilck x =>
  split at hs <;> (try (cases hs; done))
  rename_i a ha
  split at hs
  ·rename_i hn
   simp only [sI] at hs; subst hs
   refine aK s fun w sw => ?_
   simp only [stepO, sw.op ha]
   cases a <;> first | rfl | (simp [qGC] at hn)
  ·cases hs
 case bin op x y =>
  split at hs <;> (try (cases hs; done))
  rename_i k s1 c k' s2 c' h1 h2
  have e1 : ∀ w, Sat0 X w st env h → x.ev env = .int k ((⟨s1, c⟩ : Lin).ev w) := fun w sw => sw.op h1
  have e2 : ∀ w, Sat0 X w st env h → y.ev env = .int k' ((⟨s2, c'⟩ : Lin).ev w) := fun w sw => sw.op h2
  have f1 : ∀ w, Sat0 X w st env h → (⟨s1, c⟩ : Lin).ev w = (⟨s1, c⟩ : Lin).ev v := fun w sw => by
   have := e1 w sw; rw [e1 v s0] at this; simp only [CV.int.injEq, true_and] at this; exact this.symm
  have f2 : ∀ w, Sat0 X w st env h → (⟨s2, c'⟩ : Lin).ev w = (⟨s2, c'⟩ : Lin).ev v := fun w sw => by
   have := e2 w sw; rw [e2 v s0] at this; simp only [CV.int.injEq, true_and] at this; exact this.symm
  split at hs
  ·rename_i hsh
   refine wU s hs f1 f2 ?_
   simp only [stepO, e1 v s0, e2 v s0]
   cases op <;> first | (simp [vY] at hsh; done) | rfl
  ·rename_i hsh
   split at hs
   ·rename_i hk; subst hk
    refine qDJ s hs f1 f2 ?_
    simp only [stepO, e1 v s0, e2 v s0]
    cases op <;> first | (simp only [Ce.bin, if_true]; done) | (simp only [Ce.bin, if_true]; rfl) | (exact absurd rfl hsh)
   ·cases hs
 case eqo neg e x y =>
  split at hs <;> (try (cases hs; done))
  rename_i a b h1 h2
  exact qDD s hs (fun st2 w he sw => sw.op (by rw [he]; exact h1)) (fun st2 w he sw => sw.op (by rw [he]; exact h2)) rfl
 case un op x =>
  split at hs <;> (try (cases hs; done))
  rename_i a ha
  exact sUn_ok s hs (fun w sw => sw.op ha) rfl
 case cvi k x =>
  split at hs <;> (try (cases hs; done))
  rename_i k1 s1 c1 ha
  simp only [sI] at hs; subst hs
  have e1 : ∀ w, Sat0 X w st env h → x.ev env = .int k1 ((⟨s1, c1⟩ : Lin).ev w) := fun w sw => sw.op ha
  refine dw s (m := (⟨s1, c1⟩ : Lin).ev v) (by simp only [stepO, e1 v s0]) (fun w l' hl sw => ?_) (fun w sw hn f hf => by cases hf)
  simp only [sI] at hl; subst hl
  have := e1 w sw; rw [e1 v s0] at this; simp only [CV.int.injEq, true_and] at this; exact this.symm
 case mkf f a b =>
  split at hs <;> (try (cases hs; done))
  rename_i a' b' ha hb
  simp only [sI] at hs; subst hs
  exact aK s fun w sw => by simp only [stepO, sw.ops ha, sw.ops hb, den]
 case mkmap =>
  simp only [sI] at hs; subst hs
  exact wV s rfl
 case mksl k bytes z l c =>
  split at hs <;> (try (cases hs; done))
  rename_i l' c' hl hc
  exact yQ s hs rfl (fun w sw => sw.op hl) (fun w sw => sw.op hc)
 case slA n k x lo hi mx =>
  split at hs <;> (try (cases hs; done))
  rename_i x' lo' hi' mx' hx h1 h2 h3
  exact qD4 s hs rfl (fun w sw => sw.op hx) (fun w sw => op?_ok sw h1) (fun w sw => op?_ok sw h2) (fun w sw => op?_ok sw h3)
 case slS k x lo hi mx =>
  split at hs <;> (try (cases hs; done))
  rename_i x' lo' hi' mx' hx h1 h2 h3
  exact qD3 s hs rfl (fun w sw => sw.op hx) (fun w sw => op?_ok sw h1) (fun w sw => op?_ok sw h2) (fun w sw => op?_ok sw h3)
 case fad off x =>
  split at hs <;> (try (cases hs; done))
  ·rename_i b o ha
   simp only [sI] at hs; subst hs
   exact aK s fun w sw => by simp only [stepO, sw.op ha, den]
  ·rename_i b o k i ha
   simp only [sI] at hs; subst hs
   exact aK s fun w sw => by simp only [stepO, sw.op ha, den]; rw [show o + (i.ev w).toNat * k + off = o + off + (i.ev w).toNat * k by omega]
  ·rename_i c ha
   simp only [sI] at hs; subst hs
   exact aK s fun w sw => by simp only [stepO, sw.op ha, den, gB]
 case fld off g x =>
  split at hs <;> (try (cases hs; done))
  rename_i l ha
  simp only [Option.map_eq_some_iff] at hs
  obtain ⟨a, h1, rfl⟩ := hs
  exact aK s fun w sw => by simp only [stepO, sw.op ha, den, fy sw.fa h1]
 case iaS k x i =>
  split at hs <;> (try (cases hs; done))
  rename_i x' i' h1 h2
  simp only [Option.map_eq_some_iff] at hs
  obtain ⟨o1, hs1, rfl⟩ := hs
  exact hO (qD9 s hs1 (fun w sw => sw.op h1) (fun w sw => sw.op h2) rfl)
 case iaA n k x i =>
  split at hs <;> (try (cases hs; done))
  rename_i x' i' h1 h2
  simp only [Option.map_eq_some_iff] at hs
  obtain ⟨o1, hs1, rfl⟩ := hs
  exact hO (um s hs1 (fun w sw => sw.op h1) (fun w sw => sw.op h2) rfl)
 case ixA n k g x i =>
  split at hs <;> (try (cases hs; done))
  rename_i x' i' h1 h2
  exact qD8 s hs (fun w sw => sw.op h1) (fun w sw => sw.op h2) rfl
 case lku ag ls z x i ok =>
  split at hs <;> (try (cases hs; done))
  rename_i x' i' h1 h2
  exact qD6 s hs rfl (fun w sw => sw.op h1) (fun w sw => sw.op h2)
 case mset ag ls m k x =>
  split at hs <;> (try (cases hs; done))
  rename_i m' k' x' h1 h2 h3
  exact yO s hs rfl (fun w z e => by rw [e]; exact fT z h1) (fun w z e => by rw [e]; exact fT z h2) (fun w z e => by rw [e]; exact fT z h3)
 case ext t i =>
  split at hs <;> (try (cases hs; done))
  rename_i l ha
  simp only [Option.map_eq_some_iff] at hs
  obtain ⟨a, h1, rfl⟩ := hs
  exact aK s fun w sw => by simp only [stepO, sw.op ha, den, r9 h1]
 case app k bytes x y =>
  split at hs <;> (try (cases hs; done))
  rename_i x' y' h1 h2
  split at hs
  ·rename_i r hr
   simp only [sI] at hs; subst hs
   exact qDM s hr rfl (fun w sw => sw.op h1) (fun w sw => sw.op h2)
  ·split at hs
   ·rename_i r hr
    simp only [sI] at hs; subst hs
    exact qDK s hr rfl (fun w sw => sw.op h1) (fun w sw => sw.op h2)
   ·split at hs
    ·rename_i r hr
     simp only [sI] at hs; subst hs
     exact qDN s hr rfl (fun w sw => sw.op h1) (fun w sw => sw.op h2)
    ·exact qDL s hs rfl (fun w sw => sw.op h1) (fun w sw => sw.op h2)
 case lenS x =>
  split at hs <;> (try (cases hs; done))
  rename_i a ha
  exact qD7 s hs (fun w sw => sw.op ha) rfl
 case lenA n =>
  simp only [sI] at hs; subst hs
  exact aK s fun w sw => by simp only [stepO, den, sw.z, Int.zero_add]
 case cpy k d x =>
  split at hs <;> (try (cases hs; done))
  rename_i x' y' h1 h2
  split at hs
  ·rename_i r hr
   simp only [sI] at hs; subst hs
   exact yV s hr rfl (fun w sw => sw.op h1) (fun w sw => sw.op h2)
  ·exact qDE s hs rfl (fun w sw => sw.op h1) (fun w sw => sw.op h2)
 case mn xs =>
  split at hs <;> (try (cases hs; done))
  rename_i l hl
  exact sMn_ok s hs (fun w sw => sw.ops hl) rfl
 case mx xs =>
  split at hs <;> (try (cases hs; done))
  rename_i l hl
  exact sMx_ok s hs (fun w sw => sw.ops hl) rfl
 case ckl g a x =>
  split at hs <;> (try (cases hs; done))
  rename_i x' y' h1 h2
  exact qDG s hs rfl (fun w sw => sw.op h1) (fun w sw => sw.op h2)
 case cku ag ls z x i ok d =>
  split at hs <;> (try (cases hs; done))
  rename_i x' i' d' h1 h2 h3
  exact qDF s hs rfl (fun w sw => sw.op h1) (fun w sw => sw.op h2) (fun w sw => sw.op h3)
def widT : Ty → Ty
 | .int k _ _ => dh k
 | T => T
def widR (lo hi : Nat) : Nat → List Ty → List Ty
 | _, [] => []
 | i, T :: Ts => (if lo ≤ i ∧ i < hi then widT T else T) :: widR lo hi (i + 1) Ts
def joinT (fa : List Fact) : Ty → Ty → Ty
 | .int k l h, .int _ l' h' => .int k (if leL fa l l' 0 then l else if leL fa l' l 0 then l' else ⟨0, kLo k⟩) (if leL fa h' h 0 then h else if leL fa h h' 0 then h' else ⟨0, kHi k⟩)
 | T, _ => T
def qGJ (fa : List Fact) : List Ty → List Ty → List Ty
 | T :: Ts, U :: Us => joinT fa T U :: qGJ fa Ts Us
 | Ts, _ => Ts
def tgtR (o : Ins) (st : St) (lo hi : Nat) (R : List Ty) : List Ty := match o with
 | .cpy k _ x => match (opA st.env x).bind (tT st k) with
  | some (R', _) => qGJ st.fa R R'
  | none => widR lo hi 0 R
 | _ => widR lo hi 0 R
def wN (st : St) (b : Nat) (f : List Ty → List Ty) : St := match ai b st.bl with
 | some (.blk b' (.rows k R n) ro) => if gm st.fa R (f R) = true ∧ (f R).length = R.length then { st with bl := cN b [.blk b' (.rows k (f R) n) ro] st.bl } else st
 | some (.vec b' k R n ro) => if gm st.fa R (f R) = true ∧ (f R).length = R.length then { st with bl := cN b [.vec b' k (f R) n ro] st.bl } else st
 | _ => st
theorem kU {w : V} {k : Nat} {R R2 : List Ty} (hR : ∀ c, aZ w R c → aZ w R2 c) : ∀ (n : Nat) (cs : List CV), aN w k R cs n → aN w k R2 cs n
 | 0, _, h => h
 | n + 1, _, ⟨h1, h2, h3⟩ => ⟨h1, hR _ h2, kU hR n _ h3⟩
theorem qC5 (s : Sat X v st env h) (b : Nat) (f : List Ty → List Ty) : Sat X v (wN st b f) env h := by
 have one : ∀ (p q : BE), ai b st.bl = some p → (∀ w, Sat0 X w st env h → BOK w h q) → (∀ w, adr w q = adr w p) → (∀ w, (adr w p).Nodup) → Sat X v { st with bl := cN b [q] st.bl } env h := by
  intro p q hl hq ha hnd
  refine ⟨s.pos, fun u hu => ?_⟩
  have su := s.all u hu
  obtain ⟨_, l1, l2, hbl, hm⟩ := cP hl
  have := su.upd (l1 := l1) (P := [p]) (P' := [q]) (l2 := l2) (h' := h) hbl (Nat.le_refl _) (fun j _ _ => rfl) (fun r hr => by
   simp only [List.mem_singleton] at hr; subst hr; exact hq u su) (by simpa [ha] using hnd u) (fun a hm => .inl (by simpa [ha] using hm))
  rw [← hm] at this
  exact this
 unfold wN
 split
 ·rename_i b' k R n ro hl
  split
  ·rename_i hst
   obtain ⟨hst, hlen⟩ := hst
   refine one _ _ hl (fun w sw => ?_) (fun w => rfl) (fun w => by simp [adr])
   obtain ⟨cs, h1, h2, h3, h4, h5⟩ := (sw.blk hl).1
   exact ⟨cs, h1, h2, by rw [hlen]; exact h3, h4, kU (fun c => dN sw.fa _ _ hst c) _ _ h5⟩
  ·exact s
 ·rename_i b' k R n ro hl
  split
  ·rename_i hst
   obtain ⟨hst, hlen⟩ := hst
   refine one _ _ hl (fun w sw => ?_) (fun w => rfl) (fun w => by simp only [adr]; split <;> simp)
   rcases (sw.blk hl).1 with h0 | ⟨cs, h1, h2, h3, h4, h5⟩
   ·exact .inl h0
   ·exact .inr ⟨cs, h1, h2, by rw [hlen]; exact h3, h4, kU (fun c => dN sw.fa _ _ hst c) _ _ h5⟩
  ·exact s
 ·exact s
theorem widB_n (st : St) (b : Nat) (f : List Ty → List Ty) : (wN st b f).n = st.n ∧ (wN st b f).env = st.env := by
 unfold wN
 split
 ·split <;> exact ⟨rfl, rfl⟩
 ·split <;> exact ⟨rfl, rfl⟩
 ·exact ⟨rfl, rfl⟩
def dstB (n : Nat) : AV → Option (Nat × Nat × Nat)
 | .slc k b _ _ _ _ => some (b, 0, k)
 | .vec k b _ => some (b, 0, k)
 | .iptr b off _ _ => some (b, off, off + n)
 | _ => none
def wrB (o : Ins) (st : St) : Option (Nat × Nat × Nat) := match o with
 | .st n a _ => (opA st.env a).bind (dstB n)
 | .cpy _ d _ => (opA st.env d).bind (dstB 0)
 | .app _ _ d _ => (opA st.env d).bind (dstB 0)
 | _ => none
def sOw (o : Ins) (st : St) : Option (List (AV × St)) := match sO o st with
 | some r => some r
 | none => match wrB o st with
  | some (b, lo, hi) => sO o (wN st b (tgtR o st lo hi))
  | none => none
theorem yM (s : Sat X v st env h) {o : Ins} {outs : List (AV × St)} (hs : sOw o st = some outs) : aY X v st env outs (stepO noC o env h) := by
 unfold sOw at hs
 split at hs
 ·rename_i r hr
  simp only [sI] at hs; subst hs
  exact qG1 s hr
 ·split at hs
  ·rename_i b lo hi _
   have := qG1 (qC5 s b (tgtR o st lo hi)) hs
   obtain ⟨o', ho, w, hw, hn, he, rest⟩ := this
   obtain ⟨e1, e2⟩ := widB_n st b (tgtR o st lo hi)
   rw [e1] at hw hn; rw [e2] at he
   exact ⟨o', ho, w, hw, hn, he, rest⟩
  ·cases hs
def qDB (o : Ins) (st : St) : Option (List (AV × St)) := match o with
 | .iaA n k x i => match opA st.env x, opA st.env i with
  | some x, some i => qDC st n k x i
  | _, _ => none
 | _ => none
theorem qDA (s : Sat X v st env h) {o : Ins} {outs : List (AV × St)} (hs : qDB o st = some outs) : aY X v st env outs (stepO noC o env h) := by
 unfold qDB at hs
 split at hs <;> (try (cases hs; done))
 rename_i n k x i
 split at hs <;> (try (cases hs; done))
 rename_i x' i' h1 h2
 exact um s hs (fun w sw => sw.op h1) (fun w sw => sw.op h2) rfl
end
end
end Ce.S
namespace Ce.S
noncomputable section
open Go
def iR (fa : List Fact) (s : Nat) (i : Lin) (R : List Ty) : List Fact → Bool
 | [] => false
 | .pre s' i' R' :: r => (s' == s && gm fa R' R && (bL fa i' i || (leL fa i i' 1 && chkRow fa s i' R fa))) || iR fa s i R r
 | _ :: r => iR fa s i R r
where
 chkRow (fa : List Fact) (s : Nat) (i : Lin) (R : List Ty) : List Fact → Bool
 | [] => false
 | .row s' i' cs :: r => (s' == s && bL fa i' i && qp fa R cs) || chkRow fa s i R r
 | _ :: r => chkRow fa s i R r
def jy (fa : List Fact) (s : Nat) (i : Lin) (cs : List AV) : List Fact → Bool
 | [] => false
 | .row s' i' ds :: r => (s' == s && bL fa i' i && nZ fa ds cs) || jy fa s i cs r
 | _ :: r => jy fa s i cs r
def jO (fa : List Fact) : List Lin → List Lin → Bool
 | [], [] => true
 | a :: as, b :: bs => bL fa a b && jO fa as bs
 | _, _ => false
def nj (fa : List Fact) (t : Lin) (up dn : List Lin) : List Fact → Bool
 | [] => false
 | .csum t' up' dn' :: r => (bL fa ⟨t', 0⟩ t && jO fa up' up && jO fa dn' dn) || nj fa t up dn r
 | _ :: r => nj fa t up dn r
def xT (fa : List Fact) (θ : Sub) : Fact → Bool
 | .dc x y c => leL fa (θ.iL x) (θ.iL y) c
 | .ty s T => tyA fa (mX θ T) (θ.cA s)
 | .len s t => match θ.cA s with
  | .sym s' => match gn s' fa with
   | some t' => bL fa ⟨t', 0⟩ (θ.iL t)
   | none => false
  | .nils => bL fa ⟨0, 0⟩ (θ.iL t)
  | .lrows rows _ => bL fa ⟨0, rows.length⟩ (θ.iL t)
  | _ => false
 | .row s i cs => match θ.cA s with
  | .sym s' => jy fa s' (cg θ i) (gu θ cs) fa
  | _ => false
 | .ixd _ _ => false
 | .sum _ _ _ _ => false
 | .csum t up dn => nj fa (θ.iL t) (up.map (cg θ)) (dn.map (cg θ)) fa
 | .pre s i R => match θ.cA s with
  | .sym s' => leL fa (cg θ i) ⟨0, 0⟩ 0 || iR fa s' (cg θ i) (eD θ R) fa || (leL fa (cg θ i) ⟨0, 1⟩ 0 && iR.chkRow fa s' ⟨0, 0⟩ (eD θ R) fa)
  | .nils => true
  | _ => false
theorem pS {w : V} {fa : List Fact} (z : w.i 0 = 0) (hf : ∀ f, f ∈ fa → FOK w f) {s : Nat} {i : Lin} {R : List Ty} : ∀ {l : List Fact}, (∀ f, f ∈ l → FOK w f) → iR.chkRow fa s i R l = true → 0 ≤ i.ev w ∧ ∃ rows ex r, w.c s = .lst rows ex ∧ nth? rows (i.ev w).toNat = some r ∧ aZ w R r := by
 intro l
 induction l with
 | nil => intro _ h; cases h
 | cons f r ih =>
  intro hl h
  have hrest := ih (fun f hm => hl f (mC _ hm))
  have h0 := hl f (mS)
  cases f with
  | row s' i' cs =>
   simp only [iR.chkRow, Bool.or_eq_true, aT, beq_iff_eq] at h
   rcases h with ⟨⟨rfl, h1⟩, h2⟩ | h
   ·have e := a8 hf h1
    obtain ⟨q1, rows, ex, q2, q3⟩ := h0
    rw [e] at q1 q3
    exact ⟨q1, rows, ex, _, q2, q3, gG z hf _ _ h2⟩
   ·exact hrest h
  | _ => exact hrest h
theorem xS {w : V} {fa : List Fact} (z : w.i 0 = 0) (hf : ∀ f, f ∈ fa → FOK w f) {s : Nat} {i : Lin} {R : List Ty} : ∀ {l : List Fact}, (∀ f, f ∈ l → FOK w f) → iR fa s i R l = true → FOK w (.pre s i R) := by
 intro l
 induction l with
 | nil => intro _ h; cases h
 | cons f r ih =>
  intro hl h
  have hrest := ih (fun f hm => hl f (mC _ hm))
  have h0 := hl f (mS)
  cases f with
  | pre s' i' R' =>
   simp only [iR, Bool.or_eq_true, aT, beq_iff_eq] at h
   rcases h with ⟨⟨rfl, h1⟩, h2⟩ | h
   ·simp only [FOK] at h0 ⊢
    intro rows ex hr j r hn hj
    rcases h2 with h2 | ⟨h2, h3⟩
    ·have e := a8 hf h2
     exact dN hf _ _ h1 r (h0 rows ex hr j r hn (by omega))
    ·have e := aF hf h2
     by_cases hlt : (j : Int) < i'.ev w
     ·exact dN hf _ _ h1 r (h0 rows ex hr j r hn hlt)
     ·obtain ⟨q1, rows', ex', r', q2, q3, q4⟩ := pS z hf hf h3
      rw [hr] at q2; cases q2
      have hj' : j = (i'.ev w).toNat := by omega
      rw [hj', q3, sI] at hn; subst hn
      exact q4
   ·exact hrest h
  | _ => exact hrest h
theorem uI {w : V} {fa : List Fact} (z : w.i 0 = 0) (hf : ∀ f, f ∈ fa → FOK w f) {s : Nat} {i : Lin} {cs : List AV} : ∀ {l : List Fact}, (∀ f, f ∈ l → FOK w f) → jy fa s i cs l = true → FOK w (.row s i cs) := by
 intro l
 induction l with
 | nil => intro _ h; cases h
 | cons f r ih =>
  intro hl h
  have hrest := ih (fun f hm => hl f (mC _ hm))
  have h0 := hl f (mS)
  cases f with
  | row s' i' ds =>
   simp only [jy, Bool.or_eq_true, aT, beq_iff_eq] at h
   rcases h with ⟨⟨rfl, h1⟩, h2⟩ | h
   ·have e := a8 hf h1
    have e2 := gT z hf _ _ h2
    obtain ⟨q1, rows, ex, q2, q3⟩ := h0
    rw [e] at q1 q3
    exact ⟨q1, rows, ex, q2, by rw [q3, e2]⟩
   ·exact hrest h
  | _ => exact hrest h
theorem lB {w : V} {fa : List Fact} (hf : ∀ f, f ∈ fa → FOK w f) : ∀ {as bs : List Lin}, jO fa as bs = true → dY w as = dY w bs
 | [], [], _ => rfl
 | [], _ :: _, h => by cases h
 | _ :: _, [], h => by cases h
 | a :: as, b :: bs, h => by
  simp only [jO, aT] at h
  simp only [dY, a8 hf h.1, lB hf h.2]
theorem xR {w : V} {fa : List Fact} (hf : ∀ f, f ∈ fa → FOK w f) {t : Lin} {up dn : List Lin} : ∀ {l : List Fact}, (∀ f, f ∈ l → FOK w f) → nj fa t up dn l = true → t.ev w = dY w up - dY w dn := by
 intro l
 induction l with
 | nil => intro _ h; cases h
 | cons f r ih =>
  intro hl h
  have hrest := ih (fun f hm => hl f (mC _ hm))
  have h0 := hl f mS
  cases f with
  | csum t' up' dn' =>
   simp only [nj, Bool.or_eq_true, aT] at h
   rcases h with ⟨⟨h1, h2⟩, h3⟩ | h
   ·have e := a8 hf h1
    have e2 := lB hf h2
    have e3 := lB hf h3
    simp only [FOK] at h0
    simp only [Lin.ev] at e ⊢
    omega
   ·exact hrest h
  | _ => exact hrest h
theorem nF (w : V) (θ : Sub) : ∀ (ls : List Lin), dY w (ls.map (cg θ)) = dY (w.comp θ) ls
 | [] => rfl
 | l :: ls => by simp only [List.map_cons, dY, bA, nF w θ ls]
theorem qFD {w : V} {fa : List Fact} (z : w.i 0 = 0) (hf : ∀ f, f ∈ fa → FOK w f) {θ : Sub} {f : Fact} (h : xT fa θ f = true) : FOK (w.comp θ) f := by
 cases f with
 | dc x y c => exact aF hf h
 | ty s T =>
  simp only [xT] at h
  simp only [FOK]
  exact (i3 w θ T _).1 (ep z hf _ _ h)
 | len s t =>
  simp only [xT] at h
  simp only [FOK, V.comp]
  split at h <;> (try (cases h; done))
  ·rename_i s' he
   split at h
   ·rename_i t' ht
    obtain ⟨n, hn, hi⟩ := df hf ht
    have e := a8 hf h
    simp only [Lin.ev] at e ⊢
    exact ⟨n, by rw [he]; exact hn, by omega⟩
   ·cases h
  ·rename_i he
   have e := a8 hf h
   simp only [Lin.ev, z] at e ⊢
   exact ⟨0, by rw [he]; rfl, by omega⟩
  ·rename_i rows ex he
   have e := a8 hf h
   simp only [Lin.ev, z] at e ⊢
   exact ⟨rows.length, by rw [he]; simp only [den, cY, eG, List.length_map], by omega⟩
 | row s i cs =>
  simp only [xT] at h
  split at h
  ·rename_i s' he
   obtain ⟨q1, rows, ex, q2, q3⟩ := uI z hf hf h
   rw [bA] at q1 q3
   rw [cL] at q3
   exact ⟨q1, rows, ex, by show den w (θ.cA s) = _; rw [he]; exact q2, q3⟩
  ·cases h
 | ixd fw bw => cases h
 | sum a b t c => cases h
 | csum t up dn =>
  have := xR hf hf h
  simp only [FOK, V.comp]
  rw [this, nF, nF]
  rfl
 | pre s i R =>
  simp only [xT] at h
  split at h <;> (try (cases h; done))
  ·rename_i s' he
   simp only [Bool.or_eq_true] at h
   have hc : (w.comp θ).c s = w.c s' := by simp only [V.comp, he, den]
   simp only [FOK]
   rcases h with (h | h) | h
   rotate_right
   ·simp only [aT] at h
    have e := aF hf h.1
    rw [bA] at e
    simp only [Lin.ev, z] at e
    obtain ⟨_, rows', ex', r', q2, q3, q4⟩ := pS z hf hf h.2
    intro rows ex hr j r hn hj
    rw [hc, q2] at hr
    cases hr
    have hj' : j = 0 := by simp only [Lin.ev] at hj; omega
    subst hj'
    have e0 : (Lin.ev w ⟨0, 0⟩).toNat = 0 := by simp only [Lin.ev, z]; rfl
    rw [e0, hn, sI] at q3
    subst q3
    exact (eu w θ R r).1 q4
   ·have e := aF hf h
    rw [bA] at e
    simp only [Lin.ev, z] at e
    intro rows ex _ j r _ hj
    simp only [Lin.ev] at hj; omega
   ·have := xS z hf hf h
    simp only [FOK] at this
    rw [hc]
    intro rows ex hr j r hn hj
    rw [← bA] at hj
    exact (eu w θ R r).1 (this rows ex hr j r hn hj)
  ·rename_i he
   simp only [FOK, V.comp, he, den]
   intro rows ex hr; cases hr
def wC (fa : List Fact) (θ : Sub) : List Fact → Bool
 | [] => true
 | f :: r => xT fa θ f && wC fa θ r
theorem qB3 {w : V} {fa : List Fact} (z : w.i 0 = 0) (hf : ∀ f, f ∈ fa → FOK w f) {θ : Sub} : ∀ {l : List Fact}, wC fa θ l = true → ∀ f, f ∈ l → FOK (w.comp θ) f := by
 intro l
 induction l with
 | nil => intro _ f h; cases h
 | cons x r ih =>
  intro h f hm
  simp only [wC, aT] at h
  rcases List.mem_cons.1 hm with rfl | hm
  ·exact qFD z hf h.1
  ·exact ih h.2 f hm
def gI (fa : List Fact) (k : Nat) (R : List Ty) (n : Lin) : Ct → Bool
 | .rows k' R' n' => k' == k && gm fa R' R && bL fa n' n
 | .cells l => decide (0 < k) && R.length == k && decide ((l.length / k) * k = l.length) && bL fa n ⟨0, (l.length / k : Nat)⟩ && l9 fa R (dp k (l.length / k) l)
theorem jE {w : V} {fa : List Fact} (z : w.i 0 = 0) (hf : ∀ f, f ∈ fa → FOK w f) {k : Nat} {R : List Ty} {n : Lin} {ct : Ct} {cs : List CV} (h : gI fa k R n ct = true) (hc : cC w cs ct) : cC w cs (.rows k R n) := by
 cases ct with
 | rows k' R' n' =>
  simp only [gI, aT, beq_iff_eq] at h
  obtain ⟨⟨rfl, h1⟩, h2⟩ := h
  obtain ⟨q1, q2, q3, q4⟩ := hc
  have e := a8 hf h2
  have go : ∀ (m : Nat) (cs : List CV), aN w k' R' cs m → aN w k' R cs m := by
   intro m
   induction m with
   | zero => intro cs h; exact h
   | succ m ih => intro cs h; exact ⟨h.1, dN hf _ _ h1 _ h.2.1, ih _ h.2.2⟩
  have hl : R.length = R'.length := by
   have : ∀ {A B : List Ty}, gm fa A B = true → B.length = A.length := by
    intro A
    induction A with
    | nil => intro B hs; cases B with
     | nil => rfl
     | cons b B => cases hs
    | cons a A ih => intro B hs; cases B with
     | nil => cases hs
     | cons b B => simp only [gm, aT] at hs; simp only [List.length_cons, ih hs.2]
   exact this h1
  exact ⟨q1, by omega, by omega, by rw [← e]; exact go _ _ q4⟩
 | cells l =>
  simp only [gI, aT, beq_iff_eq, dT] at h
  obtain ⟨⟨⟨⟨h1, h2⟩, h3⟩, h4⟩, h5⟩ := h
  simp only [cC] at hc; subst hc
  have e := a8 hf h4
  have e' : n.ev w = ((l.length / k : Nat) : Int) := by rw [e]; simp only [Lin.ev, z]; omega
  exact ⟨h1, h2, by rw [e']; exact Int.natCast_nonneg _, by rw [e', Int.toNat_natCast]; exact eT z hf h3.symm h5⟩
def qB5 (fa : List Fact) (θ : Sub) (p q : BE) : Bool :=
 match p, q with
 | .blk b (.cells l) ro, .blk b' (.cells l') ro' => b' == θ.bN b && ro == ro' && nZ fa l' (gu θ l)
 | .blk b (.rows k R n) ro, .blk b' ct ro' => b' == θ.bN b && ro == ro' && gI fa k (eD θ R) (cg θ n) ct
 | .vec b k R len ro, .blk b' ct ro' => b' == θ.bN b && ro == ro' && gI fa k (eD θ R) (cg θ len) ct && leL fa ⟨0, 1⟩ (cg θ len) 0
 | .vec b k R len ro, .vec b' k' R' len' ro' => b' == θ.bN b && ro == ro' && gI fa k (eD θ R) (cg θ len) (.rows k' R' len')
 | .map b ag ks T none, .map b' ag' ks' T' _ => b' == θ.bN b && ag == ag' && decide (ks = ks') && sty fa T' (mX θ T)
 | .map b _ _ _ none, .emap b' => b' == θ.bN b
 | .emap b, .emap b' => b' == θ.bN b
 | .loop b t s J, .loop b' t' s' J' => b' == θ.bN b && t == t' && s' == θ.nu s && decide (J = J')
 | _, _ => false
theorem qB4 {w : V} {fa : List Fact} {h : H} (z : w.i 0 = 0) (hf : ∀ f, f ∈ fa → FOK w f) {θ : Sub} {p q : BE} (hc : qB5 fa θ p q = true) (hq : BOK w h q) : BOK (w.comp θ) h p ∧ adr (w.comp θ) p = adr w q := by
 unfold qB5 at hc
 split at hc <;> (try (cases hc; done))
 ·rename_i b l ro b' l' ro'
  simp only [aT, beq_iff_eq] at hc
  obtain ⟨⟨rfl, rfl⟩, h1⟩ := hc
  obtain ⟨cs, h2, h3⟩ := hq
  refine ⟨⟨cs, h2, ?_⟩, rfl⟩
  simp only [cC] at h3 ⊢
  rw [h3, gT z hf _ _ h1, cL]
 ·rename_i b k R n ro b' ct ro'
  simp only [aT, beq_iff_eq] at hc
  obtain ⟨⟨rfl, rfl⟩, h1⟩ := hc
  obtain ⟨cs, h2, h3⟩ := hq
  have := jE z hf h1 h3
  exact ⟨⟨cs, h2, (gv w θ cs (.rows k R n)).1 this⟩, rfl⟩
 ·rename_i b k R len ro b' ct ro'
  simp only [aT, beq_iff_eq] at hc
  obtain ⟨⟨⟨rfl, rfl⟩, h1⟩, h2⟩ := hc
  obtain ⟨cs, h3, h4⟩ := hq
  have := jE z hf h1 h4
  have e := aF hf h2
  rw [bA] at e
  have ne : len.ev (w.comp θ) ≠ 0 := by simp only [Lin.ev, z] at e ⊢; omega
  exact ⟨.inr ⟨cs, h3, (gv w θ cs (.rows k R len)).1 this⟩, by simp only [adr, if_neg ne]; rfl⟩
 ·rename_i b k R len ro b' k' R' len' ro'
  simp only [aT, beq_iff_eq] at hc
  obtain ⟨⟨rfl, rfl⟩, h1⟩ := hc
  have h1' := h1
  simp only [gI, aT] at h1'
  have e := a8 hf h1'.2
  rw [bA] at e
  refine ⟨?_, by simp only [adr, e]; rfl⟩
  rcases hq with hq | ⟨cs, h3, h4⟩
  ·exact .inl (by rw [← e]; exact hq)
  ·exact .inr ⟨cs, h3, (gv w θ cs (.rows k R len)).1 (jE z hf h1 h4)⟩
 ·rename_i b ag ks T b' ag' ks' T' m
  simp only [aT, beq_iff_eq, dT] at hc
  obtain ⟨⟨⟨rfl, rfl⟩, rfl⟩, h1⟩ := hc
  obtain ⟨es, cl, h2, h3, _⟩ := hq
  exact ⟨⟨es, cl, h2, fun e he => ⟨(h3 e he).1, (i3 w θ T _).1 (f8 hf _ _ h1 _ (h3 e he).2)⟩, trivial⟩, rfl⟩
 ·rename_i b ag ks T b'
  simp only [beq_iff_eq] at hc; subst hc
  obtain ⟨cl, h2⟩ := hq
  exact ⟨⟨[], cl, h2, (fun e he => by cases he), trivial⟩, rfl⟩
 ·rename_i b b'
  simp only [beq_iff_eq] at hc; subst hc
  exact ⟨hq, rfl⟩
 ·rename_i b t s J b' t' s' J'
  simp only [aT, beq_iff_eq, dT] at hc
  obtain ⟨⟨⟨rfl, rfl⟩, rfl⟩, rfl⟩ := hc
  exact ⟨hq, rfl⟩
def qGB (fa : List Fact) (θ : Sub) : BE → Bool
 | .vec _ _ _ len _ => bL fa (cg θ len) ⟨0, 0⟩
 | _ => false
def oZ (fa : List Fact) (θ : Sub) : List BE → List BE → Option (List BE)
 | [], rest => some rest
 | p :: ps, rest => if qGB fa θ p then oZ fa θ ps rest else match ai (θ.bN (cD p)) rest with
  | some q => if qB5 fa θ p q then oZ fa θ ps (cN (θ.bN (cD p)) [] rest) else none
  | none => none
theorem xu {w : V} {fa : List Fact} {h : H} (z : w.i 0 = 0) (hf : ∀ f, f ∈ fa → FOK w f) {θ : Sub} : ∀ {ps rest rest' : List BE}, oZ fa θ ps rest = some rest' → (∀ q, q ∈ rest → BOK w h q) → (rest.flatMap (adr w)).Nodup →
  (∀ p, p ∈ ps → BOK (w.comp θ) h p) ∧ (ps.flatMap (adr (w.comp θ)) ++ rest'.flatMap (adr w)).Nodup ∧ (∀ q, q ∈ rest' → q ∈ rest) ∧ ∀ a, a ∈ ps.flatMap (adr (w.comp θ)) → a ∈ rest.flatMap (adr w) := by
 intro ps
 induction ps with
 | nil =>
  intro rest rest' h hB hn
  simp only [oZ, sI] at h; subst h
  exact ⟨(fun p hp => by cases hp), by simpa using hn, fun q hq => hq, (fun a ha => by simp at ha)⟩
 | cons p ps ih =>
  intro rest rest' h hB hn
  simp only [oZ] at h
  split at h
  ·rename_i hno
   obtain ⟨h1, h2, h3, h4⟩ := ih h hB hn
   cases p <;> simp only [qGB] at hno <;> (try (cases hno; done))
   rename_i b k R len ro
   have e := a8 hf hno
   rw [bA] at e
   have e0 : len.ev (w.comp θ) = 0 := by rw [e]; simp only [Lin.ev, z]; omega
   have ea : adr (w.comp θ) (.vec b k R len ro) = [] := by simp only [adr, if_pos e0]
   refine ⟨fun q hq => ?_, by simpa [ea] using h2, h3, fun a ha => h4 a (by simpa [ea] using ha)⟩
   rcases List.mem_cons.1 hq with rfl | hq
   ·exact .inl e0
   ·exact h1 q hq
  ·split at h
   ·rename_i q hq
    split at h
    ·rename_i hc
     obtain ⟨_, l1, l2, hl, hm⟩ := cP hq
     rw [hm] at h
     have hqm : q ∈ rest := (lookB_mem hq).1
     obtain ⟨hbp, hap⟩ := qB4 z hf hc (hB q hqm)
     rw [hl] at hn
     simp only [List.flatMap_append, List.flatMap_cons, List.flatMap_nil, List.append_nil] at hn
     obtain ⟨hn12, hnl2, hd2⟩ := bQ.1 hn
     obtain ⟨hnl1, hnq, hd1⟩ := bQ.1 hn12
     have hn' : ((l1 ++ [] ++ l2).flatMap (adr w)).Nodup := by
      simp only [List.append_nil, List.flatMap_append]
      exact bQ.2 ⟨hnl1, hnl2, fun x hx => hd2 x (by simp [hx])⟩
     obtain ⟨h1, h2, h3, h4⟩ := ih h (fun x hx => hB x (by rw [hl]; simp only [List.append_nil, List.mem_append] at hx ⊢; exact hx.elim (fun h => .inl (.inl h)) .inr)) hn'
     have hdis : ∀ a, a ∈ adr w q → a ∉ (l1 ++ [] ++ l2).flatMap (adr w) := fun a ha hx => by
      simp only [List.append_nil, List.flatMap_append, List.mem_append] at hx
      rcases hx with hx | hx
      ·exact hd1 a hx ha
      ·exact hd2 a (by simp [ha]) hx
     refine ⟨fun x hx => ?_, ?_, fun x hx => ?_, fun a ha => ?_⟩
     ·rcases List.mem_cons.1 hx with rfl | hx
      ·exact hbp
      ·exact h1 x hx
     ·simp only [List.flatMap_cons, List.append_assoc]
      rw [hap]
      refine bQ.2 ⟨hnq, h2, fun a ha hx => ?_⟩
      rcases List.mem_append.1 hx with hx | hx
      ·exact hdis a ha (h4 a hx)
      ·obtain ⟨y, hy, hay⟩ := List.mem_flatMap.1 hx
       exact hdis a ha (List.mem_flatMap.2 ⟨y, h3 y hy, hay⟩)
     ·have := h3 x hx
      rw [hl]; simp only [List.append_nil, List.mem_append] at this ⊢
      exact this.elim (fun h => .inl (.inl h)) .inr
     ·rw [hl]
      simp only [List.flatMap_cons, List.mem_append] at ha
      simp only [List.flatMap_append, List.flatMap_cons, List.flatMap_nil, List.append_nil, List.mem_append]
      rcases ha with ha | ha
      ·rw [hap] at ha; exact .inl (.inr ha)
      ·have := h4 a ha
       simp only [List.append_nil, List.flatMap_append, List.mem_append] at this
       exact this.elim (fun h => .inl (.inl h)) .inr
    ·cases h
   ·cases h
def eqW (fa : List Fact) (θ : Sub) : List AV → List AV → List (Nat × AV) → Nat → Bool
 | [], [], _, _ => true
 | a :: as, .sym s :: ps, (s', a') :: cs, m => match Nat.beq s' s && Nat.ble m s with
  | true => eqA fa a a' && eqW fa θ as ps cs (s + 1)
  | false => eqA fa a (θ.cA s) && eqW fa θ as ps ((s', a') :: cs) m
 | a :: as, p :: ps, cs, m => eqA fa a (gH θ p) && eqW fa θ as ps cs m
 | _, _, _, _ => false
theorem rq {α : Type} {s : Nat} {a : α} {r : List (Nat × α)} : ∀ {l : List (Nat × α)}, (∀ x, x ∈ l → x.1 < s) → f9 (l ++ (s, a) :: r) s = some a
 | [], _ => by rw [List.nil_append, ig, if_pos rfl]
 | (k, b) :: l, h => by
  have := h (k, b) mS
  rw [List.cons_append, ig, if_neg (by simp only at this; omega)]
  exact rq fun x hx => h x (mC _ hx)
theorem eqW_ok {w : V} {fa : List Fact} (z : w.i 0 = 0) (hf : ∀ f, f ∈ fa → FOK w f) {θ : Sub} : ∀ (as ps : List AV) (cs : List (Nat × AV)) (m : Nat) (d : List (Nat × AV)), θ.c = d ++ cs → (∀ x, x ∈ d → x.1 < m) → θ.lo ≤ m → eqW fa θ as ps cs m = true → aG w as = aG w (gu θ ps) := by
 intro as ps cs m
 fun_induction eqW fa θ as ps cs m with
 | case1 cs m => intro d _ _ _ _; rfl
 | case2 a as s ps s' a' cs m hc ih =>
  intro d hd hm hl h
  simp only [aT] at h hc
  have e1 : s' = s := nQ hc.1
  have e2 : m ≤ s := Nat.le_of_ble_eq_true hc.2
  subst e1
  have hk : θ.cA s' = a' := by
   simp only [Sub.cA, qGT (show θ.lo ≤ s' by omega), hd]
   rw [rq (fun x hx => by have := hm x hx; omega)]
  have := ih (d ++ [(s', a')]) (by rw [hd, List.append_assoc]; rfl) (fun x hx => by
   rcases List.mem_append.1 hx with hx | hx
   ·have := hm x hx; omega
   ·simp only [List.mem_singleton] at hx; subst hx; show s' < s' + 1; omega) (by omega) h.2
  simp only [aG, gu, gH, hk, gU z hf _ _ h.1, this]
 | case3 a as s ps s' a' cs m hc ih =>
  intro d hd hm hl h
  simp only [aT] at h
  simp only [aG, gu, gH, gU z hf _ _ h.1, ih d hd hm hl h.2]
 | case4 a as p ps cs m hx ih =>
  intro d hd hm hl h
  simp only [aT] at h
  simp only [aG, gu, gU z hf _ _ h.1, ih d hd hm hl h.2]
 | case5 => intro d hd hm hl h; cases h
def kf (st : St) (θ : Sub) (as : List AV) (pre : St) : Option (List BE) :=
 if eqW st.fa θ as pre.env θ.c θ.lo && wC st.fa θ pre.fa then oZ st.fa θ pre.bl st.bl else none
structure Mtch (w : V) (st : St) (θ : Sub) (as : List AV) (pre : St) (rest : List BE) (h : H) : Prop where
 env : aG (w.comp θ) pre.env = aG w as
 fa : ∀ f, f ∈ pre.fa → FOK (w.comp θ) f
 bl : ∀ p, p ∈ pre.bl → BOK (w.comp θ) h p
 nd : (pre.bl.flatMap (adr (w.comp θ)) ++ rest.flatMap (adr w)).Nodup
 rest : ∀ q, q ∈ rest → q ∈ st.bl
 sub : ∀ a, a ∈ pre.bl.flatMap (adr (w.comp θ)) → a ∈ st.bl.flatMap (adr w)
theorem mG {X : Cx} {w : V} {st : St} {env : List CV} {h : H} (sw : Sat0 X w st env h) {θ : Sub} {as : List AV} {pre : St} {rest : List BE} (hm : kf st θ as pre = some rest) : Mtch w st θ as pre rest h := by
 unfold kf at hm
 split at hm
 ·rename_i hc
  simp only [aT] at hc
  obtain ⟨h1, h2, h3, h4⟩ := xu sw.z sw.fa hm sw.bl sw.nd
  exact ⟨by rw [← cL, eqW_ok sw.z sw.fa as pre.env θ.c θ.lo [] rfl (fun x hx => by cases hx) (Nat.le_refl _) hc.1], qB3 sw.z sw.fa hc.2, h1, h2, h3, h4⟩
 ·cases hm
def qFA (n : Nat) : List Fact → Bool
 | [] => true
 | f :: r => clF n f && qFA n r
def xP (n : Nat) : List BE → Bool
 | [] => true
 | f :: r => clB n f && xP n r
def iP (P : St) : Bool := clL P.n P.env && qFA P.n P.fa && xP P.n P.bl
theorem qF9 {n : Nat} {l : List Fact} (h : qFA n l = true) : ∀ f, f ∈ l → clF n f = true := by
 induction l with
 | nil => intro f hf; cases hf
 | cons x r ih =>
  simp only [qFA, aT] at h
  intro f hf
  rcases List.mem_cons.1 hf with rfl | hf
  ·exact h.1
  ·exact ih h.2 f hf
theorem vz {n : Nat} {l : List BE} (h : xP n l = true) : ∀ f, f ∈ l → clB n f = true := by
 induction l with
 | nil => intro f hf; cases hf
 | cons x r ih =>
  simp only [xP, aT] at h
  intro f hf
  rcases List.mem_cons.1 hf with rfl | hf
  ·exact h.1
  ·exact ih h.2 f hf
theorem Sat.ofClosed {X : Cx} {v : V} {P : St} {env : List CV} {h : H} {fs : List Fact} (hc : iP P = true) (hp : 0 < P.n) (s : Sat0 X v P env h) (hfs : ∀ w, Agr P.n v w → ∀ f, f ∈ fs → FOK w f) : Sat X v { P with fa := P.fa ++ fs } env h := by
 simp only [iP, aT] at hc
 refine ⟨hp, fun w hw => ?_⟩
 have ea : ∀ p, p ∈ P.bl → adr v p = adr w p := fun p hpm => wA hw (vz hc.2 p hpm)
 have eb : P.bl.flatMap (adr w) = P.bl.flatMap (adr v) := by
  have : ∀ l : List BE, (∀ p, p ∈ l → adr v p = adr w p) → l.flatMap (adr w) = l.flatMap (adr v) := by
   intro l
   induction l with
   | nil => intro _; rfl
   | cons p l ih => intro hl; simp only [List.flatMap_cons, hl p mS, ih (fun p hp => hl p (mC _ hp))]
  exact this _ ea
 refine ⟨by rw [← (hw 0 hp).1]; exact s.z, by rw [← dy hw _ hc.1.1]; exact s.env, fun f hf => ?_, fun p hpm => (clB_ok hw (vz hc.2 p hpm) h).1 (s.bl p hpm), by rw [eb]; exact s.nd, fun p hpm a ha => s.lt p hpm a (by rw [ea p hpm]; exact ha), s.hn, s.fr⟩
 rcases List.mem_append.1 hf with hf | hf
 ·exact clF_ok hw (qF9 hc.1.2 f hf) (s.fa f hf)
 ·exact hfs w hw f hf
end
end Ce.S
namespace Ce.S
noncomputable section
open Go
def gq {α : Type} (f : AV → AV → α → α) : List AV → List AV → α → α
 | p :: ps, a :: as, r => f p a (gq f ps as r)
 | _, _, r => r
def jJ (lo : Nat) (p a : Lin) (r : List (Nat × Lin)) : List (Nat × Lin) := match Nat.ble lo p.s with
 | true => (p.s, ⟨a.s, a.c - p.c⟩) :: r
 | false => r
def wc (lo p a : Nat) (r : List (Nat × Nat)) : List (Nat × Nat) := match Nat.ble lo p with
 | true => (p, a) :: r
 | false => r
def vU (lo : Nat) : AV → AV → List (Nat × Lin) → List (Nat × Lin)
 | .int _ s c, .int _ s' c', r => jJ lo ⟨s, c⟩ ⟨s', c'⟩ r
 | .iptr _ _ _ i, .iptr _ _ _ i', r => jJ lo i i' r
 | .slc _ _ _ i n c, .slc _ _ _ i' n' c', r => jJ lo i i' (jJ lo n n' (jJ lo c c' r))
 | .vec _ _ n, .vec _ _ n', r => jJ lo n n' r
 | .vec _ _ n, .nils, r => jJ lo n ⟨0, 0⟩ r
 | _, _, r => r
def zj (lo : Nat) : AV → AV → List (Nat × Nat) → List (Nat × Nat)
 | .ptr b _, .ptr b' _, r => wc lo b b' r
 | .iptr b _ _ _, .iptr b' _ _ _, r => wc lo b b' r
 | .slc _ b _ _ _ _, .slc _ b' _ _ _ _, r => wc lo b b' r
 | .vec _ b _, .vec _ b' _, r => wc lo b b' r
 | .map b, .map b', r => wc lo b b' r
 | .yld b, .yld b', r => wc lo b b' r
 | _, _, r => r
def vV (lo : Nat) : AV → AV → List (Nat × AV) → List (Nat × AV)
 | .sym s, a, r => (match Nat.ble lo s with
  | true => (s, a) :: r
  | false => r)
 | _, _, r => r
def vq {α : Type} (g f : AV → AV → α → α) (p a : AV) (r : α) : α := match p with
 | .agg l => (match a with | .agg l' => gq f l l' r | _ => r)
 | .tup l => (match a with | .tup l' => gq f l l' r | _ => r)
 | .rptr l => (match a with | .rptr l' => gq f l l' r | _ => r)
 | .clo _ x y => (match a with | .clo _ x' y' => gq f x x' (gq f y y' r) | _ => r)
 | p => g p a r
def iN {α : Type} (g : AV → AV → α → α) : AV → AV → α → α := vq g (vq g (vq g (vq g g)))
def w0 (lo : Nat) : List AV → Nat → Nat
 | [], m => m
 | .sym s :: ps, m => (match Nat.beq s m with
  | true => m - 1
  | false => (match Nat.ble lo s with
   | true => w0 lo ps (s + 1)
   | false => w0 lo ps m))
 | _ :: ps, m => w0 lo ps m
def wz : List AV → List AV → Nat → List (Nat × AV) → List (Nat × AV)
 | .sym s :: ps, a :: as, m, r => (match Nat.beq s m with
  | true => (s, a) :: wz ps as (m + 1) r
  | false => wz ps as m r)
 | _ :: ps, _ :: as, m, r => wz ps as m r
 | _, _, _, r => r
def wo : List AV → List AV → Nat → List AV × List AV
 | .sym s :: ps, a :: as, m => (match Nat.beq s m with
  | true => wo ps as (m + 1)
  | false => (match wo ps as m with
   | (x, y) => (.sym s :: x, a :: y)))
 | p :: ps, a :: as, m => (match wo ps as m with
  | (x, y) => (p :: x, a :: y))
 | _, _, _ => ([], [])
def bnB (lo : Nat) (tb : List (Nat × Nat)) (b : Nat) : Nat := match Nat.blt b lo with
 | true => b
 | false => (match f9 tb b with
  | some c => c
  | none => 0)
def qBH (lo : Nat) (tb : List (Nat × Nat)) (bl : List BE) : List BE → List (Nat × Nat) → List (Nat × Nat)
 | [], r => r
 | .blk b (.cells l) _ :: ps, r => (match ai (bnB lo tb b) bl with
  | some (.blk _ (.cells l') _) => gq (iN (zj lo)) l l' (qBH lo tb bl ps r)
  | _ => qBH lo tb bl ps r)
 | _ :: ps, r => qBH lo tb bl ps r
def qBG (lo : Nat) (tb : List (Nat × Nat)) (bl : List BE) : List BE → List (Nat × AV) → List (Nat × AV)
 | [], r => r
 | .blk b (.cells l) _ :: ps, r => (match ai (bnB lo tb b) bl with
  | some (.blk _ (.cells l') _) => gq (iN (vV lo)) l l' (qBG lo tb bl ps r)
  | _ => qBG lo tb bl ps r)
 | _ :: ps, r => qBG lo tb bl ps r
def nm (lo : Nat) (tb : List (Nat × Nat)) (bl : List BE) : List BE → List (Nat × Lin) → List (Nat × Lin)
 | [], r => r
 | .blk b (.cells l) _ :: ps, r => (match ai (bnB lo tb b) bl with
  | some (.blk _ (.cells l') _) => gq (iN (vU lo)) l l' (nm lo tb bl ps r)
  | _ => nm lo tb bl ps r)
 | .blk b (.rows _ _ n) _ :: ps, r => (match ai (bnB lo tb b) bl with
  | some (.blk _ (.rows _ _ n') _) => jJ lo n n' (nm lo tb bl ps r)
  | some (.vec _ _ _ n' _) => jJ lo n n' (nm lo tb bl ps r)
  | _ => nm lo tb bl ps r)
 | .vec b _ _ n _ :: ps, r => (match ai (bnB lo tb b) bl with
  | some (.blk _ (.rows _ _ n') _) => jJ lo n n' (nm lo tb bl ps r)
  | some (.vec _ _ _ n' _) => jJ lo n n' (nm lo tb bl ps r)
  | _ => nm lo tb bl ps r)
 | _ :: ps, r => nm lo tb bl ps r
def rh : List Fact → List Fact
 | [] => []
 | .dc _ _ _ :: r => rh r
 | .ty _ _ :: r => rh r
 | f :: r => f :: rh r
def qY (fa : List Fact) (up dn : List Lin) : List Fact → Option Nat
 | [] => none
 | .csum t up' dn' :: r => if jO fa up' up && jO fa dn' dn then some t else qY fa up dn r
 | _ :: r => qY fa up dn r
def qg (lo : Nat) (fa : List Fact) (s : Nat) (i : Lin) (cs : List AV) (θ : Sub) : List Fact → Sub
 | [] => θ
 | .row s' i' ds :: r => if s' == s && bL fa i' i then { θ with i := θ.i ++ gq (iN (vU lo)) cs ds [], c := θ.c ++ gq (iN (vV lo)) cs ds [], b := θ.b ++ gq (iN (zj lo)) cs ds [] } else qg lo fa s i cs θ r
 | _ :: r => qg lo fa s i cs θ r
def lH (lo : Nat) (fa : List Fact) : List Fact → Sub → Sub
 | [], θ => θ
 | .len s t :: r, θ =>
  let θ := match θ.cA s with
   | .sym s' => match gn s' fa with
    | some t' => { θ with i := jJ lo ⟨t, 0⟩ ⟨t', 0⟩ θ.i }
    | none => θ
   | .nils => { θ with i := jJ lo ⟨t, 0⟩ ⟨0, 0⟩ θ.i }
   | .lrows rows _ => { θ with i := jJ lo ⟨t, 0⟩ ⟨0, rows.length⟩ θ.i }
   | _ => θ
  lH lo fa r θ
 | .row s i cs :: r, θ =>
  let θ := match θ.cA s with
   | .sym s' => qg lo fa s' (cg θ i) cs θ fa
   | _ => θ
  lH lo fa r θ
 | .csum t up dn :: r, θ =>
  let θ := match qY fa (up.map (cg θ)) (dn.map (cg θ)) fa with
   | some t' => { θ with i := jJ lo ⟨t, 0⟩ ⟨t', 0⟩ θ.i }
   | none => θ
  lH lo fa r θ
 | _ :: r, θ => lH lo fa r θ
def d8 (lo base sh : Nat) (st : St) (as : List AV) (P : St) : Sub :=
 match w0 lo P.env 0 with
 | m => match wo P.env as m with
  | (ps, qs) => match gq (iN (zj lo)) ps qs [] with
   | b0 => match qBH lo b0 st.bl P.bl [] with
    | [] => lH lo st.fa (rh P.fa) ⟨gq (iN (vU lo)) ps qs (nm lo b0 st.bl P.bl []), wz P.env as m (gq (iN (vV lo)) ps qs (qBG lo b0 st.bl P.bl [])), b0, lo, base, sh⟩
    | x :: xs => match b0 ++ (x :: xs) with
     | b1 => match b0 ++ qBH lo b1 st.bl P.bl [] with
      | b2 => lH lo st.fa (rh P.fa) ⟨gq (iN (vU lo)) ps qs (nm lo b2 st.bl P.bl []), wz P.env as m (gq (iN (vV lo)) ps qs (qBG lo b2 st.bl P.bl [])), b2, lo, base, sh⟩
end
end Ce.S
namespace Ce.S
noncomputable section
open Go
structure Con where
 yl : Bool
 tg : Nat
 n0 : Nat
 pre : St
 posts : List (AV × St)
 ma : Lin
 mb : Lin
 lim : Option (Lin × Lin)
inductive Tg where
 | fn (f : Nat)
 | yl (b : Nat)
inductive Hint where
 | unroll
 | peel
 | nofk (t : Nat)
 | inv (P : St) (ma mb : Lin)
 | csum (b : Nat) (us ds : List Nat)
 | cut (P : St)
 | invs (Fs : List (St × List (Lin × Lin)))
 | rcs (f : Nat) (P : St) (posts : List (AV × St)) (ma mb : Lin)
 | rng (J : List Jump) (P : St) (posts : List (AV × St))
abbrev Hs := List Hint
def gh (lo hi n : Nat) (θ : Sub) : Bool :=
 θ.lo == lo && θ.base == hi && sr lo hi (fun l : Lin => Nat.blt l.s n) θ.i && sr lo hi (clA n) θ.c && sr lo hi (fun l : Nat => Nat.blt l n) θ.b
def qP (fa : List Fact) (ma mb : Lin) : Option (Lin × Lin) → Bool
 | none => true
 | some (a, b) => leL fa b a (-1) && ((leL fa ma a (-1) && leL fa b mb 0) || (leL fa ma a 0 && leL fa b mb (-1)))
def zh (old : List Fact) : Fact → List Fact
 | .len s t => match gn s old with
  | some t0 => [.dc t t0 0, .dc t0 t 0]
  | none => []
 | _ => []
def qQ (old : List Fact) : List Fact → List Fact
 | [] => []
 | f :: r => zh old f ++ qQ old r
def zE (θ : Sub) (st : St) (base : Nat) (rest : List BE) (o : AV × St) : AV × St :=
 (gH θ o.1, ⟨st.n + (o.2.n - base), st.env, qQ st.fa (o.2.fa.filterMap (lg θ)) ++ (o.2.fa.filterMap (lg θ) ++ st.fa), o.2.bl.map (mY θ) ++ rest⟩)
def iX (c : Con) (as : List AV) (st : St) : Option (List (AV × St)) :=
 let θ := d8 c.n0 c.pre.n st.n st as c.pre
 if gh c.n0 c.pre.n st.n θ && θ.sh == st.n && decide (c.n0 ≤ c.pre.n) then match kf st θ as c.pre with
  | some rest => if qP st.fa (cg θ c.ma) (cg θ c.mb) c.lim then some (c.posts.map (zE θ st c.pre.n rest)) else none
  | none => none
 else none
def fits (lo : Nat) (st : St) (r : AV) (o : AV × St) : Bool :=
 let P : St := { o.2 with env := [o.1] }
 let θ := d8 lo o.2.n 0 st [r] P
 gh lo o.2.n st.n θ && iP P && decide (lo ≤ o.2.n) && (kf st θ [r] P).isSome
def eQ (lo : Nat) (st : St) (r : AV) : List (AV × St) → Bool
 | [] => false
 | o :: os => fits lo st r o || eQ lo st r os
def jl {α β : Type} (f : α → Hs → Option (List β × Hs)) : List α → Hs → Option (List β × Hs)
 | [], hs => some ([], hs)
 | a :: as, hs => match f a hs with
  | some (bs, hs) => match jl f as hs with
   | some (cs, hs) => some (bs ++ cs, hs)
   | none => none
  | none => none
theorem cO {α β : Type} {f : α → Hs → Option (List β × Hs)} : ∀ {as : List α} {hs hs' : Hs} {bs : List β}, jl f as hs = some (bs, hs') → ∀ a, a ∈ as → ∃ h1 h2 cs, f a h1 = some (cs, h2) ∧ ∀ b, b ∈ cs → b ∈ bs
 | [], hs, hs', bs, h, a, ha => by cases ha
 | x :: as, hs, hs', bs, h, a, ha => by
  simp only [jl] at h
  split at h
  ·rename_i cs h1 hx
   split at h
   ·rename_i ds h2 hr
    simp only [sI, pI] at h
    obtain ⟨rfl, rfl⟩ := h
    rcases List.mem_cons.1 ha with rfl | ha
    ·exact ⟨_, _, _, hx, fun b hb => List.mem_append_left _ hb⟩
    ·obtain ⟨g1, g2, es, he, hm⟩ := cO hr a ha
     exact ⟨g1, g2, es, he, fun b hb => List.mem_append_right _ (hm b hb)⟩
   ·cases h
  ·cases h
def tQ (fa : List Fact) (a b t : Nat) (c : Int) : List Fact :=
 (match loC fa ⟨a, 0⟩ with | some l => [.dc b t (c - l)] | none => []) ++ ((match hiC fa ⟨a, 0⟩ with | some u => [.dc t b (u - c)] | none => []) ++
 ((match loC fa ⟨b, 0⟩ with | some l => [.dc a t (c - l)] | none => []) ++ (match hiC fa ⟨b, 0⟩ with | some u => [.dc t a (u - c)] | none => [])))
def kR (fa : List Fact) (x y : Nat) : List Fact → List Fact
 | [] => []
 | .sum a b t c :: r => (if a = x ∨ a = y ∨ b = x ∨ b = y ∨ t = x ∨ t = y then tQ fa a b t c else []) ++ kR fa x y r
 | _ :: r => kR fa x y r
def gtA (fa : List Fact) : List AV → List AV → Bool
 | .int _ s c :: l, .int _ s' c' :: m => leL fa ⟨s', c'⟩ ⟨s, c⟩ (-1) || gtA fa l m
 | _ :: l, _ :: m => gtA fa l m
 | _, _ => false
def mh (fa : List Fact) (s : Nat) (i : Lin) (cs : List AV) : List Fact → List Fact
 | [] => []
 | .row s' j ds :: r => (if s' = s ∧ j.s = 0 ∧ i.s ≠ 0 ∧ gtA fa cs ds = true ∧ leL fa j i 0 = true then [.dc 0 i.s (i.c - j.c - 1)] else []) ++ mh fa s i cs r
 | _ :: r => mh fa s i cs r
def mg (fa : List Fact) : List Fact → List Fact
 | [] => []
 | .row s i cs :: r => (if i.s = 0 then [] else mh fa s i cs fa) ++ mg fa r
 | _ :: r => mg fa r
def rG (x y : Nat) (st : St) : St :=
 let s1 := st.more (kR st.fa x y st.fa)
 s1.more (mg s1.fa s1.fa)
def uG (st : St) (c : AV) : Option (List St × List St) := match sf st c with
 | some (T, F) => match c with
  | .cmp x y _ => some (T.map (rG x y), F.map (rG x y))
  | .eqc _ x y _ => some (T.map (rG x y), F.map (rG x y))
  | _ => some (T, F)
 | none => none
def qCY (t : Nat) (b : Bool) (st : St) : St := { st with env := mc st.env t (.bool b) }
def vv (st : St) (t : Nat) : Option (List St × List St) :=
 match gQ st.env t with
 | .bool true => some ([st], [])
 | .bool false => some ([], [st])
 | c => match uG st c with
  | some (T, F) => some (T.map (qCY t true), F.map (qCY t false))
  | none => none
def Tr.upd {α : Type} (f : Option α → α) : Nat → Tr α → Nat → Tr α
 | 0, t, _ => t
 | n + 1, t, i => match t with
  | .nil => if i = 0 then .node .nil (some (f none)) .nil else if i % 2 = 1 then .node (Tr.upd f n .nil (i / 2)) none .nil else .node .nil none (Tr.upd f n .nil (i / 2 - 1))
  | .node l v r => if i = 0 then .node l (some (f v)) r else if i % 2 = 1 then .node (Tr.upd f n l (i / 2)) v r else .node l v (Tr.upd f n r (i / 2 - 1))
theorem Tr.upd_get {α : Type} (f : Option α → α) : ∀ (n : Nat) (t : Tr α) (i j : Nat), (Tr.upd f n t i).get j = t.get j ∨ (j = i ∧ (Tr.upd f n t i).get j = some (f (t.get j)))
 | 0, t, i, j => .inl rfl
 | n + 1, .nil, i, j => by
  simp only [Tr.upd]
  by_cases hi : i = 0
  ·rw [if_pos hi]
   simp only [Tr.get]
   by_cases hj : j = 0
   ·right; subst hi; exact ⟨hj, by rw [if_pos hj]⟩
   ·left; rw [if_neg hj]; split <;> rfl
  ·rw [if_neg hi]
   by_cases ho : i % 2 = 1
   ·rw [if_pos ho]
    simp only [Tr.get]
    by_cases hj : j = 0
    ·left; rw [if_pos hj]
    ·rw [if_neg hj]
     by_cases hjo : j % 2 = 1
     ·rw [if_pos hjo]
      rcases Tr.upd_get f n .nil (i / 2) (j / 2) with h | ⟨h1, h2⟩
      ·left; rw [h]; rfl
      ·right; refine ⟨by omega, by rw [h2]; rfl⟩
     ·left; rw [if_neg hjo]
   ·rw [if_neg ho]
    simp only [Tr.get]
    by_cases hj : j = 0
    ·left; rw [if_pos hj]
    ·rw [if_neg hj]
     by_cases hjo : j % 2 = 1
     ·left; rw [if_pos hjo]
     ·rw [if_neg hjo]
      rcases Tr.upd_get f n .nil (i / 2 - 1) (j / 2 - 1) with h | ⟨h1, h2⟩
      ·left; rw [h]; rfl
      ·right; refine ⟨by omega, by rw [h2]; rfl⟩
 | n + 1, .node l v r, i, j => by
  simp only [Tr.upd]
  by_cases hi : i = 0
  ·rw [if_pos hi]
   simp only [Tr.get]
   by_cases hj : j = 0
   ·right; subst hi; exact ⟨hj, by rw [if_pos hj, if_pos hj]⟩
   ·left; rw [if_neg hj, if_neg hj]
  ·rw [if_neg hi]
   by_cases ho : i % 2 = 1
   ·rw [if_pos ho]
    simp only [Tr.get]
    by_cases hj : j = 0
    ·left; rw [if_pos hj, if_pos hj]
    ·rw [if_neg hj, if_neg hj]
     by_cases hjo : j % 2 = 1
     ·rw [if_pos hjo, if_pos hjo]
      rcases Tr.upd_get f n l (i / 2) (j / 2) with h | ⟨h1, h2⟩
      ·exact .inl h
      ·exact .inr ⟨by omega, h2⟩
     ·left; rw [if_neg hjo, if_neg hjo]
   ·rw [if_neg ho]
    simp only [Tr.get]
    by_cases hj : j = 0
    ·left; rw [if_pos hj, if_pos hj]
    ·rw [if_neg hj, if_neg hj]
     by_cases hjo : j % 2 = 1
     ·left; rw [if_pos hjo, if_pos hjo]
     ·rw [if_neg hjo, if_neg hjo]
      rcases Tr.upd_get f n r (i / 2 - 1) (j / 2 - 1) with h | ⟨h1, h2⟩
      ·exact .inl h
      ·exact .inr ⟨by omega, h2⟩
def qFN (t : Tr (List (Nat × Int))) (x y : Nat) (c : Int) : Tr (List (Nat × Int)) := Tr.upd (fun o => match o with
 | some l => (y, c) :: l
 | none => [(y, c)]) 16 t x
theorem tD {t : Tr (List (Nat × Int))} {x y a b : Nat} {c d : Int} (h : (b, d) ∈ edg (qFN t x y c) a) : (b, d) ∈ edg t a ∨ (a = x ∧ b = y ∧ d = c) := by
 simp only [qFN, edg_eq] at h ⊢
 rcases Tr.upd_get (fun o => match o with
  | some l => (y, c) :: l
  | none => [(y, c)]) 16 t x a with h1 | ⟨h1, h2⟩
 ·rw [h1] at h; exact .inl h
 ·rw [h2] at h
  cases hg : t.get a with
  | none => rw [hg] at h; simp at h; exact .inr ⟨h1, h⟩
  | some l =>
   rw [hg] at h
   simp only [List.mem_cons, pI] at h
   rcases h with h | h
   ·exact .inr ⟨h1, h⟩
   ·exact .inl h
def tE : List Fact → List Fact × Tr (List (Nat × Int)) × Tr (List (Nat × Int))
 | [] => ([], .nil, .nil)
 | .ixd fw bw :: r => (r, fw, bw)
 | .dc x y c :: r => match tE r with
  | (l, fw, bw) => (l, qFN fw x y c, qFN bw y x c)
 | f :: r => match tE r with
  | (l, fw, bw) => (f :: l, fw, bw)
def absF : List Fact → List Fact
 | .ixd fw bw :: r => .ixd fw bw :: r
 | fa => match tE fa with
  | (l, fw, bw) => .ixd fw bw :: l
theorem qBU {w : V} : ∀ {fa : List Fact}, (∀ f, f ∈ fa → FOK w f) → (∀ f, f ∈ (tE fa).1 → FOK w f) ∧ FOK w (.ixd (tE fa).2.1 (tE fa).2.2)
 | [], _ => ⟨(fun f hf => by cases hf), (fun x y c h => by cases h), (fun x y c h => by cases h)⟩
 | f :: r, hf => by
  have h0 := hf f mS
  have hr := fun g hg => hf g (mC _ hg)
  obtain ⟨h1, h2⟩ := qBU (fa := r) hr
  cases f with
  | ixd fw bw => exact ⟨hr, h0⟩
  | dc x y c =>
   simp only [tE]
   refine ⟨h1, fun a b d h => ?_, fun a b d h => ?_⟩
   ·rcases tD h with h | ⟨rfl, rfl, rfl⟩
    ·exact h2.1 a b d h
    ·exact h0
   ·rcases tD h with h | ⟨rfl, rfl, rfl⟩
    ·exact h2.2 a b d h
    ·exact h0
  | _ =>
   simp only [tE]
   refine ⟨fun g hg => ?_, h2⟩
   rcases List.mem_cons.1 hg with rfl | hg
   ·exact h0
   ·exact h1 g hg
theorem qFO {w : V} {fa : List Fact} (hf : ∀ f, f ∈ fa → FOK w f) : ∀ f, f ∈ absF fa → FOK w f := by
 intro f hm
 unfold absF at hm
 split at hm
 ·exact hf f hm
 ·obtain ⟨h1, h2⟩ := qBU hf
  rcases List.mem_cons.1 hm with rfl | hm
  ·exact h2
  ·exact h1 f hm
abbrev jA := Tg → List AV → St → Hs → Option (List (AV × St) × Hs)
def qGQ (d : Nat) : List IOp → Bool
 | [] => false
 | o :: os => (match o.op with | .ckl _ (.t t) _ => t == d | _ => false) || qGQ d os
def qGM (o : IOp) (os : List IOp) : Bool := match o.op, o.dst with
 | .iaA .., some d => qGQ d os
 | _, _ => false
def qGA (o : Ins) (hs : Hs) : Option Hs := match o, hs with
 | .iaA _ _ _ (.t t), .nofk t' :: hs => if t' = t then some hs else none
 | _, _ => none
def yN (call : jA) (fk : Bool) (o : Ins) (st : St) (hs : Hs) : Option (List (AV × St) × Hs) :=
 match o with
 | .callF f as => match mu st.env as with
  | some as => call (.fn f) as st hs
  | none => none
 | .callV f as => match opA st.env f, mu st.env as with
  | some (.clo f a b), some as => call (.fn f) (a ++ as ++ b) st hs
  | some (.yld b), some as => call (.yl b) as st hs
  | _, _ => none
 | o => match qGA o hs with
  | some hs => (qDB o st).map fun outs => (outs, hs)
  | none => (sOw o st).map fun outs => (if fk then outs.flatMap (fb 7 1) else outs, hs)
def m9 (d : Option Nat) (x : AV × St) : St := { x.2 with env := putA x.2.env d x.1, fa := absF x.2.fa }
def qGK : AV → Bool
 | .tup [] => true
 | _ => false
def pw (call : jA) : List IOp → St → Hs → Option (List St × Hs)
 | [], st, hs => some ([st], hs)
 | o :: os, st, hs =>
  match o.guard with
  | none => match yN call (qGM o os) o.op st hs with
   | some (outs, hs) => jl (fun x hs => pw call os (m9 o.dst x) hs) outs hs
   | none => none
  | some (t, b) => if qGK (gQ st.env t) then pw call os (m9 o.dst (br, st)) hs else match vv st t with
   | some (T, F) => match jl (fun st hs => match yN call (qGM o os) o.op st hs with
     | some (outs, hs) => jl (fun x hs => pw call os (m9 o.dst x) hs) outs hs
     | none => none) (if b then T else F) hs with
    | some (r1, hs) => match jl (fun st hs => pw call os (m9 o.dst (br, st)) hs) (if b then F else T) hs with
     | some (r2, hs) => some (r1 ++ r2, hs)
     | none => none
    | none => none
   | none => none
def upg1 (fa : List Fact) (s : Nat) (i : Lin) (R : List Ty) : List Fact :=
 match gn s fa with
 | some t => if leL fa ⟨t, 0⟩ i 0 && !(dg fa s (fun T => match T with | .lst R' _ _ => gm fa R' R | _ => false) fa) then [.ty s (.lst R ⟨t, 0⟩ ⟨t, 0⟩)] else []
 | none => []
def upgP (fa : List Fact) : Fact → List Fact
 | .pre s i R => upg1 fa s i R
 | _ => []
def qCQ (fa : List Fact) : List Fact → List Fact
 | [] => []
 | f :: r => upgP fa f ++ qCQ fa r
def upg (st : St) : St := { st with fa := qCQ st.fa st.fa ++ st.fa }
abbrev bE := List (Ex × St)
def lu (body : St → Hs → Option (bE × Hs)) : Nat → St → Hs → Option (bE × Hs)
 | 0, _, _ => none
 | n + 1, st, hs => match body st hs with
  | some (outs, hs) => jl (fun x hs => match x with
   | (.nor, st) => lu body n st hs
   | (.jmp j, st) => some ([(.jmp j, st)], hs)) outs hs
  | none => none
def uN (lo : Nat) (P : St) (ma mb : Lin) (st : St) : Bool :=
 let θ := d8 lo P.n 0 st st.env P
 gh lo P.n st.n θ && (kf st θ st.env P).isSome && qP st.fa (cg θ ma) (cg θ mb) (some (ma, mb))
def le1 (fa : List Fact) (n o : Lin × Lin) : Bool := leL fa n.1 n.2 0 || (leL fa n.1 o.1 0 && leL fa o.2 n.2 0)
def lt1 (fa : List Fact) (n o : Lin × Lin) : Bool := leL fa o.2 o.1 (-1) && (leL fa n.1 n.2 0 || ((leL fa n.1 o.1 (-1) && leL fa o.2 n.2 0) || (leL fa n.1 o.1 0 && leL fa o.2 n.2 (-1))))
def oz (fa : List Fact) : List (Lin × Lin) → List (Lin × Lin) → Bool
 | [], [] => true
 | n :: ns, o :: os => le1 fa n o && oz fa ns os
 | _, _ => false
def ot (fa : List Fact) : List (Lin × Lin) → List (Lin × Lin) → Bool
 | n :: ns, o :: os => lt1 fa n o || ot fa ns os
 | _, _ => false
def limM (fa : List Fact) (ns os : List (Lin × Lin)) : Bool := ot fa ns os && oz fa ns os
def qCT (θ : Sub) (m : Lin × Lin) : Lin × Lin := (cg θ m.1, cg θ m.2)
def kE (lo : Nat) (os : List (Lin × Lin)) (st : St) : List (St × List (Lin × Lin)) → Bool
 | [] => false
 | (P, ns) :: r =>
  let θ := d8 lo P.n 0 st st.env P
  (gh lo P.n st.n θ && (kf st θ st.env P).isSome && limM st.fa (ns.map (qCT θ)) os) || kE lo os st r
def gY (lo : Nat) (Fs : List (St × List (Lin × Lin))) (os : List (Lin × Lin)) : bE → Option bE
 | [] => some []
 | (.nor, st) :: r => if kE lo os st Fs then gY lo Fs os r else none
 | (.jmp j, st) :: r => match gY lo Fs os r with
  | some l => some ((.jmp j, upg st) :: l)
  | none => none
def clM (n : Nat) (ms : List (Lin × Lin)) : Bool := ms.all fun m => decide (m.1.s < n) && decide (m.2.s < n)
def mK (lo : Nat) : List (St × List (Lin × Lin)) → Bool
 | [] => true
 | (P, ms) :: r => iP P && decide (lo ≤ P.n) && clM P.n ms && mK lo r
def q8 (lo : Nat) (st : St) : List (St × List (Lin × Lin)) → Bool
 | [] => false
 | (P, _) :: r =>
  let θ := d8 lo P.n 0 st st.env P
  (gh lo P.n st.n θ && (kf st θ st.env P).isSome) || q8 lo st r
def kD (lo : Nat) (P : St) (ma mb : Lin) : bE → Option bE
 | [] => some []
 | (.nor, st) :: r => if uN lo P ma mb st then kD lo P ma mb r else none
 | (.jmp j, st) :: r => match kD lo P ma mb r with
  | some l => some ((.jmp j, upg st) :: l)
  | none => none
def jC : List AV → List Nat → List AV → Option (List AV)
 | env, [], [] => some env
 | env, p :: ps, v :: vs => jC (mc env p v) ps vs
 | _, _, _ => none
def fY (b t : Nat) (bl : List BE) : Option (Nat × List Jump) := match ai b bl with
 | some (.loop _ t' s J) => if t' = t then some (s, J) else none
 | _ => none
def tU (b t s : Nat) (J : List Jump) (st : St) : St := { st with bl := cN b [.loop b t s J] st.bl }
def pP (b : Nat) (st : St) : St := { st with bl := cN b [] st.bl }
def i4 (lb ls : Nat) (J : List Jump) (lo : Nat) (posts : List (AV × St)) : bE → Bool
 | [] => true
 | (.nor, st) :: r => (fY lb 2 st.bl == some (ls, J)) && eQ lo (tU lb 0 ls J st) (.bool true) posts && i4 lb ls J lo posts r
 | (.jmp j, st) :: r => (fY lb 2 st.bl == some (ls, J)) && J.contains j && eQ lo (tU lb 1 ls J st) (.bool false) posts && i4 lb ls J lo posts r
def mB (lb ls : Nat) (J : List Jump) (env : List AV) : List (AV × St) → Option bE
 | [] => some []
 | (_, st) :: r => match mB lb ls J env r with
  | none => none
  | some l => if fY lb 0 st.bl == some (ls, J) then some ((.nor, { pP lb st with env := env }) :: l)
   else if fY lb 1 st.bl == some (ls, J) then some (J.map (fun j => (Ex.jmp j, { pP lb st with env := env })) ++ l) else none
def wM (n : Nat) (P : St) (posts : List (AV × St)) : Con := ⟨true, n, n + 1, P, posts, ⟨0, 0⟩, ⟨0, 0⟩, none⟩
def vQ (body : St → Hs → Option (bE × Hs)) (n : Nat) (st : St) (hs : Hs) : Option (bE × Hs) := match hs with
  | .unroll :: hs => lu body n st hs
  | .inv P ma mb :: hs =>
   let θ := d8 st.n P.n 0 st st.env P
   if gh st.n P.n st.n θ && iP P && decide (st.n ≤ P.n) && (kf st θ st.env P).isSome && decide (ma.s < P.n) && decide (mb.s < P.n) then
    match body { P with fa := P.fa ++ st.fa } hs with
    | some (outs, hs) => match kD st.n P ma mb outs with
     | some r => some (r, hs)
     | none => none
    | none => none
   else none
  | .invs Fs :: hs => if mK st.n Fs && q8 st.n st Fs then
    jl (fun (F : St × List (Lin × Lin)) hs => match body { F.1 with fa := F.1.fa ++ st.fa } hs with
     | some (outs, hs) => match gY st.n Fs F.2 outs with
      | some r => some (r, hs)
      | none => none
     | none => none) Fs hs
   else none
  | _ => none
def tt (l : List AV) : List Nat → Option (List Lin)
 | [] => some []
 | i :: is => match gQ l i, tt l is with
  | .int .i64 s c, some r => some (⟨s, c⟩ :: r)
  | _, _ => none
def wZ (fa : List Fact) : List Lin → List Lin → Option Int
 | [], [] => some 0
 | x :: xs, y :: ys => match wZ fa xs ys with
  | some k => if leL fa y x (-1) then some (k + 1) else if leL fa y x 0 then some k else none
  | none => none
 | _, _ => none
def qFW (fa : List Fact) (t : Nat) (U D : List Lin) : Fact → List Fact
 | .csum t0 U0 D0 => match wZ fa U U0, wZ fa D0 D with
  | some a, some b => [.dc t0 t (-(a + b))]
  | _, _ => []
 | _ => []
def inI (fa : List Fact) (l : Lin) : Bool := leL fa ⟨0, -9223372036854775808⟩ l 0 && leL fa l ⟨0, 9223372036854775808⟩ 0
def zt (fa : List Fact) : List Lin → Bool
 | [] => true
 | l :: ls => inI fa l && zt fa ls
def pq (fa : List Fact) (t : Nat) (U D : List Lin) : List Fact → List Fact
 | [] => []
 | f :: r => qFW fa t U D f ++ pq fa t U D r
def tC (b : Nat) (us ds : List Nat) (st : St) : St := match ai b st.bl with
 | some (.blk _ (.cells l) _) => match tt l us, tt l ds with
  | some U, some D => if zt st.fa U && zt st.fa D && clN st.n U && clN st.n D then
    { st with n := st.n + 1, fa := (.csum st.n U D :: .dc st.n 0 ((U.length + D.length : Nat) * 9223372036854775808) :: pq st.fa st.n U D st.fa) ++ st.fa }
   else st
  | _, _ => st
 | _ => st
def addO (b : Nat) (us ds : List Nat) : Ex × St → Ex × St
 | (.nor, st) => (.nor, tC b us ds st)
 | x => x
def vP (body : St → Hs → Option (bE × Hs)) (n : Nat) (st : St) (hs : Hs) : Option (bE × Hs) := match hs with
 | .csum b us ds :: hs => vQ (fun st hs => match body st hs with
  | some (outs, hs) => some (outs.map (addO b us ds), hs)
  | none => none) n (tC b us ds st) hs
 | hs => vQ body n st hs
def zb (body : St → Hs → Option (bE × Hs)) (n : Nat) (st : St) (hs : Hs) : Option (bE × Hs) := match hs with
 | .peel :: hs => match body st hs with
  | some (outs, hs) => jl (fun x hs => match x with
   | (.nor, st) => vP body n st hs
   | (.jmp j, st) => some ([(.jmp j, st)], hs)) outs hs
  | none => none
 | hs => vP body n st hs
def qa (lo : Nat) (P : St) : bE → Option bE
 | [] => some []
 | (.nor, st) :: r =>
  let θ := d8 lo P.n 0 st st.env P
  if gh lo P.n st.n θ && (kf st θ st.env P).isSome then qa lo P r else none
 | (.jmp j, st) :: r => match qa lo P r with
  | some l => some ((.jmp j, st) :: l)
  | none => none
def cutS (body : St → Hs → Option (bE × Hs)) (st : St) (outs : bE) (hs : Hs) : Option (bE × Hs) := match hs with
 | .cut P :: hs => if iP P && decide (st.n ≤ P.n) then match qa st.n P outs with
   | some js => match body { P with fa := P.fa ++ st.fa } hs with
    | some (o2, hs) => some (js ++ o2, hs)
    | none => none
   | none => none
  else none
 | hs => jl (fun x hs => match x with
  | (.nor, st) => body st hs
  | (.jmp j, st) => some ([(.jmp j, st)], hs)) outs hs
def sC (callG : List Con → jA) (n : Nat) : IC → List Con → St → Hs → Option (bE × Hs)
 | .skip, _, st, hs => some ([(.nor, st)], hs)
 | .ops l, Γ, st, hs => match pw (callG Γ) l st hs with
  | some (outs, hs) => some (outs.map fun s => (.nor, s), hs)
  | none => none
 | .seq a b, Γ, st, hs => match sC callG n a Γ st hs with
  | some (outs, hs) => cutS (fun st hs => sC callG n b Γ st hs) st outs hs
  | none => none
 | .cond x a b, Γ, st, hs => match x with
  | .t t => match vv st t with
   | some (T, F) => match jl (fun st hs => sC callG n a Γ st hs) T hs with
    | some (r1, hs) => match jl (fun st hs => sC callG n b Γ st hs) F hs with
     | some (r2, hs) => some (r1 ++ r2, hs)
     | none => none
    | none => none
   | none => none
  | .c (.bool true) => sC callG n a Γ st hs
  | .c (.bool false) => sC callG n b Γ st hs
  | _ => none
 | .block id c, Γ, st, hs => match sC callG n c Γ st hs with
  | some (outs, hs) => some (outs.map fun x => match x with
   | (.jmp (.exit i), st) => if i = id then (.nor, st) else (.jmp (.exit i), st)
   | x => x, hs)
  | none => none
 | .loop c, Γ, st, hs => zb (fun st hs => sC callG n c Γ st hs) n st hs
 | .rangeF f ps a b, Γ, st, hs => match opA st.env f, hs with
  | some (.clo fn x y), .rng J P posts :: hs =>
   let st1 : St := { st with n := st.n + 1, bl := .loop st.n 0 st.n J :: st.bl }
   if iP P && decide (st.n + 1 ≤ P.n) && (fY st.n 0 P.bl == some (st.n, J)) then
    match jC st.env ps P.env with
    | some e => match sC callG n a Γ { P with env := e, fa := P.fa ++ st.fa } hs with
     | some (outsA, hs) => match jl (fun x hs => match x with
       | (.nor, st2) => if fY st.n 0 st2.bl == some (st.n, J) then sC callG n b Γ (tU st.n 2 st.n J st2) hs else none
       | _ => none) outsA hs with
      | some (outsB, hs) => if i4 st.n st.n J P.n posts outsB then
        match callG (wM st.n P posts :: Γ) (.fn fn) (x ++ [.yld st.n] ++ y) st1 hs with
        | some (outs, hs) => match mB st.n st.n J st.env outs with
         | some r => some (r, hs)
         | none => none
        | none => none
       else none
      | none => none
     | none => none
    | none => none
   else none
  | _, _ => none
 | .exit id, _, st, hs => some ([(.jmp (.exit id), st)], hs)
 | .ret, _, st, hs => some ([(.jmp .ret, st)], hs)
def oJ (as : List AV) (st : St) : List Con → Tg → Option (List (AV × St))
 | [], _ => none
 | c :: r, .fn f => if c.yl = false ∧ c.tg = f then (match iX c as st with
  | some x => some x
  | none => oJ as st r (.fn f)) else oJ as st r (.fn f)
 | c :: r, .yl b => if c.yl = true ∧ c.tg = b then (match iX c as st with
  | some x => some x
  | none => oJ as st r (.yl b)) else oJ as st r (.yl b)
def vl : List (Nat × List Ty × Ty) → Nat → Option (List Ty × Ty)
 | [], _ => none
 | (f, x) :: r, g => if f = g then some x else vl r g
def rL (st : St) : List IRes → Option (List AV)
 | [] => some []
 | .tmp t :: r => (rL st r).map fun l => gQ st.env t :: l
 | .cell t g :: r => match ldD st g (gQ st.env t), rL st r with
  | some x, some l => some (x :: l)
  | _, _ => none
def qE0 : List AV → AV
 | [a] => a
 | l => .tup l
def vp (F : IF) (env : List AV) : bE → Option (List (AV × St))
 | [] => some []
 | (ex, st) :: r => match ex with
  | .jmp (.exit _) => none
  | _ => match rL st F.res, vp F env r with
   | some l, some t => some ((qE0 l, { st with env := env }) :: t)
   | _, _ => none
def vi : List (AV × St) → Option (List (AV × St))
 | [] => some []
 | (a, st) :: r => match frA a { st with env := [a] }, vi r with
  | some x, some l => some ((x.1, { x.2 with env := st.env }) :: l)
  | _, _ => none
def cl1 (fa : List Fact) : AV → Bool
 | .bool _ | .cmp _ _ _ | .eqc _ _ _ _ | .int _ _ _ | .str _ | .nilp | .nils | .nilm | .nilf | .nili => true
 | .sym s => dg fa s oU fa
 | _ => false
def qFC (fa : List Fact) : List AV → Bool
 | [] => true
 | a :: l => cl1 fa a && qFC fa l
def qAZ (fa : List Fact) : AV → Bool
 | .agg l => qFC fa l
 | a => cl1 fa a
def qd (fa : List Fact) : List AV → Bool
 | [] => true
 | a :: l => qAZ fa a && qd fa l
def sc1 (fa : List Fact) : AV → Bool
 | .bool _ | .cmp _ _ _ | .eqc _ _ _ _ | .int _ _ _ | .str _ | .nilp | .nils | .nilm | .nilf | .nili => true
 | .sym s => dg fa s (fun T => sty fa T .bool || sty fa T .str) fa
 | _ => false
def qD0 (fa : List Fact) : List AV → Bool
 | [] => true
 | a :: l => sc1 fa a && qD0 fa l
def sc2 (fa : List Fact) : AV → Bool
 | .agg l => qD0 fa l
 | a => sc1 fa a
def qCZ (fa : List Fact) : List AV → Bool
 | [] => true
 | a :: l => sc2 fa a && qCZ fa l
def uj (fa : List Fact) : AV → Bool
 | .tup l => qCZ fa l
 | a => sc2 fa a
def mQ (st : St) : List (AV × St) → Option (List (AV × St))
 | [] => some []
 | (a, s) :: r => if uj s.fa a then (mQ st r).map fun l => (a, ⟨s.n, st.env, s.fa, st.bl⟩) :: l else none
def rO (f n0 : Nat) (P : St) (posts : List (AV × St)) (ma mb : Lin) (lim : Option (Lin × Lin)) : Con := ⟨false, f, n0, P, posts, ma, mb, lim⟩
def kz (lo : Nat) (posts : List (AV × St)) : List (AV × St) → Bool
 | [] => true
 | (a, s) :: r => eQ lo s a posts && kz lo posts r
def lO (callG : List Con → jA) (n : Nat) (F : IF) (Γ : List Con) (as : List AV) (st : St) (hs : Hs) : Option (List (AV × St) × Hs) :=
 match sC callG n F.body Γ { st with env := as ++ yh (F.ntmps - as.length) } hs with
 | some (outs, hs) => match vp F st.env outs with
  | some r => some (r, hs)
  | none => none
 | none => none
def takeR (f : Nat) : Hs → Option (St × List (AV × St) × Lin × Lin × Hs)
 | .rcs g P posts ma mb :: hs => if g = f then some (P, posts, ma, mb, hs) else none
 | _ => none
def sF (tbl : Nat → Option IF) (E : List (Nat × List Ty × Ty)) : Nat → List Con → jA
 | 0, _, _, _, _, _ => none
 | n + 1, Γ, tg, as, st, hs =>
  match oJ as st Γ tg with
  | some r => some (r, hs)
  | none => match tg with
   | .yl _ => none
   | .fn f => match vl E f with
    | some (Ts, T) => if qp st.fa Ts as then some ([fresh st T], hs) else none
    | none => match tbl f with
     | none => none
     | some F => match takeR f hs with
      | some (P, posts, ma, mb, hs) => if F.mode = 0 ∧ iP P = true ∧ st.n ≤ P.n ∧ ma.s < P.n ∧ mb.s < P.n then
        match lO (sF tbl E n) n F (rO f st.n P posts ma mb (some (ma, mb)) :: Γ) P.env { P with fa := P.fa ++ st.fa } hs with
        | some (outs, hs) => if kz P.n posts outs then (iX (rO f st.n P posts ma mb none) as st).map fun r => (r, hs) else none
        | none => none
       else none
      | none => match F.mode with
       | 0 => lO (sF tbl E n) n F Γ as st hs
       | 1 => match lO (sF tbl E n) n F Γ as st hs with
        | some (outs, hs) => match vi outs with
         | some r => some (r, hs)
         | none => none
        | none => none
       | _ => if F.mode = 2 ∧ qd st.fa as = true then match lO (sF tbl E n) n F Γ as ⟨st.n, [], st.fa, []⟩ hs with
        | some (outs, hs) => match mQ st outs with
         | some r => some (r, hs)
         | none => none
        | none => none
        else none
end
end Ce.S
namespace Ce.S
noncomputable section
open Go
def tgt (v : V) (c : Con) : Tgt := if c.yl then .yl (v.b c.tg) else .fn c.tg
def FrX (v : V) (P : St) (h : H) : Cx := ⟨h, P.bl.flatMap (adr v)⟩
def qGW (v : V) (c : Con) (h : H) (r : CV) (h' : H) : Prop := ∃ o, o ∈ c.posts ∧ ∃ u, Agr c.pre.n v u ∧ c.pre.n ≤ o.2.n ∧ Sat (FrX v c.pre h) u { o.2 with env := [] } [] h' ∧ ∀ w, Agr o.2.n u w → den w o.1 = r
def ConOK (tbl : Nat → Option IF) (v : V) (c : Con) : Prop := ∀ (W : V) (args : List CV) (h : H), Agr c.n0 v W → Sat0 (FrX W c.pre h) W c.pre args h → (∀ a b, c.lim = some (a, b) → c.ma.ev W - c.mb.ev W < a.ev v - b.ev v ∧ 0 < a.ev v - b.ev v) → Wf tbl (tgt v c) args h (qGW W c h)
structure GOK1 (tbl : Nat → Option IF) (v : V) (n : Nat) (c : Con) : Prop where
 pos : 0 < c.n0
 n0 : c.n0 ≤ n
 tg : c.yl = true → c.tg < c.n0
 cl : iP c.pre = true
 lim : ∀ a b, c.lim = some (a, b) → a.s < n ∧ b.s < n
 ok : ConOK tbl v c
def GOK (tbl : Nat → Option IF) (v : V) (n : Nat) (Γ : List Con) : Prop := ∀ c, c ∈ Γ → GOK1 tbl v n c
theorem GOK.mono {tbl : Nat → Option IF} {v w : V} {n m : Nat} {Γ : List Con} (g : GOK tbl v n Γ) (hw : Agr n v w) (hm : n ≤ m) : GOK tbl w m Γ := fun c hc => by
 have g1 := g c hc
 refine ⟨g1.pos, Nat.le_trans g1.n0 hm, g1.tg, g1.cl, fun a b h => ⟨Nat.lt_of_lt_of_le (g1.lim a b h).1 hm, Nat.lt_of_lt_of_le (g1.lim a b h).2 hm⟩, ?_⟩
 intro W args h hW hs hl
 have ht : tgt w c = tgt v c := by
  unfold tgt
  split
  ·rename_i hy
   have := (hw c.tg (Nat.lt_of_lt_of_le (g1.tg hy) g1.n0)).2.2.1
   rw [this]
  ·rfl
 rw [ht]
 refine g1.ok W args h ((hw.mono g1.n0).trans hW (Nat.le_refl _)) hs (fun a b hab => ?_)
 have := hl a b hab
 obtain ⟨h1, h2⟩ := g1.lim a b hab
 rw [← Lin.agr hw h1, ← Lin.agr hw h2] at this
 exact this
theorem GOK.nil {tbl : Nat → Option IF} {v : V} {n : Nat} : GOK tbl v n [] := fun c hc => by cases hc
theorem GOK.cons {tbl : Nat → Option IF} {v : V} {n : Nat} {c : Con} {Γ : List Con} (h1 : GOK1 tbl v n c) (g : GOK tbl v n Γ) : GOK tbl v n (c :: Γ) := fun d hd => by
 rcases List.mem_cons.1 hd with rfl | hd
 ·exact h1
 ·exact g d hd
theorem ki {α : Type} {l : List (Nat × α)} {lo hi : Nat} {p : α → Bool} (h : sr lo hi p l = true) {s : Nat} (hs : s < lo ∨ hi ≤ s) : f9 l s = none := by
 induction l with
 | nil => rfl
 | cons x l ih =>
  obtain ⟨k, a⟩ := x
  obtain ⟨h1, h2⟩ := pb h
  simp only at h1
  rw [ig, if_neg (by omega)]
  exact ih h2
theorem kh {α : Type} {l : List (Nat × α)} {lo hi : Nat} {p : α → Bool} (h : sr lo hi p l = true) {s : Nat} {a : α} (hs : f9 l s = some a) : p a = true := by
 induction l with
 | nil => cases hs
 | cons x l ih =>
  obtain ⟨k, b⟩ := x
  obtain ⟨h1, h2⟩ := pb h
  rw [ig] at hs
  split at hs
  ·simp only [sI] at hs; subst hs; exact h1.2.2
  ·exact ih h2 hs
structure SubOK (lo hi n : Nat) (θ : Sub) : Prop where
 elo : θ.lo = lo
 ebase : θ.base = hi
 i : ∀ s, s < lo ∨ hi ≤ s → f9 θ.i s = none
 c : ∀ s, s < lo ∨ hi ≤ s → f9 θ.c s = none
 b : ∀ s, s < lo ∨ hi ≤ s → f9 θ.b s = none
 i' : ∀ s l, f9 θ.i s = some l → l.s < n
 c' : ∀ s l, f9 θ.c s = some l → clA n l = true
 b' : ∀ s l, f9 θ.b s = some l → l < n
theorem ew {lo hi n : Nat} {θ : Sub} (h : gh lo hi n θ = true) : SubOK lo hi n θ := by
 simp only [gh, aT, beq_iff_eq] at h
 obtain ⟨⟨⟨⟨h1, h2⟩, h3⟩, h4⟩, h5⟩ := h
 exact ⟨h1, h2, fun s hs => ki (p := fun l : Lin => Nat.blt l.s n) h3 hs, fun s hs => ki (p := clA n) h4 hs, fun s hs => ki (p := fun l : Nat => Nat.blt l n) h5 hs, fun s l hl => Nat.le_of_ble_eq_true (kh (p := fun l : Lin => Nat.blt l.s n) h3 hl), fun s l hl => kh (p := clA n) h4 hl, fun s l hl => Nat.le_of_ble_eq_true (kh (p := fun l : Nat => Nat.blt l n) h5 hl)⟩
theorem SubOK.agr {lo hi n : Nat} {θ : Sub} (h : SubOK lo hi n θ) (v : V) : Agr lo v (v.comp θ) := fun s hs => by
 have hb : Nat.blt s θ.lo = true := qGS (by rw [h.elo]; exact hs)
 have hn : θ.nu s = s := by simp only [Sub.nu, h.elo, if_pos hs]
 simp only [V.comp, Sub.iL, Sub.cA, Sub.bN, hb, hn, Lin.ev, den, Int.add_zero, and_self]
theorem SubOK.stable {lo hi n : Nat} {θ : Sub} (h : SubOK lo hi n θ) (hlo : lo ≤ n) (hn0 : 0 < n) {v w : V} (hw : Agr n v w) : Agr hi (v.comp θ) (w.comp θ) := fun s hs => by
 have hnu : θ.nu s < n := by
  simp only [Sub.nu, h.elo, h.ebase]
  split
  ·omega
  ·first | exact hn0 | (rw [if_pos hs]; exact hn0)
 cases hb : Nat.blt s θ.lo with
 | true =>
  have hb' : Nat.ble (s + 1) θ.lo = true := hb
  have hlt := Nat.le_of_ble_eq_true hb'
  rw [h.elo] at hlt
  obtain ⟨q1, q2, q3, q4⟩ := hw s (by omega)
  have hn : θ.nu s = s := by simp only [Sub.nu, h.elo, if_pos (show s < lo by omega)]
  simp only [V.comp, Sub.iL, Sub.cA, Sub.bN, hb, hn, Lin.ev, den, Int.add_zero]
  exact ⟨q1, q2, q3, q4⟩
 | false =>
 refine ⟨?_, ?_, ?_, ?_⟩
 ·simp only [V.comp, Sub.iL, hb]
  cases hl : f9 θ.i s with
  | some l => exact Lin.agr hw (h.i' s l hl)
  | none => exact Lin.agr hw hnu
 ·simp only [V.comp, Sub.cA, hb]
  cases hl : f9 θ.c s with
  | some l => exact qB0 hw l (h.c' s l hl)
  | none => simp only [den]; exact (hw _ hnu).2.1
 ·simp only [V.comp, Sub.bN, hb]
  cases hl : f9 θ.b s with
  | some l => exact (hw _ (h.b' s l hl)).2.2.1
  | none => exact (hw _ hnu).2.2.1
 ·simp only [V.comp]; exact (hw _ hnu).2.2.2
theorem ow {w : V} {fa : List Fact} (hf : ∀ f, f ∈ fa → FOK w f) {ma mb : Lin} {lim : Option (Lin × Lin)} (h : qP fa ma mb lim = true) : ∀ a b, lim = some (a, b) → ma.ev w - mb.ev w < a.ev w - b.ev w ∧ 0 < a.ev w - b.ev w := by
 intro a b hl
 subst hl
 simp only [qP, aT, Bool.or_eq_true] at h
 obtain ⟨h1, h2⟩ := h
 have h1 := aF hf h1
 rcases h2 with h2 | h2 <;> (have h3 := aF hf h2.1; have h4 := aF hf h2.2; omega)
def jj (v : V) : List (Lin × Lin) → Nat
 | [] => 0
 | m :: ms => (m.1.ev v - m.2.ev v).toNat + jj v ms
theorem rx {w : V} {fa : List Fact} (hf : ∀ f, f ∈ fa → FOK w f) : ∀ {ns os : List (Lin × Lin)}, oz fa ns os = true → jj w ns ≤ jj w os
 | [], [], _ => Nat.le_refl _
 | [], _ :: _, h => by cases h
 | _ :: _, [], h => by cases h
 | n :: ns, o :: os, h => by
  simp only [oz, le1, aT, Bool.or_eq_true] at h
  have := rx hf h.2
  simp only [jj]
  rcases h.1 with h1 | ⟨h1, h2⟩
  ·have := aF hf h1; omega
  ·have := aF hf h1; have := aF hf h2; omega
theorem vT {w : V} {fa : List Fact} (hf : ∀ f, f ∈ fa → FOK w f) : ∀ {ns os : List (Lin × Lin)}, ot fa ns os = true → oz fa ns os = true → jj w ns < jj w os
 | [], _, h, _ => by simp [ot] at h
 | _ :: _, [], h, _ => by simp [ot] at h
 | n :: ns, o :: os, h, h' => by
  simp only [oz, le1, aT, Bool.or_eq_true] at h'
  simp only [ot, lt1, aT, Bool.or_eq_true] at h
  simp only [jj]
  rcases h with ⟨h0, h⟩ | h
  ·have := aF hf h0
   have := rx hf h'.2
   rcases h with h | ⟨h1, h2⟩ | ⟨h1, h2⟩
   ·have := aF hf h; omega
   ·have := aF hf h1; have := aF hf h2; omega
   ·have := aF hf h1; have := aF hf h2; omega
  ·have := vT hf h h'.2
   rcases h'.1 with h1 | ⟨h1, h2⟩
   ·have := aF hf h1; omega
   ·have := aF hf h1; have := aF hf h2; omega
theorem rf {n : Nat} {v w : V} (h : Agr n v w) : ∀ {ms : List (Lin × Lin)}, clM n ms = true → jj v ms = jj w ms
 | [], _ => rfl
 | m :: ms, hc => by
  simp only [clM, List.all_cons, aT, dT] at hc
  simp only [jj, Lin.agr h hc.1.1, Lin.agr h hc.1.2, rf h (ms := ms) hc.2]
theorem rc (w : V) (θ : Sub) : ∀ (ms : List (Lin × Lin)), jj w (ms.map (qCT θ)) = jj (w.comp θ) ms
 | [] => rfl
 | m :: ms => by
  simp only [List.map_cons, jj, qCT, bA, rc w θ ms]
theorem oy {w : V} {old : List Fact} (ho : ∀ f, f ∈ old → FOK w f) : ∀ {l : List Fact}, (∀ f, f ∈ l → FOK w f) → ∀ f, f ∈ qQ old l → FOK w f
 | [], _, f, hm => by cases hm
 | g :: l, hl, f, hm => by
  simp only [qQ, List.mem_append] at hm
  rcases hm with hm | hm
  ·have h0 := hl g mS
   cases g <;> simp only [zh] at hm <;> (try (cases hm; done))
   split at hm
   ·rename_i s t t0 ht
    obtain ⟨n, hn, hi⟩ := df ho ht
    obtain ⟨m, hm', hj⟩ := h0
    rw [hn, sI] at hm'; subst hm'
    simp only [List.mem_cons, List.not_mem_nil, or_false] at hm
    rcases hm with rfl | rfl <;> simp only [FOK] <;> omega
   ·cases hm
  ·exact oy ho (fun f hf => hl f (mC _ hf)) f hm
section
variable {X : Cx} {v : V} {st : St} {env : List CV} {h : H} {tbl : Nat → Option IF}
def tK (X : Cx) (v : V) (st : St) (env : List CV) (outs : List (AV × St)) (r : CV) (h' : H) : Prop := ∃ o, o ∈ outs ∧ ∃ w, Agr st.n v w ∧ st.n ≤ o.2.n ∧ o.2.env = st.env ∧ Sat X w o.2 env h' ∧ ∀ u, Agr o.2.n w u → den u o.1 = r
theorem qBI {n : Nat} {v w : V} (hw : Agr n v w) : ∀ {l : List BE}, xP n l = true → l.flatMap (adr w) = l.flatMap (adr v)
 | [], _ => rfl
 | p :: l, hc => by
  simp only [xP, aT] at hc
  simp only [List.flatMap_cons, wA hw hc.1, qBI hw hc.2]
theorem Mtch.sat0 (s0 : Sat0 X v st env h) {θ : Sub} {as : List AV} {pre : St} {rest : List BE} (m : Mtch v st θ as pre rest h) (hz : 0 < θ.lo) (hi : f9 θ.i 0 = none) : Sat0 X (v.comp θ) pre (aG v as) h where
 z := by simp only [V.comp, Sub.iL, qGS hz, Lin.ev, s0.z]; rfl
 env := m.env.symm
 fa := m.fa
 bl := m.bl
 nd := (bQ.1 m.nd).1
 lt := fun p hp a ha => by
  have := m.sub a (List.mem_flatMap.2 ⟨p, hp, ha⟩)
  obtain ⟨q, hq, haq⟩ := List.mem_flatMap.1 this
  exact s0.lt q hq a haq
 hn := s0.hn
 fr := s0.fr
theorem Mtch.satF (s0 : Sat0 X v st env h) {θ : Sub} {as : List AV} {pre : St} {rest : List BE} (m : Mtch v st θ as pre rest h) (hz : 0 < θ.lo) (hi : f9 θ.i 0 = none) : Sat0 (FrX (v.comp θ) pre h) (v.comp θ) pre (aG v as) h :=
 let a := m.sat0 s0 hz hi
 ⟨a.z, a.env, a.fa, a.bl, a.nd, fun p hp x hx => ⟨(a.lt p hp x hx).1, .inl (List.mem_flatMap.2 ⟨p, hp, hx⟩)⟩, Nat.le_refl _, fun _ _ _ => rfl⟩
def tgT (v : V) : Tg → Tgt
 | .fn f => .fn f
 | .yl b => .yl (v.b b)
theorem pY (s : Sat X v st env h) {c : Con} (g : GOK1 tbl v st.n c) (hpos : 0 < c.n0) {as : List AV} {outs : List (AV × St)} (ha : iX c as st = some outs) : Wf tbl (tgt v c) (aG v as) h (tK X v st env outs) := by
 have s0 := s.now
 unfold iX at ha
 dsimp only at ha
 generalize hθ : d8 c.n0 c.pre.n st.n st as c.pre = θ at ha
 split at ha
 ·rename_i hc
  simp only [aT, beq_iff_eq, dT] at hc
  obtain ⟨⟨c1, c2⟩, c3⟩ := hc
  have so := ew c1
  split at ha
  ·rename_i rest hm
   split at ha
   ·rename_i hl
    simp only [sI] at ha; subst ha
    have hz : 0 < θ.lo := by rw [so.elo]; exact hpos
    have hi0 := so.i 0 (.inl hpos)
    have m := mG s0 hm
    have hW := m.satF s0 hz hi0
    have hlim : ∀ a b, c.lim = some (a, b) → c.ma.ev (v.comp θ) - c.mb.ev (v.comp θ) < a.ev v - b.ev v ∧ 0 < a.ev v - b.ev v := fun a b hab => by
     have := ow s0.fa hl a b hab
     rw [bA, bA] at this
     exact this
    refine (g.ok (v.comp θ) (aG v as) h (so.agr v) hW hlim).mono ?_
    rintro r h' ⟨o, ho, u, hu, hon, hsat, hden⟩
    have hpos' : 0 < st.n := s.pos
    let w : V := ⟨fun s => if s < st.n then v.i s else u.i (c.pre.n + (s - st.n)), fun s => if s < st.n then v.c s else u.c (c.pre.n + (s - st.n)), fun s => if s < st.n then v.b s else u.b (c.pre.n + (s - st.n)), fun s => if s < st.n then v.l s else u.l (c.pre.n + (s - st.n))⟩
    have hvw : Agr st.n v w := fun s hs => ⟨by simp only [w, if_pos hs], by simp only [w, if_pos hs], by simp only [w, if_pos hs], by simp only [w, if_pos hs]⟩
    have key : ∀ x, Agr (st.n + (o.2.n - c.pre.n)) w x → Agr o.2.n u (x.comp θ) := by
     intro x hx s hs
     have hvx : Agr st.n v x := hvw.trans hx (Nat.le_add_right _ _)
     by_cases hlt : s < c.pre.n
     ·obtain ⟨a1, a2, a3, a4⟩ := hu s hlt
      obtain ⟨b1, b2, b3, b4⟩ := so.stable g.n0 hpos' hvx s hlt
      exact ⟨a1.symm.trans b1, a2.symm.trans b2, a3.symm.trans b3, a4.symm.trans b4⟩
     ·have e1 := so.i s (.inr (by omega)); have e2 := so.c s (.inr (by omega)); have e3 := so.b s (.inr (by omega))
      have hnu : θ.nu s = st.n + (s - c.pre.n) := by
       simp only [Sub.nu, so.elo, so.ebase, c2]
       rw [if_neg (by omega), if_neg hlt]
      obtain ⟨x1, x2, x3, x4⟩ := hx (st.n + (s - c.pre.n)) (by omega)
      simp only [w] at x1 x2 x3 x4
      rw [if_neg (by omega), show c.pre.n + (st.n + (s - c.pre.n) - st.n) = s by omega] at x1 x2 x3 x4
      have hb : Nat.blt s θ.lo = false := qGT (by rw [so.elo]; omega)
      simp only [V.comp, Sub.iL, Sub.cA, Sub.bN, hb, e1, e2, e3, hnu, Lin.ev, den, Int.add_zero]
      exact ⟨x1, x2, x3, x4⟩
    refine ⟨zE θ st c.pre.n rest o, List.mem_map.2 ⟨o, ho, rfl⟩, w, hvw, Nat.le_add_right _ _, rfl, ⟨Nat.lt_of_lt_of_le s.pos (Nat.le_add_right _ _), fun x hx => ?_⟩, fun x hx => ?_⟩
    ·have hvx : Agr st.n v x := hvw.trans hx (Nat.le_add_right _ _)
     have sx := s.all x hvx
     have ox := hsat.all (x.comp θ) (key x hx)
     have mx := mG sx hm
     have hcl := g.cl
     simp only [iP, aT] at hcl
     have hF : c.pre.bl.flatMap (adr (x.comp θ)) = c.pre.bl.flatMap (adr (v.comp θ)) := qBI (so.stable g.n0 s.pos hvx) hcl.2
     have hFst : ∀ a, a ∈ c.pre.bl.flatMap (adr (v.comp θ)) → a < h.n ∧ (a ∈ X.F ∨ X.h0.n ≤ a) := fun a ha => by
      obtain ⟨q, hq, haq⟩ := List.mem_flatMap.1 (m.sub a ha)
      exact s0.lt q hq a haq
     have hrest : ∀ q, q ∈ rest → ∀ a, a ∈ adr x q → a < h.n ∧ a ∉ c.pre.bl.flatMap (adr (v.comp θ)) := fun q hq a ha => by
      refine ⟨(sx.lt q (mx.rest q hq) a ha).1, fun hp => ?_⟩
      rw [← hF] at hp
      exact (bQ.1 mx.nd).2.2 a hp (List.mem_flatMap.2 ⟨q, hq, ha⟩)
     have hfr : ∀ j, j < h.n → j ∉ c.pre.bl.flatMap (adr (v.comp θ)) → h'.get j = h.get j := fun j hj hjF => ox.fr j hj hjF
     have hblx : (o.2.bl.map (mY θ)).flatMap (adr x) = o.2.bl.flatMap (adr (x.comp θ)) := by
      have : ∀ l : List BE, (l.map (mY θ)).flatMap (adr x) = l.flatMap (adr (x.comp θ)) := by
       intro l
       induction l with
       | nil => rfl
       | cons p l ih => simp only [List.map_cons, List.flatMap_cons, qw, ih]
      exact this _
     have hnn : h.n ≤ h'.n := ox.hn
     refine ⟨sx.z, sx.env, fun f hf => ?_, fun p hp => ?_, ?_, fun p hp a ha => ?_, Nat.le_trans sx.hn hnn, fun j hj hjF => ?_⟩
     ·have hnew : ∀ f, f ∈ o.2.fa.filterMap (lg θ) → FOK x f := fun f hf => by
       obtain ⟨f0, hf0, hff⟩ := List.mem_filterMap.1 hf
       exact qCU hff (ox.fa f0 hf0)
      rcases List.mem_append.1 hf with hf | hf
      ·exact oy sx.fa hnew f hf
      ·rcases List.mem_append.1 hf with hf | hf
       ·exact hnew f hf
       ·exact sx.fa f hf
     ·rcases List.mem_append.1 hp with hp | hp
      ·obtain ⟨p0, hp0, rfl⟩ := List.mem_map.1 hp
       exact (qCW x θ h' p0).2 (ox.bl p0 hp0)
      ·refine lK (fun a ha => ?_) (sx.bl p (mx.rest p hp))
       obtain ⟨e1, e2⟩ := hrest p hp a ha
       exact hfr a e1 e2
     ·show ((o.2.bl.map (mY θ) ++ rest).flatMap (adr x)).Nodup
      rw [List.flatMap_append, hblx]
      refine bQ.2 ⟨ox.nd, (bQ.1 mx.nd).2.1, fun a ha hb => ?_⟩
      obtain ⟨q, hq, haq⟩ := List.mem_flatMap.1 hb
      obtain ⟨e1, e2⟩ := hrest q hq a haq
      obtain ⟨p, hp, hap⟩ := List.mem_flatMap.1 ha
      rcases (ox.lt p hp a hap).2 with e3 | e3
      ·exact e2 e3
      ·have : h.n ≤ a := e3
       omega
     ·rcases List.mem_append.1 hp with hp | hp
      ·obtain ⟨p0, hp0, rfl⟩ := List.mem_map.1 hp
       rw [qw] at ha
       obtain ⟨e1, e2⟩ := ox.lt p0 hp0 a ha
       refine ⟨e1, ?_⟩
       rcases e2 with e2 | e2
       ·exact (hFst a e2).2
       ·have : h.n ≤ a := e2
        have := sx.hn
        exact .inr (by omega)
      ·have := sx.lt p (mx.rest p hp) a ha
       exact ⟨by omega, this.2⟩
     ·have hjn : j < h.n := by have := sx.hn; omega
      rw [hfr j hjn ?_, sx.fr j hj hjF]
      intro hp
      rcases (hFst j hp).2 with e | e
      ·exact hjF e
      ·omega
    ·have := hden (x.comp θ) (key x hx)
     simp only [zE, mZ]
     exact this
   ·cases ha
  ·cases ha
 ·cases ha
theorem qEX {n0 : Nat} (s : Sat X v st env h) (hn : n0 ≤ st.n) (hn0 : 0 < n0) {a : AV} {o : AV × St} (hf : fits n0 st a o = true) : ∃ u, Agr n0 v u ∧ n0 ≤ o.2.n ∧ Sat X u { o.2 with env := [] } [] h ∧ ∀ w, Agr o.2.n u w → den w o.1 = den v a := by
 have s0 := s.now
 unfold fits at hf
 dsimp only at hf
 generalize hθ : d8 n0 o.2.n 0 st [a] { o.2 with env := [o.1] } = θ at hf
 simp only [aT, dT, Option.isSome_iff_exists] at hf
 obtain ⟨⟨⟨c1, c2⟩, c3⟩, rest, hm⟩ := hf
 have so := ew c1
 have hz : 0 < θ.lo := by rw [so.elo]; exact hn0
 have m := mG s0 hm
 have hP := m.sat0 s0 hz (so.i 0 (.inl hn0))
 have hS := Sat.ofClosed (fs := []) c2 (show 0 < o.2.n by omega) hP (fun _ _ f hf => by cases hf)
 refine ⟨v.comp θ, so.agr v, c3, ⟨by show 0 < o.2.n; omega, fun w hw => ?_⟩, fun w hw => ?_⟩
 ·have := hS.all w hw
  exact ⟨this.z, rfl, fun f hf => this.fa f (List.mem_append_left _ hf), this.bl, this.nd, this.lt, this.hn, this.fr⟩
 ·have := (hS.all w hw).env
  simp only [aG, List.cons.injEq, and_true] at this
  exact this.symm
theorem dx {n0 : Nat} (s : Sat X v st env h) (hn : n0 ≤ st.n) (hn0 : 0 < n0) {a : AV} : ∀ {posts : List (AV × St)}, eQ n0 st a posts = true → ∃ o, o ∈ posts ∧ ∃ u, Agr n0 v u ∧ n0 ≤ o.2.n ∧ Sat X u { o.2 with env := [] } [] h ∧ ∀ w, Agr o.2.n u w → den w o.1 = den v a
 | [], hf => by cases hf
 | o :: os, hf => by
  simp only [eQ, Bool.or_eq_true] at hf
  rcases hf with hf | hf
  ·exact ⟨o, mS, qEX s hn hn0 hf⟩
  ·obtain ⟨o', h1, h2⟩ := dx s hn hn0 hf
   exact ⟨o', mC _ h1, h2⟩
end
end
end Ce.S
namespace Ce.S
noncomputable section
open Go
section
variable {X : Cx} {v : V} {st : St} {env : List CV} {h : H} {tbl : Nat → Option IF}
def CallOK (tbl : Nat → Option IF) (Γ : List Con) (call : jA) : Prop := ∀ (tg : Tg) (as : List AV) (st : St) (hs : Hs) (outs : List (AV × St)) (hs' : Hs), call tg as st hs = some (outs, hs') → ∀ (X : Cx) (v : V) (env : List CV) (h : H), Sat X v st env h → GOK tbl v st.n Γ → (∀ u, Agr st.n v u → aG u as = aG v as ∧ tgT u tg = tgT v tg) → Wf tbl (tgT v tg) (aG v as) h (tK X v st env outs)
theorem j4 {w : V} {o : AV × St} {c : CV} (s : Sat X w o.2 env h) (hd : ∀ u, Agr o.2.n w u → den u o.1 = c) (d : Option Nat) : Sat X w (m9 d o) (put? env d c) h := by
 refine ⟨s.pos, fun u hu => ?_⟩
 have s0 := s.all u hu
 exact ⟨s0.z, by rw [s0.env, ← hd u hu, zB]; rfl, qFO s0.fa, s0.bl, s0.nd, s0.lt, s0.hn, s0.fr⟩
def OpsQ (X : Cx) (v : V) (st : St) (outs : List St) (env' : List CV) (h' : H) : Prop := ∃ st', st' ∈ outs ∧ ∃ w, Agr st.n v w ∧ st.n ≤ st'.n ∧ Sat X w st' env' h'
theorem xw {w : V} {fa : List Fact} (z : w.i 0 = 0) (hf : ∀ f, f ∈ fa → FOK w f) {a b t : Nat} {c : Int} (h0 : FOK w (.sum a b t c)) : ∀ f, f ∈ tQ fa a b t c → FOK w f := by
 intro f hm
 simp only [FOK] at h0
 have lo : ∀ {l : Lin} {k : Int}, loC fa l = some k → k ≤ l.ev w := fun h => jL z hf h
 have hi : ∀ {l : Lin} {k : Int}, hiC fa l = some k → l.ev w ≤ k := fun h => dQ z hf h
 unfold tQ at hm
 simp only [List.mem_append] at hm
 rcases hm with hm | hm | hm | hm
 ·split at hm
  ·rename_i k hk
   have := lo hk
   simp only [Lin.ev] at this
   simp only [List.mem_singleton] at hm; subst hm
   simp only [FOK]; omega
  ·cases hm
 ·split at hm
  ·rename_i k hk
   have := hi hk
   simp only [Lin.ev] at this
   simp only [List.mem_singleton] at hm; subst hm
   simp only [FOK]; omega
  ·cases hm
 ·split at hm
  ·rename_i k hk
   have := lo hk
   simp only [Lin.ev] at this
   simp only [List.mem_singleton] at hm; subst hm
   simp only [FOK]; omega
  ·cases hm
 ·split at hm
  ·rename_i k hk
   have := hi hk
   simp only [Lin.ev] at this
   simp only [List.mem_singleton] at hm; subst hm
   simp only [FOK]; omega
  ·cases hm
theorem wQ {w : V} {fa : List Fact} (z : w.i 0 = 0) (hf : ∀ f, f ∈ fa → FOK w f) {x y : Nat} : ∀ {l : List Fact}, (∀ f, f ∈ l → FOK w f) → ∀ f, f ∈ kR fa x y l → FOK w f := by
 intro l
 induction l with
 | nil => intro _ f h; cases h
 | cons g r ih =>
  intro hl f hm
  have hr := ih (fun f hm => hl f (mC _ hm))
  have h0 := hl g mS
  cases g <;> simp only [kR] at hm <;> (try (exact hr f hm))
  rename_i a b t c
  rcases List.mem_append.1 hm with hq | hq
  ·clear hm
   by_cases hc : a = x ∨ a = y ∨ b = x ∨ b = y ∨ t = x ∨ t = y
   ·rw [if_pos hc] at hq; exact xw z hf h0 f hq
   ·rw [if_neg hc] at hq; cases hq
  ·exact hr f hq
theorem qAA {w : V} {fa : List Fact} (hf : ∀ f, f ∈ fa → FOK w f) : ∀ {cs ds : List AV}, gtA fa cs ds = true → aG w cs ≠ aG w ds
 | [], [], h => by simp [gtA] at h
 | [], _ :: _, h => by simp [gtA] at h
 | a :: l, [], h => by cases a <;> simp [gtA] at h
 | a :: l, b :: m, h => by
  have tl : gtA fa l m = true → aG w (a :: l) ≠ aG w (b :: m) := fun h e => by
   simp only [aG, List.cons.injEq] at e
   exact qAA hf h e.2
  cases a <;> try (exact tl h)
  rename_i k s c
  cases b <;> try (exact tl h)
  rename_i k' s' c'
  simp only [gtA, Bool.or_eq_true] at h
  rcases h with h | h
  ·intro e
   simp only [aG, den, List.cons.injEq, CV.int.injEq] at e
   have := aF hf h
   simp only [Lin.ev] at this
   omega
  ·exact tl h
theorem yd {w : V} {fa : List Fact} (z : w.i 0 = 0) (hf : ∀ f, f ∈ fa → FOK w f) {s : Nat} {i : Lin} {cs : List AV} (h0 : FOK w (.row s i cs)) : ∀ {l : List Fact}, (∀ f, f ∈ l → FOK w f) → ∀ f, f ∈ mh fa s i cs l → FOK w f := by
 intro l
 induction l with
 | nil => intro _ f h; cases h
 | cons g r ih =>
  intro hl f hm
  have hr := ih (fun f hm => hl f (mC _ hm))
  have h1 := hl g mS
  cases g <;> simp only [mh] at hm <;> (try (exact hr f hm))
  rename_i s' j ds
  rcases List.mem_append.1 hm with hq | hq
  ·clear hm
   by_cases hc : s' = s ∧ j.s = 0 ∧ i.s ≠ 0 ∧ gtA fa cs ds = true ∧ leL fa j i 0 = true
   ·rw [if_pos hc] at hq
    obtain ⟨rfl, c1, c2, c3, c4⟩ := hc
    simp only [List.mem_singleton] at hq; subst hq
    have hle := aF hf c4
    obtain ⟨a1, rows, ex, a2, a3⟩ := h0
    obtain ⟨b1, rows', ex', b2, b3⟩ := h1
    rw [a2] at b2
    cases b2
    have hne : i.ev w ≠ j.ev w := fun e => by
     rw [e, b3, sI] at a3
     exact qAA hf c3 a3.symm
    simp only [FOK, z]
    have ej : j.ev w = j.c := by simp only [Lin.ev, c1, z]; omega
    simp only [Lin.ev] at hle hne ej ⊢
    omega
   ·rw [if_neg hc] at hq; cases hq
  ·exact hr f hq
theorem wY {w : V} {fa : List Fact} (z : w.i 0 = 0) (hf : ∀ f, f ∈ fa → FOK w f) : ∀ {l : List Fact}, (∀ f, f ∈ l → FOK w f) → ∀ f, f ∈ mg fa l → FOK w f := by
 intro l
 induction l with
 | nil => intro _ f h; cases h
 | cons g r ih =>
  intro hl f hm
  have hr := ih (fun f hm => hl f (mC _ hm))
  have h0 := hl g mS
  cases g <;> simp only [mg] at hm <;> (try (exact hr f hm))
  rename_i s i cs
  rcases List.mem_append.1 hm with hq | hq
  ·clear hm
   by_cases hc : i.s = 0
   ·rw [if_pos hc] at hq; cases hq
   ·rw [if_neg hc] at hq; exact yd z hf h0 hf f hq
  ·exact hr f hq
theorem qD1 (s : Sat X v st env h) (x y : Nat) : Sat X v (rG x y st) env h := by
 have s1 : Sat X v (st.more (kR st.fa x y st.fa)) env h := s.fact (fun u su f hf => wQ su.z su.fa su.fa f hf)
 exact s1.fact (fun u su f hf => wY su.z su.fa su.fa f hf)
theorem xM (s : Sat X v st env h) {c : AV} {T F : List St} (hc : uG st c = some (T, F)) {cv : CV} (hx : ∀ u, Sat0 X u st env h → cv = den u c) : ∃ b, cv = .bool b ∧ ∃ st', st' ∈ (if b then T else F) ∧ Sat X v st' env h ∧ st'.n = st.n ∧ st'.env = st.env := by
 unfold uG at hc
 split at hc
 ·rename_i T0 F0 h0
  obtain ⟨b, hb, st', hm, s', hn, he⟩ := nf s h0 hx
  have up : ∀ x y, T = T0.map (rG x y) → F = F0.map (rG x y) → ∃ b, cv = .bool b ∧ ∃ st', st' ∈ (if b then T else F) ∧ Sat X v st' env h ∧ st'.n = st.n ∧ st'.env = st.env := fun x y e1 e2 => by
   refine ⟨b, hb, rG x y st', ?_, qD1 s' x y, hn, he⟩
   subst e1; subst e2
   cases b
   ·exact List.mem_map.2 ⟨st', hm, rfl⟩
   ·exact List.mem_map.2 ⟨st', hm, rfl⟩
  split at hc
  ·simp only [sI, pI] at hc
   exact up _ _ hc.1.symm hc.2.symm
  ·simp only [sI, pI] at hc
   exact up _ _ hc.1.symm hc.2.symm
  ·simp only [sI, pI] at hc
   obtain ⟨rfl, rfl⟩ := hc
   exact ⟨b, hb, st', hm, s', hn, he⟩
 ·cases hc
theorem sd (s : Sat X v st env h) {t : Nat} {T F : List St} (hc : vv st t = some (T, F)) : ∃ b, aM env t = .bool b ∧ ∃ st', st' ∈ (if b then T else F) ∧ Sat X v st' env h ∧ st'.n = st.n := by
 have gl : ∀ u, Sat0 X u st env h → aM env t = den u (gQ st.env t) := fun u su => by rw [su.env]; exact eF u st.env t
 have put : ∀ (b : Bool) (st' : St), aM env t = .bool b → Sat X v st' env h → Sat X v (qCY t b st') env h := fun b st' hb s' => by
  refine ⟨s'.pos, fun u hu => ?_⟩
  have s0 := s'.all u hu
  refine ⟨s0.z, ?_, s0.fa, s0.bl, s0.nd, s0.lt, s0.hn, s0.fr⟩
  have e1 := gw u st'.env t (.bool b)
  rw [← s0.env] at e1
  show env = aG u (mc st'.env t (.bool b))
  rw [← e1]
  have : den u (AV.bool b) = aM env t := hb.symm
  rw [this]; exact (ly env t).symm
 unfold vv at hc
 split at hc
 ·rename_i hg
  simp only [sI, pI] at hc
  obtain ⟨rfl, rfl⟩ := hc
  exact ⟨true, by rw [gl v s.now, hg]; rfl, st, by simp, s, rfl⟩
 ·rename_i hg
  simp only [sI, pI] at hc
  obtain ⟨rfl, rfl⟩ := hc
  exact ⟨false, by rw [gl v s.now, hg]; rfl, st, by simp, s, rfl⟩
 ·split at hc
  ·rename_i T' F' hc'
   simp only [sI, pI] at hc
   obtain ⟨rfl, rfl⟩ := hc
   obtain ⟨b, hb, st', hm, s', hn, _⟩ := xM s hc' gl
   refine ⟨b, hb, qCY t b st', ?_, put b st' hb s', hn⟩
   cases b with
   | true => simp only [if_true] at hm ⊢; exact List.mem_map.2 ⟨st', hm, rfl⟩
   | false => simp only [Bool.false_eq_true, if_false] at hm ⊢; exact List.mem_map.2 ⟨st', hm, rfl⟩
  ·cases hc
theorem rH {Γ : List Con} {call : jA} {fk : Bool} (hcall : CallOK tbl Γ call) {o : IOp} {os : List IOp} {hs hs' : Hs} {outs : List (AV × St)} (hg : grd o.guard env = true) (ho : yN call fk o.op st hs = some (outs, hs')) (s : Sat X v st env h) (g : GOK tbl v st.n Γ) {Q : List CV → H → Prop}
  (next : ∀ x, x ∈ outs → ∀ w c h', Agr st.n v w → st.n ≤ x.2.n → Sat X w (m9 o.dst x) (put? env o.dst c) h' → Wo tbl os (put? env o.dst c) h' Q) : Wo tbl (o :: os) env h Q := by
 have s0 := s.now
 have viaCall : ∀ (tg : Tg) (as : List AV) (hs1 hs2 : Hs), call tg as st hs1 = some (outs, hs2) → (∀ u, Agr st.n v u → aG u as = aG v as ∧ tgT u tg = tgT v tg) → (∀ c : ba, stepO c o.op env h = c (tgT v tg) (aG v as) h) → Wo tbl (o :: os) env h Q := by
  intro tg as hs1 hs2 hc hrob hst
  have := hcall tg as st hs1 outs hs2 hc X v env h s g hrob
  refine bo (d := o.dst) (g := o.guard) (o := o.op) (tgT v tg) (aG v as) hg hst (this.mono ?_)
  rintro r h' ⟨x, hx, w, hw, hn, he, sx, hd⟩
  exact next x hx w r h' hw hn (j4 sx hd o.dst)
 have viaOp : (match qGA o.op hs with
  | some hs => (qDB o.op st).map fun outs => (outs, hs)
  | none => (sOw o.op st).map fun outs => (if fk then outs.flatMap (fb 7 1) else outs, hs)) = some (outs, hs') → isCall o.op = false → Wo tbl (o :: os) env h Q := by
  intro hso _
  split at hso
  ·simp only [Option.map_eq_some_iff, pI] at hso
   obtain ⟨outs', h1, rfl, _⟩ := hso
   obtain ⟨x, hx, w, hw, hn, he, c, h', hr, sx, hd⟩ := qDA s h1
   exact aB hg hr (next x hx w c h' hw hn (j4 sx hd o.dst))
  simp only [Option.map_eq_some_iff, pI] at hso
  obtain ⟨outs', h1, rfl, _⟩ := hso
  have hp : aY X v st env (if fk then outs'.flatMap (fb 7 1) else outs') (stepO noC o.op env h) := by
   split
   ·exact hO (yM s h1)
   ·exact yM s h1
  obtain ⟨x, hx, w, hw, hn, he, c, h', hr, sx, hd⟩ := hp
  exact aB hg hr (next x hx w c h' hw hn (j4 sx hd o.dst))
 obtain ⟨dst, op, guard⟩ := o
 cases op with
 | callF f as =>
  simp only [yN] at ho
  split at ho
  ·rename_i as' has
   exact viaCall (.fn f) as' hs hs' ho (fun u hu => ⟨by rw [← (s.all u hu).ops has, s0.ops has], rfl⟩) (fun c => by simp only [stepO, tgT, s0.ops has])
  ·cases ho
 | callV f as =>
  simp only [yN] at ho
  split at ho <;> (try (cases ho; done))
  ·rename_i fn a b as' hf has
   refine viaCall (.fn fn) (a ++ as' ++ b) hs hs' ho (fun u hu => ⟨?_, rfl⟩) (fun c => ?_)
   ·have e1 := (s.all u hu).op hf
    rw [s0.op hf] at e1
    simp only [den, CV.clo.injEq, true_and] at e1
    simp only [cz, e1.1, e1.2, ← (s.all u hu).ops has, s0.ops has]
   ·exact (fun (c : ba) => by simp only [stepO, tgT, s0.ops has, s0.op hf, den, cz]) c
  ·rename_i b as' hf has
   exact viaCall (.yl b) as' hs hs' ho (fun u hu => ⟨by rw [← (s.all u hu).ops has, s0.ops has], by
    have e1 := (s.all u hu).op hf
    rw [s0.op hf] at e1
    simp only [den, CV.yld.injEq] at e1
    simp only [tgT, e1]⟩) (fun c => by simp only [stepO, tgT, s0.ops has, s0.op hf, den])
 | _ => exact viaOp ho rfl
theorem qD5 {Γ : List Con} {call : jA} (hcall : CallOK tbl Γ call) : ∀ (l : List IOp) (st : St) (hs hs' : Hs) (outs : List St), pw call l st hs = some (outs, hs') → ∀ (v : V) (env : List CV) (h : H), Sat X v st env h → GOK tbl v st.n Γ → Wo tbl l env h (OpsQ X v st outs) := by
 intro l
 induction l with
 | nil =>
  intro st hs hs' outs ho v env h s g
  simp only [pw, sI, pI] at ho
  obtain ⟨rfl, _⟩ := ho
  exact ab ⟨st, mS, v, Agr.refl _ _, Nat.le_refl _, s⟩
 | cons o os ih =>
  intro st hs hs' outs ho v env h s g
  have rest : ∀ (st0 : St), st0.n = st.n → ∀ (x : AV × St) (h1 h2 : Hs) (r : List St), (∀ y, y ∈ r → y ∈ outs) → pw call os (m9 o.dst x) h1 = some (r, h2) → ∀ w c h', Agr st0.n v w → st0.n ≤ x.2.n → Sat X w (m9 o.dst x) (put? env o.dst c) h' → Wo tbl os (put? env o.dst c) h' (OpsQ X v st outs) := by
   intro st0 hn0 x h1 h2 r hsub hx w c h' hw hn sx
   rw [hn0] at hw hn
   have := ih (m9 o.dst x) h1 h2 r hx w _ h' sx (g.mono hw hn)
   obtain ⟨n, e, h3, hr, st', hm, u, hu, hnn, sat⟩ := this
   exact ⟨n, e, h3, hr, st', hsub st' hm, u, hw.trans hu hn, Nat.le_trans hn hnn, sat⟩
  simp only [pw] at ho
  split at ho
  ·rename_i hgd
   split at ho
   ·rename_i outs1 hs1 h1
    refine rH hcall (by rw [hgd]; rfl) h1 s g (fun x hx w c h' hw hn sx => ?_)
    obtain ⟨k1, k2, r, hr, hsub⟩ := cO ho x hx
    exact rest st rfl x k1 k2 r hsub hr w c h' hw hn sx
   ·cases ho
  ·rename_i t b hgd
   split at ho
   ·rename_i hu
    have hund : aM env t = undef := by
     rw [s.now.env, eF]
     revert hu
     cases gQ st.env t <;> simp only [qGK] <;> (try (intro h; cases h; done))
     rename_i l
     cases l with
     | nil => intro _; rfl
     | cons a l => intro h; cases h
    refine qBW (by rw [hgd]; simp only [grd, hund, undef, cy]) ?_
    have sD : Sat X v (m9 o.dst (br, st)) (put? env o.dst undef) h := j4 (o := (br, st)) s (fun u hu => rfl) o.dst
    exact rest st rfl (br, st) _ _ outs (fun y hy => hy) ho v undef h (Agr.refl _ _) (Nat.le_refl _) sD
   split at ho
   ·rename_i T F hc
    split at ho
    ·rename_i r1 hs1 hm1
     split at ho
     ·rename_i r2 hs2 hm2
      simp only [sI, pI] at ho
      obtain ⟨rfl, _⟩ := ho
      obtain ⟨bb, hbb, st', hst', s', hn'⟩ := sd s hc
      by_cases he : bb = b
      ·subst he
       obtain ⟨k1, k2, r, hr, hsub⟩ := cO hm1 st' hst'
       split at hr
       ·rename_i outs1 hs3 ho1
        have g' : GOK tbl v st'.n Γ := by rw [hn']; exact g
        refine rH hcall (by rw [hgd]; simp only [grd, hbb, cy, beq_self_eq_true]) ho1 s' g' (fun x hx w c h' hw hn sx => ?_)
        obtain ⟨k3, k4, r', hr', hsub'⟩ := cO hr x hx
        exact rest st' hn' x k3 k4 r' (fun y hy => List.mem_append_left _ (hsub y (hsub' y hy))) hr' w c h' hw hn sx
       ·cases hr
      ·have hst2 : st' ∈ (if b then F else T) := by
        cases bb <;> cases b <;> first | (exact absurd rfl he) | (simpa using hst')
       obtain ⟨k1, k2, r, hr, hsub⟩ := cO hm2 st' hst2
       refine qBW (by rw [hgd]; simp only [grd, hbb, cy]; cases bb <;> cases b <;> first | rfl | exact absurd rfl he) ?_
       have sD : Sat X v (m9 o.dst (br, st')) (put? env o.dst undef) h := j4 (o := (br, st')) s' (fun u hu => rfl) o.dst
       exact rest st' hn' (br, st') k1 k2 r (fun y hy => List.mem_append_right _ (hsub y hy)) hr v undef h (Agr.refl _ _) (Nat.le_refl _) sD
     ·cases ho
    ·cases ho
   ·cases ho
def CQ (X : Cx) (v : V) (st : St) (outs : bE) (ex : Ex) (env' : List CV) (h' : H) : Prop := ∃ st', (ex, st') ∈ outs ∧ ∃ w, Agr st.n v w ∧ st.n ≤ st'.n ∧ Sat X w st' env' h'
theorem CQ.up {st1 : St} {w : V} {outs1 outs : bE} {ex : Ex} {e : List CV} {h' : H} (q : CQ X w st1 outs1 ex e h') (hw : Agr st.n v w) (hn : st.n ≤ st1.n) (hs : ∀ x, x ∈ outs1 → x ∈ outs) : CQ X v st outs ex e h' := by
 obtain ⟨st', hm, u, hu, hnn, sat⟩ := q
 exact ⟨st', hs _ hm, u, hw.trans hu hn, Nat.le_trans hn hnn, sat⟩
theorem upg1ok {w : V} {fa : List Fact} (hf : ∀ f, f ∈ fa → FOK w f) {s : Nat} {i : Lin} {R : List Ty} (h0 : FOK w (.pre s i R)) : ∀ f, f ∈ upg1 fa s i R → FOK w f := by
 intro f hm
 unfold upg1 at hm
 split at hm
 ·rename_i t ht
  split at hm
  ·rename_i hc
   simp only [aT] at hc
   simp only [List.mem_singleton] at hm; subst hm
   obtain ⟨n, hn, hti⟩ := df hf ht
   have hle := aF hf hc.1
   simp only [FOK, ah]
   simp only [FOK] at h0
   cases hcv : w.c s with
   | nils =>
    rw [hcv] at hn; simp only [cY, sI] at hn; subst hn
    exact .inl ⟨rfl, by simp only [Lin.ev]; omega, by simp only [Lin.ev]; omega⟩
   | lst rows ex =>
    rw [hcv] at hn; simp only [cY, sI] at hn; subst hn
    refine .inr ⟨rows, ex, rfl, by simp only [Lin.ev]; omega, by simp only [Lin.ev]; omega, fun r hr => ?_⟩
    obtain ⟨j, hj, hjr⟩ := List.getElem_of_mem hr
    refine h0 rows ex hcv j r (by rw [nth?_eq, List.getElem?_eq_getElem hj, hjr]) ?_
    simp only [Lin.ev] at hle ⊢; omega
   | _ => rw [hcv] at hn; cases hn
  ·cases hm
 ·cases hm
theorem qCP {w : V} {fa : List Fact} (hf : ∀ f, f ∈ fa → FOK w f) : ∀ {l : List Fact}, (∀ f, f ∈ l → FOK w f) → ∀ f, f ∈ qCQ fa l → FOK w f := by
 intro l
 induction l with
 | nil => intro _ f h; cases h
 | cons x r ih =>
  intro hl f hm
  have hrest := ih (fun f hm => hl f (mC _ hm))
  have h0 := hl x mS
  simp only [qCQ, List.mem_append] at hm
  rcases hm with hm | hm
  ·cases x <;> simp only [upgP] at hm <;> (try (cases hm; done))
   exact upg1ok hf h0 f hm
  ·exact hrest f hm
theorem xm (s : Sat X v st env h) : Sat X v (upg st) env h := s.fact (fun u su f hf => qCP su.fa su.fa f hf)
theorem lI {lo : Nat} {P : St} {ma mb : Lin} : ∀ {outs r : bE}, kD lo P ma mb outs = some r → ∀ st', (Ex.nor, st') ∈ outs → uN lo P ma mb st' = true
 | [], r, h, st', hm => by cases hm
 | (.nor, s1) :: outs, r, h, st', hm => by
  simp only [kD] at h
  split at h
  ·rename_i hb
   rcases List.mem_cons.1 hm with hm | hm
   ·cases hm; exact hb
   ·exact lI h st' hm
  ·cases h
 | (.jmp j, s1) :: outs, r, h, st', hm => by
  simp only [kD] at h
  split at h
  ·rename_i l hl
   rcases List.mem_cons.1 hm with hm | hm
   ·cases hm
   ·exact lI hl st' hm
  ·cases h
theorem lJ {lo : Nat} {P : St} {ma mb : Lin} {j : Jump} : ∀ {outs r : bE}, kD lo P ma mb outs = some r → ∀ st', (Ex.jmp j, st') ∈ outs → (Ex.jmp j, upg st') ∈ r
 | [], r, h, st', hm => by cases hm
 | (.nor, s1) :: outs, r, h, st', hm => by
  simp only [kD] at h
  split at h
  ·rcases List.mem_cons.1 hm with hm | hm
   ·cases hm
   ·exact lJ h st' hm
  ·cases h
 | (.jmp j', s1) :: outs, r, h, st', hm => by
  simp only [kD] at h
  split at h
  ·rename_i l hl
   simp only [sI] at h; subst h
   rcases List.mem_cons.1 hm with hm | hm
   ·cases hm; exact mS
   ·exact mC _ (lJ hl st' hm)
  ·cases h
theorem jR {lo : Nat} {Fs : List (St × List (Lin × Lin))} {os0 : List (Lin × Lin)} : ∀ {outs r : bE}, gY lo Fs os0 outs = some r → ∀ st', (Ex.nor, st') ∈ outs → kE lo os0 st' Fs = true
 | [], r, h, st', hm => by cases hm
 | (.nor, s1) :: outs, r, h, st', hm => by
  simp only [gY] at h
  split at h
  ·rename_i hb
   rcases List.mem_cons.1 hm with hm | hm
   ·cases hm; exact hb
   ·exact jR h st' hm
  ·cases h
 | (.jmp j, s1) :: outs, r, h, st', hm => by
  simp only [gY] at h
  split at h
  ·rename_i l hl
   rcases List.mem_cons.1 hm with hm | hm
   ·cases hm
   ·exact jR hl st' hm
  ·cases h
theorem jS {lo : Nat} {Fs : List (St × List (Lin × Lin))} {os0 : List (Lin × Lin)} {j : Jump} : ∀ {outs r : bE}, gY lo Fs os0 outs = some r → ∀ st', (Ex.jmp j, st') ∈ outs → (Ex.jmp j, upg st') ∈ r
 | [], r, h, st', hm => by cases hm
 | (.nor, s1) :: outs, r, h, st', hm => by
  simp only [gY] at h
  split at h
  ·rcases List.mem_cons.1 hm with hm | hm
   ·cases hm
   ·exact jS h st' hm
  ·cases h
 | (.jmp j', s1) :: outs, r, h, st', hm => by
  simp only [gY] at h
  split at h
  ·rename_i l hl
   simp only [sI] at h; subst h
   rcases List.mem_cons.1 hm with hm | hm
   ·cases hm; exact mS
   ·exact mC _ (jS hl st' hm)
  ·cases h
theorem nq {lo : Nat} {os : List (Lin × Lin)} {st : St} : ∀ {Fs : List (St × List (Lin × Lin))}, kE lo os st Fs = true → ∃ F, F ∈ Fs ∧ gh lo F.1.n st.n (d8 lo F.1.n 0 st st.env F.1) = true ∧ (∃ rest, kf st (d8 lo F.1.n 0 st st.env F.1) st.env F.1 = some rest) ∧ limM st.fa (F.2.map (qCT (d8 lo F.1.n 0 st st.env F.1))) os = true
 | [], h => by cases h
 | (P, ns) :: r, h => by
  simp only [kE, Bool.or_eq_true, aT, Option.isSome_iff_exists] at h
  rcases h with ⟨⟨h1, h2⟩, h3⟩ | h
  ·exact ⟨(P, ns), mS, h1, h2, h3⟩
  ·obtain ⟨F, hF, h'⟩ := nq h
   exact ⟨F, mC _ hF, h'⟩
theorem pO {lo : Nat} {st : St} : ∀ {Fs : List (St × List (Lin × Lin))}, q8 lo st Fs = true → ∃ F, F ∈ Fs ∧ gh lo F.1.n st.n (d8 lo F.1.n 0 st st.env F.1) = true ∧ ∃ rest, kf st (d8 lo F.1.n 0 st st.env F.1) st.env F.1 = some rest
 | [], h => by cases h
 | (P, ns) :: r, h => by
  simp only [q8, Bool.or_eq_true, aT, Option.isSome_iff_exists] at h
  rcases h with ⟨h1, h2⟩ | h
  ·exact ⟨(P, ns), mS, h1, h2⟩
  ·obtain ⟨F, hF, h'⟩ := pO h
   exact ⟨F, mC _ hF, h'⟩
theorem nT {lo : Nat} : ∀ {Fs : List (St × List (Lin × Lin))}, mK lo Fs = true → ∀ F, F ∈ Fs → iP F.1 = true ∧ lo ≤ F.1.n ∧ clM F.1.n F.2 = true
 | [], h, F, hF => by cases hF
 | (P, ns) :: r, h, F, hF => by
  simp only [mK, aT, dT] at h
  rcases List.mem_cons.1 hF with rfl | hF
  ·exact ⟨h.1.1.1, h.1.1.2, h.1.2⟩
  ·exact nT h.2 F hF
theorem nP (s : Sat X v st env h) {lo : Nat} {P : St} {θ : Sub} {as : List AV} {rest : List BE} (so : SubOK lo P.n st.n θ) (hlo : 0 < lo) (hP : 0 < P.n) (hm : kf st θ as P = some rest) (hc : iP P = true) {fs : List Fact} (hfs : ∀ w, Agr lo v w → ∀ f, f ∈ fs → FOK w f) (hl : lo ≤ P.n) :
  Agr lo v (v.comp θ) ∧ Sat X (v.comp θ) { P with fa := P.fa ++ fs } (aG v as) h := by
 have s0 := s.now
 have m := mG s0 hm
 have hz : 0 < θ.lo := by rw [so.elo]; exact hlo
 have s1 := m.sat0 s0 hz (so.i 0 (.inl hlo))
 exact ⟨so.agr v, Sat.ofClosed hc hP s1 (fun w hw f hf => hfs w ((so.agr v).trans hw hl) f hf)⟩
end
end
end Ce.S
namespace Ce.S
noncomputable section
open Go
section
variable {tbl : Nat → Option IF} {X : Cx} {v : V} {st : St} {env : List CV} {h : H}
theorem m7 (w : V) : ∀ (ps : List Nat) (env vs e : List AV), jC env ps vs = some e → ez (aG w env) ps (aG w vs) = some (aG w e)
 | [], env, [], e, h => by simp only [jC, sI] at h; subst h; rfl
 | p :: ps, env, a :: vs, e, h => by
  simp only [jC] at h
  have := m7 w ps (mc env p a) vs e h
  rw [← gw] at this
  simp only [aG, ez]
  exact this
 | [], env, a :: vs, e, h => by simp [jC] at h
 | p :: ps, env, [], e, h => by simp [jC] at h
theorem sG {b t : Nat} {bl : List BE} {s : Nat} {J : List Jump} (hr : fY b t bl = some (s, J)) : ai b bl = some (.loop b t s J) := by
 unfold fY at hr
 split at hr
 ·rename_i b' t' s' J' hl
  split at hr
  ·rename_i ht; subst ht
   simp only [sI, pI] at hr
   obtain ⟨rfl, rfl⟩ := hr
   have := (lookB_mem hl).2
   simp only [cD] at this; subst this
   exact hl
  ·cases hr
 ·cases hr
theorem j3 (s : Sat X v st env h) {l t ls : Nat} {J : List Jump} (hr : fY l t st.bl = some (ls, J)) (hl : l < st.n) (hls : ls < st.n) : ∃ pend, h.get (v.b l) = some (.loop (lst? t) pend (v.l ls).env (v.l ls).ps (v.l ls).a (v.l ls).b) ∧ (t = 0 → pend = none) ∧ (t = 1 → pend ≠ none) ∧ (∀ j, pend = some j → j ∈ J) ∧
  ∀ (t' : Nat) (pend' : Option Jump), (t' = 0 → pend' = none) → (t' = 1 → pend' ≠ none) → (∀ j, pend' = some j → j ∈ J) → Sat X v (tU l t' ls J st) env (h.put (v.b l) (.loop (lst? t') pend' (v.l ls).env (v.l ls).ps (v.l ls).a (v.l ls).b)) := by
 have hb := sG hr
 obtain ⟨pend, hg, p1, p2, p3⟩ := (s.now.blk hb).1
 refine ⟨pend, hg, p1, p2, p3, fun t' pend' q1 q2 q3 => ⟨s.pos, fun u hu => ?_⟩⟩
 have su := s.all u hu
 have e1 := (hu l hl).2.2.1
 have e2 := (hu ls hls).2.2.2
 have := su.put hb (q := .loop l t' ls J) (blk := .loop (lst? t') pend' (v.l ls).env (v.l ls).ps (v.l ls).a (v.l ls).b) rfl rfl ⟨pend', by rw [get_put, if_pos rfl, e2], q1, q2, q3⟩
 rw [← e1] at this
 exact this
theorem qAR (s : Sat X v st env h) {l t ls : Nat} {J : List Jump} (hr : fY l t st.bl = some (ls, J)) (hl : l < st.n) (blk : Blk) : Sat X v (pP l st) env (h.put (v.b l) blk) := by
 have hb := sG hr
 refine ⟨s.pos, fun u hu => ?_⟩
 have su := s.all u hu
 have e1 := (hu l hl).2.2.1
 obtain ⟨_, l1, l2, hbl, hm⟩ := cP hb
 have := su.upd (l1 := l1) (P := [.loop l t ls J]) (P' := []) (l2 := l2) (h' := h.put (v.b l) blk) hbl (Nat.le_refl _) (fun j _ hj => by
  rw [get_put, if_neg]
  rintro rfl
  exact hj (by simp [adr, e1])) (fun q hq => by cases hq) (by simp) (fun a ha => by simp at ha)
 rw [← hm] at this
 exact this
theorem jG {lb ls : Nat} {J : List Jump} {lo : Nat} {posts : List (AV × St)} : ∀ {outs : bE}, i4 lb ls J lo posts outs = true → ∀ ex s, (ex, s) ∈ outs → fY lb 2 s.bl = some (ls, J) ∧ (match ex with
  | .nor => eQ lo (tU lb 0 ls J s) (.bool true) posts = true
  | .jmp j => j ∈ J ∧ eQ lo (tU lb 1 ls J s) (.bool false) posts = true)
 | [], _, ex, s, hm => by cases hm
 | (.nor, s1) :: r, h, ex, s, hm => by
  simp only [i4, aT, beq_iff_eq] at h
  rcases List.mem_cons.1 hm with hm | hm
  ·cases hm; exact ⟨h.1.1, h.1.2⟩
  ·exact jG h.2 ex s hm
 | (.jmp j, s1) :: r, h, ex, s, hm => by
  simp only [i4, aT, beq_iff_eq, List.contains_iff_mem] at h
  rcases List.mem_cons.1 hm with hm | hm
  ·cases hm; exact ⟨h.1.1.1, h.1.1.2, h.1.2⟩
  ·exact jG h.2 ex s hm
theorem jF {lb ls : Nat} {J : List Jump} {env : List AV} : ∀ {outs : List (AV × St)} {r : bE}, mB lb ls J env outs = some r → ∀ o, o ∈ outs → (fY lb 0 o.2.bl = some (ls, J) ∧ (Ex.nor, { pP lb o.2 with env := env }) ∈ r) ∨ (fY lb 1 o.2.bl = some (ls, J) ∧ ∀ j, j ∈ J → (Ex.jmp j, { pP lb o.2 with env := env }) ∈ r)
 | [], r, h, o, ho => by cases ho
 | (a, s) :: outs, r, h, o, ho => by
  simp only [mB] at h
  split at h
  ·cases h
  ·rename_i l hl
   split at h
   ·rename_i h0
    simp only [sI] at h; subst h
    rcases List.mem_cons.1 ho with rfl | ho
    ·exact .inl ⟨by simpa using h0, mS⟩
    ·rcases jF hl o ho with ⟨h1, h2⟩ | ⟨h1, h2⟩
     ·exact .inl ⟨h1, mC _ h2⟩
     ·exact .inr ⟨h1, fun j hj => mC _ (h2 j hj)⟩
   ·split at h
    ·rename_i h1
     simp only [sI] at h; subst h
     rcases List.mem_cons.1 ho with rfl | ho
     ·exact .inr ⟨by simpa using h1, fun j hj => List.mem_append_left _ (List.mem_map.2 ⟨j, hj, rfl⟩)⟩
     ·rcases jF hl o ho with ⟨h1, h2⟩ | ⟨h1, h2⟩
      ·exact .inl ⟨h1, List.mem_append_right _ h2⟩
      ·exact .inr ⟨h1, fun j hj => List.mem_append_right _ (h2 j hj)⟩
    ·cases h
theorem wO {c : IC} {Γ : List Con} {body : St → Hs → Option (bE × Hs)} (hb : ∀ (st : St) (hs hs' : Hs) (outs : bE), body st hs = some (outs, hs') → ∀ (v : V) (env : List CV) (h : H), Sat X v st env h → GOK tbl v st.n Γ → Wc tbl c env h (CQ X v st outs)) :
  ∀ (n : Nat) (st : St) (hs hs' : Hs) (outs : bE), lu body n st hs = some (outs, hs') → ∀ (v : V) (env : List CV) (h : H), Sat X v st env h → GOK tbl v st.n Γ → Wc tbl (.loop c) env h (CQ X v st outs) := by
 intro n
 induction n with
 | zero => intro st hs hs' outs ho; cases ho
 | succ n ih =>
  intro st hs hs' outs ho v env h s g
  simp only [lu] at ho
  split at ho
  ·rename_i outs1 hs1 h1
   refine tF ((hb st hs hs1 outs1 h1 v env h s g).mono ?_)
   rintro ex e h' ⟨st', hm, w, hw, hn, sat⟩
   obtain ⟨k1, k2, r, hr, hsub⟩ := cO ho (ex, st') hm
   cases ex with
   | nor =>
    have := ih st' k1 k2 r hr w e h' sat (g.mono hw hn)
    exact this.mono (fun x e h'' q => q.up hw hn hsub)
   | jmp j =>
    simp only [sI, pI] at hr
    obtain ⟨rfl, _⟩ := hr
    exact ⟨st', hsub _ mS, w, hw, hn, sat⟩
  ·cases ho
theorem eX {w : V} {st' : St} {e env' : List CV} (s : Sat X w st' e h) {as : List AV} (he : ∀ u, Agr st'.n w u → env' = aG u as) : Sat X w { st' with env := as } env' h :=
 ⟨s.pos, fun u hu => let a := s.all u hu; ⟨a.z, he u hu, a.fa, a.bl, a.nd, a.lt, a.hn, a.fr⟩⟩
theorem rm {c : IC} {Γ : List Con} {body : St → Hs → Option (bE × Hs)} (hb : ∀ (st : St) (hs hs' : Hs) (outs : bE), body st hs = some (outs, hs') → ∀ (v : V) (env : List CV) (h : H), Sat X v st env h → GOK tbl v st.n Γ → Wc tbl c env h (CQ X v st outs)) :
  ∀ (n : Nat) (st : St) (hs hs' : Hs) (outs : bE), vQ body n st hs = some (outs, hs') → ∀ (v : V) (env : List CV) (h : H), Sat X v st env h → GOK tbl v st.n Γ → Wc tbl (.loop c) env h (CQ X v st outs) := by
 intro n st hs hs' outs ho v env h s g
 unfold vQ at ho
 dsimp (config := { zeta := true }) only at ho
 split at ho
 ·exact wO hb n st _ hs' outs ho v env h s g
 ·rename_i P ma mb hs1
  split at ho
  ·rename_i hc
   simp only [aT, dT, Option.isSome_iff_exists] at hc
   obtain ⟨⟨⟨⟨⟨c1, c2⟩, c3⟩, rest, c4⟩, c5⟩, c6⟩ := hc
   split at ho
   ·rename_i outs1 hs2 hbody
    split at ho
    ·rename_i r hbk
     simp only [sI, pI] at ho
     obtain ⟨rfl, _⟩ := ho
     have hPn : 0 < P.n := Nat.lt_of_lt_of_le s.pos c3
     have so := ew c1
     have hfs : ∀ (w : V), Agr st.n v w → ∀ f, f ∈ st.fa → FOK w f := fun w hw f hf => (s.all w hw).fa f hf
     obtain ⟨ag0, s1⟩ := nP s so s.pos hPn c4 c2 hfs c3
     rw [← s.now.env] at s1
     refine gd (I := fun m e h' => ∃ W, Agr st.n v W ∧ Sat X W { P with fa := P.fa ++ st.fa } e h' ∧ (ma.ev W - mb.ev W).toNat = m) _ ⟨_, ag0, s1, rfl⟩ ?_
     rintro m e h' ⟨W, hW, sW, rfl⟩
     have gW : GOK tbl W P.n Γ := g.mono hW c3
     refine (hb { P with fa := P.fa ++ st.fa } hs1 hs2 outs1 hbody W e h' sW gW).mono ?_
     rintro ex e2 h2 ⟨st2, hm2, w2, hw2, hn2, sat2⟩
     cases ex with
     | jmp j =>
      exact ⟨upg st2, lJ hbk st2 hm2, w2, hW.trans hw2 c3, Nat.le_trans c3 hn2, xm sat2⟩
     | nor =>
      have hbk2 := lI hbk st2 hm2
      unfold uN at hbk2
      dsimp only at hbk2
      generalize hθ : d8 st.n P.n 0 st2 st2.env P = θ at hbk2
      simp only [aT, Option.isSome_iff_exists] at hbk2
      obtain ⟨⟨b1, rest2, b2⟩, b3⟩ := hbk2
      have so2 := ew b1
      have hfs2 : ∀ (w : V), Agr st.n w2 w → ∀ f, f ∈ st.fa → FOK w f := fun w hw f hf => (s.all w ((hW.trans hw2 c3).trans hw (Nat.le_refl _))).fa f hf
      obtain ⟨ag2, s2⟩ := nP sat2 so2 s.pos hPn b2 c2 hfs2 c3
      rw [← sat2.now.env] at s2
      have hl := ow sat2.now.fa b3 ma mb rfl
      rw [bA, bA] at hl
      have e1 : ma.ev w2 = ma.ev W := (Lin.agr hw2 c5).symm
      have e3 : mb.ev w2 = mb.ev W := (Lin.agr hw2 c6).symm
      exact ⟨_, by omega, w2.comp θ, (hW.trans hw2 c3).trans ag2 (Nat.le_refl _), s2, rfl⟩
    ·cases ho
   ·cases ho
  ·cases ho
 ·rename_i Fs hs1
  split at ho
  ·rename_i hc
   simp only [aT] at hc
   have hfo := nT hc.1
   obtain ⟨F0, hF0, c1, rest, c4⟩ := pO hc.2
   have hfs : ∀ (w : V), Agr st.n v w → ∀ f, f ∈ st.fa → FOK w f := fun w hw f hf => (s.all w hw).fa f hf
   have hpos : ∀ F, F ∈ Fs → 0 < F.1.n := fun F hF => Nat.lt_of_lt_of_le s.pos (hfo F hF).2.1
   have so := ew c1
   obtain ⟨ag0, s1⟩ := nP s so s.pos (hpos F0 hF0) c4 (hfo F0 hF0).1 hfs (hfo F0 hF0).2.1
   rw [← s.now.env] at s1
   refine gd (I := fun m e h' => ∃ F, F ∈ Fs ∧ ∃ W, Agr st.n v W ∧ Sat X W { F.1 with fa := F.1.fa ++ st.fa } e h' ∧ jj W F.2 = m) _ ⟨F0, hF0, _, ag0, s1, rfl⟩ ?_
   rintro m e h' ⟨F, hF, W, hW, sW, rfl⟩
   obtain ⟨f1, f2, f3⟩ := hfo F hF
   have gW : GOK tbl W F.1.n Γ := g.mono hW f2
   obtain ⟨k1, k2, r, hr, hsub⟩ := cO ho F hF
   split at hr
   ·rename_i outs1 hs2 hbody
    split at hr
    ·rename_i r' hbk
     simp only [sI, pI] at hr
     obtain ⟨rfl, _⟩ := hr
     refine (hb { F.1 with fa := F.1.fa ++ st.fa } k1 hs2 outs1 hbody W e h' sW gW).mono ?_
     rintro ex e2 h2 ⟨st2, hm2, w2, hw2, hn2, sat2⟩
     have hw2' : Agr F.1.n W w2 := hw2
     have hn2' : F.1.n ≤ st2.n := hn2
     cases ex with
     | jmp j =>
      exact ⟨upg st2, hsub _ (jS hbk st2 hm2), w2, hW.trans hw2' f2, Nat.le_trans f2 hn2', xm sat2⟩
     | nor =>
      obtain ⟨G, hG, b1, ⟨rest2, b2⟩, b3⟩ := nq (jR hbk st2 hm2)
      generalize hθ : d8 st.n G.1.n 0 st2 st2.env G.1 = θ at b1 b2 b3
      obtain ⟨g1, g2, g3⟩ := hfo G hG
      have so2 := ew b1
      have hfs2 : ∀ (w : V), Agr st.n w2 w → ∀ f, f ∈ st.fa → FOK w f := fun w hw f hf => (s.all w ((hW.trans hw2' f2).trans hw (Nat.le_refl _))).fa f hf
      obtain ⟨ag2, s2⟩ := nP sat2 so2 s.pos (hpos G hG) b2 g1 hfs2 g2
      rw [← sat2.now.env] at s2
      simp only [limM, aT] at b3
      have hl := vT sat2.now.fa b3.1 b3.2
      rw [rc, ← rf hw2' f3] at hl
      exact ⟨_, hl, G, hG, w2.comp θ, (hW.trans hw2' f2).trans ag2 (Nat.le_refl _), s2, rfl⟩
    ·cases hr
   ·cases hr
  ·cases ho
 ·cases ho
theorem pz {w : V} {fa : List Fact} (hf : ∀ f, f ∈ fa → FOK w f) : ∀ {xs ys : List Lin} {k : Int}, wZ fa xs ys = some k → dY w ys + k ≤ dY w xs
 | [], [], k, h => by
  simp only [wZ, sI] at h; subst h; exact Int.le_refl _
 | [], _ :: _, k, h => by cases h
 | _ :: _, [], k, h => by cases h
 | x :: xs, y :: ys, k, h => by
  simp only [wZ] at h
  split at h
  ·rename_i k0 hk
   have h0 := pz hf hk
   split at h
   ·rename_i hl
    simp only [sI] at h; subst h
    have := aF hf hl
    simp only [dY]; omega
   ·split at h
    ·rename_i hl
     simp only [sI] at h; subst h
     have := aF hf hl
     simp only [dY]; omega
    ·cases h
  ·cases h
theorem oa {w : V} {fa : List Fact} (hf : ∀ f, f ∈ fa → FOK w f) {t : Nat} {U D : List Lin} (ht : w.i t = dY w U - dY w D) : ∀ {l : List Fact}, (∀ f, f ∈ l → FOK w f) → ∀ f, f ∈ pq fa t U D l → FOK w f
 | [], _, f, h => by cases h
 | g :: l, hl, f, h => by
  simp only [pq, List.mem_append] at h
  rcases h with h | h
  ·have h0 := hl g mS
   cases g <;> simp only [qFW] at h <;> (try (cases h; done))
   rename_i t0 U0 D0
   split at h
   ·rename_i a b ha hb
    simp only [List.mem_singleton] at h; subst h
    have h1 := pz hf ha
    have h2 := pz hf hb
    simp only [FOK] at h0 ⊢
    omega
   ·cases h
  ·exact oa hf ht (fun f hm => hl f (mC _ hm)) f h
theorem qT {w : V} (z : w.i 0 = 0) {fa : List Fact} (hf : ∀ f, f ∈ fa → FOK w f) : ∀ {ls : List Lin}, zt fa ls = true → dY w ls ≤ ls.length * 9223372036854775808 ∧ -(ls.length * 9223372036854775808) ≤ dY w ls
 | [], _ => by simp [dY]
 | l :: ls, h => by
  simp only [zt, inI, aT] at h
  have h1 := aF hf h.1.1
  have h2 := aF hf h.1.2
  have h3 := qT z hf h.2
  simp only [Lin.ev, z] at h1 h2
  simp only [dY, Lin.ev, List.length_cons]
  omega
theorem tB (s : Sat X v st env h) (b : Nat) (us ds : List Nat) : ∃ w, Agr st.n v w ∧ st.n ≤ (tC b us ds st).n ∧ Sat X w (tC b us ds st) env h := by
 have triv : ∃ w, Agr st.n v w ∧ st.n ≤ st.n ∧ Sat X w st env h := ⟨v, Agr.refl _ _, Nat.le_refl _, s⟩
 unfold tC
 split
 ·split
  ·rename_i U D hU hD
   split
   ·rename_i hc
    simp only [aT] at hc
    obtain ⟨⟨⟨c1, c2⟩, c3⟩, c4⟩ := hc
    refine ⟨upI v st.n (dY v U - dY v D), bV _ _ _ _ _ _, Nat.le_succ _, ?_⟩
    refine s.ext (w := upI v st.n (dY v U - dY v D)) (n' := st.n + 1) (Nat.le_succ _) (bV _ _ _ _ _ _) (fun u hu f hm => ?_)
    obtain ⟨ha, hi, _⟩ := az hu
    have su := s.all u ha
    have e1 := ng ha c3
    have e2 := ng ha c4
    have ht : u.i st.n = dY u U - dY u D := by rw [hi, e1, e2]
    have b1 := qT su.z su.fa c1
    have b2 := qT su.z su.fa c2
    simp only [List.mem_cons] at hm
    rcases hm with rfl | rfl | hm
    ·exact ht
    ·simp only [FOK, su.z, ht]
     omega
    ·exact oa su.fa ht su.fa f hm
   ·exact triv
  ·exact triv
 ·exact triv
theorem rk {c : IC} {Γ : List Con} {body : St → Hs → Option (bE × Hs)} (hb : ∀ (st : St) (hs hs' : Hs) (outs : bE), body st hs = some (outs, hs') → ∀ (v : V) (env : List CV) (h : H), Sat X v st env h → GOK tbl v st.n Γ → Wc tbl c env h (CQ X v st outs)) :
  ∀ (n : Nat) (st : St) (hs hs' : Hs) (outs : bE), vP body n st hs = some (outs, hs') → ∀ (v : V) (env : List CV) (h : H), Sat X v st env h → GOK tbl v st.n Γ → Wc tbl (.loop c) env h (CQ X v st outs) := by
 intro n st hs hs' outs ho v env h s g
 unfold vP at ho
 split at ho
 ·rename_i b us ds hs1
  obtain ⟨w, hw, hn, sw⟩ := tB s b us ds
  refine (rm (Γ := Γ) (fun st1 k1 k2 o1 h1 v1 e1 m1 s1 g1 => ?_) n _ hs1 hs' outs ho w env h sw (g.mono hw hn)).mono (fun ex e h' q => q.up hw hn (fun x hx => hx))
  split at h1
  ·rename_i o2 k3 h2
   simp only [sI, pI] at h1
   obtain ⟨rfl, _⟩ := h1
   refine (hb st1 k1 k3 o2 h2 v1 e1 m1 s1 g1).mono ?_
   rintro ex e2 h3 ⟨st2, hm2, w2, hw2, hn2, sat2⟩
   cases ex with
   | jmp j => exact ⟨st2, List.mem_map.2 ⟨_, hm2, rfl⟩, w2, hw2, hn2, sat2⟩
   | nor =>
    obtain ⟨w3, hw3, hn3, sat3⟩ := tB sat2 b us ds
    exact ⟨_, List.mem_map.2 ⟨_, hm2, rfl⟩, w3, hw2.trans hw3 hn2, Nat.le_trans hn2 hn3, sat3⟩
  ·cases h1
 ·exact rm hb n st hs hs' outs ho v env h s g
theorem za {c : IC} {Γ : List Con} {body : St → Hs → Option (bE × Hs)} (hb : ∀ (st : St) (hs hs' : Hs) (outs : bE), body st hs = some (outs, hs') → ∀ (v : V) (env : List CV) (h : H), Sat X v st env h → GOK tbl v st.n Γ → Wc tbl c env h (CQ X v st outs)) :
  ∀ (n : Nat) (st : St) (hs hs' : Hs) (outs : bE), zb body n st hs = some (outs, hs') → ∀ (v : V) (env : List CV) (h : H), Sat X v st env h → GOK tbl v st.n Γ → Wc tbl (.loop c) env h (CQ X v st outs) := by
 intro n st hs hs' outs ho v env h s g
 unfold zb at ho
 split at ho
 ·rename_i hs0
  split at ho
  ·rename_i outs1 hs1 h1
   refine tF ((hb st hs0 hs1 outs1 h1 v env h s g).mono ?_)
   rintro ex e h' ⟨st', hm, w, hw, hn, sat⟩
   obtain ⟨k1, k2, r, hr, hsub⟩ := cO ho (ex, st') hm
   cases ex with
   | nor =>
    have := rk hb n st' k1 k2 r hr w e h' sat (g.mono hw hn)
    exact this.mono (fun x e h'' q => q.up hw hn hsub)
   | jmp j =>
    simp only [sI, pI] at hr
    obtain ⟨rfl, _⟩ := hr
    exact ⟨st', hsub _ mS, w, hw, hn, sat⟩
  ·cases ho
 ·exact rk hb n st hs hs' outs ho v env h s g
theorem na {lo : Nat} {P : St} : ∀ {outs r : bE}, qa lo P outs = some r → ∀ st', (Ex.nor, st') ∈ outs → gh lo P.n st'.n (d8 lo P.n 0 st' st'.env P) = true ∧ ∃ rest, kf st' (d8 lo P.n 0 st' st'.env P) st'.env P = some rest
 | [], r, h, st', hm => by cases hm
 | (.nor, s1) :: outs, r, h, st', hm => by
  simp only [qa] at h
  split at h
  ·rename_i hc
   simp only [aT, Option.isSome_iff_exists] at hc
   rcases List.mem_cons.1 hm with hm | hm
   ·cases hm; exact hc
   ·exact na h st' hm
  ·cases h
 | (.jmp j, s1) :: outs, r, h, st', hm => by
  simp only [qa] at h
  split at h
  ·rename_i l hl
   rcases List.mem_cons.1 hm with hm | hm
   ·cases hm
   ·exact na hl st' hm
  ·cases h
theorem nb {lo : Nat} {P : St} {j : Jump} : ∀ {outs r : bE}, qa lo P outs = some r → ∀ st', (Ex.jmp j, st') ∈ outs → (Ex.jmp j, st') ∈ r
 | [], r, h, st', hm => by cases hm
 | (.nor, s1) :: outs, r, h, st', hm => by
  simp only [qa] at h
  split at h
  ·rcases List.mem_cons.1 hm with hm | hm
   ·cases hm
   ·exact nb h st' hm
  ·cases h
 | (.jmp j', s1) :: outs, r, h, st', hm => by
  simp only [qa] at h
  split at h
  ·rename_i l hl
   simp only [sI] at h; subst h
   rcases List.mem_cons.1 hm with hm | hm
   ·cases hm; exact mS
   ·exact mC _ (nb hl st' hm)
  ·cases h
theorem qF5 {c : IC} {Γ : List Con} {body : St → Hs → Option (bE × Hs)} (hb : ∀ (st : St) (hs hs' : Hs) (outs : bE), body st hs = some (outs, hs') → ∀ (v : V) (env : List CV) (h : H), Sat X v st env h → GOK tbl v st.n Γ → Wc tbl c env h (CQ X v st outs))
  (s : Sat X v st env h) (g : GOK tbl v st.n Γ) {outs1 outs : bE} {hs hs' : Hs} (ho : cutS body st outs1 hs = some (outs, hs')) {ex : Ex} {e : List CV} {h' : H} {st' : St} {w : V} (hm : (ex, st') ∈ outs1) (hw : Agr st.n v w) (hn : st.n ≤ st'.n) (sat : Sat X w st' e h') :
  bH (CQ X v st outs) (fun e h => Wc tbl c e h (CQ X v st outs)) ex e h' := by
 unfold cutS at ho
 split at ho
 ·rename_i P hs1
  split at ho
  ·rename_i hc
   simp only [aT, dT] at hc
   split at ho
   ·rename_i js hjs
    split at ho
    ·rename_i o2 hs2 hbody
     simp only [sI, pI] at ho
     obtain ⟨rfl, _⟩ := ho
     cases ex with
     | jmp j => exact ⟨st', List.mem_append_left _ (nb hjs st' hm), w, hw, hn, sat⟩
     | nor =>
      obtain ⟨b1, rest, b2⟩ := na hjs st' hm
      have so := ew b1
      have hPn : 0 < P.n := Nat.lt_of_lt_of_le s.pos hc.2
      have hfs : ∀ (u : V), Agr st.n w u → ∀ f, f ∈ st.fa → FOK u f := fun u hu f hf => (s.all u (hw.trans hu (Nat.le_refl _))).fa f hf
      obtain ⟨ag, s2⟩ := nP sat so s.pos hPn b2 hc.1 hfs hc.2
      rw [← sat.now.env] at s2
      have hv : Agr st.n v (w.comp (d8 st.n P.n 0 st' st'.env P)) := hw.trans ag (Nat.le_refl _)
      exact (hb { P with fa := P.fa ++ st.fa } hs1 hs2 o2 hbody _ e h' s2 (g.mono hv hc.2)).mono (fun x e h'' q => q.up hv hc.2 (fun y hy => List.mem_append_right _ hy))
    ·cases ho
   ·cases ho
  ·cases ho
 ·obtain ⟨k1, k2, r, hr, hsub⟩ := cO ho (ex, st') hm
  cases ex with
  | nor =>
   have := hb st' k1 k2 r hr w e h' sat (g.mono hw hn)
   exact this.mono (fun x e h'' q => q.up hw hn hsub)
  | jmp j =>
   simp only [sI, pI] at hr
   obtain ⟨rfl, _⟩ := hr
   exact ⟨st', hsub _ mS, w, hw, hn, sat⟩
theorem qG2 {callG : List Con → jA} (hcall : ∀ Γ, CallOK tbl Γ (callG Γ)) (n : Nat) : ∀ (c : IC) (X : Cx) (Γ : List Con) (st : St) (hs hs' : Hs) (outs : bE), sC callG n c Γ st hs = some (outs, hs') → ∀ (v : V) (env : List CV) (h : H), Sat X v st env h → GOK tbl v st.n Γ → Wc tbl c env h (CQ X v st outs) := by
 intro c
 induction c with
 | skip =>
  intro X Γ st hs hs' outs ho v env h s g
  simp only [sC, sI, pI] at ho
  obtain ⟨rfl, _⟩ := ho
  exact dq ⟨st, mS, v, Agr.refl _ _, Nat.le_refl _, s⟩
 | exit id =>
  intro X Γ st hs hs' outs ho v env h s g
  simp only [sC, sI, pI] at ho
  obtain ⟨rfl, _⟩ := ho
  exact iq ⟨st, mS, v, Agr.refl _ _, Nat.le_refl _, s⟩
 | ret =>
  intro X Γ st hs hs' outs ho v env h s g
  simp only [sC, sI, pI] at ho
  obtain ⟨rfl, _⟩ := ho
  exact oE ⟨st, mS, v, Agr.refl _ _, Nat.le_refl _, s⟩
 | ops l =>
  intro X Γ st hs hs' outs ho v env h s g
  simp only [sC] at ho
  split at ho
  ·rename_i outs1 hs1 h1
   simp only [sI, pI] at ho
   obtain ⟨rfl, _⟩ := ho
   obtain ⟨k, e, h', hr, st', hm, w, hw, hn, sat⟩ := qD5 (hcall Γ) l st hs hs1 outs1 h1 v env h s g
   exact ak ⟨k, e, h', hr, st', List.mem_map.2 ⟨st', hm, rfl⟩, w, hw, hn, sat⟩
  ·cases ho
 | seq a b iha ihb =>
  intro X Γ st hs hs' outs ho v env h s g
  simp only [sC] at ho
  split at ho
  ·rename_i outs1 hs1 h1
   refine a6 ((iha X Γ st hs hs1 outs1 h1 v env h s g).mono ?_)
   rintro ex e h' ⟨st', hm, w, hw, hn, sat⟩
   exact qF5 (fun st hs hs' outs ho v env h s g => ihb X Γ st hs hs' outs ho v env h s g) s g ho hm hw hn sat
  ·cases ho
 | cond x a b iha ihb =>
  intro X Γ st hs hs' outs ho v env h s g
  simp only [sC] at ho
  split at ho
  ·rename_i t
   split at ho
   ·rename_i T F hc
    split at ho
    ·rename_i r1 hs1 hm1
     split at ho
     ·rename_i r2 hs2 hm2
      simp only [sI, pI] at ho
      obtain ⟨rfl, _⟩ := ho
      obtain ⟨bb, hbb, st', hst', s', hn'⟩ := sd s hc
      have g' : GOK tbl v st'.n Γ := by rw [hn']; exact g
      refine dP bb hbb (fun hb => ?_) (fun hb => ?_)
      ·subst hb
       obtain ⟨k1, k2, r, hr, hsub⟩ := cO hm1 st' (by simpa using hst')
       exact (iha X Γ st' k1 k2 r hr v env h s' g').mono (fun x e h'' q => q.up (Agr.refl _ _) (by omega) (fun y hy => List.mem_append_left _ (hsub y hy)))
      ·subst hb
       obtain ⟨k1, k2, r, hr, hsub⟩ := cO hm2 st' (by simpa using hst')
       exact (ihb X Γ st' k1 k2 r hr v env h s' g').mono (fun x e h'' q => q.up (Agr.refl _ _) (by omega) (fun y hy => List.mem_append_right _ (hsub y hy)))
     ·cases ho
    ·cases ho
   ·cases ho
  ·exact dP true rfl (fun _ => iha X Γ st hs hs' outs ho v env h s g) (fun hb => by cases hb)
  ·exact dP false rfl (fun hb => by cases hb) (fun _ => ihb X Γ st hs hs' outs ho v env h s g)
  ·cases ho
 | block id c ih =>
  intro X Γ st hs hs' outs ho v env h s g
  simp only [sC] at ho
  split at ho
  ·rename_i outs1 hs1 h1
   simp only [sI, pI] at ho
   obtain ⟨rfl, _⟩ := ho
   refine dE ((ih X Γ st hs hs1 outs1 h1 v env h s g).mono ?_)
   rintro ex e h' ⟨st', hm, w, hw, hn, sat⟩
   have hmap := List.mem_map_of_mem (f := fun x : Ex × St => match x with
    | (.jmp (.exit i), st) => if i = id then (Ex.nor, st) else (.jmp (.exit i), st)
    | x => x) hm
   match ex, hmap with
   | .nor, hmap => exact ⟨st', hmap, w, hw, hn, sat⟩
   | .jmp .ret, hmap => exact ⟨st', hmap, w, hw, hn, sat⟩
   | .jmp (.exit i), hmap =>
    simp only [fh]
    dsimp only at hmap
    by_cases hi : i = id
    ·rw [if_pos hi] at hmap ⊢; exact ⟨st', hmap, w, hw, hn, sat⟩
    ·rw [if_neg hi] at hmap ⊢; exact ⟨st', hmap, w, hw, hn, sat⟩
  ·cases ho
 | loop c ih =>
  intro X Γ st hs hs' outs ho v env h s g
  simp only [sC] at ho
  exact za (fun st hs hs' outs hb v env h s g => ih X Γ st hs hs' outs hb v env h s g) n st hs hs' outs ho v env h s g
 | rangeF f ps a b iha ihb =>
  intro X Γ st hs hs' outs ho v env h s g
  simp only [sC] at ho
  split at ho <;> (try (cases ho; done))
  rename_i fn x y J P posts hs1 hf
  split at ho
  ·rename_i hc
   simp only [aT, dT, beq_iff_eq] at hc
   obtain ⟨⟨c1, c2⟩, c3⟩ := hc
   split at ho
   ·rename_i e he
    split at ho
    ·rename_i outsA hsA hA
     split at ho
     ·rename_i outsB hsB hB
      split at ho
      ·rename_i hends
       split at ho
       ·rename_i outs1 hs2 hF
        split at ho
        ·rename_i r hr
         simp only [sI, pI] at ho
         obtain ⟨rfl, _⟩ := ho
         have s0 := s.now
         let v1 : V := v.up st.n (v.i st.n) (v.c st.n) h.n ⟨env, ps, a, b⟩
         have hv1 : Agr st.n v v1 := bV _ _ _ _ _ _
         have at1 : ∀ u, Agr (st.n + 1) v1 u → Agr st.n v u ∧ u.b st.n = h.n ∧ u.l st.n = ⟨env, ps, a, b⟩ := fun u hu => by
          obtain ⟨x1, _, _, x4, x5⟩ := az hu
          exact ⟨x1, x4, x5⟩
         have s1 : Sat X v1 { st with n := st.n + 1, bl := .loop st.n 0 st.n J :: st.bl } env (h.push (.loop .ready none env ps a b)) := by
          refine ⟨Nat.succ_pos _, fun u hu => ?_⟩
          obtain ⟨x1, x2, x3⟩ := at1 u hu
          have := ((s.all u x1).wk' (st.n + 1)).push (q := .loop st.n 0 st.n J) (blk := .loop .ready none env ps a b) (by simp only [adr, x2]) ⟨none, by rw [x2, x3, dL, if_pos rfl]; rfl, fun _ => rfl, (fun h => by cases h), (fun j h => by cases h)⟩
          exact this
         have hY : GOK1 tbl v1 (st.n + 1) (wM st.n P posts) := by
          refine ⟨Nat.succ_pos _, Nat.le_refl _, fun _ => Nat.lt_succ_self _, c1, (fun a b h => by cases h), ?_⟩
          intro W args h1 hW sP _
          obtain ⟨x1, x2, x3⟩ := at1 W hW
          have hPn : 0 < P.n := by omega
          have sC1 : Sat (FrX W P h1) W { P with fa := P.fa ++ st.fa } args h1 := Sat.ofClosed c1 hPn sP (fun w hw f hf => (s.all w (x1.trans hw (by omega))).fa f hf)
          have envs : ∀ u, Agr P.n W u → ez env ps args = some (aG u e) := fun u hu => by
           have e1 := m7 u ps st.env P.env e he
           rw [← (s.all u (x1.trans hu (by omega))).env, ← (sC1.all u hu).env] at e1
           exact e1
          have eW := envs W (Agr.refl _ _)
          have sE : Sat (FrX W P h1) W { P with env := e, fa := P.fa ++ st.fa } (aG W e) h1 := eX sC1 (fun u hu => by have := envs u hu; rw [eW, sI] at this; exact this)
          have hlP : st.n < P.n := by omega
          obtain ⟨pend, hg, p1, _, _, _⟩ := j3 (ls := st.n) sE c3 hlP hlP
          rw [x2, x3] at hg
          have htg : tgt v1 (wM st.n P posts) = .yl h.n := by
           have := (at1 v1 (Agr.refl _ _)).2.1
           simp only [tgt, wM, if_true, this]
          rw [htg]
          refine Wf_yl hg eW ?_
          have gW : GOK tbl W P.n Γ := g.mono x1 (by omega)
          refine (iha (FrX W P h1) Γ { P with env := e, fa := P.fa ++ st.fa } hs1 hsA outsA hA W (aG W e) h1 sE gW).mono ?_
          rintro ex e1 h2 ⟨st2, hm2, w2, hw2, hn2, sat2⟩
          obtain ⟨k1, k2, rr, hrr, hsub⟩ := cO hB (ex, st2) hm2
          cases ex with
          | jmp j => cases hrr
          | nor =>
           dsimp only at hrr hn2
           split at hrr
           ·rename_i hrdy
            simp only [beq_iff_eq] at hrdy
            have hl2 : st.n < st2.n := by omega
            obtain ⟨pend2, hg2, q1, _, _, put2⟩ := j3 (ls := st.n) sat2 hrdy hl2 hl2
            have b2 : w2.b st.n = h.n := by rw [← (hw2 st.n hlP).2.2.1, x2]
            have l2 : w2.l st.n = ⟨env, ps, a, b⟩ := by rw [← (hw2 st.n hlP).2.2.2, x3]
            have hp2 : pend2 = none := q1 rfl
            subst hp2
            have sB := put2 2 none (fun h => by cases h) (fun h => by cases h) (fun j h => by cases h)
            rw [b2, l2] at hg2 sB
            refine ⟨rfl, none, env, ps, a, b, hg2, ?_⟩
            have g2 : GOK tbl w2 st2.n Γ := gW.mono hw2 hn2
            refine (ihb (FrX W P h1) Γ (tU st.n 2 st.n J st2) k1 k2 rr hrr w2 e1 _ sB g2).mono ?_
            rintro ex3 e3 h3 ⟨st3, hm3, w3, hw3, hn3, sat3⟩
            obtain ⟨rd3, fit3⟩ := jG hends ex3 st3 (hsub _ hm3)
            have hn3' : st2.n ≤ st3.n := hn3
            have hw3' : Agr st2.n w2 w3 := hw3
            have hl3 : st.n < st3.n := by omega
            obtain ⟨pend3, hg3, _, _, _, put3⟩ := j3 (ls := st.n) sat3 rd3 hl3 hl3
            have b3 : w3.b st.n = h.n := by rw [← (hw3' st.n hl2).2.2.1, b2]
            have l3 : w3.l st.n = ⟨env, ps, a, b⟩ := by rw [← (hw3' st.n hl2).2.2.2, l2]
            rw [b3, l3] at hg3
            refine ⟨_, _, _, _, _, _, hg3, ?_⟩
            have hWw3 : Agr P.n W w3 := hw2.trans hw3' hn2
            cases ex3 with
            | nor =>
             dsimp only at fit3 ⊢
             have sF := put3 0 none (fun _ => rfl) (fun h => by cases h) (fun j h => by cases h)
             rw [b3, l3] at sF
             obtain ⟨o, ho, u, hu, hon, hsat, hden⟩ := dx sF (show P.n ≤ _ from by show P.n ≤ st3.n; omega) hPn fit3
             exact ⟨o, ho, u, hWw3.trans hu (Nat.le_refl _), hon, hsat, hden⟩
            | jmp j =>
             dsimp only at fit3 ⊢
             have sF := put3 1 (some j) (fun h => by cases h) (fun _ h => by cases h) (fun j' h => by cases h; exact fit3.1)
             rw [b3, l3] at sF
             obtain ⟨o, ho, u, hu, hon, hsat, hden⟩ := dx sF (show P.n ≤ _ from by show P.n ≤ st3.n; omega) hPn fit3.2
             exact ⟨o, ho, u, hWw3.trans hu (Nat.le_refl _), hon, hsat, hden⟩
           ·cases hrr
         have g1 : GOK tbl v1 (st.n + 1) (wM st.n P posts :: Γ) := GOK.cons hY (g.mono hv1 (Nat.le_succ _))
         have hclo : ∀ u, Agr (st.n + 1) v1 u → f.ev env = .clo fn (aG u x) (aG u y) := fun u hu => (s.all u (at1 u hu).1).op hf
         have hrob : ∀ u, Agr (st.n + 1) v1 u → aG u (x ++ [.yld st.n] ++ y) = aG v1 (x ++ [.yld st.n] ++ y) ∧ tgT u (.fn fn) = tgT v1 (.fn fn) := fun u hu => by
          have e1 := hclo u hu
          rw [hclo v1 (Agr.refl _ _)] at e1
          simp only [CV.clo.injEq, true_and] at e1
          refine ⟨?_, rfl⟩
          simp only [cz, e1.1, e1.2, aG, den, (at1 u hu).2.1, (at1 v1 (Agr.refl _ _)).2.1]
         have hw := hcall (wM st.n P posts :: Γ) (.fn fn) (x ++ [.yld st.n] ++ y) _ _ outs1 hs2 hF X v1 env _ s1 g1 hrob
         refine xZ (hclo v1 (Agr.refl _ _)) ?_
         have hargs : aG v1 (x ++ [.yld st.n] ++ y) = aG v1 x ++ [CV.yld h.n] ++ aG v1 y := by
          simp only [cz, aG, den, (at1 v1 (Agr.refl _ _)).2.1]
         rw [hargs] at hw
         refine hw.mono ?_
         rintro rv h1 ⟨o, ho, w, hw1, hn1, henv, sat, _⟩
         dsimp only at hn1 henv
         have hln : st.n < o.2.n := by omega
         have bw : w.b st.n = h.n := by rw [← (hw1 st.n (Nat.lt_succ_self _)).2.2.1]; exact (at1 v1 (Agr.refl _ _)).2.1
         have hvw : Agr st.n v w := hv1.trans hw1 (Nat.le_succ _)
         have fin : ∀ (t : Nat) (blk : Blk), fY st.n t o.2.bl = some (st.n, J) → Sat X w { pP st.n o.2 with env := st.env } env (h1.put h.n blk) := fun t blk hrd => by
          have := qAR sat hrd hln blk
          rw [bw] at this
          exact eX this (fun u hu => (s.all u (hvw.trans hu (by show st.n ≤ o.2.n; omega))).env)
         rcases jF hr o ho with ⟨rd, hm⟩ | ⟨rd, hm⟩
         ·obtain ⟨pend, hg, p1, _, _, _⟩ := j3 (ls := st.n) sat rd hln hln
          have hp := p1 rfl
          subst hp
          rw [bw] at hg
          exact ⟨_, none, _, _, _, _, hg, (fun h => by cases h), _, hm, w, hvw, by show st.n ≤ o.2.n; omega, fin 0 _ rd⟩
         ·obtain ⟨pend, hg, _, p2, p3, _⟩ := j3 (ls := st.n) sat rd hln hln
          rw [bw] at hg
          cases pend with
          | none => exact absurd rfl (p2 rfl)
          | some j => exact ⟨_, some j, _, _, _, _, hg, (fun h => by cases h), _, hm j (p3 j rfl), w, hvw, by show st.n ≤ o.2.n; omega, fin 1 _ rd⟩
        ·cases ho
       ·cases ho
      ·cases ho
     ·cases ho
    ·cases ho
   ·cases ho
  ·cases ho
end
end
end Ce.S
namespace Ce.S
noncomputable section
open Go
section
variable {tbl : Nat → Option IF} {X : Cx} {v : V} {st : St} {env : List CV} {h : H}
theorem j9 {w : V} (sw : Sat0 X w st env h) : ∀ {rs : List IRes} {l : List AV}, rL st rs = some l → resV rs env h = some (aG w l)
 | [], l, hr => by simp only [rL, sI] at hr; subst hr; rfl
 | .tmp t :: rs, l, hr => by
  simp only [rL, Option.map_eq_some_iff] at hr
  obtain ⟨l', h1, rfl⟩ := hr
  simp only [resV, j9 sw h1, aG]
  rw [sw.env, eF]
 | .cell t g :: rs, l, hr => by
  simp only [rL] at hr
  split at hr
  ·rename_i x l' h1 h2
   simp only [sI] at hr; subst hr
   have e := tq sw h1
   simp only [resV, j9 sw h2, aG]
   rw [show aM env t = den w (gQ st.env t) by rw [sw.env, eF], e]
  ·cases hr
theorem zP (w : V) : ∀ l : List AV, one? (aG w l) = den w (qE0 l)
 | [] => rfl
 | [_] => rfl
 | _ :: _ :: _ => rfl
theorem s7 {F : IF} {env0 : List AV} : ∀ {outs : bE} {r : List (AV × St)}, vp F env0 outs = some r → ∀ ex s, (ex, s) ∈ outs → (ex = .nor ∨ ex = .jmp .ret) ∧ ∃ l, rL s F.res = some l ∧ (qE0 l, { s with env := env0 }) ∈ r
 | [], r, h, ex, s, hm => by cases hm
 | (ex1, s1) :: outs, r, h, ex, s, hm => by
  simp only [vp] at h
  split at h
  ·cases h
  ·rename_i hne
   split at h
   ·rename_i l t h1 h2
    simp only [sI] at h; subst h
    rcases List.mem_cons.1 hm with hm | hm
    ·cases hm
     refine ⟨?_, l, h1, mS⟩
     match ex1, hne with
     | .nor, _ => exact .inl rfl
     | .jmp .ret, _ => exact .inr rfl
     | .jmp (.exit i), hne => exact absurd rfl (hne i)
    ·obtain ⟨h3, l', h4, h5⟩ := s7 h2 ex s hm
     exact ⟨h3, l', h4, mC _ h5⟩
   ·cases h
theorem fp {callG : List Con → jA} (hcall : ∀ Γ, CallOK tbl Γ (callG Γ)) {n : Nat} {F : IF} {Γ : List Con} {as : List AV} {hs hs' : Hs} {outs : List (AV × St)} (ho : lO callG n F Γ as st hs = some (outs, hs')) (s : Sat X v st env h) (g : GOK tbl v st.n Γ) (hrob : ∀ u, Agr st.n v u → aG u as = aG v as) :
  Wb tbl F (aG v as) h (tK X v st env outs) := by
 unfold lO at ho
 split at ho
 ·rename_i outs1 hs1 hC
  split at ho
  ·rename_i r hr
   simp only [sI, pI] at ho
   obtain ⟨rfl, _⟩ := ho
   have sE : Sat X v { st with env := as ++ yh (F.ntmps - as.length) } (aG v as ++ bM (F.ntmps - (aG v as).length)) h := eX s (fun u hu => by
    rw [cz, hrob u hu, yg, am])
   refine qC0 ((qG2 hcall n F.body X Γ _ hs hs1 outs1 hC v _ h sE g).mono ?_)
   rintro ex e h' ⟨st', hm, w, hw, hn, sat⟩
   dsimp only at hw hn
   obtain ⟨hex, l, hl, hmem⟩ := s7 hr ex st' hm
   have res : ∃ vs, resV F.res e h' = some vs ∧ tK X v st env r (one? vs) h' := by
    refine ⟨aG w l, j9 sat.now hl, (qE0 l, { st' with env := st.env }), hmem, w, hw, hn, rfl, eX sat (fun u hu => (s.all u (hw.trans hu hn)).env), fun u hu => ?_⟩
    have e1 := j9 (sat.all u hu) hl
    rw [j9 sat.now hl, sI] at e1
    rw [← zP, e1]
   rcases hex with rfl | rfl
   ·exact res
   ·exact res
  ·cases ho
 ·cases ho
theorem pp {as : List AV} {st : St} {r : List (AV × St)} : ∀ {Γ : List Con} {tg : Tg}, oJ as st Γ tg = some r → ∃ c, c ∈ Γ ∧ (∀ w : V, tgt w c = tgT w tg) ∧ iX c as st = some r
 | [], tg, h => by cases tg <;> cases h
 | d :: Γ, .fn f, h => by
  have tl : oJ as st Γ (.fn f) = some r → ∃ c, c ∈ d :: Γ ∧ (∀ w : V, tgt w c = tgT w (.fn f)) ∧ iX c as st = some r := fun h => by
   obtain ⟨c, h1, h2⟩ := pp h
   exact ⟨c, mC _ h1, h2⟩
  simp only [oJ] at h
  split at h
  ·rename_i hc
   split at h
   ·rename_i x hx
    simp only [sI] at h; subst h
    exact ⟨d, mS, fun w => by simp only [tgt, hc.1, Bool.false_eq_true, if_false, hc.2, tgT], hx⟩
   ·exact tl h
  ·exact tl h
 | d :: Γ, .yl b, h => by
  have tl : oJ as st Γ (.yl b) = some r → ∃ c, c ∈ d :: Γ ∧ (∀ w : V, tgt w c = tgT w (.yl b)) ∧ iX c as st = some r := fun h => by
   obtain ⟨c, h1, h2⟩ := pp h
   exact ⟨c, mC _ h1, h2⟩
  simp only [oJ] at h
  split at h
  ·rename_i hc
   split at h
   ·rename_i x hx
    simp only [sI] at h; subst h
    exact ⟨d, mS, fun w => by simp only [tgt, hc.1, if_true, hc.2, tgT], hx⟩
   ·exact tl h
  ·exact tl h
theorem sL : ∀ {outs r : List (AV × St)}, vi outs = some r → ∀ o, o ∈ outs → ∃ x, frA o.1 { o.2 with env := [o.1] } = some x ∧ (x.1, { x.2 with env := o.2.env }) ∈ r
 | [], r, h, o, ho => by cases ho
 | (a, s) :: outs, r, h, o, ho => by
  simp only [vi] at h
  split at h
  ·rename_i x l h1 h2
   simp only [sI] at h; subst h
   rcases List.mem_cons.1 ho with rfl | ho
   ·exact ⟨x, h1, mS⟩
   ·obtain ⟨y, h3, h4⟩ := sL h2 o ho
    exact ⟨y, h3, mC _ h4⟩
  ·cases h
theorem po {w : V} : ∀ (T : Ty) (c : CV), ah w T c → cln c = true
 | .int k lo hi, c, h => by obtain ⟨n, rfl, _⟩ := h; rfl
 | .bool, c, h => by obtain ⟨n, rfl⟩ := h; rfl
 | .str, c, h => by obtain ⟨n, rfl⟩ := h; rfl
 | .lst R lo hi, c, h => by
  simp only [ah] at h
  rcases h with ⟨rfl, _⟩ | ⟨rows, ex, rfl, _, _, hr⟩
  ·rfl
  ·have : ∀ l : List (List CV), (∀ r, r ∈ l → aZ w R r) → xN l = true := by
    intro l
    induction l with
    | nil => intro _; rfl
    | cons r l ih =>
     intro hl
     have key : ∀ (R : List Ty) (cs : List CV), aZ w R cs → (∀ T, T ∈ R → ∀ c, ah w T c → cln c = true) → fG cs = true := by
      intro R
      induction R with
      | nil => intro cs h _; simp only [aZ] at h; subst h; rfl
      | cons T Ts ihT =>
       intro cs h hT
       obtain ⟨c, cs', rfl, h1, h2⟩ := h
       simp only [fG, hT T mS c h1, ihT cs' h2 (fun T hm => hT T (mC _ hm)), Bool.and_self]
     simp only [xN, key R r (hl r mS) (fun T hT c hc => po T c hc), ih (fun r h => hl r (mC _ h)), Bool.and_self]
   simp only [cln, this rows hr]
 | .agg l, c, h => by
  obtain ⟨cs, rfl, hc⟩ := h
  have key : ∀ (R : List Ty) (cs : List CV), aZ w R cs → (∀ T, T ∈ R → ∀ c, ah w T c → cln c = true) → fG cs = true := by
   intro R
   induction R with
   | nil => intro cs h _; simp only [aZ] at h; subst h; rfl
   | cons T Ts ihT =>
    intro cs h hT
    obtain ⟨c, cs', rfl, h1, h2⟩ := h
    simp only [fG, hT T mS c h1, ihT cs' h2 (fun T hm => hT T (mC _ hm)), Bool.and_self]
  simp only [cln, key l cs hc (fun T hT c hc => po T c hc)]
theorem qGP {w : V} {fa : List Fact} (hf : ∀ f, f ∈ fa → FOK w f) {a : AV} (hc : cl1 fa a = true) : cln (den w a) = true ∧ ∀ (k : Nat) (h : H), frz (k + 1) (den w a) h = some (den w a, h) := by
 cases a <;> simp only [cl1] at hc <;> (try (cases hc; done)) <;> (try exact ⟨rfl, fun _ _ => rfl⟩)
 rename_i s
 obtain ⟨T, h1, h2⟩ := cE hf hc
 exact ⟨po T _ h2, fun k h => oF h2 h1 k h⟩
theorem wB {w : V} {fa : List Fact} (hf : ∀ f, f ∈ fa → FOK w f) : ∀ {l : List AV}, qFC fa l = true → fG (aG w l) = true ∧ ∀ (k : Nat) (h : H), frzL (frz (k + 1)) (aG w l) h = some (aG w l, h)
 | [], _ => ⟨rfl, fun _ _ => rfl⟩
 | a :: l, hc => by
  simp only [qFC, aT] at hc
  obtain ⟨h1, h2⟩ := qGP hf hc.1
  obtain ⟨h3, h4⟩ := wB hf hc.2
  exact ⟨by simp only [aG, fG, h1, h3, Bool.and_self], fun k h => by simp only [aG, frzL, h2, h4]⟩
theorem qAY {w : V} {fa : List Fact} (hf : ∀ f, f ∈ fa → FOK w f) {a : AV} (hc : qAZ fa a = true) : cln (den w a) = true ∧ ∀ (k : Nat) (h : H), frz (k + 2) (den w a) h = some (den w a, h) := by
 cases a <;> simp only [qAZ] at hc
 case agg l =>
  obtain ⟨h1, h2⟩ := wB hf hc
  exact ⟨by simp only [den, cln, h1], fun k h => by simp only [den]; unfold frz; simp only [h2]⟩
 all_goals (have := qGP hf hc; exact ⟨this.1, fun k h => this.2 (k + 1) h⟩)
theorem pQ {w : V} {fa : List Fact} (hf : ∀ f, f ∈ fa → FOK w f) : ∀ {l : List AV}, qd fa l = true → fG (aG w l) = true ∧ ∀ (k : Nat) (h : H), frzL (frz (k + 2)) (aG w l) h = some (aG w l, h)
 | [], _ => ⟨rfl, fun _ _ => rfl⟩
 | a :: l, hc => by
  simp only [qd, aT] at hc
  obtain ⟨h1, h2⟩ := qAY hf hc.1
  obtain ⟨h3, h4⟩ := pQ hf hc.2
  exact ⟨by simp only [aG, fG, h1, h3, Bool.and_self], fun k h => by simp only [aG, frzL, h2, h4]⟩
theorem qG0 {w : V} {fa : List Fact} (hf : ∀ f, f ∈ fa → FOK w f) {a : AV} (hc : sc1 fa a = true) (k : Nat) (p : H × H) : xp (k + 1) (den w a) p = some (den w a, p) := by
 cases a <;> simp only [sc1] at hc <;> (try (cases hc; done)) <;> (try rfl)
 rename_i s
 obtain ⟨T, h1, h2⟩ := cE hf hc
 simp only [Bool.or_eq_true] at h1
 rcases h1 with h1 | h1
 ·obtain ⟨b, hb⟩ := f8 hf _ _ h1 _ h2
  simp only [den, hb]; rfl
 ·obtain ⟨b, hb⟩ := f8 hf _ _ h1 _ h2
  simp only [den, hb]; rfl
theorem ul {w : V} {fa : List Fact} (hf : ∀ f, f ∈ fa → FOK w f) : ∀ {l : List AV}, qD0 fa l = true → ∀ (k : Nat) (p : H × H), xpL (xp (k + 1)) (aG w l) p = some (aG w l, p)
 | [], _, _, _ => rfl
 | a :: l, hc, k, p => by
  simp only [qD0, aT] at hc
  simp only [aG, xpL, qG0 hf hc.1, ul hf hc.2]
theorem qFZ {w : V} {fa : List Fact} (hf : ∀ f, f ∈ fa → FOK w f) {a : AV} (hc : sc2 fa a = true) (k : Nat) (p : H × H) : xp (k + 2) (den w a) p = some (den w a, p) := by
 cases a <;> simp only [sc2] at hc
 case agg l => simp only [den]; unfold xp; simp only [ul hf hc]
 all_goals exact qG0 hf hc (k + 1) p
theorem uk {w : V} {fa : List Fact} (hf : ∀ f, f ∈ fa → FOK w f) : ∀ {l : List AV}, qCZ fa l = true → ∀ (k : Nat) (p : H × H), xpL (xp (k + 2)) (aG w l) p = some (aG w l, p)
 | [], _, _, _ => rfl
 | a :: l, hc, k, p => by
  simp only [qCZ, aT] at hc
  simp only [aG, xpL, qFZ hf hc.1, uk hf hc.2]
theorem yJ {w : V} {fa : List Fact} (hf : ∀ f, f ∈ fa → FOK w f) {a : AV} (hc : uj fa a = true) (k : Nat) (p : H × H) : xp (k + 3) (den w a) p = some (den w a, p) := by
 cases a <;> simp only [uj] at hc
 case tup l => simp only [den]; unfold xp; simp only [uk hf hc]
 all_goals exact qFZ hf hc (k + 1) p
theorem nr {st0 : St} : ∀ {outs r : List (AV × St)}, mQ st0 outs = some r → ∀ o, o ∈ outs → uj o.2.fa o.1 = true ∧ (o.1, (⟨o.2.n, st0.env, o.2.fa, st0.bl⟩ : St)) ∈ r
 | [], r, h, o, ho => by cases ho
 | (a, s) :: outs, r, h, o, ho => by
  simp only [mQ] at h
  split at h
  ·rename_i hs
   simp only [Option.map_eq_some_iff] at h
   obtain ⟨l, h1, rfl⟩ := h
   rcases List.mem_cons.1 ho with rfl | ho
   ·exact ⟨hs, mS⟩
   ·obtain ⟨h2, h3⟩ := nr h1 o ho
    exact ⟨h2, mC _ h3⟩
  ·cases h
theorem ij {lo : Nat} {posts : List (AV × St)} : ∀ {outs : List (AV × St)}, kz lo posts outs = true → ∀ o, o ∈ outs → eQ lo o.2 o.1 posts = true
 | [], _, o, ho => by cases ho
 | (a, s) :: outs, h, o, ho => by
  simp only [kz, aT] at h
  rcases List.mem_cons.1 ho with rfl | ho
  ·exact h.1
  ·exact ij h.2 o ho
def EOK (tbl : Nat → Option IF) (E : List (Nat × List Ty × Ty)) : Prop := ∀ f Ts T, vl E f = some (Ts, T) → ∀ (v : V) (args : List CV) (h : H), v.i 0 = 0 → aZ v Ts args → Wf tbl (.fn f) args h fun r h' => h' = h ∧ ∀ w : V, w.i 0 = 0 → ah w T r
theorem aY.toF {outs : List (AV × St)} {c : CV} {h' : H} (p : aY X v st env outs (some (c, h'))) : tK X v st env outs c h' := by
 obtain ⟨o, ho, w, hw, hn, he, c', h2, hr, sat, hd⟩ := p
 simp only [sI, pI] at hr
 obtain ⟨rfl, rfl⟩ := hr
 exact ⟨o, ho, w, hw, hn, he, sat, hd⟩
theorem yU {E : List (Nat × List Ty × Ty)} (hE : EOK tbl E) : ∀ (n : Nat) (Γ : List Con), CallOK tbl Γ (sF tbl E n Γ) := by
 intro n
 induction n with
 | zero => intro Γ tg as st hs outs hs' ho; cases ho
 | succ n ih =>
  intro Γ tg as st hs outs hs' ho X v env h s g hrob
  have s0 := s.now
  simp only [sF] at ho
  split at ho
  ·rename_i r hc
   simp only [sI, pI] at ho
   obtain ⟨rfl, _⟩ := ho
   obtain ⟨c, hm, htg, hr⟩ := pp hc
   rw [← htg v]
   exact pY s (g c hm) (g c hm).pos hr
  ·split at ho
   ·cases ho
   ·rename_i f pD
    split at ho
    ·rename_i Ts T hfe
     split at ho
     ·rename_i hty
      simp only [sI, pI] at ho
      obtain ⟨rfl, _⟩ := ho
      refine (hE f Ts T hfe v (aG v as) h s0.z (gG s0.z s0.fa _ _ hty)).mono ?_
      rintro r h' ⟨rfl, hT⟩
      exact (cu s (r := some (r, h')) (c := r) rfl (fun w sw => hT w sw.z)).toF
     ·cases ho
    ·split at ho
     ·cases ho
     ·rename_i F hF
      split at ho
      ·rename_i P posts ma mb hs1 _
       split at ho
       ·rename_i hc
        obtain ⟨c2, c3, c4, c5, c6⟩ := hc
        split at ho
        ·rename_i outs1 hs2 hB
         split at ho
         ·rename_i hfit
          simp only [Option.map_eq_some_iff, pI] at ho
          obtain ⟨r, hr, rfl, _⟩ := ho
          have hPn : 0 < P.n := Nat.lt_of_lt_of_le s.pos c4
          have hall : ∀ (m : Nat) (W : V) (args : List CV) (h1 : H), Agr st.n v W → Sat0 (FrX W P h1) W P args h1 → (ma.ev W - mb.ev W).toNat ≤ m → Wf tbl (.fn f) args h1 (qGW W (rO f st.n P posts ma mb none) h1) := by
           intro m
           induction m with
           | zero =>
            intro W args h1 hW sP hm
            have sC1 : Sat (FrX W P h1) W { P with fa := P.fa ++ st.fa } args h1 := Sat.ofClosed c3 hPn sP (fun w hw f hf => (s.all w (hW.trans hw c4)).fa f hf)
            have gW : GOK tbl W P.n (rO f st.n P posts ma mb (some (ma, mb)) :: Γ) := GOK.cons ⟨s.pos, c4, (fun h => by cases h), c3, (fun a b hab => by cases hab; exact ⟨c5, c6⟩), fun W' args' h' _ _ hl => by
             have := hl ma mb rfl; omega⟩ (g.mono hW c4)
            have := fp (ih) hB sC1 gW (fun u hu => by
             simp only [iP, aT] at c3
             exact (dy hu _ c3.1.1).symm)
            rw [← sP.env] at this
            refine uU hF c2 ?_
            obtain ⟨k, rv, h2, hrun, o, ho, w, hw, hn, _, sat, hd⟩ := this
            refine ⟨k, rv, h2, hrun, ?_⟩
            obtain ⟨p, hp, u, hu, hpn, hsat, hden⟩ := dx sat hn hPn (ij hfit o ho)
            exact ⟨p, hp, u, hw.trans hu (Nat.le_refl _), hpn, hsat, fun x hx => by rw [hden x hx]; exact hd w (Agr.refl _ _)⟩
           | succ m ihm =>
            intro W args h1 hW sP hm
            have sC1 : Sat (FrX W P h1) W { P with fa := P.fa ++ st.fa } args h1 := Sat.ofClosed c3 hPn sP (fun w hw f hf => (s.all w (hW.trans hw c4)).fa f hf)
            have gW : GOK tbl W P.n (rO f st.n P posts ma mb (some (ma, mb)) :: Γ) := GOK.cons ⟨s.pos, c4, (fun h => by cases h), c3, (fun a b hab => by cases hab; exact ⟨c5, c6⟩), fun W' args' h' hW' sP' hl => by
             have hl := hl ma mb rfl
             exact ihm W' args' h' (hW.trans hW' (Nat.le_refl _)) sP' (by
              have : (rO f st.n P posts ma mb (some (ma, mb))).ma.ev W' - (rO f st.n P posts ma mb (some (ma, mb))).mb.ev W' = ma.ev W' - mb.ev W' := rfl
              omega)⟩ (g.mono hW c4)
            have := fp (ih) hB sC1 gW (fun u hu => by
             simp only [iP, aT] at c3
             exact (dy hu _ c3.1.1).symm)
            rw [← sP.env] at this
            refine uU hF c2 ?_
            obtain ⟨k, rv, h2, hrun, o, ho, w, hw, hn, _, sat, hd⟩ := this
            refine ⟨k, rv, h2, hrun, ?_⟩
            obtain ⟨p, hp, u, hu, hpn, hsat, hden⟩ := dx sat hn hPn (ij hfit o ho)
            exact ⟨p, hp, u, hw.trans hu (Nat.le_refl _), hpn, hsat, fun x hx => by rw [hden x hx]; exact hd w (Agr.refl _ _)⟩
          have g0K : GOK1 tbl v st.n (rO f st.n P posts ma mb none) := ⟨s.pos, Nat.le_refl _, (fun h => by cases h), c3, (fun a b h => by cases h), fun W args h1 hW sP _ => hall _ W args h1 hW sP (Nat.le_refl _)⟩
          exact pY s g0K s.pos hr
         ·cases ho
        ·cases ho
       ·cases ho
      ·split at ho
       ·rename_i hm
        exact uU hF hm (fp ih ho s g (fun u hu => (hrob u hu).1))
       ·rename_i hm
        split at ho
        ·rename_i outs1 hs1 hB
         split at ho
         ·rename_i r hr
          simp only [sI, pI] at ho
          obtain ⟨rfl, _⟩ := ho
          refine Wf_fn1 hF hm ?_
          obtain ⟨k, rv, h2, hrun, o, ho, w, hw, hn, he, sat, hd⟩ := fp ih hB s g (fun u hu => (hrob u hu).1)
          refine ⟨k, rv, h2, hrun, ?_⟩
          obtain ⟨x, hx, hxr⟩ := sL hr o ho
          have sat1 : Sat X w { o.2 with env := [o.1] } [rv] h2 := eX sat (fun u hu => by simp only [aG, hd u hu])
          obtain ⟨o2, ho2, w2, hw2, hn2, he2, c2, h3, hz, sat2, hd2⟩ := qAG sat1 (a := o.1) (a' := x.1) (st' := x.2) hx (c := rv) (fun u su => by
           have := su.env
           simp only [aG, List.cons.injEq, and_true] at this
           exact this) 18
          simp only [List.mem_singleton] at ho2; subst ho2
          have hn2' : o.2.n ≤ x.2.n := hn2
          have hw2' : Agr o.2.n w w2 := hw2
          exact ⟨c2, h3, hz, _, hxr, w2, hw.trans hw2' hn, Nat.le_trans hn hn2', he, eX sat2 (fun u hu => (sat.all u (hw2'.trans hu hn2')).env), hd2⟩
         ·cases ho
        ·cases ho
       ·rename_i hm0 hm1
        split at ho
        ·rename_i hc
         obtain ⟨c1, c2⟩ := hc
         split at ho
         ·rename_i outs1 hs1 hB
          split at ho
          ·rename_i r hr
           simp only [sI, pI] at ho
           obtain ⟨rfl, _⟩ := ho
           obtain ⟨k1, k2⟩ := pQ s0.fa c2
           refine qh hF c1 (k2 18 h) k1 ?_
           have sN : Sat ⟨H.empty, []⟩ v ⟨st.n, [], st.fa, []⟩ [] H.empty := ⟨s.pos, fun u hu => ⟨(s.all u hu).z, rfl, (s.all u hu).fa, (fun p hp => by cases hp), by simp, (fun p hp => by cases hp), Nat.le_refl _, fun _ _ _ => rfl⟩⟩
           obtain ⟨k, rv, h2, hrun, o, ho, w, hw, hn, he, sat, hd⟩ := fp ih hB sN g (fun u hu => (hrob u hu).1)
           refine ⟨k, rv, h2, hrun, ?_⟩
           obtain ⟨b1, b2⟩ := nr hr o ho
           have e1 := hd w (Agr.refl _ _)
           have e2 := yJ sat.now.fa b1 17 (h2, h)
           rw [e1] at e2
           refine ⟨rv, h2, h, e2, _, b2, w, hw, hn, rfl, ⟨sat.pos, fun u hu => ?_⟩, hd⟩
           have su := s.all u (hw.trans hu hn)
           exact ⟨su.z, su.env, (sat.all u hu).fa, su.bl, su.nd, su.lt, su.hn, su.fr⟩
          ·cases ho
         ·cases ho
        ·cases ho
end
end
end Ce.S
namespace Ce.S
noncomputable section
open Go
section
variable {tbl : Nat → Option IF}
theorem con_ok {E : List (Nat × List Ty × Ty)} (hE : EOK tbl E) {n : Nat} {c : Con} {Γ : List Con} {hs hs' : Hs} {outs : List (AV × St)} (h1 : c.yl = false) (h0 : c.n0 = 1) (hcl : iP c.pre = true) (hn : 1 ≤ c.pre.n) (hl : c.lim = none)
  (hrun : sF tbl E n Γ (.fn c.tg) c.pre.env c.pre hs = some (outs, hs')) (hfit : kz c.pre.n c.posts outs = true) (hΓ : ∀ v : V, v.i 0 = 0 → GOK tbl v 1 Γ) : ∀ v : V, v.i 0 = 0 → GOK1 tbl v 1 c := by
 intro v hv
 refine ⟨by omega, by omega, fun h => by (rw [h1] at h; cases h), hcl, fun a b h => by (rw [hl] at h; cases h), ?_⟩
 intro W args h hW sP _
 have hPn : 0 < c.pre.n := by omega
 have hz : W.i 0 = 0 := by rw [← (hW 0 (by omega)).1]; exact hv
 have sC1 : Sat (FrX W c.pre h) W c.pre args h := by
  have := Sat.ofClosed (fs := []) hcl hPn sP (fun _ _ f hf => by cases hf)
  simpa using this
 have hcl' := hcl
 simp only [iP, aT] at hcl'
 have := yU hE n Γ (.fn c.tg) c.pre.env c.pre hs outs hs' hrun (FrX W c.pre h) W args h sC1 ((hΓ W hz).mono (Agr.refl _ _) hn) (fun u hu => ⟨(dy hu _ hcl'.1.1).symm, rfl⟩)
 rw [← sP.env] at this
 have ht : tgt v c = tgT W (.fn c.tg) := by simp only [tgt, h1, Bool.false_eq_true, if_false, tgT]
 rw [ht]
 refine this.mono ?_
 rintro r h' ⟨o, ho, w, hw, hnn, _, sat, hd⟩
 obtain ⟨p, hp, u, hu, hpn, hsat, hden⟩ := dx sat hnn hPn (ij hfit o ho)
 exact ⟨p, hp, u, hw.trans hu (Nat.le_refl _), hpn, hsat, fun x hx => by rw [hden x hx]; exact hd w (Agr.refl _ _)⟩
theorem cZ : ∀ v : V, v.i 0 = 0 → GOK tbl v 1 [] := fun _ _ => GOK.nil
theorem aQ {c : Con} {Γ : List Con} (h : ∀ v : V, v.i 0 = 0 → GOK1 tbl v 1 c) (hΓ : ∀ v : V, v.i 0 = 0 → GOK tbl v 1 Γ) : ∀ v : V, v.i 0 = 0 → GOK tbl v 1 (c :: Γ) := fun v hv => GOK.cons (h v hv) (hΓ v hv)
def v0 : V := ⟨fun _ => 0, fun _ => undef, fun _ => 0, fun _ => ⟨[], [], .skip, .skip⟩⟩
theorem api_ok {E : List (Nat × List Ty × Ty)} (hE : EOK tbl E) {n : Nat} {F : IF} {Γ : List Con} (hΓ : ∀ v : V, v.i 0 = 0 → GOK tbl v 1 Γ) {Ts : List Ty} {hs hs' : Hs} {outs : List (AV × St)}
  (hrun : lO (sF tbl E n) n F Γ (cF 1 Ts).1 ⟨(cF 1 Ts).2.2, [], (cF 1 Ts).2.1, []⟩ hs = some (outs, hs')) {args : List CV} (hT : ∀ v : V, v.i 0 = 0 → aZ v Ts args) :
  Wb tbl F args H.empty fun r h' => ∃ o, o ∈ outs ∧ ∃ w, Sat ⟨H.empty, []⟩ w o.2 [] h' ∧ ∀ u, Agr o.2.n w u → den u o.1 = r := by
 have hz : ∀ u : V, Agr 1 v0 u → u.i 0 = 0 := fun u hu => (hu 0 (by omega)).1.symm
 obtain ⟨hle, w, hw, hall⟩ := gS Ts 1 v0 args (fun u hu => hT u (hz u hu))
 have sat : Sat ⟨H.empty, []⟩ w ⟨(cF 1 Ts).2.2, [], (cF 1 Ts).2.1, []⟩ [] H.empty := ⟨by show 0 < (cF 1 Ts).2.2; omega, fun u hu => ⟨hz u (hw.trans hu hle), rfl, (hall u hu).2, (fun p hp => by cases hp), by simp, (fun p hp => by cases hp), Nat.le_refl _, fun _ _ _ => rfl⟩⟩
 have hd : ∀ u, Agr (cF 1 Ts).2.2 w u → aG u (cF 1 Ts).1 = args := fun u hu => (hall u hu).1
 have g : GOK tbl w (cF 1 Ts).2.2 Γ := (hΓ w (hz w hw)).mono (Agr.refl _ _) hle
 have := fp (yU hE n) hrun sat g (fun u hu => by rw [hd u hu, hd w (Agr.refl _ _)])
 rw [hd w (Agr.refl _ _)] at this
 obtain ⟨k, r, h', hr, o, ho, w2, hw2, hn2, _, s2, hden⟩ := this
 refine ⟨k, r, h', hr, o, ho, w2, s2.agr (Agr.refl _ _) |> fun s => ?_, hden⟩
 exact ⟨s.pos, fun u hu => let a := s.all u hu; ⟨a.z, a.env, a.fa, a.bl, a.nd, a.lt, a.hn, a.fr⟩⟩
theorem vo : EOK tbl [] := fun f Ts T h => by cases h
end
end
end Ce.S
