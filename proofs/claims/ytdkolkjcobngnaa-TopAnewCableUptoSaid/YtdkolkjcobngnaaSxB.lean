/- A part of a proof. -/
import Derived.Test.YtdkolkjcobngnaaSxA
set_option linter.unusedVariables false
set_option linter.unusedSimpArgs false
set_option maxRecDepth 1000000
namespace Ce.S
noncomputable section
open Go
section
variable {X : Cx} {v : V} {st : St} {env : List CV} {h : H}
theorem RowsOK_splices {w : V} {k : Nat} {R : List Ty} (hk : R.length = k) {M n i : Nat} {cs new : List CV} (hd : RowsOK w k R cs M) (hn : RowsOK w k R new n) (hi : i + n ≤ M) : i * k + new.length ≤ cs.length ∧ RowsOK w k R (splice cs (i * k) new) M := by
 obtain ⟨h1, h2⟩ := (RowsOK_iff w k R hk M cs).1 hd
 obtain ⟨h3, h4⟩ := (RowsOK_iff w k R hk n new).1 hn
 have hM : (i + n) * k ≤ M * k := Nat.mul_le_mul_right k hi
 rw [Nat.add_mul] at hM
 have hl : i * k + new.length ≤ cs.length := by omega
 refine ⟨hl, (RowsOK_iff w k R hk M _).2 ⟨by rw [splice_len _ _ _ hl, h1], fun r hr j T hj => ?_⟩⟩
 have hjk : j < k := by rw [← hk]; exact (List.getElem?_eq_some_iff.1 hj).1
 rw [splice_get _ _ _ hl]
 by_cases hin : i ≤ r ∧ r < i + n
 ·have e1 : i * k ≤ r * k := Nat.mul_le_mul_right k hin.1
  have e2 : r * k + k ≤ (i + n) * k := by rw [← Nat.succ_mul]; exact Nat.mul_le_mul_right k hin.2
  rw [Nat.add_mul] at e2
  rw [if_pos (by omega)]
  obtain ⟨c, hc, hT⟩ := h4 (r - i) (by omega) j T hj
  refine ⟨c, ?_, hT⟩
  rw [Nat.mul_sub_right_distrib] at hc
  rw [show r * k + j - i * k = r * k - i * k + j by omega]; exact hc
 ·have : r * k + k ≤ i * k ∨ (i + n) * k ≤ r * k := by
   by_cases hlt : r < i
   ·left; rw [← Nat.succ_mul]; exact Nat.mul_le_mul_right k hlt
   ·right; exact Nat.mul_le_mul_right k (by omega)
  rw [Nat.add_mul] at this
  rw [if_neg (by omega)]; exact h2 r hr j T hj
def cpyF (st : St) (a b : Lin) : List Fact := [.dc 0 st.n 0, .dc st.n a.s a.c, .dc st.n b.s b.c]
def sCpy (st : St) (k : Nat) (d s : AV) : Option (List (AV × St)) :=
 match srcT st k s, d with
 | some (R, sl), .slc k' b off i len _ =>
  if k' = k ∧ leL st.fa ⟨0, 0⟩ i 0 = true ∧ leL st.fa ⟨0, 0⟩ len 0 = true then
   match lookB b st.bl with
   | some (.blk _ (.rows k2 R2 n) false) => (match addS st i len with
    | some t => if k2 = k ∧ off = 0 ∧ leL st.fa t n 0 = true ∧ stys st.fa R R2 = true ∧ lfTys R2 = true then
      some [newI st .i64 (cpyF st len sl)] else none
    | none => none)
   | some (.blk _ (.cells l) false) => if k = 1 ∧ i.s = 0 ∧ i.c = 0 ∧ len.s = 0 ∧ off + len.c.toNat ≤ l.length then (match kind0 ((l.drop off).take len.c.toNat) with
    | some kk => if allFull st.fa kk ((l.drop off).take len.c.toNat) && stys st.fa R [full kk] then
      let f := frTs (st.n + 1) (List.replicate len.c.toNat (full kk))
      some [(.int .i64 st.n 0, { st with n := f.2.2, fa := f.2.1 ++ (cpyF st len sl ++ st.fa), bl := modB b [.blk b (.cells (spliceA l off f.1)) false] st.bl })]
     else none
    | none => none) else none
   | _ => none
  else none
 | _, _ => none
theorem cpyF_ok {w : V} {a b : Lin} {m : Nat} {x y : Nat} (z : w.i 0 = 0) (hn : w.i st.n = ((min y x : Nat) : Int)) (ha : a.ev w = x) (hb : b.ev w = y) : ∀ f, f ∈ cpyF st a b → FOK w f := by
 intro f hf
 simp only [cpyF, List.mem_cons, List.not_mem_nil, or_false] at hf
 simp only [Lin.ev] at ha hb
 rcases hf with rfl | rfl | rfl <;> simp only [FOK] <;> omega
theorem cpyV_eq {k : Nat} {d : CV} {cs : CV} {dl sl : Nat} (h1 : lenOf d = some dl) (h2 : lenOf cs = some sl) : cpyV k d cs h = if min sl dl = 0 then some (.int .i64 0, h) else match cellsOf k (min sl dl) h cs, d with
  | some new, .slc _ r off _ _ => match h.get r with
   | some (.cells cs false) => if off + (min sl dl) * k ≤ cs.length && allOne new then some (.int .i64 (min sl dl : Nat), h.put r (.cells (splice cs off new) false)) else none
   | _ => none
  | _, _ => none := by
 simp only [cpyV, h1, h2]
 rfl
theorem sCpy_ok (s : Sat X v st env h) {k : Nat} {a x : AV} {outs : List (AV × St)} (hs : sCpy st k a x = some outs) {ca cx : CV} {r : Option (CV × H)} (hr : r = cpyV k ca cx h) (ha : ∀ w, Sat0 X w st env h → ca = den w a) (hx : ∀ w, Sat0 X w st env h → cx = den w x) : Post X v st env outs r := by
 have s0 := s.now
 unfold sCpy at hs
 split at hs <;> (try (cases hs; done))
 rename_i R sl k' b off i len cap hsrc
 obtain ⟨m, hm, hsl, hRk, hnew⟩ := srcT_ok s hsrc hx
 split at hs
 ·rename_i hg
  obtain ⟨rfl, g1, g2⟩ := hg
  have q : ∀ w, Sat0 X w st env h → 0 ≤ i.ev w ∧ 0 ≤ len.ev w := fun w sw => by
   have q1 := leL_ok sw.fa g1; have q2 := leL_ok sw.fa g2
   simp only [Lin.ev, sw.z] at q1 q2 ⊢; omega
  have hlen : lenOf ca = some (len.ev v).toNat := by rw [ha v s0]; rfl
  have same : ∀ w, Sat0 X w st env h → w.b b = v.b b ∧ (len.ev w).toNat = (len.ev v).toNat ∧ off + (i.ev w).toNat * k' = off + (i.ev v).toNat * k' := fun w sw => by
   have e1 := ha w sw
   rw [ha v s0] at e1
   simp only [den, CV.slc.injEq, true_and] at e1
   exact ⟨e1.1.symm, e1.2.2.1.symm, e1.2.1.symm⟩
  rw [cpyV_eq hlen hm] at hr
  split at hs <;> (try (cases hs; done))
  ·rename_i b' k2 R2 n hb
   have hkey := (s0.blk hb).2
   simp only [keyB] at hkey; subst hkey
   split at hs
   ·rename_i t ht
    split at hs
    ·rename_i hg
     obtain ⟨rfl, rfl, g3, g4, g5⟩ := hg
     simp only [sI] at hs; subst hs
     by_cases h0 : min m (len.ev v).toNat = 0
     ·rw [if_pos h0] at hr
      refine post_newI s (m := 0) hr (fun w sw hn f hf => cpyF_ok (m := m) sw.z (x := (len.ev v).toNat) (y := m) (by rw [hn, h0]; rfl) ?_ (hsl w sw) f hf)
      have := (same w sw).2.1; have := (q w sw).2; omega
     ·rw [if_neg h0] at hr
      obtain ⟨new, hcells, hrowsN⟩ := hnew (min m (len.ev v).toNat) (Nat.min_le_left _ _) h0
      obtain ⟨cs0, hcs0, hk0, hRk2, hn0, hrows0⟩ := (s0.blk hb).1
      have spl : ∀ w, Sat0 X w st env h → (i.ev w).toNat * k2 + new.length ≤ cs0.length ∧ RowsOK w k2 R2 (splice cs0 ((i.ev w).toNat * k2) new) (n.ev w).toNat ∧ 0 ≤ n.ev w ∧ allOne new = true := fun w sw => by
       obtain ⟨cs1, hcs1, _, _, hn1, hrows1⟩ := (sw.blk hb).1
       rw [(same w sw).1, hcs0] at hcs1
       simp only [sI, Blk.cells.injEq, and_true] at hcs1; subst hcs1
       have hN : RowsOK w k2 R2 new (min m (len.ev v).toNat) := by
        have := hrowsN w sw
        obtain ⟨e1, e2⟩ := (RowsOK_iff w k2 R hRk _ _).1 this
        refine (RowsOK_iff w k2 R2 hRk2 _ _).2 ⟨e1, fun r hr j T hj => ?_⟩
        have hrow : TyOKs w R ((new.drop (r * k2)).take k2) := by
         refine (TyOKs_iff w R _).2 ⟨?_, fun j T hj => ?_⟩
         ·have : r * k2 + k2 ≤ (min m (len.ev v).toNat) * k2 := by rw [← Nat.succ_mul]; exact Nat.mul_le_mul_right _ hr
          simp only [List.length_take, List.length_drop]; omega
         ·have hjk : j < k2 := by rw [← hRk]; exact (List.getElem?_eq_some_iff.1 hj).1
          obtain ⟨c, hc, hT⟩ := e2 r hr j T hj
          exact ⟨c, by rw [List.getElem?_take_of_lt hjk, List.getElem?_drop]; exact hc, hT⟩
        have hrow2 := stys_ok sw.fa _ _ g4 _ hrow
        have hjk : j < k2 := by rw [← hRk2]; exact (List.getElem?_eq_some_iff.1 hj).1
        obtain ⟨c, hc, hT⟩ := ((TyOKs_iff w R2 _).1 hrow2).2 j T hj
        rw [List.getElem?_take_of_lt hjk, List.getElem?_drop] at hc
        exact ⟨c, hc, hT⟩
       have q3 := leL_ok sw.fa g3
       have q4 := addS_ev sw ht
       have q5 := q w sw
       have q6 := (same w sw).2.1
       have := RowsOK_splices hRk2 hrows1 hN (i := (i.ev w).toNat) (by omega)
       exact ⟨this.1, this.2, hn1, rows_one g5 hN⟩
      have se : ∀ w, Sat0 X w st env h → (i.ev w).toNat * k2 = (i.ev v).toNat * k2 := fun w sw => by have := (same w sw).2.2; omega
      refine Post.mk' (w := upI v st.n ((min m (len.ev v).toNat : Nat) : Int)) (c := .int .i64 ((min m (len.ev v).toNat : Nat) : Int)) (h' := h.put (v.b b') (.cells (splice cs0 ((i.ev v).toNat * k2) new) false)) mS (agr_up _ _ _ _ _ _) (Nat.le_succ _) rfl s.pos ?_ (fun u hu => ?_)
      ·rw [hr, hcells, ha v s0]
       simp only [den, hcs0, Nat.zero_add]
       obtain ⟨e1, _, _, e2⟩ := spl v s0
       have hnl := ((RowsOK_iff v k2 R hRk _ _).1 (hrowsN v s0)).1
       rw [if_pos (by simp only [aT, dT]; exact ⟨by omega, e2⟩)]
      ·obtain ⟨hau, hiu, _⟩ := agr_up' hu
       have su := s.all u hau
       refine ⟨?_, by simp only [newI, den, hiu, Int.add_zero]⟩
       obtain ⟨_, e3, e4, _⟩ := spl u su
       have := (su.wk (st.n + 1) (cpyF st len sl) (cpyF_ok (m := m) su.z (x := (len.ev v).toNat) (y := m) hiu (by have := (same u su).2.1; have := (q u su).2; omega) (hsl u su))).put hb (q := .blk b' (.rows k2 R2 n) false) (blk := .cells (splice cs0 ((i.ev u).toNat * k2) new) false) rfl rfl ⟨_, by rw [get_put, if_pos rfl], hk0, hRk2, e4, e3⟩
       rw [modB_self hb, (same u su).1, se u su] at this
       exact this
    ·cases hs
   ·cases hs
  ·rename_i b' l hb
   have hkey := (s0.blk hb).2
   simp only [keyB] at hkey; subst hkey
   split at hs
   ·rename_i hg
    obtain ⟨rfl, g3, g4, g5, g6⟩ := hg
    split at hs
    ·rename_i kk hkk
     split at hs
     ·rename_i hg
      simp only [aT] at hg
      obtain ⟨g7, g8⟩ := hg
      simp only [sI] at hs; subst hs
      have hl0 : len.ev v = len.c := by simp only [Lin.ev, g5, s0.z]; omega
      have hi0 : ∀ w, Sat0 X w st env h → i.ev w = 0 := fun w sw => by simp only [Lin.ev, g3, g4, sw.z]; omega
      obtain ⟨cs0, hcs0, ho0⟩ := (s0.blk hb).1
      simp only [CtOK] at ho0
      have hcl : cs0.length = l.length := by rw [ho0, denL_length]
      have hl0w : ∀ w, Sat0 X w st env h → cs0 = denL w l := fun w sw => by
       obtain ⟨cs1, hcs1, ho1⟩ := (sw.blk hb).1
       simp only [CtOK] at ho1
       rw [(same w sw).1, hcs0] at hcs1
       simp only [sI, Blk.cells.injEq, and_true] at hcs1
       rw [hcs1, ho1]
      have fin : ∀ (new : List CV), new.length ≤ len.c.toNat → (∀ w, Sat0 X w st env h → RowsOK w 1 [full kk] new new.length) → ∀ (nn : Nat), nn = min m (len.ev v).toNat → ∀ h', (∀ u : V, u.b b' = v.b b' → h' = h.put (u.b b') (.cells (splice cs0 off new) false) ∨ (h' = h ∧ new = [])) → r = some (.int .i64 (nn : Nat), h') →
        Post X v st env [(.int .i64 st.n 0, { st with n := (frTs (st.n + 1) (List.replicate len.c.toNat (full kk))).2.2, fa := (frTs (st.n + 1) (List.replicate len.c.toNat (full kk))).2.1 ++ (cpyF st len sl ++ st.fa), bl := modB b' [.blk b' (.cells (spliceA l off (frTs (st.n + 1) (List.replicate len.c.toNat (full kk))).1)) false] st.bl })] r := by
       intro new hnl hnT nn hnn h' hh hrr
       have hsl2 : (splice cs0 off new).length = cs0.length := splice_len _ _ _ (by omega)
       have htyp : ∀ w, Agr (st.n + 1) (upI v st.n (nn : Int)) w → TyOKs w (List.replicate len.c.toNat (full kk)) (((splice cs0 off new).drop off).take len.c.toNat) := fun w hw => by
        obtain ⟨hau, _⟩ := agr_up' hw
        have sw := s.all w hau
        refine (TyOKs_iff w _ _).2 ⟨by simp only [List.length_take, List.length_drop, List.length_replicate]; omega, fun j T hj => ?_⟩
        have hjlt : j < len.c.toNat := by
         have := (List.getElem?_eq_some_iff.1 hj).1
         simpa using this
        rw [List.getElem?_replicate, if_pos hjlt, sI] at hj
        subst hj
        rw [List.getElem?_take_of_lt hjlt, List.getElem?_drop, splice_get _ _ _ (by omega)]
        by_cases he : j < new.length
        ·rw [if_pos (by omega), show off + j - off = j by omega]
         obtain ⟨_, e2⟩ := (RowsOK_iff w 1 [full kk] rfl _ _).1 (hnT w sw)
         obtain ⟨c, hc, hT⟩ := e2 j he 0 (full kk) rfl
         simp only [Nat.mul_one, Nat.add_zero] at hc
         exact ⟨c, hc, hT⟩
        ·rw [if_neg (by omega)]
         have hlj : l[off + j]? = some (l[off + j]'(by omega)) := List.getElem?_eq_getElem (by omega)
         have hmem : l[off + j]'(by omega) ∈ (l.drop off).take len.c.toNat := by
          refine List.mem_of_getElem? (i := j) ?_
          rw [List.getElem?_take_of_lt hjlt, List.getElem?_drop]; exact hlj
         refine ⟨den w (l[off + j]'(by omega)), ?_, tyA_ok sw.z sw.fa _ _ (allFull_ok g7 _ hmem)⟩
         exact (congrArg (fun z : List CV => z[off + j]?) (hl0w w sw)).trans (by
          rw [denL_eq_map, List.getElem?_map, hlj]; rfl)
       obtain ⟨hle, w, hw, hall⟩ := frTs_ok _ (st.n + 1) (upI v st.n (nn : Int)) _ htyp
       refine Post.mk' (w := w) (c := .int .i64 (nn : Nat)) (h' := h') mS ((agr_up _ _ _ _ _ _).trans hw (Nat.le_succ _)) (by dsimp only; omega) rfl s.pos hrr (fun u hu => ?_)
       obtain ⟨hd, hf⟩ := hall u hu
       obtain ⟨hau, hiu, _⟩ := agr_up' (hw.trans hu hle)
       have su := s.all u hau
       refine ⟨?_, by simp only [den, hiu, Int.add_zero]⟩
       have swk := su.wk (frTs (st.n + 1) (List.replicate len.c.toNat (full kk))).2.2 ((frTs (st.n + 1) (List.replicate len.c.toNat (full kk))).2.1 ++ cpyF st len sl) (fun f hm => by
        rcases List.mem_append.1 hm with hm | hm
        ·exact hf f hm
        ·exact cpyF_ok (m := m) su.z (x := (len.ev v).toNat) (y := m) (by rw [hiu, hnn]) (by have := (same u su).2.1; have := (q u su).2; omega) (hsl u su) f hm)
       rw [List.append_assoc] at swk
       have hcont : denL u (spliceA l off (frTs (st.n + 1) (List.replicate len.c.toNat (full kk))).1) = splice cs0 off new := by
        rw [spliceA_den, hd, ← hl0w u su]
        refine (splice_splice cs0 off new _ (by simp only [List.length_take, List.length_drop]; omega) 0 (by simp only [List.length_take, List.length_drop]; omega) (fun j hj => ?_)).symm
        simp only [List.length_take, List.length_drop] at hj
        rw [List.getElem?_take_of_lt (by omega), List.getElem?_drop]; rfl
       rcases hh u (same u su).1 with e | ⟨e, en⟩
       ·rw [e]
        exact swk.put hb (q := .blk b' (.cells (spliceA l off (frTs (st.n + 1) (List.replicate len.c.toNat (full kk))).1)) false) (blk := .cells (splice cs0 off new) false) rfl rfl ⟨_, by rw [get_put, if_pos rfl], hcont.symm⟩
       ·rw [e]
        refine swk.say hb rfl ⟨cs0, by rw [(same u su).1]; exact hcs0, ?_⟩
        simp only [CtOK]
        rw [hcont, en]
        have : ∀ (c : List CV) (o : Nat), splice c o [] = c := by
         intro c
         induction c with
         | nil => intro o; cases o <;> rfl
         | cons a c ih => intro o; cases o with
          | zero => rfl
          | succ o => simp only [splice, ih]
        rw [this]
      by_cases h0 : min m (len.ev v).toNat = 0
      ·rw [if_pos h0] at hr
       exact fin [] (by simp) (fun w sw => rfl) 0 h0.symm h (fun u hu => .inr ⟨rfl, rfl⟩) hr
      ·rw [if_neg h0] at hr
       obtain ⟨new, hcells, hrowsN⟩ := hnew (min m (len.ev v).toNat) (Nat.min_le_left _ _) h0
       have hnl := ((RowsOK_iff v 1 R hRk _ _).1 (hrowsN v s0)).1
       have hNT : ∀ w, Sat0 X w st env h → RowsOK w 1 [full kk] new new.length := fun w sw => by
        have h1 := hrowsN w sw
        have e0 : min m (len.ev v).toNat = new.length := by omega
        rw [e0] at h1
        have go : ∀ (n : Nat) (cs : List CV), RowsOK w 1 R cs n → RowsOK w 1 [full kk] cs n := by
         intro n
         induction n with
         | zero => intro cs h; exact h
         | succ n ih => intro cs h; exact ⟨h.1, stys_ok sw.fa _ _ g8 _ h.2.1, ih _ h.2.2⟩
        exact go _ _ h1
       have hone : allOne new = true := rows_one (R := [full kk]) rfl (hNT v s0)
       refine fin new (by omega) hNT _ rfl (h.put (v.b b') (.cells (splice cs0 off new) false)) (fun u hu => .inl (by rw [hu])) ?_
       rw [hr, hcells, ha v s0]
       simp only [den, hi0 v s0, Int.toNat_zero, Nat.zero_mul, Nat.add_zero, hcs0]
       rw [if_pos (by simp only [aT, dT]; exact ⟨by omega, hone⟩)]
     ·cases hs
    ·cases hs
   ·cases hs
 ·cases hs
end
end
end Ce.S
namespace Ce.S
noncomputable section
open Go
section
variable {X : Cx} {v : V} {st : St} {env : List CV} {h : H}
def sApp2 (st : St) (k bytes : Nat) (s x : AV) : Option (List (AV × St)) :=
 match s, srcT st k x with
 | .slc k' b off i len cap, some (R, xl) => match lookB b st.bl, hiC st.fa xl with
  | some (.blk _ (.cells l) _), some hi =>
   if k' = k ∧ i.s = 0 ∧ i.c = 0 ∧ len.s = 0 ∧ len.c = 0 ∧ cap.s = 0 ∧ cap.c = 0 ∧ off ≤ l.length ∧ leL st.fa ⟨0, 1⟩ xl 0 = true ∧ lfTys R = true ∧ 0 < k ∧ hi.toNat * (bytes + 1) ≤ 2 ^ 40 then
    some [(.vec k st.n xl, { st with n := st.n + 1, bl := .blk st.n (.rows k R xl) false :: st.bl })] else none
  | _, _ => none
 | _, _ => none
theorem sApp2ok (s : Sat X v st env h) {k bytes : Nat} {a x : AV} {outs : List (AV × St)} (hs : sApp2 st k bytes a x = some outs) {ca cx : CV} {r : Option (CV × H)} (hr : r = appV k bytes ca cx h) (ha : ∀ w, Sat0 X w st env h → ca = den w a) (hx : ∀ w, Sat0 X w st env h → cx = den w x) : Post X v st env outs r := by
 have s0 := s.now
 unfold sApp2 at hs
 split at hs <;> (try (cases hs; done))
 rename_i k' b off i len cap R xl hsrc
 obtain ⟨m, hm, hxl, hRk, hnew⟩ := srcT_ok s hsrc hx
 split at hs <;> (try (cases hs; done))
 rename_i b' l ro hi hb hhi
 split at hs
 ·rename_i hg
  obtain ⟨rfl, g1, g2, g3, g4, g5, g6, g7, g8, g9, g10, g11⟩ := hg
  simp only [sI] at hs; subst hs
  have hkey := (s0.blk hb).2
  simp only [keyB] at hkey; subst hkey
  have h8 := leL_ok s0.fa g8
  have hup := hiC_ok s0.z s0.fa hhi
  have hmv := hxl v s0
  have hm1 : 1 ≤ m := by simp only [Lin.ev, s0.z] at h8 hmv; omega
  have hsz : m * (bytes + 1) ≤ 2 ^ 40 := Nat.le_trans (Nat.mul_le_mul_right _ (by omega)) g11
  obtain ⟨new, hcells, hrows⟩ := hnew m (Nat.le_refl _) (by omega)
  have hone : allOne new = true := rows_one g9 (hrows v s0)
  obtain ⟨cs0, hcs0, ho0⟩ := (s0.blk hb).1
  simp only [CtOK] at ho0
  have hcl : cs0.length = l.length := by rw [ho0, denL_length]
  have hca : ca = .slc k' (v.b b') off 0 (some 0) := by
   rw [ha v s0]
   have e1 : i.ev v = 0 := by simp only [Lin.ev, g1, g2, s0.z]; omega
   have e2 : len.ev v = 0 := by simp only [Lin.ev, g3, g4, s0.z]; omega
   have e3 : cap.ev v = 0 := by simp only [Lin.ev, g5, g6, s0.z]; omega
   simp only [den, e1, e2, e3, Int.toNat_zero, Nat.zero_mul, Nat.add_zero]
  refine Post.mk' (w := upB v st.n h.n) (c := .slc k' h.n 0 m none) (h' := h.push (.cells new false)) mS (agr_up _ _ _ _ _ _) (Nat.le_succ _) rfl s.pos ?_ (fun u hu => ?_)
  ·rw [hr, hca]
   have hlo : lenOf (CV.slc k' (v.b b') off 0 (some 0)) = some 0 := rfl
   simp only [appV, hlo, hm, Nat.zero_add, if_neg (show ¬ m = 0 by omega), if_neg (show ¬ m * (bytes + 1) > 2 ^ 40 by omega), hcells, hone, Bool.true_eq_false, if_false, ne_eq, not_true_eq_false, hcs0]
   rw [if_neg (by omega)]
   simp only [Nat.zero_mul, cut?, Nat.add_zero]
   rw [if_pos (by omega)]
   simp only [List.take_zero, List.nil_append]
  ·obtain ⟨hau, _, _, hbu, _⟩ := agr_up' hu
   have su := s.all u hau
   have hxu := hxl u su
   refine ⟨(su.wk' (st.n + 1)).push (q := .blk st.n (.rows k' R xl) false) (blk := .cells new false) (by simp only [adr, hbu]) ⟨new, by rw [hbu, get_push, if_pos rfl], g10, hRk, by rw [hxu]; omega, by rw [hxu, Int.toNat_natCast]; exact hrows u su⟩, ?_⟩
   simp only [den]
   rw [if_neg (by omega), hxu, hbu, Int.toNat_natCast]
 ·cases hs
def replT (R : List Ty) : Nat → List Ty
 | 0 => []
 | n + 1 => R ++ replT R n
theorem TyOKs_app {w : V} : ∀ {A B : List Ty} {a b : List CV}, TyOKs w A a → TyOKs w B b → TyOKs w (A ++ B) (a ++ b)
 | [], B, a, b, h1, h2 => by have : a = [] := h1; subst this; exact h2
 | T :: A, B, a, b, h1, h2 => by
  obtain ⟨c, cs, rfl, h3, h4⟩ := h1
  exact ⟨c, cs ++ b, rfl, h3, TyOKs_app h4 h2⟩
theorem rows_replT {w : V} {k : Nat} {R : List Ty} : ∀ (n : Nat) (cs : List CV), RowsOK w k R cs n → TyOKs w (replT R n) cs
 | 0, cs, h => h
 | n + 1, cs, ⟨h1, h2, h3⟩ => by
  have := TyOKs_app h2 (rows_replT n _ h3)
  rwa [List.take_append_drop] at this
def app3W (st : St) (k : Nat) (R : List Ty) (xl : Lin) (m : Nat) : AV × St :=
 (.vec k st.n xl, { st with n := (frTs (st.n + 1) (replT R m)).2.2, fa := [.dc xl.s 0 (m - xl.c), .dc 0 xl.s (xl.c - m)] ++ ((frTs (st.n + 1) (replT R m)).2.1 ++ st.fa), bl := .blk st.n (.cells (frTs (st.n + 1) (replT R m)).1) false :: st.bl })
def app3Ws (st : St) (k : Nat) (R : List Ty) (xl : Lin) : Nat → List (AV × St)
 | 0 => []
 | m + 1 => app3W st k R xl (m + 1) :: app3Ws st k R xl m
theorem app3Ws_mem {st : St} {k : Nat} {R : List Ty} {xl : Lin} : ∀ {n m : Nat}, 1 ≤ m → m ≤ n → app3W st k R xl m ∈ app3Ws st k R xl n
 | 0, m, h1, h2 => by omega
 | n + 1, m, h1, h2 => by
  by_cases h : m = n + 1
  ·subst h; exact mS
  ·exact mC _ (app3Ws_mem h1 (by omega))
def sApp3 (st : St) (k bytes : Nat) (s x : AV) : Option (List (AV × St)) :=
 match s, srcT st k x with
 | .slc k' b off i len cap, some (R, xl) => match lookB b st.bl, hiC st.fa xl with
  | some (.blk _ (.cells l) _), some hi =>
   if k' = k ∧ i.s = 0 ∧ i.c = 0 ∧ len.s = 0 ∧ len.c = 0 ∧ cap.s = 0 ∧ cap.c = 0 ∧ off ≤ l.length ∧ leL st.fa ⟨0, 1⟩ xl 0 = true ∧ lfTys R = true ∧ 2 ≤ k ∧ hi.toNat ≤ 4 ∧ hi.toNat * (bytes + 1) ≤ 2 ^ 40 then
    some (app3Ws st k R xl hi.toNat) else none
  | _, _ => none
 | _, _ => none
theorem sApp3ok (s : Sat X v st env h) {k bytes : Nat} {a x : AV} {outs : List (AV × St)} (hs : sApp3 st k bytes a x = some outs) {ca cx : CV} {r : Option (CV × H)} (hr : r = appV k bytes ca cx h) (ha : ∀ w, Sat0 X w st env h → ca = den w a) (hx : ∀ w, Sat0 X w st env h → cx = den w x) : Post X v st env outs r := by
 have s0 := s.now
 unfold sApp3 at hs
 split at hs <;> (try (cases hs; done))
 rename_i k' b off i len cap R xl hsrc
 obtain ⟨m, hm, hxl, hRk, hnew⟩ := srcT_ok s hsrc hx
 split at hs <;> (try (cases hs; done))
 rename_i b' l ro hi hb hhi
 split at hs
 ·rename_i hg
  obtain ⟨rfl, g1, g2, g3, g4, g5, g6, g7, g8, g9, g10, g12, g11⟩ := hg
  simp only [sI] at hs; subst hs
  have hkey := (s0.blk hb).2
  simp only [keyB] at hkey; subst hkey
  have h8 := leL_ok s0.fa g8
  have hup := hiC_ok s0.z s0.fa hhi
  have hmv := hxl v s0
  have hm1 : 1 ≤ m := by simp only [Lin.ev, s0.z] at h8 hmv; omega
  have hmh : m ≤ hi.toNat := by omega
  have hsz : m * (bytes + 1) ≤ 2 ^ 40 := Nat.le_trans (Nat.mul_le_mul_right _ hmh) g11
  obtain ⟨new, hcells, hrows⟩ := hnew m (Nat.le_refl _) (by omega)
  have hone : allOne new = true := rows_one g9 (hrows v s0)
  obtain ⟨cs0, hcs0, ho0⟩ := (s0.blk hb).1
  simp only [CtOK] at ho0
  have hcl : cs0.length = l.length := by rw [ho0, denL_length]
  have hca : ca = .slc k' (v.b b') off 0 (some 0) := by
   rw [ha v s0]
   have e1 : i.ev v = 0 := by simp only [Lin.ev, g1, g2, s0.z]; omega
   have e2 : len.ev v = 0 := by simp only [Lin.ev, g3, g4, s0.z]; omega
   have e3 : cap.ev v = 0 := by simp only [Lin.ev, g5, g6, s0.z]; omega
   simp only [den, e1, e2, e3, Int.toNat_zero, Nat.zero_mul, Nat.add_zero]
  have hup0 : ∀ w, Agr (st.n + 1) (upB v st.n h.n) w → Sat0 X w st env h ∧ w.b st.n = h.n := fun w hw => by
   obtain ⟨hau, _, _, hbu, _⟩ := agr_up' hw
   exact ⟨s.all w hau, hbu⟩
  obtain ⟨hle, w, hw, hall⟩ := frTs_ok (replT R m) (st.n + 1) (upB v st.n h.n) new (fun w hw => rows_replT m new (hrows w (hup0 w hw).1))
  refine Post.mk' (w := w) (c := .slc k' h.n 0 m none) (h' := h.push (.cells new false)) (app3Ws_mem hm1 hmh) ((agr_up _ _ _ _ _ _).trans hw (by omega)) (by show st.n ≤ (frTs (st.n + 1) (replT R m)).2.2; omega) rfl s.pos ?_ (fun u hu => ?_)
  ·rw [hr, hca]
   have hlo : lenOf (CV.slc k' (v.b b') off 0 (some 0)) = some 0 := rfl
   simp only [appV, hlo, hm, Nat.zero_add, if_neg (show ¬ m = 0 by omega), if_neg (show ¬ m * (bytes + 1) > 2 ^ 40 by omega), hcells, hone, Bool.true_eq_false, if_false, ne_eq, not_true_eq_false, hcs0]
   rw [if_neg (by omega)]
   simp only [Nat.zero_mul, cut?, Nat.add_zero]
   rw [if_pos (by omega)]
   simp only [List.take_zero, List.nil_append]
  ·have hu1 : Agr (frTs (st.n + 1) (replT R m)).2.2 w u := hu
   obtain ⟨hd, hfs⟩ := hall u hu1
   obtain ⟨su, hbu⟩ := hup0 u (hw.trans hu1 hle)
   have hxu := hxl u su
   have hz := su.z
   have h1 := su.push (q := .blk st.n (.cells (frTs (st.n + 1) (replT R m)).1) false) (blk := .cells new false) (by simp only [adr, hbu]) ⟨new, by rw [hbu, get_push, if_pos rfl], hd.symm⟩
   refine ⟨⟨h1.z, h1.env, fun f hf => ?_, h1.bl, h1.nd, h1.lt, h1.hn, h1.fr⟩, ?_⟩
   ·rcases List.mem_append.1 hf with hf | hf
    ·simp only [List.mem_cons, List.not_mem_nil, or_false] at hf
     simp only [Lin.ev] at hxu
     rcases hf with rfl | rfl <;> simp only [FOK] <;> omega
    ·rcases List.mem_append.1 hf with hf | hf
     ·exact hfs f hf
     ·exact su.fa f hf
   ·simp only [app3W, den]
    rw [if_neg (by omega), hxu, hbu, Int.toNat_natCast]
 ·cases hs
def ptrForks (st1 : St) (b off k : Nat) (t : Lin) : Nat → Nat → List (AV × St)
 | _, 0 => []
 | j, c + 1 => if badJ st1.fa t j then ptrForks st1 b off k t (j + 1) c else (.ptr b (off + j * k), { st1 with fa := [.dc t.s 0 (j - t.c), .dc 0 t.s (t.c - j)] ++ st1.fa }) :: ptrForks st1 b off k t (j + 1) c
theorem ptrForks_mem {st1 : St} {b off k : Nat} {t : Lin} : ∀ {c j0 j : Nat}, j0 ≤ j → j < j0 + c → badJ st1.fa t j = false → (AV.ptr b (off + j * k), ({ st1 with fa := [.dc t.s 0 (j - t.c), .dc 0 t.s (t.c - j)] ++ st1.fa } : St)) ∈ ptrForks st1 b off k t j0 c
 | 0, j0, j, h1, h2, _ => by omega
 | c + 1, j0, j, h1, h2, hb => by
  simp only [ptrForks]
  by_cases h : j = j0
  ·subst h; simp only [hb, Bool.false_eq_true, if_false]; exact mS
  ·split
   ·exact ptrForks_mem (by omega) (by omega) hb
   ·exact mC _ (ptrForks_mem (by omega) (by omega) hb)
def isCells (st : St) (b : Nat) : Bool := match lookB b st.bl with
 | some (.blk _ (.cells _) _) => true
 | _ => false
def iaFork : AV × St → List (AV × St)
 | (.iptr b off k t, st1) => match hiC st1.fa t with
  | some hi => if leL st1.fa ⟨0, 0⟩ t 0 = true ∧ hi ≤ 3 ∧ isCells st1 b = true ∧ 2 ≤ k then ptrForks st1 b off k t 0 (hi.toNat + 1) else [(.iptr b off k t, st1)]
  | none => [(.iptr b off k t, st1)]
 | o => [o]
theorem post_iaFork {outs : List (AV × St)} {r : Option (CV × H)} (p : Post X v st env outs r) : Post X v st env (outs.flatMap iaFork) r := by
 obtain ⟨o, ho, w, hw, hn, he, c, h', hr, sat, hd⟩ := p
 have keep : o ∈ iaFork o → Post X v st env (outs.flatMap iaFork) r := fun hm => ⟨o, List.mem_flatMap.2 ⟨o, ho, hm⟩, w, hw, hn, he, c, h', hr, sat, hd⟩
 obtain ⟨a, st1⟩ := o
 cases a <;> try exact keep mS
 rename_i b off k t
 simp only [iaFork] at keep
 split at keep
 ·rename_i hi hhi
  split at keep
  ·rename_i hg
   obtain ⟨g1, g2, g3, g4⟩ := hg
   have s0 := sat.now
   have z := s0.z
   have h1 := leL_ok s0.fa g1
   have h2 := hiC_ok z s0.fa hhi
   have h0 : 0 ≤ t.ev w := by simp only [Lin.ev, z] at h1 ⊢; omega
   have hbad : badJ st1.fa t (t.ev w).toNat = false := by
    cases hb : badJ st1.fa t (t.ev w).toNat with
    | false => rfl
    | true =>
     simp only [badJ, Bool.or_eq_true] at hb
     rcases hb with hb | hb <;> (have := leL_ok s0.fa hb; simp only [Lin.ev, z] at this h0; omega)
   have hm := ptrForks_mem (st1 := st1) (b := b) (off := off) (k := k) (t := t) (c := hi.toNat + 1) (j0 := 0) (j := (t.ev w).toNat) (by omega) (by omega) hbad
   have hsame : ∀ u, Agr st1.n w u → t.ev u = t.ev w := fun u hu => by
    have e1 := hd u hu
    have e2 := hd w (Agr.refl _ _)
    rw [← e2] at e1
    simp only [den, CV.ptr.injEq] at e1
    have su := sat.all u hu
    have h3 := leL_ok su.fa g1
    simp only [Lin.ev, su.z, z] at h3 h1
    have hk : (t.ev u).toNat * k = (t.ev w).toNat * k := by omega
    have hk' := Nat.eq_of_mul_eq_mul_right (show 0 < k by omega) hk
    simp only [Lin.ev] at hk' ⊢; omega
   refine ⟨(AV.ptr b (off + (t.ev w).toNat * k), ({ st1 with fa := [.dc t.s 0 ((t.ev w).toNat - t.c), .dc 0 t.s (t.c - (t.ev w).toNat)] ++ st1.fa } : St)), List.mem_flatMap.2 ⟨_, ho, ?_⟩, w, hw, hn, he, c, h', hr, ⟨sat.pos, fun u hu => ?_⟩, fun u hu => ?_⟩
   ·simp only [iaFork, hhi]
    rw [if_pos ⟨g1, g2, g3, g4⟩]
    exact hm
   ·have su := sat.all u hu
    refine ⟨su.z, su.env, fun f hf => ?_, su.bl, su.nd, su.lt, su.hn, su.fr⟩
    rcases List.mem_append.1 hf with hf | hf
    ·have hsm := hsame u hu
     have hz := su.z
     simp only [List.mem_cons, List.not_mem_nil, or_false] at hf
     simp only [Lin.ev] at hsm h0
     rcases hf with rfl | rfl <;> simp only [FOK] <;> (simp only [Lin.ev]; omega)
    ·exact su.fa f hf
   ·have e1 := hd u hu
    rw [← e1]
    simp only [den, hsame u hu]
  ·exact keep mS
 ·exact keep mS
end
end
end Ce.S
namespace Ce.S
noncomputable section
open Go
section
variable {X : Cx} {v : V} {st : St} {env : List CV} {h : H}
def op? (st : St) : Option Opd → Option (Option AV)
 | none => some none
 | some o => (opA st.env o).map some
theorem op?_ok {w : V} (sw : Sat0 X w st env h) {o : Option Opd} {a : Option AV} (ha : op? st o = some a) : Opd.evo env o = a.map (den w) := by
 cases o with
 | none => simp only [op?, sI] at ha; subst ha; rfl
 | some o =>
  simp only [op?, Option.map_eq_some_iff] at ha
  obtain ⟨x, hx, rfl⟩ := ha
  simp only [Opd.evo, sw.op hx, Option.map_some]
def isShift : BinOp → Bool
 | .shl | .shr => true
 | _ => false
def nilOK : AV → Bool
 | .ptr _ _ | .iptr _ _ _ _ | .clo _ _ _ | .rptr _ => true
 | _ => false
def sO (o : Ins) (st : St) : Option (List (AV × St)) :=
 match o with
 | .mov x => (opA st.env x).map fun a => [(a, st)]
 | .pick c a b => match opA st.env c, opA st.env a, opA st.env b with
  | some c, some a, some b => sPick st c a b
  | _, _, _ => none
 | .alloc z => sAlloc st z
 | .box x => match opA st.env x with
  | some a => sBox st a
  | none => none
 | .build z ps => match ofCVs z with
  | some l => (fillA st l ps).map fun c => [(.agg c, st)]
  | none => none
 | .bsl k z len ps => sBsl st k z len ps
 | .ld g a => match opA st.env a with
  | some a => sLd st g a
  | none => none
 | .st n a x => match opA st.env a, opA st.env x with
  | some a, some x => sSt st n a x
  | _, _ => none
 | .nilck x => match opA st.env x with
  | some a => if nilOK a then some [(a, st)] else none
  | none => none
 | .bin op x y => match opA st.env x, opA st.env y with
  | some (.int k s c), some (.int k' s' c') => if isShift op then sShift op k ⟨s, c⟩ ⟨s', c'⟩ st else if k = k' then sBin op k ⟨s, c⟩ ⟨s', c'⟩ st else none
  | _, _ => none
 | .eqo neg e x y => match opA st.env x, opA st.env y with
  | some a, some b => sEq neg e a b st
  | _, _ => none
 | .un op x => match opA st.env x with
  | some a => sUn op a st
  | none => none
 | .cvi k x => match opA st.env x with
  | some (.int _ s c) => some [wrapI st k (some ⟨s, c⟩) []]
  | _ => none
 | .mkf f a b => match opsA st.env a, opsA st.env b with
  | some a, some b => some [(.clo f a b, st)]
  | _, _ => none
 | .mkmap => some (sMkmap st)
 | .mksl k bytes z l c => match opA st.env l, opA st.env c with
  | some l, some c => sMksl st k bytes z l c
  | _, _ => none
 | .slA n k x lo hi mx => match opA st.env x, op? st lo, op? st hi, op? st mx with
  | some x, some lo, some hi, some mx => sSlA st n k x lo hi mx
  | _, _, _, _ => none
 | .slS k x lo hi mx => match opA st.env x, op? st lo, op? st hi, op? st mx with
  | some x, some lo, some hi, some mx => sSlS st k x lo hi mx
  | _, _, _, _ => none
 | .fad off x => match opA st.env x with
  | some (.ptr b o) => some [(.ptr b (o + off), st)]
  | some (.iptr b o k i) => some [(.iptr b (o + off) k i, st)]
  | some (.rptr c) => some [(.rptr (c.drop off), st)]
  | _ => none
 | .fld off g x => match opA st.env x with
  | some (.agg l) => (ofAgA st.fa g l off).map fun a => [(a, st)]
  | _ => none
 | .iaS k x i => match opA st.env x, opA st.env i with
  | some x, some i => (sIaS st k x i).map fun outs => outs.flatMap iaFork
  | _, _ => none
 | .iaA n k x i => match opA st.env x, opA st.env i with
  | some x, some i => sIaA st n k x i
  | _, _ => none
 | .ixA n k g x i => match opA st.env x, opA st.env i with
  | some x, some i => sIxA st n k g x i
  | _, _ => none
 | .lku ag ls z x i ok => match opA st.env x, opA st.env i with
  | some x, some i => sLku st ag ls z x i ok
  | _, _ => none
 | .mset ag ls m k x => match opA st.env m, opA st.env k, opA st.env x with
  | some m, some k, some x => sMset st ag ls m k x
  | _, _, _ => none
 | .ext t i => match opA st.env t with
  | some (.tup l) => (nthA l i).map fun a => [(a, st)]
  | _ => none
 | .app k bytes s x => match opA st.env s, opA st.env x with
  | some s, some x => match sApp3 st k bytes s x with
   | some r => some r
   | none => match sApp st k bytes s x with
    | some r => some r
    | none => sApp2 st k bytes s x
  | _, _ => none
 | .lenS x => match opA st.env x with
  | some a => sLen a st
  | none => none
 | .lenA n => some [(.int .i64 0 n, st)]
 | .cpy k d s => match opA st.env d, opA st.env s with
  | some d, some s => sCpy st k d s
  | _, _ => none
 | .mn xs => match opsA st.env xs with
  | some l => sMn l st
  | none => none
 | .mx xs => match opsA st.env xs with
  | some l => sMx l st
  | none => none
 | .ckl g a x => match opA st.env a, opA st.env x with
  | some a, some x => sCkl st g a x
  | _, _ => none
 | .cku ag ls z x i ok d => match opA st.env x, opA st.env i, opA st.env d with
  | some x, some i, some d => sCku st ag ls z x i ok d
  | _, _, _ => none
 | _ => none
theorem sO_ok (s : Sat X v st env h) {o : Ins} {outs : List (AV × St)} (hs : sO o st = some outs) : Post X v st env outs (stepO noC o env h) := by
 have s0 := s.now
 cases o <;> simp only [sO] at hs <;> (try (cases hs; done))
 case mov x =>
  simp only [Option.map_eq_some_iff] at hs
  obtain ⟨a, ha, rfl⟩ := hs
  exact post_pure s fun w sw => by simp only [stepO, sw.op ha]
 case pick c a b =>
  split at hs <;> (try (cases hs; done))
  rename_i c' a' b' h1 h2 h3
  exact sPick_ok s hs (by simp only [stepO]; rfl) (fun w z e => by rw [e]; exact opA_den z h1) (fun w z e => by rw [e]; exact opA_den z h2) (fun w z e => by rw [e]; exact opA_den z h3)
 case alloc z => exact sAlloc_ok s hs rfl
 case box x =>
  split at hs <;> (try (cases hs; done))
  rename_i a ha
  exact sBox_ok s hs rfl (fun w sw => sw.op ha)
 case build z ps =>
  split at hs <;> (try (cases hs; done))
  rename_i l hl
  simp only [Option.map_eq_some_iff] at hs
  obtain ⟨c, hc, rfl⟩ := hs
  exact post_pure s fun w sw => by
   have := fillA_ok sw ps l c hc
   rw [ofCVs_den sw.z z l hl] at this
   simp only [stepO, this, den]
 case bsl k z len ps => exact sBsl_ok s hs rfl
 case ld g a =>
  split at hs <;> (try (cases hs; done))
  rename_i a' ha
  exact sLd_ok s hs (fun w sw => sw.op ha) rfl
 case st n a x =>
  split at hs <;> (try (cases hs; done))
  rename_i a' x' ha hx
  exact sSt_ok s hs (fun w sw => sw.op ha) (fun w sw => sw.op hx) rfl
 case nilck x =>
  split at hs <;> (try (cases hs; done))
  rename_i a ha
  split at hs
  ·rename_i hn
   simp only [sI] at hs; subst hs
   refine post_pure s fun w sw => ?_
   simp only [stepO, sw.op ha]
   cases a <;> first | rfl | (simp [nilOK] at hn)
  ·cases hs
 case bin op x y =>
  split at hs <;> (try (cases hs; done))
  rename_i k s1 c k' s2 c' h1 h2
  have e1 : ∀ w, Sat0 X w st env h → x.ev env = .int k ((⟨s1, c⟩ : Lin).ev w) := fun w sw => sw.op h1
  have e2 : ∀ w, Sat0 X w st env h → y.ev env = .int k' ((⟨s2, c'⟩ : Lin).ev w) := fun w sw => sw.op h2
  have f1 : ∀ w, Sat0 X w st env h → (⟨s1, c⟩ : Lin).ev w = (⟨s1, c⟩ : Lin).ev v := fun w sw => by
   have := e1 w sw; rw [e1 v s0] at this; simp only [CV.int.injEq, true_and] at this; exact this.symm
  have f2 : ∀ w, Sat0 X w st env h → (⟨s2, c'⟩ : Lin).ev w = (⟨s2, c'⟩ : Lin).ev v := fun w sw => by
   have := e2 w sw; rw [e2 v s0] at this; simp only [CV.int.injEq, true_and] at this; exact this.symm
  split at hs
  ·rename_i hsh
   refine sShift_ok s hs f1 f2 ?_
   simp only [stepO, e1 v s0, e2 v s0]
   cases op <;> first | (simp [isShift] at hsh; done) | rfl
  ·rename_i hsh
   split at hs
   ·rename_i hk; subst hk
    refine sBin_ok s hs f1 f2 ?_
    simp only [stepO, e1 v s0, e2 v s0]
    cases op <;> first | (simp only [Ce.bin, if_true]; done) | (simp only [Ce.bin, if_true]; rfl) | (exact absurd rfl hsh)
   ·cases hs
 case eqo neg e x y =>
  split at hs <;> (try (cases hs; done))
  rename_i a b h1 h2
  exact sEq_ok s hs (fun w sw => sw.op h1) (fun w sw => sw.op h2) rfl
 case un op x =>
  split at hs <;> (try (cases hs; done))
  rename_i a ha
  exact sUn_ok s hs (fun w sw => sw.op ha) rfl
 case cvi k x =>
  split at hs <;> (try (cases hs; done))
  rename_i k1 s1 c1 ha
  simp only [sI] at hs; subst hs
  have e1 : ∀ w, Sat0 X w st env h → x.ev env = .int k1 ((⟨s1, c1⟩ : Lin).ev w) := fun w sw => sw.op ha
  refine post_wrapI s (m := (⟨s1, c1⟩ : Lin).ev v) (by simp only [stepO, e1 v s0]) (fun w l' hl sw => ?_) (fun w sw hn f hf => by cases hf)
  simp only [sI] at hl; subst hl
  have := e1 w sw; rw [e1 v s0] at this; simp only [CV.int.injEq, true_and] at this; exact this.symm
 case mkf f a b =>
  split at hs <;> (try (cases hs; done))
  rename_i a' b' ha hb
  simp only [sI] at hs; subst hs
  exact post_pure s fun w sw => by simp only [stepO, sw.ops ha, sw.ops hb, den]
 case mkmap =>
  simp only [sI] at hs; subst hs
  exact sMkmap_ok s rfl
 case mksl k bytes z l c =>
  split at hs <;> (try (cases hs; done))
  rename_i l' c' hl hc
  exact sMksl_ok s hs rfl (fun w sw => sw.op hl) (fun w sw => sw.op hc)
 case slA n k x lo hi mx =>
  split at hs <;> (try (cases hs; done))
  rename_i x' lo' hi' mx' hx h1 h2 h3
  exact sSlA_ok s hs rfl (fun w sw => sw.op hx) (fun w sw => op?_ok sw h1) (fun w sw => op?_ok sw h2) (fun w sw => op?_ok sw h3)
 case slS k x lo hi mx =>
  split at hs <;> (try (cases hs; done))
  rename_i x' lo' hi' mx' hx h1 h2 h3
  exact sSlS_ok s hs rfl (fun w sw => sw.op hx) (fun w sw => op?_ok sw h1) (fun w sw => op?_ok sw h2) (fun w sw => op?_ok sw h3)
 case fad off x =>
  split at hs <;> (try (cases hs; done))
  ·rename_i b o ha
   simp only [sI] at hs; subst hs
   exact post_pure s fun w sw => by simp only [stepO, sw.op ha, den]
  ·rename_i b o k i ha
   simp only [sI] at hs; subst hs
   exact post_pure s fun w sw => by simp only [stepO, sw.op ha, den]; rw [show o + (i.ev w).toNat * k + off = o + off + (i.ev w).toNat * k by omega]
  ·rename_i c ha
   simp only [sI] at hs; subst hs
   exact post_pure s fun w sw => by simp only [stepO, sw.op ha, den, denL_drop]
 case fld off g x =>
  split at hs <;> (try (cases hs; done))
  rename_i l ha
  simp only [Option.map_eq_some_iff] at hs
  obtain ⟨a, h1, rfl⟩ := hs
  exact post_pure s fun w sw => by simp only [stepO, sw.op ha, den, ofAgA_ok sw.fa h1]
 case iaS k x i =>
  split at hs <;> (try (cases hs; done))
  rename_i x' i' h1 h2
  simp only [Option.map_eq_some_iff] at hs
  obtain ⟨o1, hs1, rfl⟩ := hs
  exact post_iaFork (sIaS_ok s hs1 (fun w sw => sw.op h1) (fun w sw => sw.op h2) rfl)
 case iaA n k x i =>
  split at hs <;> (try (cases hs; done))
  rename_i x' i' h1 h2
  exact sIaA_ok s hs (fun w sw => sw.op h1) (fun w sw => sw.op h2) rfl
 case ixA n k g x i =>
  split at hs <;> (try (cases hs; done))
  rename_i x' i' h1 h2
  exact sIxA_ok s hs (fun w sw => sw.op h1) (fun w sw => sw.op h2) rfl
 case lku ag ls z x i ok =>
  split at hs <;> (try (cases hs; done))
  rename_i x' i' h1 h2
  exact sLku_ok s hs rfl (fun w sw => sw.op h1) (fun w sw => sw.op h2)
 case mset ag ls m k x =>
  split at hs <;> (try (cases hs; done))
  rename_i m' k' x' h1 h2 h3
  exact sMset_ok s hs rfl (fun w z e => by rw [e]; exact opA_den z h1) (fun w z e => by rw [e]; exact opA_den z h2) (fun w z e => by rw [e]; exact opA_den z h3)
 case ext t i =>
  split at hs <;> (try (cases hs; done))
  rename_i l ha
  simp only [Option.map_eq_some_iff] at hs
  obtain ⟨a, h1, rfl⟩ := hs
  exact post_pure s fun w sw => by simp only [stepO, sw.op ha, den, nthA_den h1]
 case app k bytes x y =>
  split at hs <;> (try (cases hs; done))
  rename_i x' y' h1 h2
  split at hs
  ·rename_i r hr
   simp only [sI] at hs; subst hs
   exact sApp3ok s hr rfl (fun w sw => sw.op h1) (fun w sw => sw.op h2)
  ·split at hs
   ·rename_i r hr
    simp only [sI] at hs; subst hs
    exact sApp_ok s hr rfl (fun w sw => sw.op h1) (fun w sw => sw.op h2)
   ·exact sApp2ok s hs rfl (fun w sw => sw.op h1) (fun w sw => sw.op h2)
 case lenS x =>
  split at hs <;> (try (cases hs; done))
  rename_i a ha
  exact sLen_ok s hs (fun w sw => sw.op ha) rfl
 case lenA n =>
  simp only [sI] at hs; subst hs
  exact post_pure s fun w sw => by simp only [stepO, den, sw.z, Int.zero_add]
 case cpy k d x =>
  split at hs <;> (try (cases hs; done))
  rename_i x' y' h1 h2
  exact sCpy_ok s hs rfl (fun w sw => sw.op h1) (fun w sw => sw.op h2)
 case mn xs =>
  split at hs <;> (try (cases hs; done))
  rename_i l hl
  exact sMn_ok s hs (fun w sw => sw.ops hl) rfl
 case mx xs =>
  split at hs <;> (try (cases hs; done))
  rename_i l hl
  exact sMx_ok s hs (fun w sw => sw.ops hl) rfl
 case ckl g a x =>
  split at hs <;> (try (cases hs; done))
  rename_i x' y' h1 h2
  exact sCkl_ok s hs rfl (fun w sw => sw.op h1) (fun w sw => sw.op h2)
 case cku ag ls z x i ok d =>
  split at hs <;> (try (cases hs; done))
  rename_i x' i' d' h1 h2 h3
  exact sCku_ok s hs rfl (fun w sw => sw.op h1) (fun w sw => sw.op h2) (fun w sw => sw.op h3)
def widT : Ty → Ty
 | .int k _ _ => full k
 | T => T
def widR (lo hi : Nat) : Nat → List Ty → List Ty
 | _, [] => []
 | i, T :: Ts => (if lo ≤ i ∧ i < hi then widT T else T) :: widR lo hi (i + 1) Ts
theorem widR_len (lo hi : Nat) : ∀ (i : Nat) (R : List Ty), (widR lo hi i R).length = R.length
 | _, [] => rfl
 | i, T :: Ts => by simp only [widR, List.length_cons, widR_len lo hi (i + 1) Ts]
def widB (st : St) (b lo hi : Nat) : St := match lookB b st.bl with
 | some (.blk b' (.rows k R n) ro) => if stys st.fa R (widR lo hi 0 R) then { st with bl := modB b [.blk b' (.rows k (widR lo hi 0 R) n) ro] st.bl } else st
 | some (.vec b' k R n ro) => if stys st.fa R (widR lo hi 0 R) then { st with bl := modB b [.vec b' k (widR lo hi 0 R) n ro] st.bl } else st
 | _ => st
theorem rows_weak {w : V} {k : Nat} {R R2 : List Ty} (hR : ∀ c, TyOKs w R c → TyOKs w R2 c) : ∀ (n : Nat) (cs : List CV), RowsOK w k R cs n → RowsOK w k R2 cs n
 | 0, _, h => h
 | n + 1, _, ⟨h1, h2, h3⟩ => ⟨h1, hR _ h2, rows_weak hR n _ h3⟩
theorem widB_ok (s : Sat X v st env h) (b lo hi : Nat) : Sat X v (widB st b lo hi) env h := by
 have one : ∀ (p q : BE), lookB b st.bl = some p → (∀ w, Sat0 X w st env h → BOK w h q) → (∀ w, adr w q = adr w p) → (∀ w, (adr w p).Nodup) → Sat X v { st with bl := modB b [q] st.bl } env h := by
  intro p q hl hq ha hnd
  refine ⟨s.pos, fun u hu => ?_⟩
  have su := s.all u hu
  obtain ⟨_, l1, l2, hbl, hm⟩ := lookB_ok hl
  have := su.upd (l1 := l1) (P := [p]) (P' := [q]) (l2 := l2) (h' := h) hbl (Nat.le_refl _) (fun j _ _ => rfl) (fun r hr => by
   simp only [List.mem_singleton] at hr; subst hr; exact hq u su) (by simpa [ha] using hnd u) (fun a hm => .inl (by simpa [ha] using hm))
  rw [← hm] at this
  exact this
 unfold widB
 split
 ·rename_i b' k R n ro hl
  split
  ·rename_i hst
   refine one _ _ hl (fun w sw => ?_) (fun w => rfl) (fun w => by simp [adr])
   obtain ⟨cs, h1, h2, h3, h4, h5⟩ := (sw.blk hl).1
   exact ⟨cs, h1, h2, by rw [widR_len]; exact h3, h4, rows_weak (fun c => stys_ok sw.fa _ _ hst c) _ _ h5⟩
  ·exact s
 ·rename_i b' k R n ro hl
  split
  ·rename_i hst
   refine one _ _ hl (fun w sw => ?_) (fun w => rfl) (fun w => by simp only [adr]; split <;> simp)
   rcases (sw.blk hl).1 with h0 | ⟨cs, h1, h2, h3, h4, h5⟩
   ·exact .inl h0
   ·exact .inr ⟨cs, h1, h2, by rw [widR_len]; exact h3, h4, rows_weak (fun c => stys_ok sw.fa _ _ hst c) _ _ h5⟩
  ·exact s
 ·exact s
theorem widB_n (st : St) (b lo hi : Nat) : (widB st b lo hi).n = st.n ∧ (widB st b lo hi).env = st.env := by
 unfold widB
 split
 ·split <;> exact ⟨rfl, rfl⟩
 ·split <;> exact ⟨rfl, rfl⟩
 ·exact ⟨rfl, rfl⟩
def dstB (n : Nat) : AV → Option (Nat × Nat × Nat)
 | .slc k b _ _ _ _ => some (b, 0, k)
 | .vec k b _ => some (b, 0, k)
 | .iptr b off _ _ => some (b, off, off + n)
 | _ => none
def wrB (o : Ins) (st : St) : Option (Nat × Nat × Nat) := match o with
 | .st n a _ => (opA st.env a).bind (dstB n)
 | .cpy _ d _ => (opA st.env d).bind (dstB 0)
 | .app _ _ d _ => (opA st.env d).bind (dstB 0)
 | _ => none
def sOw (o : Ins) (st : St) : Option (List (AV × St)) := match sO o st with
 | some r => some r
 | none => match wrB o st with
  | some (b, lo, hi) => sO o (widB st b lo hi)
  | none => none
theorem sOw_ok (s : Sat X v st env h) {o : Ins} {outs : List (AV × St)} (hs : sOw o st = some outs) : Post X v st env outs (stepO noC o env h) := by
 unfold sOw at hs
 split at hs
 ·rename_i r hr
  simp only [sI] at hs; subst hs
  exact sO_ok s hr
 ·split at hs
  ·rename_i b lo hi _
   have := sO_ok (widB_ok s b lo hi) hs
   obtain ⟨o', ho, w, hw, hn, he, rest⟩ := this
   obtain ⟨e1, e2⟩ := widB_n st b lo hi
   rw [e1] at hw hn; rw [e2] at he
   exact ⟨o', ho, w, hw, hn, he, rest⟩
  ·cases hs
end
end
end Ce.S
namespace Ce.S
noncomputable section
open Go
def chkPre (fa : List Fact) (s : Nat) (i : Lin) (R : List Ty) : List Fact → Bool
 | [] => false
 | .pre s' i' R' :: r => (s' == s && stys fa R' R && (eqLin fa i' i || (leL fa i i' 1 && chkRow fa s i' R fa))) || chkPre fa s i R r
 | _ :: r => chkPre fa s i R r
where
 chkRow (fa : List Fact) (s : Nat) (i : Lin) (R : List Ty) : List Fact → Bool
 | [] => false
 | .row s' i' cs :: r => (s' == s && eqLin fa i' i && tyAs fa R cs) || chkRow fa s i R r
 | _ :: r => chkRow fa s i R r
def chkF (fa : List Fact) (θ : Sub) : Fact → Bool
 | .dc x y c => leL fa (θ.iL x) (θ.iL y) c
 | .ty s T => tyA fa (subT θ T) (θ.cA s)
 | .len s t => match θ.cA s with
  | .sym s' => match lenF s' fa with
   | some t' => eqLin fa ⟨t', 0⟩ (θ.iL t)
   | none => false
  | .nils => eqLin fa ⟨0, 0⟩ (θ.iL t)
  | .lrows rows _ => eqLin fa ⟨0, rows.length⟩ (θ.iL t)
  | _ => false
 | .row _ _ _ => false
 | .ixd _ _ => false
 | .sum _ _ _ _ => false
 | .pre s i R => match θ.cA s with
  | .sym s' => leL fa (subN θ i) ⟨0, 0⟩ 0 || chkPre fa s' (subN θ i) (subTs θ R) fa
  | .nils => true
  | _ => false
theorem chkRow_ok {w : V} {fa : List Fact} (z : w.i 0 = 0) (hf : ∀ f, f ∈ fa → FOK w f) {s : Nat} {i : Lin} {R : List Ty} : ∀ {l : List Fact}, (∀ f, f ∈ l → FOK w f) → chkPre.chkRow fa s i R l = true → 0 ≤ i.ev w ∧ ∃ rows ex r, w.c s = .lst rows ex ∧ nth? rows (i.ev w).toNat = some r ∧ TyOKs w R r := by
 intro l
 induction l with
 | nil => intro _ h; cases h
 | cons f r ih =>
  intro hl h
  have hrest := ih (fun f hm => hl f (mC _ hm))
  have h0 := hl f (mS)
  cases f with
  | row s' i' cs =>
   simp only [chkPre.chkRow, Bool.or_eq_true, aT, beq_iff_eq] at h
   rcases h with ⟨⟨rfl, h1⟩, h2⟩ | h
   ·have e := eqLin_ok hf h1
    obtain ⟨q1, rows, ex, q2, q3⟩ := h0
    rw [e] at q1 q3
    exact ⟨q1, rows, ex, _, q2, q3, tyAs_ok z hf _ _ h2⟩
   ·exact hrest h
  | _ => exact hrest h
theorem chkPre_ok {w : V} {fa : List Fact} (z : w.i 0 = 0) (hf : ∀ f, f ∈ fa → FOK w f) {s : Nat} {i : Lin} {R : List Ty} : ∀ {l : List Fact}, (∀ f, f ∈ l → FOK w f) → chkPre fa s i R l = true → FOK w (.pre s i R) := by
 intro l
 induction l with
 | nil => intro _ h; cases h
 | cons f r ih =>
  intro hl h
  have hrest := ih (fun f hm => hl f (mC _ hm))
  have h0 := hl f (mS)
  cases f with
  | pre s' i' R' =>
   simp only [chkPre, Bool.or_eq_true, aT, beq_iff_eq] at h
   rcases h with ⟨⟨rfl, h1⟩, h2⟩ | h
   ·simp only [FOK] at h0 ⊢
    intro rows ex hr j r hn hj
    rcases h2 with h2 | ⟨h2, h3⟩
    ·have e := eqLin_ok hf h2
     exact stys_ok hf _ _ h1 r (h0 rows ex hr j r hn (by omega))
    ·have e := leL_ok hf h2
     by_cases hlt : (j : Int) < i'.ev w
     ·exact stys_ok hf _ _ h1 r (h0 rows ex hr j r hn hlt)
     ·obtain ⟨q1, rows', ex', r', q2, q3, q4⟩ := chkRow_ok z hf hf h3
      rw [hr] at q2; cases q2
      have hj' : j = (i'.ev w).toNat := by omega
      rw [hj', q3, sI] at hn; subst hn
      exact q4
   ·exact hrest h
  | _ => exact hrest h
theorem chkF_ok {w : V} {fa : List Fact} (z : w.i 0 = 0) (hf : ∀ f, f ∈ fa → FOK w f) {θ : Sub} {f : Fact} (h : chkF fa θ f = true) : FOK (w.comp θ) f := by
 cases f with
 | dc x y c => exact leL_ok hf h
 | ty s T =>
  simp only [chkF] at h
  simp only [FOK]
  exact (subT_ok w θ T _).1 (tyA_ok z hf _ _ h)
 | len s t =>
  simp only [chkF] at h
  simp only [FOK, V.comp]
  split at h <;> (try (cases h; done))
  ·rename_i s' he
   split at h
   ·rename_i t' ht
    obtain ⟨n, hn, hi⟩ := lenF_ok hf ht
    have e := eqLin_ok hf h
    simp only [Lin.ev] at e ⊢
    exact ⟨n, by rw [he]; exact hn, by omega⟩
   ·cases h
  ·rename_i he
   have e := eqLin_ok hf h
   simp only [Lin.ev, z] at e ⊢
   exact ⟨0, by rw [he]; rfl, by omega⟩
  ·rename_i rows ex he
   have e := eqLin_ok hf h
   simp only [Lin.ev, z] at e ⊢
   exact ⟨rows.length, by rw [he]; simp only [den, lenCV, denR_eq_map, List.length_map], by omega⟩
 | row s i cs => cases h
 | ixd fw bw => cases h
 | sum a b t c => cases h
 | pre s i R =>
  simp only [chkF] at h
  split at h <;> (try (cases h; done))
  ·rename_i s' he
   simp only [Bool.or_eq_true] at h
   have hc : (w.comp θ).c s = w.c s' := by simp only [V.comp, he, den]
   simp only [FOK]
   rcases h with h | h
   ·have e := leL_ok hf h
    rw [subN_ev] at e
    simp only [Lin.ev, z] at e
    intro rows ex _ j r _ hj
    simp only [Lin.ev] at hj; omega
   ·have := chkPre_ok z hf hf h
    simp only [FOK] at this
    rw [hc]
    intro rows ex hr j r hn hj
    rw [← subN_ev] at hj
    exact (subTs_ok w θ R r).1 (this rows ex hr j r hn hj)
  ·rename_i he
   simp only [FOK, V.comp, he, den]
   intro rows ex hr; cases hr
def chkFs (fa : List Fact) (θ : Sub) : List Fact → Bool
 | [] => true
 | f :: r => chkF fa θ f && chkFs fa θ r
theorem chkFs_ok {w : V} {fa : List Fact} (z : w.i 0 = 0) (hf : ∀ f, f ∈ fa → FOK w f) {θ : Sub} : ∀ {l : List Fact}, chkFs fa θ l = true → ∀ f, f ∈ l → FOK (w.comp θ) f := by
 intro l
 induction l with
 | nil => intro _ f h; cases h
 | cons x r ih =>
  intro h f hm
  simp only [chkFs, aT] at h
  rcases List.mem_cons.1 hm with rfl | hm
  ·exact chkF_ok z hf h.1
  ·exact ih h.2 f hm
def rowsChk (fa : List Fact) (k : Nat) (R : List Ty) (n : Lin) : Ct → Bool
 | .rows k' R' n' => k' == k && stys fa R' R && eqLin fa n' n
 | .cells l => decide (0 < k) && R.length == k && decide ((l.length / k) * k = l.length) && eqLin fa n ⟨0, (l.length / k : Nat)⟩ && tyAR fa R (chunkA k (l.length / k) l)
theorem rowsChk_ok {w : V} {fa : List Fact} (z : w.i 0 = 0) (hf : ∀ f, f ∈ fa → FOK w f) {k : Nat} {R : List Ty} {n : Lin} {ct : Ct} {cs : List CV} (h : rowsChk fa k R n ct = true) (hc : CtOK w cs ct) : CtOK w cs (.rows k R n) := by
 cases ct with
 | rows k' R' n' =>
  simp only [rowsChk, aT, beq_iff_eq] at h
  obtain ⟨⟨rfl, h1⟩, h2⟩ := h
  obtain ⟨q1, q2, q3, q4⟩ := hc
  have e := eqLin_ok hf h2
  have go : ∀ (m : Nat) (cs : List CV), RowsOK w k' R' cs m → RowsOK w k' R cs m := by
   intro m
   induction m with
   | zero => intro cs h; exact h
   | succ m ih => intro cs h; exact ⟨h.1, stys_ok hf _ _ h1 _ h.2.1, ih _ h.2.2⟩
  have hl : R.length = R'.length := by
   have : ∀ {A B : List Ty}, stys fa A B = true → B.length = A.length := by
    intro A
    induction A with
    | nil => intro B hs; cases B with
     | nil => rfl
     | cons b B => cases hs
    | cons a A ih => intro B hs; cases B with
     | nil => cases hs
     | cons b B => simp only [stys, aT] at hs; simp only [List.length_cons, ih hs.2]
   exact this h1
  exact ⟨q1, by omega, by omega, by rw [← e]; exact go _ _ q4⟩
 | cells l =>
  simp only [rowsChk, aT, beq_iff_eq, dT] at h
  obtain ⟨⟨⟨⟨h1, h2⟩, h3⟩, h4⟩, h5⟩ := h
  simp only [CtOK] at hc; subst hc
  have e := eqLin_ok hf h4
  have e' : n.ev w = ((l.length / k : Nat) : Int) := by rw [e]; simp only [Lin.ev, z]; omega
  exact ⟨h1, h2, by rw [e']; exact Int.natCast_nonneg _, by rw [e', Int.toNat_natCast]; exact tyAR_rows z hf h3.symm h5⟩
def chkBE (fa : List Fact) (θ : Sub) (p q : BE) : Bool :=
 match p, q with
 | .blk b (.cells l) ro, .blk b' (.cells l') ro' => b' == θ.bN b && ro == ro' && eqAs fa l' (subL θ l)
 | .blk b (.rows k R n) ro, .blk b' ct ro' => b' == θ.bN b && ro == ro' && rowsChk fa k (subTs θ R) (subN θ n) ct
 | .vec b k R len ro, .blk b' ct ro' => b' == θ.bN b && ro == ro' && rowsChk fa k (subTs θ R) (subN θ len) ct && leL fa ⟨0, 1⟩ (subN θ len) 0
 | .vec b k R len ro, .vec b' k' R' len' ro' => b' == θ.bN b && ro == ro' && rowsChk fa k (subTs θ R) (subN θ len) (.rows k' R' len')
 | .map b ag ks T none, .map b' ag' ks' T' _ => b' == θ.bN b && ag == ag' && decide (ks = ks') && sty fa T' (subT θ T)
 | .map b _ _ _ none, .emap b' => b' == θ.bN b
 | .emap b, .emap b' => b' == θ.bN b
 | .loop b t s J, .loop b' t' s' J' => b' == θ.bN b && t == t' && s' == θ.nu s && decide (J = J')
 | _, _ => false
theorem chkBE_ok {w : V} {fa : List Fact} {h : H} (z : w.i 0 = 0) (hf : ∀ f, f ∈ fa → FOK w f) {θ : Sub} {p q : BE} (hc : chkBE fa θ p q = true) (hq : BOK w h q) : BOK (w.comp θ) h p ∧ adr (w.comp θ) p = adr w q := by
 unfold chkBE at hc
 split at hc <;> (try (cases hc; done))
 ·rename_i b l ro b' l' ro'
  simp only [aT, beq_iff_eq] at hc
  obtain ⟨⟨rfl, rfl⟩, h1⟩ := hc
  obtain ⟨cs, h2, h3⟩ := hq
  refine ⟨⟨cs, h2, ?_⟩, rfl⟩
  simp only [CtOK] at h3 ⊢
  rw [h3, eqAs_ok z hf _ _ h1, subL_den]
 ·rename_i b k R n ro b' ct ro'
  simp only [aT, beq_iff_eq] at hc
  obtain ⟨⟨rfl, rfl⟩, h1⟩ := hc
  obtain ⟨cs, h2, h3⟩ := hq
  have := rowsChk_ok z hf h1 h3
  exact ⟨⟨cs, h2, (subCt_ok w θ cs (.rows k R n)).1 this⟩, rfl⟩
 ·rename_i b k R len ro b' ct ro'
  simp only [aT, beq_iff_eq] at hc
  obtain ⟨⟨⟨rfl, rfl⟩, h1⟩, h2⟩ := hc
  obtain ⟨cs, h3, h4⟩ := hq
  have := rowsChk_ok z hf h1 h4
  have e := leL_ok hf h2
  rw [subN_ev] at e
  have ne : len.ev (w.comp θ) ≠ 0 := by simp only [Lin.ev, z] at e ⊢; omega
  exact ⟨.inr ⟨cs, h3, (subCt_ok w θ cs (.rows k R len)).1 this⟩, by simp only [adr, if_neg ne]; rfl⟩
 ·rename_i b k R len ro b' k' R' len' ro'
  simp only [aT, beq_iff_eq] at hc
  obtain ⟨⟨rfl, rfl⟩, h1⟩ := hc
  have h1' := h1
  simp only [rowsChk, aT] at h1'
  have e := eqLin_ok hf h1'.2
  rw [subN_ev] at e
  refine ⟨?_, by simp only [adr, e]; rfl⟩
  rcases hq with hq | ⟨cs, h3, h4⟩
  ·exact .inl (by rw [← e]; exact hq)
  ·exact .inr ⟨cs, h3, (subCt_ok w θ cs (.rows k R len)).1 (rowsChk_ok z hf h1 h4)⟩
 ·rename_i b ag ks T b' ag' ks' T' m
  simp only [aT, beq_iff_eq, dT] at hc
  obtain ⟨⟨⟨rfl, rfl⟩, rfl⟩, h1⟩ := hc
  obtain ⟨es, cl, h2, h3, _⟩ := hq
  exact ⟨⟨es, cl, h2, fun e he => ⟨(h3 e he).1, (subT_ok w θ T _).1 (sty_ok hf _ _ h1 _ (h3 e he).2)⟩, trivial⟩, rfl⟩
 ·rename_i b ag ks T b'
  simp only [beq_iff_eq] at hc; subst hc
  obtain ⟨cl, h2⟩ := hq
  exact ⟨⟨[], cl, h2, (fun e he => by cases he), trivial⟩, rfl⟩
 ·rename_i b b'
  simp only [beq_iff_eq] at hc; subst hc
  exact ⟨hq, rfl⟩
 ·rename_i b t s J b' t' s' J'
  simp only [aT, beq_iff_eq, dT] at hc
  obtain ⟨⟨⟨rfl, rfl⟩, rfl⟩, rfl⟩ := hc
  exact ⟨hq, rfl⟩
def noBlk (fa : List Fact) (θ : Sub) : BE → Bool
 | .vec _ _ _ len _ => eqLin fa (subN θ len) ⟨0, 0⟩
 | _ => false
def takeB (fa : List Fact) (θ : Sub) : List BE → List BE → Option (List BE)
 | [], rest => some rest
 | p :: ps, rest => if noBlk fa θ p then takeB fa θ ps rest else match lookB (θ.bN (keyB p)) rest with
  | some q => if chkBE fa θ p q then takeB fa θ ps (modB (θ.bN (keyB p)) [] rest) else none
  | none => none
theorem takeB_ok {w : V} {fa : List Fact} {h : H} (z : w.i 0 = 0) (hf : ∀ f, f ∈ fa → FOK w f) {θ : Sub} : ∀ {ps rest rest' : List BE}, takeB fa θ ps rest = some rest' → (∀ q, q ∈ rest → BOK w h q) → (rest.flatMap (adr w)).Nodup →
  (∀ p, p ∈ ps → BOK (w.comp θ) h p) ∧ (ps.flatMap (adr (w.comp θ)) ++ rest'.flatMap (adr w)).Nodup ∧ (∀ q, q ∈ rest' → q ∈ rest) ∧ ∀ a, a ∈ ps.flatMap (adr (w.comp θ)) → a ∈ rest.flatMap (adr w) := by
 intro ps
 induction ps with
 | nil =>
  intro rest rest' h hB hn
  simp only [takeB, sI] at h; subst h
  exact ⟨(fun p hp => by cases hp), by simpa using hn, fun q hq => hq, (fun a ha => by simp at ha)⟩
 | cons p ps ih =>
  intro rest rest' h hB hn
  simp only [takeB] at h
  split at h
  ·rename_i hno
   obtain ⟨h1, h2, h3, h4⟩ := ih h hB hn
   cases p <;> simp only [noBlk] at hno <;> (try (cases hno; done))
   rename_i b k R len ro
   have e := eqLin_ok hf hno
   rw [subN_ev] at e
   have e0 : len.ev (w.comp θ) = 0 := by rw [e]; simp only [Lin.ev, z]; omega
   have ea : adr (w.comp θ) (.vec b k R len ro) = [] := by simp only [adr, if_pos e0]
   refine ⟨fun q hq => ?_, by simpa [ea] using h2, h3, fun a ha => h4 a (by simpa [ea] using ha)⟩
   rcases List.mem_cons.1 hq with rfl | hq
   ·exact .inl e0
   ·exact h1 q hq
  ·split at h
   ·rename_i q hq
    split at h
    ·rename_i hc
     obtain ⟨_, l1, l2, hl, hm⟩ := lookB_ok hq
     rw [hm] at h
     have hqm : q ∈ rest := (lookB_mem hq).1
     obtain ⟨hbp, hap⟩ := chkBE_ok z hf hc (hB q hqm)
     rw [hl] at hn
     simp only [List.flatMap_append, List.flatMap_cons, List.flatMap_nil, List.append_nil] at hn
     obtain ⟨hn12, hnl2, hd2⟩ := nodup_app.1 hn
     obtain ⟨hnl1, hnq, hd1⟩ := nodup_app.1 hn12
     have hn' : ((l1 ++ [] ++ l2).flatMap (adr w)).Nodup := by
      simp only [List.append_nil, List.flatMap_append]
      exact nodup_app.2 ⟨hnl1, hnl2, fun x hx => hd2 x (by simp [hx])⟩
     obtain ⟨h1, h2, h3, h4⟩ := ih h (fun x hx => hB x (by rw [hl]; simp only [List.append_nil, List.mem_append] at hx ⊢; exact hx.elim (fun h => .inl (.inl h)) .inr)) hn'
     have hdis : ∀ a, a ∈ adr w q → a ∉ (l1 ++ [] ++ l2).flatMap (adr w) := fun a ha hx => by
      simp only [List.append_nil, List.flatMap_append, List.mem_append] at hx
      rcases hx with hx | hx
      ·exact hd1 a hx ha
      ·exact hd2 a (by simp [ha]) hx
     refine ⟨fun x hx => ?_, ?_, fun x hx => ?_, fun a ha => ?_⟩
     ·rcases List.mem_cons.1 hx with rfl | hx
      ·exact hbp
      ·exact h1 x hx
     ·simp only [List.flatMap_cons, List.append_assoc]
      rw [hap]
      refine nodup_app.2 ⟨hnq, h2, fun a ha hx => ?_⟩
      rcases List.mem_append.1 hx with hx | hx
      ·exact hdis a ha (h4 a hx)
      ·obtain ⟨y, hy, hay⟩ := List.mem_flatMap.1 hx
       exact hdis a ha (List.mem_flatMap.2 ⟨y, h3 y hy, hay⟩)
     ·have := h3 x hx
      rw [hl]; simp only [List.append_nil, List.mem_append] at this ⊢
      exact this.elim (fun h => .inl (.inl h)) .inr
     ·rw [hl]
      simp only [List.flatMap_cons, List.mem_append] at ha
      simp only [List.flatMap_append, List.flatMap_cons, List.flatMap_nil, List.append_nil, List.mem_append]
      rcases ha with ha | ha
      ·rw [hap] at ha; exact .inl (.inr ha)
      ·have := h4 a ha
       simp only [List.append_nil, List.flatMap_append, List.mem_append] at this
       exact this.elim (fun h => .inl (.inl h)) .inr
    ·cases h
   ·cases h
def mtch (st : St) (θ : Sub) (as : List AV) (pre : St) : Option (List BE) :=
 if eqAs st.fa as (subL θ pre.env) && chkFs st.fa θ pre.fa then takeB st.fa θ pre.bl st.bl else none
structure Mtch (w : V) (st : St) (θ : Sub) (as : List AV) (pre : St) (rest : List BE) (h : H) : Prop where
 env : denL (w.comp θ) pre.env = denL w as
 fa : ∀ f, f ∈ pre.fa → FOK (w.comp θ) f
 bl : ∀ p, p ∈ pre.bl → BOK (w.comp θ) h p
 nd : (pre.bl.flatMap (adr (w.comp θ)) ++ rest.flatMap (adr w)).Nodup
 rest : ∀ q, q ∈ rest → q ∈ st.bl
 sub : ∀ a, a ∈ pre.bl.flatMap (adr (w.comp θ)) → a ∈ st.bl.flatMap (adr w)
theorem mtch_ok {X : Cx} {w : V} {st : St} {env : List CV} {h : H} (sw : Sat0 X w st env h) {θ : Sub} {as : List AV} {pre : St} {rest : List BE} (hm : mtch st θ as pre = some rest) : Mtch w st θ as pre rest h := by
 unfold mtch at hm
 split at hm
 ·rename_i hc
  simp only [aT] at hc
  obtain ⟨h1, h2, h3, h4⟩ := takeB_ok sw.z sw.fa hm sw.bl sw.nd
  exact ⟨by rw [← subL_den, eqAs_ok sw.z sw.fa _ _ hc.1], chkFs_ok sw.z sw.fa hc.2, h1, h2, h3, h4⟩
 ·cases hm
def clFs (n : Nat) : List Fact → Bool
 | [] => true
 | f :: r => clF n f && clFs n r
def clBs (n : Nat) : List BE → Bool
 | [] => true
 | f :: r => clB n f && clBs n r
def clSt (P : St) : Bool := clL P.n P.env && clFs P.n P.fa && clBs P.n P.bl
theorem clFs_ok {n : Nat} {l : List Fact} (h : clFs n l = true) : ∀ f, f ∈ l → clF n f = true := by
 induction l with
 | nil => intro f hf; cases hf
 | cons x r ih =>
  simp only [clFs, aT] at h
  intro f hf
  rcases List.mem_cons.1 hf with rfl | hf
  ·exact h.1
  ·exact ih h.2 f hf
theorem clBs_ok {n : Nat} {l : List BE} (h : clBs n l = true) : ∀ f, f ∈ l → clB n f = true := by
 induction l with
 | nil => intro f hf; cases hf
 | cons x r ih =>
  simp only [clBs, aT] at h
  intro f hf
  rcases List.mem_cons.1 hf with rfl | hf
  ·exact h.1
  ·exact ih h.2 f hf
theorem Sat.ofClosed {X : Cx} {v : V} {P : St} {env : List CV} {h : H} {fs : List Fact} (hc : clSt P = true) (hp : 0 < P.n) (s : Sat0 X v P env h) (hfs : ∀ w, Agr P.n v w → ∀ f, f ∈ fs → FOK w f) : Sat X v { P with fa := P.fa ++ fs } env h := by
 simp only [clSt, aT] at hc
 refine ⟨hp, fun w hw => ?_⟩
 have ea : ∀ p, p ∈ P.bl → adr v p = adr w p := fun p hpm => clB_adr hw (clBs_ok hc.2 p hpm)
 have eb : P.bl.flatMap (adr w) = P.bl.flatMap (adr v) := by
  have : ∀ l : List BE, (∀ p, p ∈ l → adr v p = adr w p) → l.flatMap (adr w) = l.flatMap (adr v) := by
   intro l
   induction l with
   | nil => intro _; rfl
   | cons p l ih => intro hl; simp only [List.flatMap_cons, hl p mS, ih (fun p hp => hl p (mC _ hp))]
  exact this _ ea
 refine ⟨by rw [← (hw 0 hp).1]; exact s.z, by rw [← clL_ok hw _ hc.1.1]; exact s.env, fun f hf => ?_, fun p hpm => (clB_ok hw (clBs_ok hc.2 p hpm) h).1 (s.bl p hpm), by rw [eb]; exact s.nd, fun p hpm a ha => s.lt p hpm a (by rw [ea p hpm]; exact ha), s.hn, s.fr⟩
 rcases List.mem_append.1 hf with hf | hf
 ·exact clF_ok hw (clFs_ok hc.1.2 f hf) (s.fa f hf)
 ·exact hfs w hw f hf
end
end Ce.S
namespace Ce.S
noncomputable section
open Go
structure Con where
 yl : Bool
 tg : Nat
 n0 : Nat
 pre : St
 posts : List (AV × St)
 ma : Lin
 mb : Lin
 lim : Option (Lin × Lin)
inductive Tg where
 | fn (f : Nat)
 | yl (b : Nat)
inductive Hint where
 | unroll
 | inv (P : St) (ma mb : Lin)
 | invs (Fs : List (St × Lin × Lin))
 | rcs (f : Nat) (P : St) (posts : List (AV × St)) (ma mb : Lin)
 | rng (J : List Jump) (P : St) (posts : List (AV × St))
abbrev Hs := List Hint
def bindN (lo : Nat) (p : Lin) (a : Lin) (θ : Sub) : Sub := if lo ≤ p.s ∧ (look θ.i p.s).isNone then { θ with i := (p.s, ⟨a.s, a.c - p.c⟩) :: θ.i } else θ
def bindB (lo : Nat) (p : Nat) (a : Nat) (θ : Sub) : Sub := if lo ≤ p ∧ (look θ.b p).isNone then { θ with b := (p, a) :: θ.b } else θ
def bindC (lo : Nat) (p : Nat) (a : AV) (θ : Sub) : Sub := if lo ≤ p ∧ (look θ.c p).isNone then { θ with c := (p, a) :: θ.c } else θ
mutual
def bindA (lo : Nat) : AV → AV → Sub → Sub
 | .int _ s c, .int _ s' c', θ => bindN lo ⟨s, c⟩ ⟨s', c'⟩ θ
 | .sym s, a, θ => bindC lo s a θ
 | .ptr b _, .ptr b' _, θ => bindB lo b b' θ
 | .iptr b _ _ i, .iptr b' _ _ i', θ => bindN lo i i' (bindB lo b b' θ)
 | .rptr l, .rptr l', θ => bindL lo l l' θ
 | .slc _ b _ i n c, .slc _ b' _ i' n' c', θ => bindN lo c c' (bindN lo n n' (bindN lo i i' (bindB lo b b' θ)))
 | .vec _ b n, .vec _ b' n', θ => bindN lo n n' (bindB lo b b' θ)
 | .vec _ _ n, .nils, θ => bindN lo n ⟨0, 0⟩ θ
 | .map b, .map b', θ => bindB lo b b' θ
 | .clo _ a b, .clo _ a' b', θ => bindL lo b b' (bindL lo a a' θ)
 | .yld b, .yld b', θ => bindB lo b b' θ
 | .agg l, .agg l', θ => bindL lo l l' θ
 | .tup l, .tup l', θ => bindL lo l l' θ
 | _, _, θ => θ
def bindL (lo : Nat) : List AV → List AV → Sub → Sub
 | a :: l, b :: m, θ => bindL lo l m (bindA lo a b θ)
 | _, _, θ => θ
end
def bindBl (lo : Nat) (bl : List BE) : List BE → Sub → Sub
 | [], θ => θ
 | p :: ps, θ =>
  let θ := match p, lookB (θ.bN (keyB p)) bl with
   | .blk _ (.cells l) _, some (.blk _ (.cells l') _) => bindL lo l l' θ
   | .blk _ (.rows _ _ n) _, some (.blk _ (.rows _ _ n') _) => bindN lo n n' θ
   | .blk _ (.rows _ _ n) _, some (.vec _ _ _ n' _) => bindN lo n n' θ
   | .vec _ _ _ n _, some (.blk _ (.rows _ _ n') _) => bindN lo n n' θ
   | .vec _ _ _ n _, some (.vec _ _ _ n' _) => bindN lo n n' θ
   | _, _ => θ
  bindBl lo bl ps θ
def bindFs (lo : Nat) (fa : List Fact) : List Fact → Sub → Sub
 | [], θ => θ
 | .len s t :: r, θ =>
  let θ := match θ.cA s with
   | .sym s' => match lenF s' fa with
    | some t' => bindN lo ⟨t, 0⟩ ⟨t', 0⟩ θ
    | none => θ
   | .nils => bindN lo ⟨t, 0⟩ ⟨0, 0⟩ θ
   | .lrows rows _ => bindN lo ⟨t, 0⟩ ⟨0, rows.length⟩ θ
   | _ => θ
  bindFs lo fa r θ
 | _ :: r, θ => bindFs lo fa r θ
def solve (lo base sh : Nat) (st : St) (as : List AV) (P : St) : Sub :=
 let θ := bindL lo P.env as ⟨[], [], [], lo, base, sh⟩
 let θ := bindBl lo st.bl P.bl θ
 let θ := bindBl lo st.bl P.bl θ
 bindFs lo st.fa P.fa θ
def subOK (lo hi n : Nat) (θ : Sub) : Bool :=
 θ.lo == lo && θ.base == hi && θ.i.all (fun x => decide (lo ≤ x.1) && decide (x.1 < hi) && decide (x.2.s < n)) && θ.c.all (fun x => decide (lo ≤ x.1) && decide (x.1 < hi) && clA n x.2) && θ.b.all (fun x => decide (lo ≤ x.1) && decide (x.1 < hi) && decide (x.2 < n))
def limChk (fa : List Fact) (ma mb : Lin) : Option (Lin × Lin) → Bool
 | none => true
 | some (a, b) => leL fa b a (-1) && ((leL fa ma a (-1) && leL fa b mb 0) || (leL fa ma a 0 && leL fa b mb (-1)))
def lenEq1 (old : List Fact) : Fact → List Fact
 | .len s t => match lenF s old with
  | some t0 => [.dc t t0 0, .dc t0 t 0]
  | none => []
 | _ => []
def lenEqs (old : List Fact) : List Fact → List Fact
 | [] => []
 | f :: r => lenEq1 old f ++ lenEqs old r
def postA (θ : Sub) (st : St) (base : Nat) (rest : List BE) (o : AV × St) : AV × St :=
 (subA θ o.1, ⟨st.n + (o.2.n - base), st.env, lenEqs st.fa (o.2.fa.filterMap (subF θ)) ++ (o.2.fa.filterMap (subF θ) ++ st.fa), o.2.bl.map (subB θ) ++ rest⟩)
def applyC (c : Con) (as : List AV) (st : St) : Option (List (AV × St)) :=
 let θ := solve c.n0 c.pre.n st.n st as c.pre
 if subOK c.n0 c.pre.n st.n θ && θ.sh == st.n && decide (c.n0 ≤ c.pre.n) then match mtch st θ as c.pre with
  | some rest => if limChk st.fa (subN θ c.ma) (subN θ c.mb) c.lim then some (c.posts.map (postA θ st c.pre.n rest)) else none
  | none => none
 else none
def fits (lo : Nat) (st : St) (r : AV) (o : AV × St) : Bool :=
 let P : St := { o.2 with env := [o.1] }
 let θ := solve lo o.2.n 0 st [r] P
 subOK lo o.2.n st.n θ && clSt P && decide (lo ≤ o.2.n) && (mtch st θ [r] P).isSome
def fitsAny (lo : Nat) (st : St) (r : AV) : List (AV × St) → Bool
 | [] => false
 | o :: os => fits lo st r o || fitsAny lo st r os
def mapS {α β : Type} (f : α → Hs → Option (List β × Hs)) : List α → Hs → Option (List β × Hs)
 | [], hs => some ([], hs)
 | a :: as, hs => match f a hs with
  | some (bs, hs) => match mapS f as hs with
   | some (cs, hs) => some (bs ++ cs, hs)
   | none => none
  | none => none
theorem mapS_mem {α β : Type} {f : α → Hs → Option (List β × Hs)} : ∀ {as : List α} {hs hs' : Hs} {bs : List β}, mapS f as hs = some (bs, hs') → ∀ a, a ∈ as → ∃ h1 h2 cs, f a h1 = some (cs, h2) ∧ ∀ b, b ∈ cs → b ∈ bs
 | [], hs, hs', bs, h, a, ha => by cases ha
 | x :: as, hs, hs', bs, h, a, ha => by
  simp only [mapS] at h
  split at h
  ·rename_i cs h1 hx
   split at h
   ·rename_i ds h2 hr
    simp only [sI, pI] at h
    obtain ⟨rfl, rfl⟩ := h
    rcases List.mem_cons.1 ha with rfl | ha
    ·exact ⟨_, _, _, hx, fun b hb => List.mem_append_left _ hb⟩
    ·obtain ⟨g1, g2, es, he, hm⟩ := mapS_mem hr a ha
     exact ⟨g1, g2, es, he, fun b hb => List.mem_append_right _ (hm b hb)⟩
   ·cases h
  ·cases h
def setC (t : Nat) (b : Bool) (st : St) : St := { st with env := setA st.env t (.bool b) }
def condT (st : St) (t : Nat) : Option (List St × List St) :=
 match getA st.env t with
 | .bool true => some ([st], [])
 | .bool false => some ([], [st])
 | c => match condA st c with
  | some (T, F) => some (T.map (setC t true), F.map (setC t false))
  | none => none
def Tr.upd {α : Type} (f : Option α → α) : Nat → Tr α → Nat → Tr α
 | 0, t, _ => t
 | n + 1, t, i => match t with
  | .nil => if i = 0 then .node .nil (some (f none)) .nil else if i % 2 = 1 then .node (Tr.upd f n .nil (i / 2)) none .nil else .node .nil none (Tr.upd f n .nil (i / 2 - 1))
  | .node l v r => if i = 0 then .node l (some (f v)) r else if i % 2 = 1 then .node (Tr.upd f n l (i / 2)) v r else .node l v (Tr.upd f n r (i / 2 - 1))
theorem Tr.upd_get {α : Type} (f : Option α → α) : ∀ (n : Nat) (t : Tr α) (i j : Nat), (Tr.upd f n t i).get j = t.get j ∨ (j = i ∧ (Tr.upd f n t i).get j = some (f (t.get j)))
 | 0, t, i, j => .inl rfl
 | n + 1, .nil, i, j => by
  simp only [Tr.upd]
  by_cases hi : i = 0
  ·rw [if_pos hi]
   simp only [Tr.get]
   by_cases hj : j = 0
   ·right; subst hi; exact ⟨hj, by rw [if_pos hj]⟩
   ·left; rw [if_neg hj]; split <;> rfl
  ·rw [if_neg hi]
   by_cases ho : i % 2 = 1
   ·rw [if_pos ho]
    simp only [Tr.get]
    by_cases hj : j = 0
    ·left; rw [if_pos hj]
    ·rw [if_neg hj]
     by_cases hjo : j % 2 = 1
     ·rw [if_pos hjo]
      rcases Tr.upd_get f n .nil (i / 2) (j / 2) with h | ⟨h1, h2⟩
      ·left; rw [h]; rfl
      ·right; refine ⟨by omega, by rw [h2]; rfl⟩
     ·left; rw [if_neg hjo]
   ·rw [if_neg ho]
    simp only [Tr.get]
    by_cases hj : j = 0
    ·left; rw [if_pos hj]
    ·rw [if_neg hj]
     by_cases hjo : j % 2 = 1
     ·left; rw [if_pos hjo]
     ·rw [if_neg hjo]
      rcases Tr.upd_get f n .nil (i / 2 - 1) (j / 2 - 1) with h | ⟨h1, h2⟩
      ·left; rw [h]; rfl
      ·right; refine ⟨by omega, by rw [h2]; rfl⟩
 | n + 1, .node l v r, i, j => by
  simp only [Tr.upd]
  by_cases hi : i = 0
  ·rw [if_pos hi]
   simp only [Tr.get]
   by_cases hj : j = 0
   ·right; subst hi; exact ⟨hj, by rw [if_pos hj, if_pos hj]⟩
   ·left; rw [if_neg hj, if_neg hj]
  ·rw [if_neg hi]
   by_cases ho : i % 2 = 1
   ·rw [if_pos ho]
    simp only [Tr.get]
    by_cases hj : j = 0
    ·left; rw [if_pos hj, if_pos hj]
    ·rw [if_neg hj, if_neg hj]
     by_cases hjo : j % 2 = 1
     ·rw [if_pos hjo, if_pos hjo]
      rcases Tr.upd_get f n l (i / 2) (j / 2) with h | ⟨h1, h2⟩
      ·exact .inl h
      ·exact .inr ⟨by omega, h2⟩
     ·left; rw [if_neg hjo, if_neg hjo]
   ·rw [if_neg ho]
    simp only [Tr.get]
    by_cases hj : j = 0
    ·left; rw [if_pos hj, if_pos hj]
    ·rw [if_neg hj, if_neg hj]
     by_cases hjo : j % 2 = 1
     ·left; rw [if_pos hjo, if_pos hjo]
     ·rw [if_neg hjo, if_neg hjo]
      rcases Tr.upd_get f n r (i / 2 - 1) (j / 2 - 1) with h | ⟨h1, h2⟩
      ·exact .inl h
      ·exact .inr ⟨by omega, h2⟩
def addE (t : Tr (List (Nat × Int))) (x y : Nat) (c : Int) : Tr (List (Nat × Int)) := Tr.upd (fun o => match o with
 | some l => (y, c) :: l
 | none => [(y, c)]) 16 t x
theorem addE_mem {t : Tr (List (Nat × Int))} {x y a b : Nat} {c d : Int} (h : (b, d) ∈ edg (addE t x y c) a) : (b, d) ∈ edg t a ∨ (a = x ∧ b = y ∧ d = c) := by
 simp only [addE, edg] at h ⊢
 rcases Tr.upd_get (fun o => match o with
  | some l => (y, c) :: l
  | none => [(y, c)]) 16 t x a with h1 | ⟨h1, h2⟩
 ·rw [h1] at h; exact .inl h
 ·rw [h2] at h
  cases hg : t.get a with
  | none => rw [hg] at h; simp at h; exact .inr ⟨h1, h⟩
  | some l =>
   rw [hg] at h
   simp only [List.mem_cons, pI] at h
   rcases h with h | h
   ·exact .inr ⟨h1, h⟩
   ·exact .inl h
def abs1 : List Fact → List Fact × Tr (List (Nat × Int)) × Tr (List (Nat × Int))
 | [] => ([], .nil, .nil)
 | .ixd fw bw :: r => (r, fw, bw)
 | .dc x y c :: r => match abs1 r with
  | (l, fw, bw) => (l, addE fw x y c, addE bw y x c)
 | f :: r => match abs1 r with
  | (l, fw, bw) => (f :: l, fw, bw)
def absF : List Fact → List Fact
 | .ixd fw bw :: r => .ixd fw bw :: r
 | fa => match abs1 fa with
  | (l, fw, bw) => .ixd fw bw :: l
theorem abs1ok {w : V} : ∀ {fa : List Fact}, (∀ f, f ∈ fa → FOK w f) → (∀ f, f ∈ (abs1 fa).1 → FOK w f) ∧ FOK w (.ixd (abs1 fa).2.1 (abs1 fa).2.2)
 | [], _ => ⟨(fun f hf => by cases hf), (fun x y c h => by cases h), (fun x y c h => by cases h)⟩
 | f :: r, hf => by
  have h0 := hf f mS
  have hr := fun g hg => hf g (mC _ hg)
  obtain ⟨h1, h2⟩ := abs1ok (fa := r) hr
  cases f with
  | ixd fw bw => exact ⟨hr, h0⟩
  | dc x y c =>
   simp only [abs1]
   refine ⟨h1, fun a b d h => ?_, fun a b d h => ?_⟩
   ·rcases addE_mem h with h | ⟨rfl, rfl, rfl⟩
    ·exact h2.1 a b d h
    ·exact h0
   ·rcases addE_mem h with h | ⟨rfl, rfl, rfl⟩
    ·exact h2.2 a b d h
    ·exact h0
  | _ =>
   simp only [abs1]
   refine ⟨fun g hg => ?_, h2⟩
   rcases List.mem_cons.1 hg with rfl | hg
   ·exact h0
   ·exact h1 g hg
theorem absF_ok {w : V} {fa : List Fact} (hf : ∀ f, f ∈ fa → FOK w f) : ∀ f, f ∈ absF fa → FOK w f := by
 intro f hm
 unfold absF at hm
 split at hm
 ·exact hf f hm
 ·obtain ⟨h1, h2⟩ := abs1ok hf
  rcases List.mem_cons.1 hm with rfl | hm
  ·exact h2
  ·exact h1 f hm
abbrev SCall := Tg → List AV → St → Hs → Option (List (AV × St) × Hs)
def sOp1 (call : SCall) (o : Ins) (st : St) (hs : Hs) : Option (List (AV × St) × Hs) :=
 match o with
 | .callF f as => match opsA st.env as with
  | some as => call (.fn f) as st hs
  | none => none
 | .callV f as => match opA st.env f, opsA st.env as with
  | some (.clo f a b), some as => call (.fn f) (a ++ as ++ b) st hs
  | some (.yld b), some as => call (.yl b) as st hs
  | _, _ => none
 | o => (sOw o st).map fun outs => (outs, hs)
def setD (d : Option Nat) (x : AV × St) : St := { x.2 with env := putA x.2.env d x.1, fa := absF x.2.fa }
def isUnd : AV → Bool
 | .tup [] => true
 | _ => false
def sOps (call : SCall) : List IOp → St → Hs → Option (List St × Hs)
 | [], st, hs => some ([st], hs)
 | o :: os, st, hs =>
  match o.guard with
  | none => match sOp1 call o.op st hs with
   | some (outs, hs) => mapS (fun x hs => sOps call os (setD o.dst x) hs) outs hs
   | none => none
  | some (t, b) => if isUnd (getA st.env t) then sOps call os (setD o.dst (undefA, st)) hs else match condT st t with
   | some (T, F) => match mapS (fun st hs => match sOp1 call o.op st hs with
     | some (outs, hs) => mapS (fun x hs => sOps call os (setD o.dst x) hs) outs hs
     | none => none) (if b then T else F) hs with
    | some (r1, hs) => match mapS (fun st hs => sOps call os (setD o.dst (undefA, st)) hs) (if b then F else T) hs with
     | some (r2, hs) => some (r1 ++ r2, hs)
     | none => none
    | none => none
   | none => none
def upg1 (fa : List Fact) (s : Nat) (i : Lin) (R : List Ty) : List Fact :=
 match lenF s fa with
 | some t => if leL fa ⟨t, 0⟩ i 0 && !(hasTy fa s (fun T => match T with | .lst R' _ _ => stys fa R' R | _ => false) fa) then [.ty s (.lst R ⟨t, 0⟩ ⟨t, 0⟩)] else []
 | none => []
def upgP (fa : List Fact) : Fact → List Fact
 | .pre s i R => upg1 fa s i R
 | _ => []
def upgF (fa : List Fact) : List Fact → List Fact
 | [] => []
 | f :: r => upgP fa f ++ upgF fa r
def upg (st : St) : St := { st with fa := upgF st.fa st.fa ++ st.fa }
abbrev OutC := List (Ex × St)
def unrollL (body : St → Hs → Option (OutC × Hs)) : Nat → St → Hs → Option (OutC × Hs)
 | 0, _, _ => none
 | n + 1, st, hs => match body st hs with
  | some (outs, hs) => mapS (fun x hs => match x with
   | (.nor, st) => unrollL body n st hs
   | (.jmp j, st) => some ([(.jmp j, st)], hs)) outs hs
  | none => none
def backOK (lo : Nat) (P : St) (ma mb : Lin) (st : St) : Bool :=
 let θ := solve lo P.n 0 st st.env P
 subOK lo P.n st.n θ && (mtch st θ st.env P).isSome && limChk st.fa (subN θ ma) (subN θ mb) (some (ma, mb))
def backAny (lo : Nat) (ma mb : Lin) (st : St) : List (St × Lin × Lin) → Bool
 | [] => false
 | (P, na, nb) :: r =>
  let θ := solve lo P.n 0 st st.env P
  (subOK lo P.n st.n θ && (mtch st θ st.env P).isSome && limChk st.fa (subN θ na) (subN θ nb) (some (ma, mb))) || backAny lo ma mb st r
def backsD (lo : Nat) (Fs : List (St × Lin × Lin)) (ma mb : Lin) : OutC → Option OutC
 | [] => some []
 | (.nor, st) :: r => if backAny lo ma mb st Fs then backsD lo Fs ma mb r else none
 | (.jmp j, st) :: r => match backsD lo Fs ma mb r with
  | some l => some ((.jmp j, upg st) :: l)
  | none => none
def formsOK (lo : Nat) : List (St × Lin × Lin) → Bool
 | [] => true
 | (P, ma, mb) :: r => clSt P && decide (lo ≤ P.n) && decide (ma.s < P.n) && decide (mb.s < P.n) && formsOK lo r
def entAny (lo : Nat) (st : St) : List (St × Lin × Lin) → Bool
 | [] => false
 | (P, _, _) :: r =>
  let θ := solve lo P.n 0 st st.env P
  (subOK lo P.n st.n θ && (mtch st θ st.env P).isSome) || entAny lo st r
def backs (lo : Nat) (P : St) (ma mb : Lin) : OutC → Option OutC
 | [] => some []
 | (.nor, st) :: r => if backOK lo P ma mb st then backs lo P ma mb r else none
 | (.jmp j, st) :: r => match backs lo P ma mb r with
  | some l => some ((.jmp j, upg st) :: l)
  | none => none
def setPsA : List AV → List Nat → List AV → Option (List AV)
 | env, [], [] => some env
 | env, p :: ps, v :: vs => setPsA (setA env p v) ps vs
 | _, _, _ => none
def isRdy (b t : Nat) (bl : List BE) : Option (Nat × List Jump) := match lookB b bl with
 | some (.loop _ t' s J) => if t' = t then some (s, J) else none
 | _ => none
def setL (b t s : Nat) (J : List Jump) (st : St) : St := { st with bl := modB b [.loop b t s J] st.bl }
def dropL (b : Nat) (st : St) : St := { st with bl := modB b [] st.bl }
def rngEnds (lb ls : Nat) (J : List Jump) (lo : Nat) (posts : List (AV × St)) : OutC → Bool
 | [] => true
 | (.nor, st) :: r => (isRdy lb 2 st.bl == some (ls, J)) && fitsAny lo (setL lb 0 ls J st) (.bool true) posts && rngEnds lb ls J lo posts r
 | (.jmp j, st) :: r => (isRdy lb 2 st.bl == some (ls, J)) && J.contains j && fitsAny lo (setL lb 1 ls J st) (.bool false) posts && rngEnds lb ls J lo posts r
def rngOuts (lb ls : Nat) (J : List Jump) (env : List AV) : List (AV × St) → Option OutC
 | [] => some []
 | (_, st) :: r => match rngOuts lb ls J env r with
  | none => none
  | some l => if isRdy lb 0 st.bl == some (ls, J) then some ((.nor, { dropL lb st with env := env }) :: l)
   else if isRdy lb 1 st.bl == some (ls, J) then some (J.map (fun j => (Ex.jmp j, { dropL lb st with env := env })) ++ l) else none
def yCon (n : Nat) (P : St) (posts : List (AV × St)) : Con := ⟨true, n, n + 1, P, posts, ⟨0, 0⟩, ⟨0, 0⟩, none⟩
def sC (callG : List Con → SCall) (n : Nat) : IC → List Con → St → Hs → Option (OutC × Hs)
 | .skip, _, st, hs => some ([(.nor, st)], hs)
 | .ops l, Γ, st, hs => match sOps (callG Γ) l st hs with
  | some (outs, hs) => some (outs.map fun s => (.nor, s), hs)
  | none => none
 | .seq a b, Γ, st, hs => match sC callG n a Γ st hs with
  | some (outs, hs) => mapS (fun x hs => match x with
   | (.nor, st) => sC callG n b Γ st hs
   | (.jmp j, st) => some ([(.jmp j, st)], hs)) outs hs
  | none => none
 | .cond x a b, Γ, st, hs => match x with
  | .t t => match condT st t with
   | some (T, F) => match mapS (fun st hs => sC callG n a Γ st hs) T hs with
    | some (r1, hs) => match mapS (fun st hs => sC callG n b Γ st hs) F hs with
     | some (r2, hs) => some (r1 ++ r2, hs)
     | none => none
    | none => none
   | none => none
  | .c (.bool true) => sC callG n a Γ st hs
  | .c (.bool false) => sC callG n b Γ st hs
  | _ => none
 | .block id c, Γ, st, hs => match sC callG n c Γ st hs with
  | some (outs, hs) => some (outs.map fun x => match x with
   | (.jmp (.exit i), st) => if i = id then (.nor, st) else (.jmp (.exit i), st)
   | x => x, hs)
  | none => none
 | .loop c, Γ, st, hs => match hs with
  | .unroll :: hs => unrollL (fun st hs => sC callG n c Γ st hs) n st hs
  | .inv P ma mb :: hs =>
   let θ := solve st.n P.n 0 st st.env P
   if subOK st.n P.n st.n θ && clSt P && decide (st.n ≤ P.n) && (mtch st θ st.env P).isSome && decide (ma.s < P.n) && decide (mb.s < P.n) then
    match sC callG n c Γ { P with fa := P.fa ++ st.fa } hs with
    | some (outs, hs) => match backs st.n P ma mb outs with
     | some r => some (r, hs)
     | none => none
    | none => none
   else none
  | .invs Fs :: hs => if formsOK st.n Fs && entAny st.n st Fs then
    mapS (fun (F : St × Lin × Lin) hs => match sC callG n c Γ { F.1 with fa := F.1.fa ++ st.fa } hs with
     | some (outs, hs) => match backsD st.n Fs F.2.1 F.2.2 outs with
      | some r => some (r, hs)
      | none => none
     | none => none) Fs hs
   else none
  | _ => none
 | .rangeF f ps a b, Γ, st, hs => match opA st.env f, hs with
  | some (.clo fn x y), .rng J P posts :: hs =>
   let st1 : St := { st with n := st.n + 1, bl := .loop st.n 0 st.n J :: st.bl }
   if clSt P && decide (st.n + 1 ≤ P.n) && (isRdy st.n 0 P.bl == some (st.n, J)) then
    match setPsA st.env ps P.env with
    | some e => match sC callG n a Γ { P with env := e, fa := P.fa ++ st.fa } hs with
     | some (outsA, hs) => match mapS (fun x hs => match x with
       | (.nor, st2) => if isRdy st.n 0 st2.bl == some (st.n, J) then sC callG n b Γ (setL st.n 2 st.n J st2) hs else none
       | _ => none) outsA hs with
      | some (outsB, hs) => if rngEnds st.n st.n J P.n posts outsB then
        match callG (yCon st.n P posts :: Γ) (.fn fn) (x ++ [.yld st.n] ++ y) st1 hs with
        | some (outs, hs) => match rngOuts st.n st.n J st.env outs with
         | some r => some (r, hs)
         | none => none
        | none => none
       else none
      | none => none
     | none => none
    | none => none
   else none
  | _, _ => none
 | .exit id, _, st, hs => some ([(.jmp (.exit id), st)], hs)
 | .ret, _, st, hs => some ([(.jmp .ret, st)], hs)
def tryC (as : List AV) (st : St) : List Con → Tg → Option (List (AV × St))
 | [], _ => none
 | c :: r, .fn f => if c.yl = false ∧ c.tg = f then (match applyC c as st with
  | some x => some x
  | none => tryC as st r (.fn f)) else tryC as st r (.fn f)
 | c :: r, .yl b => if c.yl = true ∧ c.tg = b then (match applyC c as st with
  | some x => some x
  | none => tryC as st r (.yl b)) else tryC as st r (.yl b)
def findE : List (Nat × List Ty × Ty) → Nat → Option (List Ty × Ty)
 | [], _ => none
 | (f, x) :: r, g => if f = g then some x else findE r g
def resA (st : St) : List IRes → Option (List AV)
 | [] => some []
 | .tmp t :: r => (resA st r).map fun l => getA st.env t :: l
 | .cell t g :: r => match ldD st g (getA st.env t), resA st r with
  | some x, some l => some (x :: l)
  | _, _ => none
def oneR : List AV → AV
 | [a] => a
 | l => .tup l
def endsF (F : IF) (env : List AV) : OutC → Option (List (AV × St))
 | [] => some []
 | (ex, st) :: r => match ex with
  | .jmp (.exit _) => none
  | _ => match resA st F.res, endsF F env r with
   | some l, some t => some ((oneR l, { st with env := env }) :: t)
   | _, _ => none
def frAll : List (AV × St) → Option (List (AV × St))
 | [] => some []
 | (a, st) :: r => match frA a { st with env := [a] }, frAll r with
  | some x, some l => some ((x.1, { x.2 with env := st.env }) :: l)
  | _, _ => none
def cl1 (fa : List Fact) : AV → Bool
 | .bool _ | .cmp _ _ _ | .eqc _ _ _ _ | .int _ _ _ | .str _ | .nilp | .nils | .nilm | .nilf | .nili => true
 | .sym s => hasTy fa s lfTy fa
 | _ => false
def cl1s (fa : List Fact) : List AV → Bool
 | [] => true
 | a :: l => cl1 fa a && cl1s fa l
def clArg (fa : List Fact) : AV → Bool
 | .agg l => cl1s fa l
 | a => cl1 fa a
def clArgs (fa : List Fact) : List AV → Bool
 | [] => true
 | a :: l => clArg fa a && clArgs fa l
def sc1 (fa : List Fact) : AV → Bool
 | .bool _ | .cmp _ _ _ | .eqc _ _ _ _ | .int _ _ _ | .str _ | .nilp | .nils | .nilm | .nilf | .nili => true
 | .sym s => hasTy fa s (fun T => sty fa T .bool || sty fa T .str) fa
 | _ => false
def sc1s (fa : List Fact) : List AV → Bool
 | [] => true
 | a :: l => sc1 fa a && sc1s fa l
def scRes (fa : List Fact) : AV → Bool
 | .tup l => sc1s fa l
 | a => sc1 fa a
def backAll (st : St) : List (AV × St) → Option (List (AV × St))
 | [] => some []
 | (a, s) :: r => if scRes s.fa a then (backAll st r).map fun l => (a, ⟨s.n, st.env, s.fa, st.bl⟩) :: l else none
def rCon (f n0 : Nat) (P : St) (posts : List (AV × St)) (ma mb : Lin) (lim : Option (Lin × Lin)) : Con := ⟨false, f, n0, P, posts, ma, mb, lim⟩
def fitAll (lo : Nat) (posts : List (AV × St)) : List (AV × St) → Bool
 | [] => true
 | (a, s) :: r => fitsAny lo s a posts && fitAll lo posts r
def sBody (callG : List Con → SCall) (n : Nat) (F : IF) (Γ : List Con) (as : List AV) (st : St) (hs : Hs) : Option (List (AV × St) × Hs) :=
 match sC callG n F.body Γ { st with env := as ++ repA (F.ntmps - as.length) } hs with
 | some (outs, hs) => match endsF F st.env outs with
  | some r => some (r, hs)
  | none => none
 | none => none
def takeR (f : Nat) : Hs → Option (St × List (AV × St) × Lin × Lin × Hs)
 | .rcs g P posts ma mb :: hs => if g = f then some (P, posts, ma, mb, hs) else none
 | _ => none
def sF (tbl : Nat → Option IF) (E : List (Nat × List Ty × Ty)) : Nat → List Con → SCall
 | 0, _, _, _, _, _ => none
 | n + 1, Γ, tg, as, st, hs =>
  match tryC as st Γ tg with
  | some r => some (r, hs)
  | none => match tg with
   | .yl _ => none
   | .fn f => match findE E f with
    | some (Ts, T) => if tyAs st.fa Ts as then some ([fresh st T], hs) else none
    | none => match tbl f with
     | none => none
     | some F => match takeR f hs with
      | some (P, posts, ma, mb, hs) => if F.mode = 0 ∧ clSt P = true ∧ st.n ≤ P.n ∧ ma.s < P.n ∧ mb.s < P.n then
        match sBody (sF tbl E n) n F (rCon f st.n P posts ma mb (some (ma, mb)) :: Γ) P.env { P with fa := P.fa ++ st.fa } hs with
        | some (outs, hs) => if fitAll P.n posts outs then (applyC (rCon f st.n P posts ma mb none) as st).map fun r => (r, hs) else none
        | none => none
       else none
      | none => match F.mode with
       | 0 => sBody (sF tbl E n) n F Γ as st hs
       | 1 => match sBody (sF tbl E n) n F Γ as st hs with
        | some (outs, hs) => match frAll outs with
         | some r => some (r, hs)
         | none => none
        | none => none
       | _ => if F.mode = 2 ∧ clArgs st.fa as = true then match sBody (sF tbl E n) n F [] as ⟨st.n, [], st.fa, []⟩ hs with
        | some (outs, hs) => match backAll st outs with
         | some r => some (r, hs)
         | none => none
        | none => none
        else none
end
end Ce.S
namespace Ce.S
noncomputable section
open Go
def tgt (v : V) (c : Con) : Tgt := if c.yl then .yl (v.b c.tg) else .fn c.tg
def FrX (v : V) (P : St) (h : H) : Cx := ⟨h, P.bl.flatMap (adr v)⟩
def CPost (v : V) (c : Con) (h : H) (r : CV) (h' : H) : Prop := ∃ o, o ∈ c.posts ∧ ∃ u, Agr c.pre.n v u ∧ c.pre.n ≤ o.2.n ∧ Sat (FrX v c.pre h) u { o.2 with env := [] } [] h' ∧ ∀ w, Agr o.2.n u w → den w o.1 = r
def ConOK (tbl : Nat → Option IF) (v : V) (c : Con) : Prop := ∀ (W : V) (args : List CV) (h : H), Agr c.n0 v W → Sat0 (FrX W c.pre h) W c.pre args h → (∀ a b, c.lim = some (a, b) → c.ma.ev W - c.mb.ev W < a.ev v - b.ev v ∧ 0 < a.ev v - b.ev v) → Wf tbl (tgt v c) args h (CPost W c h)
structure GOK1 (tbl : Nat → Option IF) (v : V) (n : Nat) (c : Con) : Prop where
 pos : 0 < c.n0
 n0 : c.n0 ≤ n
 tg : c.yl = true → c.tg < c.n0
 cl : clSt c.pre = true
 lim : ∀ a b, c.lim = some (a, b) → a.s < n ∧ b.s < n
 ok : ConOK tbl v c
def GOK (tbl : Nat → Option IF) (v : V) (n : Nat) (Γ : List Con) : Prop := ∀ c, c ∈ Γ → GOK1 tbl v n c
theorem GOK.mono {tbl : Nat → Option IF} {v w : V} {n m : Nat} {Γ : List Con} (g : GOK tbl v n Γ) (hw : Agr n v w) (hm : n ≤ m) : GOK tbl w m Γ := fun c hc => by
 have g1 := g c hc
 refine ⟨g1.pos, Nat.le_trans g1.n0 hm, g1.tg, g1.cl, fun a b h => ⟨Nat.lt_of_lt_of_le (g1.lim a b h).1 hm, Nat.lt_of_lt_of_le (g1.lim a b h).2 hm⟩, ?_⟩
 intro W args h hW hs hl
 have ht : tgt w c = tgt v c := by
  unfold tgt
  split
  ·rename_i hy
   have := (hw c.tg (Nat.lt_of_lt_of_le (g1.tg hy) g1.n0)).2.2.1
   rw [this]
  ·rfl
 rw [ht]
 refine g1.ok W args h ((hw.mono g1.n0).trans hW (Nat.le_refl _)) hs (fun a b hab => ?_)
 have := hl a b hab
 obtain ⟨h1, h2⟩ := g1.lim a b hab
 rw [← Lin.agr hw h1, ← Lin.agr hw h2] at this
 exact this
theorem GOK.nil {tbl : Nat → Option IF} {v : V} {n : Nat} : GOK tbl v n [] := fun c hc => by cases hc
theorem GOK.cons {tbl : Nat → Option IF} {v : V} {n : Nat} {c : Con} {Γ : List Con} (h1 : GOK1 tbl v n c) (g : GOK tbl v n Γ) : GOK tbl v n (c :: Γ) := fun d hd => by
 rcases List.mem_cons.1 hd with rfl | hd
 ·exact h1
 ·exact g d hd
theorem look_none {α : Type} {l : List (Nat × α)} {lo hi : Nat} {p : α → Bool} (h : l.all (fun x => decide (lo ≤ x.1) && decide (x.1 < hi) && p x.2) = true) {s : Nat} (hs : s < lo ∨ hi ≤ s) : look l s = none := by
 induction l with
 | nil => rfl
 | cons x l ih =>
  obtain ⟨k, a⟩ := x
  simp only [List.all_cons, aT, dT] at h
  simp only [look]
  rw [if_neg (by omega)]
  exact ih (by simpa using h.2)
theorem look_some {α : Type} {l : List (Nat × α)} {lo hi : Nat} {p : α → Bool} (h : l.all (fun x => decide (lo ≤ x.1) && decide (x.1 < hi) && p x.2) = true) {s : Nat} {a : α} (hs : look l s = some a) : p a = true := by
 induction l with
 | nil => cases hs
 | cons x l ih =>
  obtain ⟨k, b⟩ := x
  simp only [List.all_cons, aT, dT] at h
  simp only [look] at hs
  split at hs
  ·simp only [sI] at hs; subst hs; exact h.1.2
  ·exact ih (by simpa using h.2) hs
structure SubOK (lo hi n : Nat) (θ : Sub) : Prop where
 elo : θ.lo = lo
 ebase : θ.base = hi
 i : ∀ s, s < lo ∨ hi ≤ s → look θ.i s = none
 c : ∀ s, s < lo ∨ hi ≤ s → look θ.c s = none
 b : ∀ s, s < lo ∨ hi ≤ s → look θ.b s = none
 i' : ∀ s l, look θ.i s = some l → l.s < n
 c' : ∀ s l, look θ.c s = some l → clA n l = true
 b' : ∀ s l, look θ.b s = some l → l < n
theorem subOK_ok {lo hi n : Nat} {θ : Sub} (h : subOK lo hi n θ = true) : SubOK lo hi n θ := by
 simp only [subOK, aT, beq_iff_eq] at h
 obtain ⟨⟨⟨⟨h1, h2⟩, h3⟩, h4⟩, h5⟩ := h
 have h3 : θ.i.all (fun x => decide (lo ≤ x.1) && decide (x.1 < hi) && (fun l : Lin => decide (l.s < n)) x.2) = true := h3
 have h4 : θ.c.all (fun x => decide (lo ≤ x.1) && decide (x.1 < hi) && clA n x.2) = true := h4
 have h5 : θ.b.all (fun x => decide (lo ≤ x.1) && decide (x.1 < hi) && (fun l : Nat => decide (l < n)) x.2) = true := h5
 exact ⟨h1, h2, fun s hs => look_none (p := fun l : Lin => decide (l.s < n)) h3 hs, fun s hs => look_none (p := clA n) h4 hs, fun s hs => look_none (p := fun l : Nat => decide (l < n)) h5 hs, fun s l hl => by simpa using look_some (p := fun l : Lin => decide (l.s < n)) h3 hl, fun s l hl => look_some (p := clA n) h4 hl, fun s l hl => by simpa using look_some (p := fun l : Nat => decide (l < n)) h5 hl⟩
theorem SubOK.agr {lo hi n : Nat} {θ : Sub} (h : SubOK lo hi n θ) (v : V) : Agr lo v (v.comp θ) := fun s hs => by
 have e1 := h.i s (.inl hs); have e2 := h.c s (.inl hs); have e3 := h.b s (.inl hs)
 have hn : θ.nu s = s := by simp only [Sub.nu, h.elo, if_pos hs]
 simp only [V.comp, Sub.iL, Sub.cA, Sub.bN, e1, e2, e3, hn, Lin.ev, den, Int.add_zero, and_self]
theorem SubOK.stable {lo hi n : Nat} {θ : Sub} (h : SubOK lo hi n θ) (hlo : lo ≤ n) (hn0 : 0 < n) {v w : V} (hw : Agr n v w) : Agr hi (v.comp θ) (w.comp θ) := fun s hs => by
 have hnu : θ.nu s < n := by
  simp only [Sub.nu, h.elo, h.ebase]
  split
  ·omega
  ·first | exact hn0 | (rw [if_pos hs]; exact hn0)
 refine ⟨?_, ?_, ?_, ?_⟩
 ·simp only [V.comp, Sub.iL]
  cases hl : look θ.i s with
  | some l => exact Lin.agr hw (h.i' s l hl)
  | none => exact Lin.agr hw hnu
 ·simp only [V.comp, Sub.cA]
  cases hl : look θ.c s with
  | some l => exact clA_ok hw l (h.c' s l hl)
  | none => simp only [den]; exact (hw _ hnu).2.1
 ·simp only [V.comp, Sub.bN]
  cases hl : look θ.b s with
  | some l => exact (hw _ (h.b' s l hl)).2.2.1
  | none => exact (hw _ hnu).2.2.1
 ·simp only [V.comp]; exact (hw _ hnu).2.2.2
theorem limChk_ok {w : V} {fa : List Fact} (hf : ∀ f, f ∈ fa → FOK w f) {ma mb : Lin} {lim : Option (Lin × Lin)} (h : limChk fa ma mb lim = true) : ∀ a b, lim = some (a, b) → ma.ev w - mb.ev w < a.ev w - b.ev w ∧ 0 < a.ev w - b.ev w := by
 intro a b hl
 subst hl
 simp only [limChk, aT, Bool.or_eq_true] at h
 obtain ⟨h1, h2⟩ := h
 have h1 := leL_ok hf h1
 rcases h2 with h2 | h2 <;> (have h3 := leL_ok hf h2.1; have h4 := leL_ok hf h2.2; omega)
theorem lenEqs_ok {w : V} {old : List Fact} (ho : ∀ f, f ∈ old → FOK w f) : ∀ {l : List Fact}, (∀ f, f ∈ l → FOK w f) → ∀ f, f ∈ lenEqs old l → FOK w f
 | [], _, f, hm => by cases hm
 | g :: l, hl, f, hm => by
  simp only [lenEqs, List.mem_append] at hm
  rcases hm with hm | hm
  ·have h0 := hl g mS
   cases g <;> simp only [lenEq1] at hm <;> (try (cases hm; done))
   split at hm
   ·rename_i s t t0 ht
    obtain ⟨n, hn, hi⟩ := lenF_ok ho ht
    obtain ⟨m, hm', hj⟩ := h0
    rw [hn, sI] at hm'; subst hm'
    simp only [List.mem_cons, List.not_mem_nil, or_false] at hm
    rcases hm with rfl | rfl <;> simp only [FOK] <;> omega
   ·cases hm
  ·exact lenEqs_ok ho (fun f hf => hl f (mC _ hf)) f hm
section
variable {X : Cx} {v : V} {st : St} {env : List CV} {h : H} {tbl : Nat → Option IF}
def FPost (X : Cx) (v : V) (st : St) (env : List CV) (outs : List (AV × St)) (r : CV) (h' : H) : Prop := ∃ o, o ∈ outs ∧ ∃ w, Agr st.n v w ∧ st.n ≤ o.2.n ∧ o.2.env = st.env ∧ Sat X w o.2 env h' ∧ ∀ u, Agr o.2.n w u → den u o.1 = r
theorem bl_agr {n : Nat} {v w : V} (hw : Agr n v w) : ∀ {l : List BE}, clBs n l = true → l.flatMap (adr w) = l.flatMap (adr v)
 | [], _ => rfl
 | p :: l, hc => by
  simp only [clBs, aT] at hc
  simp only [List.flatMap_cons, clB_adr hw hc.1, bl_agr hw hc.2]
theorem Mtch.sat0 (s0 : Sat0 X v st env h) {θ : Sub} {as : List AV} {pre : St} {rest : List BE} (m : Mtch v st θ as pre rest h) (hz : 0 < θ.lo) (hi : look θ.i 0 = none) : Sat0 X (v.comp θ) pre (denL v as) h where
 z := by simp only [V.comp, Sub.iL, hi, Sub.nu, if_pos hz, Lin.ev, s0.z]; rfl
 env := m.env.symm
 fa := m.fa
 bl := m.bl
 nd := (nodup_app.1 m.nd).1
 lt := fun p hp a ha => by
  have := m.sub a (List.mem_flatMap.2 ⟨p, hp, ha⟩)
  obtain ⟨q, hq, haq⟩ := List.mem_flatMap.1 this
  exact s0.lt q hq a haq
 hn := s0.hn
 fr := s0.fr
theorem Mtch.satF (s0 : Sat0 X v st env h) {θ : Sub} {as : List AV} {pre : St} {rest : List BE} (m : Mtch v st θ as pre rest h) (hz : 0 < θ.lo) (hi : look θ.i 0 = none) : Sat0 (FrX (v.comp θ) pre h) (v.comp θ) pre (denL v as) h :=
 let a := m.sat0 s0 hz hi
 ⟨a.z, a.env, a.fa, a.bl, a.nd, fun p hp x hx => ⟨(a.lt p hp x hx).1, .inl (List.mem_flatMap.2 ⟨p, hp, hx⟩)⟩, Nat.le_refl _, fun _ _ _ => rfl⟩
def tgT (v : V) : Tg → Tgt
 | .fn f => .fn f
 | .yl b => .yl (v.b b)
theorem applyC_ok (s : Sat X v st env h) {c : Con} (g : GOK1 tbl v st.n c) (hpos : 0 < c.n0) {as : List AV} {outs : List (AV × St)} (ha : applyC c as st = some outs) : Wf tbl (tgt v c) (denL v as) h (FPost X v st env outs) := by
 have s0 := s.now
 unfold applyC at ha
 dsimp only at ha
 generalize hθ : solve c.n0 c.pre.n st.n st as c.pre = θ at ha
 split at ha
 ·rename_i hc
  simp only [aT, beq_iff_eq, dT] at hc
  obtain ⟨⟨c1, c2⟩, c3⟩ := hc
  have so := subOK_ok c1
  split at ha
  ·rename_i rest hm
   split at ha
   ·rename_i hl
    simp only [sI] at ha; subst ha
    have hz : 0 < θ.lo := by rw [so.elo]; exact hpos
    have hi0 := so.i 0 (.inl hpos)
    have m := mtch_ok s0 hm
    have hW := m.satF s0 hz hi0
    have hlim : ∀ a b, c.lim = some (a, b) → c.ma.ev (v.comp θ) - c.mb.ev (v.comp θ) < a.ev v - b.ev v ∧ 0 < a.ev v - b.ev v := fun a b hab => by
     have := limChk_ok s0.fa hl a b hab
     rw [subN_ev, subN_ev] at this
     exact this
    refine (g.ok (v.comp θ) (denL v as) h (so.agr v) hW hlim).mono ?_
    rintro r h' ⟨o, ho, u, hu, hon, hsat, hden⟩
    have hpos' : 0 < st.n := s.pos
    let w : V := ⟨fun s => if s < st.n then v.i s else u.i (c.pre.n + (s - st.n)), fun s => if s < st.n then v.c s else u.c (c.pre.n + (s - st.n)), fun s => if s < st.n then v.b s else u.b (c.pre.n + (s - st.n)), fun s => if s < st.n then v.l s else u.l (c.pre.n + (s - st.n))⟩
    have hvw : Agr st.n v w := fun s hs => ⟨by simp only [w, if_pos hs], by simp only [w, if_pos hs], by simp only [w, if_pos hs], by simp only [w, if_pos hs]⟩
    have key : ∀ x, Agr (st.n + (o.2.n - c.pre.n)) w x → Agr o.2.n u (x.comp θ) := by
     intro x hx s hs
     have hvx : Agr st.n v x := hvw.trans hx (Nat.le_add_right _ _)
     by_cases hlt : s < c.pre.n
     ·obtain ⟨a1, a2, a3, a4⟩ := hu s hlt
      obtain ⟨b1, b2, b3, b4⟩ := so.stable g.n0 hpos' hvx s hlt
      exact ⟨a1.symm.trans b1, a2.symm.trans b2, a3.symm.trans b3, a4.symm.trans b4⟩
     ·have e1 := so.i s (.inr (by omega)); have e2 := so.c s (.inr (by omega)); have e3 := so.b s (.inr (by omega))
      have hnu : θ.nu s = st.n + (s - c.pre.n) := by
       simp only [Sub.nu, so.elo, so.ebase, c2]
       rw [if_neg (by omega), if_neg hlt]
      obtain ⟨x1, x2, x3, x4⟩ := hx (st.n + (s - c.pre.n)) (by omega)
      simp only [w] at x1 x2 x3 x4
      rw [if_neg (by omega), show c.pre.n + (st.n + (s - c.pre.n) - st.n) = s by omega] at x1 x2 x3 x4
      simp only [V.comp, Sub.iL, Sub.cA, Sub.bN, e1, e2, e3, hnu, Lin.ev, den, Int.add_zero]
      exact ⟨x1, x2, x3, x4⟩
    refine ⟨postA θ st c.pre.n rest o, List.mem_map.2 ⟨o, ho, rfl⟩, w, hvw, Nat.le_add_right _ _, rfl, ⟨Nat.lt_of_lt_of_le s.pos (Nat.le_add_right _ _), fun x hx => ?_⟩, fun x hx => ?_⟩
    ·have hvx : Agr st.n v x := hvw.trans hx (Nat.le_add_right _ _)
     have sx := s.all x hvx
     have ox := hsat.all (x.comp θ) (key x hx)
     have mx := mtch_ok sx hm
     have hcl := g.cl
     simp only [clSt, aT] at hcl
     have hF : c.pre.bl.flatMap (adr (x.comp θ)) = c.pre.bl.flatMap (adr (v.comp θ)) := bl_agr (so.stable g.n0 s.pos hvx) hcl.2
     have hFst : ∀ a, a ∈ c.pre.bl.flatMap (adr (v.comp θ)) → a < h.n ∧ (a ∈ X.F ∨ X.h0.n ≤ a) := fun a ha => by
      obtain ⟨q, hq, haq⟩ := List.mem_flatMap.1 (m.sub a ha)
      exact s0.lt q hq a haq
     have hrest : ∀ q, q ∈ rest → ∀ a, a ∈ adr x q → a < h.n ∧ a ∉ c.pre.bl.flatMap (adr (v.comp θ)) := fun q hq a ha => by
      refine ⟨(sx.lt q (mx.rest q hq) a ha).1, fun hp => ?_⟩
      rw [← hF] at hp
      exact (nodup_app.1 mx.nd).2.2 a hp (List.mem_flatMap.2 ⟨q, hq, ha⟩)
     have hfr : ∀ j, j < h.n → j ∉ c.pre.bl.flatMap (adr (v.comp θ)) → h'.get j = h.get j := fun j hj hjF => ox.fr j hj hjF
     have hblx : (o.2.bl.map (subB θ)).flatMap (adr x) = o.2.bl.flatMap (adr (x.comp θ)) := by
      have : ∀ l : List BE, (l.map (subB θ)).flatMap (adr x) = l.flatMap (adr (x.comp θ)) := by
       intro l
       induction l with
       | nil => rfl
       | cons p l ih => simp only [List.map_cons, List.flatMap_cons, subB_adr, ih]
      exact this _
     have hnn : h.n ≤ h'.n := ox.hn
     refine ⟨sx.z, sx.env, fun f hf => ?_, fun p hp => ?_, ?_, fun p hp a ha => ?_, Nat.le_trans sx.hn hnn, fun j hj hjF => ?_⟩
     ·have hnew : ∀ f, f ∈ o.2.fa.filterMap (subF θ) → FOK x f := fun f hf => by
       obtain ⟨f0, hf0, hff⟩ := List.mem_filterMap.1 hf
       exact subF_ok hff (ox.fa f0 hf0)
      rcases List.mem_append.1 hf with hf | hf
      ·exact lenEqs_ok sx.fa hnew f hf
      ·rcases List.mem_append.1 hf with hf | hf
       ·exact hnew f hf
       ·exact sx.fa f hf
     ·rcases List.mem_append.1 hp with hp | hp
      ·obtain ⟨p0, hp0, rfl⟩ := List.mem_map.1 hp
       exact (subB_ok x θ h' p0).2 (ox.bl p0 hp0)
      ·refine BOK_congr (fun a ha => ?_) (sx.bl p (mx.rest p hp))
       obtain ⟨e1, e2⟩ := hrest p hp a ha
       exact hfr a e1 e2
     ·show ((o.2.bl.map (subB θ) ++ rest).flatMap (adr x)).Nodup
      rw [List.flatMap_append, hblx]
      refine nodup_app.2 ⟨ox.nd, (nodup_app.1 mx.nd).2.1, fun a ha hb => ?_⟩
      obtain ⟨q, hq, haq⟩ := List.mem_flatMap.1 hb
      obtain ⟨e1, e2⟩ := hrest q hq a haq
      obtain ⟨p, hp, hap⟩ := List.mem_flatMap.1 ha
      rcases (ox.lt p hp a hap).2 with e3 | e3
      ·exact e2 e3
      ·have : h.n ≤ a := e3
       omega
     ·rcases List.mem_append.1 hp with hp | hp
      ·obtain ⟨p0, hp0, rfl⟩ := List.mem_map.1 hp
       rw [subB_adr] at ha
       obtain ⟨e1, e2⟩ := ox.lt p0 hp0 a ha
       refine ⟨e1, ?_⟩
       rcases e2 with e2 | e2
       ·exact (hFst a e2).2
       ·have : h.n ≤ a := e2
        have := sx.hn
        exact .inr (by omega)
      ·have := sx.lt p (mx.rest p hp) a ha
       exact ⟨by omega, this.2⟩
     ·have hjn : j < h.n := by have := sx.hn; omega
      rw [hfr j hjn ?_, sx.fr j hj hjF]
      intro hp
      rcases (hFst j hp).2 with e | e
      ·exact hjF e
      ·omega
    ·have := hden (x.comp θ) (key x hx)
     simp only [postA, subA_den]
     exact this
   ·cases ha
  ·cases ha
 ·cases ha
theorem fits_ok {n0 : Nat} (s : Sat X v st env h) (hn : n0 ≤ st.n) (hn0 : 0 < n0) {a : AV} {o : AV × St} (hf : fits n0 st a o = true) : ∃ u, Agr n0 v u ∧ n0 ≤ o.2.n ∧ Sat X u { o.2 with env := [] } [] h ∧ ∀ w, Agr o.2.n u w → den w o.1 = den v a := by
 have s0 := s.now
 unfold fits at hf
 dsimp only at hf
 generalize hθ : solve n0 o.2.n 0 st [a] { o.2 with env := [o.1] } = θ at hf
 simp only [aT, dT, Option.isSome_iff_exists] at hf
 obtain ⟨⟨⟨c1, c2⟩, c3⟩, rest, hm⟩ := hf
 have so := subOK_ok c1
 have hz : 0 < θ.lo := by rw [so.elo]; exact hn0
 have m := mtch_ok s0 hm
 have hP := m.sat0 s0 hz (so.i 0 (.inl hn0))
 have hS := Sat.ofClosed (fs := []) c2 (show 0 < o.2.n by omega) hP (fun _ _ f hf => by cases hf)
 refine ⟨v.comp θ, so.agr v, c3, ⟨by show 0 < o.2.n; omega, fun w hw => ?_⟩, fun w hw => ?_⟩
 ·have := hS.all w hw
  exact ⟨this.z, rfl, fun f hf => this.fa f (List.mem_append_left _ hf), this.bl, this.nd, this.lt, this.hn, this.fr⟩
 ·have := (hS.all w hw).env
  simp only [denL, List.cons.injEq, and_true] at this
  exact this.symm
theorem fitsAny_ok {n0 : Nat} (s : Sat X v st env h) (hn : n0 ≤ st.n) (hn0 : 0 < n0) {a : AV} : ∀ {posts : List (AV × St)}, fitsAny n0 st a posts = true → ∃ o, o ∈ posts ∧ ∃ u, Agr n0 v u ∧ n0 ≤ o.2.n ∧ Sat X u { o.2 with env := [] } [] h ∧ ∀ w, Agr o.2.n u w → den w o.1 = den v a
 | [], hf => by cases hf
 | o :: os, hf => by
  simp only [fitsAny, Bool.or_eq_true] at hf
  rcases hf with hf | hf
  ·exact ⟨o, mS, fits_ok s hn hn0 hf⟩
  ·obtain ⟨o', h1, h2⟩ := fitsAny_ok s hn hn0 hf
   exact ⟨o', mC _ h1, h2⟩
end
end
end Ce.S
namespace Ce.S
noncomputable section
open Go
section
variable {X : Cx} {v : V} {st : St} {env : List CV} {h : H} {tbl : Nat → Option IF}
def CallOK (tbl : Nat → Option IF) (Γ : List Con) (call : SCall) : Prop := ∀ (tg : Tg) (as : List AV) (st : St) (hs : Hs) (outs : List (AV × St)) (hs' : Hs), call tg as st hs = some (outs, hs') → ∀ (X : Cx) (v : V) (env : List CV) (h : H), Sat X v st env h → GOK tbl v st.n Γ → (∀ u, Agr st.n v u → denL u as = denL v as ∧ tgT u tg = tgT v tg) → Wf tbl (tgT v tg) (denL v as) h (FPost X v st env outs)
theorem setD_ok {w : V} {o : AV × St} {c : CV} (s : Sat X w o.2 env h) (hd : ∀ u, Agr o.2.n w u → den u o.1 = c) (d : Option Nat) : Sat X w (setD d o) (put? env d c) h := by
 refine ⟨s.pos, fun u hu => ?_⟩
 have s0 := s.all u hu
 exact ⟨s0.z, by rw [s0.env, ← hd u hu, putA_den]; rfl, absF_ok s0.fa, s0.bl, s0.nd, s0.lt, s0.hn, s0.fr⟩
def OpsQ (X : Cx) (v : V) (st : St) (outs : List St) (env' : List CV) (h' : H) : Prop := ∃ st', st' ∈ outs ∧ ∃ w, Agr st.n v w ∧ st.n ≤ st'.n ∧ Sat X w st' env' h'
theorem condT_ok (s : Sat X v st env h) {t : Nat} {T F : List St} (hc : condT st t = some (T, F)) : ∃ b, getl env t = .bool b ∧ ∃ st', st' ∈ (if b then T else F) ∧ Sat X v st' env h ∧ st'.n = st.n := by
 have gl : ∀ u, Sat0 X u st env h → getl env t = den u (getA st.env t) := fun u su => by rw [su.env]; exact getA_den u st.env t
 have put : ∀ (b : Bool) (st' : St), getl env t = .bool b → Sat X v st' env h → Sat X v (setC t b st') env h := fun b st' hb s' => by
  refine ⟨s'.pos, fun u hu => ?_⟩
  have s0 := s'.all u hu
  refine ⟨s0.z, ?_, s0.fa, s0.bl, s0.nd, s0.lt, s0.hn, s0.fr⟩
  have e1 := setA_den u st'.env t (.bool b)
  rw [← s0.env] at e1
  show env = denL u (setA st'.env t (.bool b))
  rw [← e1]
  have : den u (AV.bool b) = getl env t := hb.symm
  rw [this]; exact (setl_id env t).symm
 unfold condT at hc
 split at hc
 ·rename_i hg
  simp only [sI, pI] at hc
  obtain ⟨rfl, rfl⟩ := hc
  exact ⟨true, by rw [gl v s.now, hg]; rfl, st, by simp, s, rfl⟩
 ·rename_i hg
  simp only [sI, pI] at hc
  obtain ⟨rfl, rfl⟩ := hc
  exact ⟨false, by rw [gl v s.now, hg]; rfl, st, by simp, s, rfl⟩
 ·split at hc
  ·rename_i T' F' hc'
   simp only [sI, pI] at hc
   obtain ⟨rfl, rfl⟩ := hc
   obtain ⟨b, hb, st', hm, s', hn, _⟩ := condA_ok s hc' gl
   refine ⟨b, hb, setC t b st', ?_, put b st' hb s', hn⟩
   cases b with
   | true => simp only [if_true] at hm ⊢; exact List.mem_map.2 ⟨st', hm, rfl⟩
   | false => simp only [Bool.false_eq_true, if_false] at hm ⊢; exact List.mem_map.2 ⟨st', hm, rfl⟩
  ·cases hc
theorem sOp1step {Γ : List Con} {call : SCall} (hcall : CallOK tbl Γ call) {o : IOp} {os : List IOp} {hs hs' : Hs} {outs : List (AV × St)} (hg : grd o.guard env = true) (ho : sOp1 call o.op st hs = some (outs, hs')) (s : Sat X v st env h) (g : GOK tbl v st.n Γ) {Q : List CV → H → Prop}
  (next : ∀ x, x ∈ outs → ∀ w c h', Agr st.n v w → st.n ≤ x.2.n → Sat X w (setD o.dst x) (put? env o.dst c) h' → Wo tbl os (put? env o.dst c) h' Q) : Wo tbl (o :: os) env h Q := by
 have s0 := s.now
 have viaCall : ∀ (tg : Tg) (as : List AV) (hs1 hs2 : Hs), call tg as st hs1 = some (outs, hs2) → (∀ u, Agr st.n v u → denL u as = denL v as ∧ tgT u tg = tgT v tg) → (∀ c : CallT, stepO c o.op env h = c (tgT v tg) (denL v as) h) → Wo tbl (o :: os) env h Q := by
  intro tg as hs1 hs2 hc hrob hst
  have := hcall tg as st hs1 outs hs2 hc X v env h s g hrob
  refine Wo_call (d := o.dst) (g := o.guard) (o := o.op) (tgT v tg) (denL v as) hg hst (this.mono ?_)
  rintro r h' ⟨x, hx, w, hw, hn, he, sx, hd⟩
  exact next x hx w r h' hw hn (setD_ok sx hd o.dst)
 have viaOp : (sOw o.op st).map (fun outs => (outs, hs)) = some (outs, hs') → isCall o.op = false → Wo tbl (o :: os) env h Q := by
  intro hso _
  simp only [Option.map_eq_some_iff, pI] at hso
  obtain ⟨outs', h1, rfl, _⟩ := hso
  obtain ⟨x, hx, w, hw, hn, he, c, h', hr, sx, hd⟩ := sOw_ok s h1
  exact Wo_step hg hr (next x hx w c h' hw hn (setD_ok sx hd o.dst))
 obtain ⟨dst, op, guard⟩ := o
 cases op with
 | callF f as =>
  simp only [sOp1] at ho
  split at ho
  ·rename_i as' has
   exact viaCall (.fn f) as' hs hs' ho (fun u hu => ⟨by rw [← (s.all u hu).ops has, s0.ops has], rfl⟩) (fun c => by simp only [stepO, tgT, s0.ops has])
  ·cases ho
 | callV f as =>
  simp only [sOp1] at ho
  split at ho <;> (try (cases ho; done))
  ·rename_i fn a b as' hf has
   refine viaCall (.fn fn) (a ++ as' ++ b) hs hs' ho (fun u hu => ⟨?_, rfl⟩) (fun c => ?_)
   ·have e1 := (s.all u hu).op hf
    rw [s0.op hf] at e1
    simp only [den, CV.clo.injEq, true_and] at e1
    simp only [denL_append, e1.1, e1.2, ← (s.all u hu).ops has, s0.ops has]
   ·exact (fun (c : CallT) => by simp only [stepO, tgT, s0.ops has, s0.op hf, den, denL_append]) c
  ·rename_i b as' hf has
   exact viaCall (.yl b) as' hs hs' ho (fun u hu => ⟨by rw [← (s.all u hu).ops has, s0.ops has], by
    have e1 := (s.all u hu).op hf
    rw [s0.op hf] at e1
    simp only [den, CV.yld.injEq] at e1
    simp only [tgT, e1]⟩) (fun c => by simp only [stepO, tgT, s0.ops has, s0.op hf, den])
 | _ => exact viaOp ho rfl
theorem sOps_ok {Γ : List Con} {call : SCall} (hcall : CallOK tbl Γ call) : ∀ (l : List IOp) (st : St) (hs hs' : Hs) (outs : List St), sOps call l st hs = some (outs, hs') → ∀ (v : V) (env : List CV) (h : H), Sat X v st env h → GOK tbl v st.n Γ → Wo tbl l env h (OpsQ X v st outs) := by
 intro l
 induction l with
 | nil =>
  intro st hs hs' outs ho v env h s g
  simp only [sOps, sI, pI] at ho
  obtain ⟨rfl, _⟩ := ho
  exact Wo_nil ⟨st, mS, v, Agr.refl _ _, Nat.le_refl _, s⟩
 | cons o os ih =>
  intro st hs hs' outs ho v env h s g
  have rest : ∀ (st0 : St), st0.n = st.n → ∀ (x : AV × St) (h1 h2 : Hs) (r : List St), (∀ y, y ∈ r → y ∈ outs) → sOps call os (setD o.dst x) h1 = some (r, h2) → ∀ w c h', Agr st0.n v w → st0.n ≤ x.2.n → Sat X w (setD o.dst x) (put? env o.dst c) h' → Wo tbl os (put? env o.dst c) h' (OpsQ X v st outs) := by
   intro st0 hn0 x h1 h2 r hsub hx w c h' hw hn sx
   rw [hn0] at hw hn
   have := ih (setD o.dst x) h1 h2 r hx w _ h' sx (g.mono hw hn)
   obtain ⟨n, e, h3, hr, st', hm, u, hu, hnn, sat⟩ := this
   exact ⟨n, e, h3, hr, st', hsub st' hm, u, hw.trans hu hn, Nat.le_trans hn hnn, sat⟩
  simp only [sOps] at ho
  split at ho
  ·rename_i hgd
   split at ho
   ·rename_i outs1 hs1 h1
    refine sOp1step hcall (by rw [hgd]; rfl) h1 s g (fun x hx w c h' hw hn sx => ?_)
    obtain ⟨k1, k2, r, hr, hsub⟩ := mapS_mem ho x hx
    exact rest st rfl x k1 k2 r hsub hr w c h' hw hn sx
   ·cases ho
  ·rename_i t b hgd
   split at ho
   ·rename_i hu
    have hund : getl env t = undef := by
     rw [s.now.env, getA_den]
     revert hu
     cases getA st.env t <;> simp only [isUnd] <;> (try (intro h; cases h; done))
     rename_i l
     cases l with
     | nil => intro _; rfl
     | cons a l => intro h; cases h
    refine Wo_off (by rw [hgd]; simp only [grd, hund, undef, isBool]) ?_
    have sD : Sat X v (setD o.dst (undefA, st)) (put? env o.dst undef) h := setD_ok (o := (undefA, st)) s (fun u hu => rfl) o.dst
    exact rest st rfl (undefA, st) _ _ outs (fun y hy => hy) ho v undef h (Agr.refl _ _) (Nat.le_refl _) sD
   split at ho
   ·rename_i T F hc
    split at ho
    ·rename_i r1 hs1 hm1
     split at ho
     ·rename_i r2 hs2 hm2
      simp only [sI, pI] at ho
      obtain ⟨rfl, _⟩ := ho
      obtain ⟨bb, hbb, st', hst', s', hn'⟩ := condT_ok s hc
      by_cases he : bb = b
      ·subst he
       obtain ⟨k1, k2, r, hr, hsub⟩ := mapS_mem hm1 st' hst'
       split at hr
       ·rename_i outs1 hs3 ho1
        have g' : GOK tbl v st'.n Γ := by rw [hn']; exact g
        refine sOp1step hcall (by rw [hgd]; simp only [grd, hbb, isBool, beq_self_eq_true]) ho1 s' g' (fun x hx w c h' hw hn sx => ?_)
        obtain ⟨k3, k4, r', hr', hsub'⟩ := mapS_mem hr x hx
        exact rest st' hn' x k3 k4 r' (fun y hy => List.mem_append_left _ (hsub y (hsub' y hy))) hr' w c h' hw hn sx
       ·cases hr
      ·have hst2 : st' ∈ (if b then F else T) := by
        cases bb <;> cases b <;> first | (exact absurd rfl he) | (simpa using hst')
       obtain ⟨k1, k2, r, hr, hsub⟩ := mapS_mem hm2 st' hst2
       refine Wo_off (by rw [hgd]; simp only [grd, hbb, isBool]; cases bb <;> cases b <;> first | rfl | exact absurd rfl he) ?_
       have sD : Sat X v (setD o.dst (undefA, st')) (put? env o.dst undef) h := setD_ok (o := (undefA, st')) s' (fun u hu => rfl) o.dst
       exact rest st' hn' (undefA, st') k1 k2 r (fun y hy => List.mem_append_right _ (hsub y hy)) hr v undef h (Agr.refl _ _) (Nat.le_refl _) sD
     ·cases ho
    ·cases ho
   ·cases ho
def CQ (X : Cx) (v : V) (st : St) (outs : OutC) (ex : Ex) (env' : List CV) (h' : H) : Prop := ∃ st', (ex, st') ∈ outs ∧ ∃ w, Agr st.n v w ∧ st.n ≤ st'.n ∧ Sat X w st' env' h'
theorem CQ.up {st1 : St} {w : V} {outs1 outs : OutC} {ex : Ex} {e : List CV} {h' : H} (q : CQ X w st1 outs1 ex e h') (hw : Agr st.n v w) (hn : st.n ≤ st1.n) (hs : ∀ x, x ∈ outs1 → x ∈ outs) : CQ X v st outs ex e h' := by
 obtain ⟨st', hm, u, hu, hnn, sat⟩ := q
 exact ⟨st', hs _ hm, u, hw.trans hu hn, Nat.le_trans hn hnn, sat⟩
theorem upg1ok {w : V} {fa : List Fact} (hf : ∀ f, f ∈ fa → FOK w f) {s : Nat} {i : Lin} {R : List Ty} (h0 : FOK w (.pre s i R)) : ∀ f, f ∈ upg1 fa s i R → FOK w f := by
 intro f hm
 unfold upg1 at hm
 split at hm
 ·rename_i t ht
  split at hm
  ·rename_i hc
   simp only [aT] at hc
   simp only [List.mem_singleton] at hm; subst hm
   obtain ⟨n, hn, hti⟩ := lenF_ok hf ht
   have hle := leL_ok hf hc.1
   simp only [FOK, TyOK]
   simp only [FOK] at h0
   cases hcv : w.c s with
   | nils =>
    rw [hcv] at hn; simp only [lenCV, sI] at hn; subst hn
    exact .inl ⟨rfl, by simp only [Lin.ev]; omega, by simp only [Lin.ev]; omega⟩
   | lst rows ex =>
    rw [hcv] at hn; simp only [lenCV, sI] at hn; subst hn
    refine .inr ⟨rows, ex, rfl, by simp only [Lin.ev]; omega, by simp only [Lin.ev]; omega, fun r hr => ?_⟩
    obtain ⟨j, hj, hjr⟩ := List.getElem_of_mem hr
    refine h0 rows ex hcv j r (by rw [nth?_eq, List.getElem?_eq_getElem hj, hjr]) ?_
    simp only [Lin.ev] at hle ⊢; omega
   | _ => rw [hcv] at hn; cases hn
  ·cases hm
 ·cases hm
theorem upgF_ok {w : V} {fa : List Fact} (hf : ∀ f, f ∈ fa → FOK w f) : ∀ {l : List Fact}, (∀ f, f ∈ l → FOK w f) → ∀ f, f ∈ upgF fa l → FOK w f := by
 intro l
 induction l with
 | nil => intro _ f h; cases h
 | cons x r ih =>
  intro hl f hm
  have hrest := ih (fun f hm => hl f (mC _ hm))
  have h0 := hl x mS
  simp only [upgF, List.mem_append] at hm
  rcases hm with hm | hm
  ·cases x <;> simp only [upgP] at hm <;> (try (cases hm; done))
   exact upg1ok hf h0 f hm
  ·exact hrest f hm
theorem upg_ok (s : Sat X v st env h) : Sat X v (upg st) env h := s.fact (fun u su f hf => upgF_ok su.fa su.fa f hf)
theorem backs_nor {lo : Nat} {P : St} {ma mb : Lin} : ∀ {outs r : OutC}, backs lo P ma mb outs = some r → ∀ st', (Ex.nor, st') ∈ outs → backOK lo P ma mb st' = true
 | [], r, h, st', hm => by cases hm
 | (.nor, s1) :: outs, r, h, st', hm => by
  simp only [backs] at h
  split at h
  ·rename_i hb
   rcases List.mem_cons.1 hm with hm | hm
   ·cases hm; exact hb
   ·exact backs_nor h st' hm
  ·cases h
 | (.jmp j, s1) :: outs, r, h, st', hm => by
  simp only [backs] at h
  split at h
  ·rename_i l hl
   rcases List.mem_cons.1 hm with hm | hm
   ·cases hm
   ·exact backs_nor hl st' hm
  ·cases h
theorem backs_jmp {lo : Nat} {P : St} {ma mb : Lin} {j : Jump} : ∀ {outs r : OutC}, backs lo P ma mb outs = some r → ∀ st', (Ex.jmp j, st') ∈ outs → (Ex.jmp j, upg st') ∈ r
 | [], r, h, st', hm => by cases hm
 | (.nor, s1) :: outs, r, h, st', hm => by
  simp only [backs] at h
  split at h
  ·rcases List.mem_cons.1 hm with hm | hm
   ·cases hm
   ·exact backs_jmp h st' hm
  ·cases h
 | (.jmp j', s1) :: outs, r, h, st', hm => by
  simp only [backs] at h
  split at h
  ·rename_i l hl
   simp only [sI] at h; subst h
   rcases List.mem_cons.1 hm with hm | hm
   ·cases hm; exact mS
   ·exact mC _ (backs_jmp hl st' hm)
  ·cases h
theorem backsD_nor {lo : Nat} {Fs : List (St × Lin × Lin)} {ma mb : Lin} : ∀ {outs r : OutC}, backsD lo Fs ma mb outs = some r → ∀ st', (Ex.nor, st') ∈ outs → backAny lo ma mb st' Fs = true
 | [], r, h, st', hm => by cases hm
 | (.nor, s1) :: outs, r, h, st', hm => by
  simp only [backsD] at h
  split at h
  ·rename_i hb
   rcases List.mem_cons.1 hm with hm | hm
   ·cases hm; exact hb
   ·exact backsD_nor h st' hm
  ·cases h
 | (.jmp j, s1) :: outs, r, h, st', hm => by
  simp only [backsD] at h
  split at h
  ·rename_i l hl
   rcases List.mem_cons.1 hm with hm | hm
   ·cases hm
   ·exact backsD_nor hl st' hm
  ·cases h
theorem backsD_jmp {lo : Nat} {Fs : List (St × Lin × Lin)} {ma mb : Lin} {j : Jump} : ∀ {outs r : OutC}, backsD lo Fs ma mb outs = some r → ∀ st', (Ex.jmp j, st') ∈ outs → (Ex.jmp j, upg st') ∈ r
 | [], r, h, st', hm => by cases hm
 | (.nor, s1) :: outs, r, h, st', hm => by
  simp only [backsD] at h
  split at h
  ·rcases List.mem_cons.1 hm with hm | hm
   ·cases hm
   ·exact backsD_jmp h st' hm
  ·cases h
 | (.jmp j', s1) :: outs, r, h, st', hm => by
  simp only [backsD] at h
  split at h
  ·rename_i l hl
   simp only [sI] at h; subst h
   rcases List.mem_cons.1 hm with hm | hm
   ·cases hm; exact mS
   ·exact mC _ (backsD_jmp hl st' hm)
  ·cases h
theorem backAny_ok {lo : Nat} {ma mb : Lin} {st : St} : ∀ {Fs : List (St × Lin × Lin)}, backAny lo ma mb st Fs = true → ∃ F, F ∈ Fs ∧ subOK lo F.1.n st.n (solve lo F.1.n 0 st st.env F.1) = true ∧ (∃ rest, mtch st (solve lo F.1.n 0 st st.env F.1) st.env F.1 = some rest) ∧ limChk st.fa (subN (solve lo F.1.n 0 st st.env F.1) F.2.1) (subN (solve lo F.1.n 0 st st.env F.1) F.2.2) (some (ma, mb)) = true
 | [], h => by cases h
 | (P, na, nb) :: r, h => by
  simp only [backAny, Bool.or_eq_true, aT, Option.isSome_iff_exists] at h
  rcases h with ⟨⟨h1, h2⟩, h3⟩ | h
  ·exact ⟨(P, na, nb), mS, h1, h2, h3⟩
  ·obtain ⟨F, hF, h'⟩ := backAny_ok h
   exact ⟨F, mC _ hF, h'⟩
theorem entAny_ok {lo : Nat} {st : St} : ∀ {Fs : List (St × Lin × Lin)}, entAny lo st Fs = true → ∃ F, F ∈ Fs ∧ subOK lo F.1.n st.n (solve lo F.1.n 0 st st.env F.1) = true ∧ ∃ rest, mtch st (solve lo F.1.n 0 st st.env F.1) st.env F.1 = some rest
 | [], h => by cases h
 | (P, na, nb) :: r, h => by
  simp only [entAny, Bool.or_eq_true, aT, Option.isSome_iff_exists] at h
  rcases h with ⟨h1, h2⟩ | h
  ·exact ⟨(P, na, nb), mS, h1, h2⟩
  ·obtain ⟨F, hF, h'⟩ := entAny_ok h
   exact ⟨F, mC _ hF, h'⟩
theorem formsOK_ok {lo : Nat} : ∀ {Fs : List (St × Lin × Lin)}, formsOK lo Fs = true → ∀ F, F ∈ Fs → clSt F.1 = true ∧ lo ≤ F.1.n ∧ F.2.1.s < F.1.n ∧ F.2.2.s < F.1.n
 | [], h, F, hF => by cases hF
 | (P, na, nb) :: r, h, F, hF => by
  simp only [formsOK, aT, dT] at h
  rcases List.mem_cons.1 hF with rfl | hF
  ·exact ⟨h.1.1.1.1, h.1.1.1.2, h.1.1.2, h.1.2⟩
  ·exact formsOK_ok h.2 F hF
theorem inForm (s : Sat X v st env h) {lo : Nat} {P : St} {θ : Sub} {as : List AV} {rest : List BE} (so : SubOK lo P.n st.n θ) (hlo : 0 < lo) (hP : 0 < P.n) (hm : mtch st θ as P = some rest) (hc : clSt P = true) {fs : List Fact} (hfs : ∀ w, Agr lo v w → ∀ f, f ∈ fs → FOK w f) (hl : lo ≤ P.n) :
  Agr lo v (v.comp θ) ∧ Sat X (v.comp θ) { P with fa := P.fa ++ fs } (denL v as) h := by
 have s0 := s.now
 have m := mtch_ok s0 hm
 have hz : 0 < θ.lo := by rw [so.elo]; exact hlo
 have s1 := m.sat0 s0 hz (so.i 0 (.inl hlo))
 exact ⟨so.agr v, Sat.ofClosed hc hP s1 (fun w hw f hf => hfs w ((so.agr v).trans hw hl) f hf)⟩
end
end
end Ce.S
namespace Ce.S
noncomputable section
open Go
section
variable {tbl : Nat → Option IF} {X : Cx} {v : V} {st : St} {env : List CV} {h : H}
theorem setPsA_den (w : V) : ∀ (ps : List Nat) (env vs e : List AV), setPsA env ps vs = some e → setPs (denL w env) ps (denL w vs) = some (denL w e)
 | [], env, [], e, h => by simp only [setPsA, sI] at h; subst h; rfl
 | p :: ps, env, a :: vs, e, h => by
  simp only [setPsA] at h
  have := setPsA_den w ps (setA env p a) vs e h
  rw [← setA_den] at this
  simp only [denL, setPs]
  exact this
 | [], env, a :: vs, e, h => by simp [setPsA] at h
 | p :: ps, env, [], e, h => by simp [setPsA] at h
theorem isRdy_ok {b t : Nat} {bl : List BE} {s : Nat} {J : List Jump} (hr : isRdy b t bl = some (s, J)) : lookB b bl = some (.loop b t s J) := by
 unfold isRdy at hr
 split at hr
 ·rename_i b' t' s' J' hl
  split at hr
  ·rename_i ht; subst ht
   simp only [sI, pI] at hr
   obtain ⟨rfl, rfl⟩ := hr
   have := (lookB_mem hl).2
   simp only [keyB] at this; subst this
   exact hl
  ·cases hr
 ·cases hr
theorem setL_ok (s : Sat X v st env h) {l t ls : Nat} {J : List Jump} (hr : isRdy l t st.bl = some (ls, J)) (hl : l < st.n) (hls : ls < st.n) : ∃ pend, h.get (v.b l) = some (.loop (lst? t) pend (v.l ls).env (v.l ls).ps (v.l ls).a (v.l ls).b) ∧ (t = 0 → pend = none) ∧ (t = 1 → pend ≠ none) ∧ (∀ j, pend = some j → j ∈ J) ∧
  ∀ (t' : Nat) (pend' : Option Jump), (t' = 0 → pend' = none) → (t' = 1 → pend' ≠ none) → (∀ j, pend' = some j → j ∈ J) → Sat X v (setL l t' ls J st) env (h.put (v.b l) (.loop (lst? t') pend' (v.l ls).env (v.l ls).ps (v.l ls).a (v.l ls).b)) := by
 have hb := isRdy_ok hr
 obtain ⟨pend, hg, p1, p2, p3⟩ := (s.now.blk hb).1
 refine ⟨pend, hg, p1, p2, p3, fun t' pend' q1 q2 q3 => ⟨s.pos, fun u hu => ?_⟩⟩
 have su := s.all u hu
 have e1 := (hu l hl).2.2.1
 have e2 := (hu ls hls).2.2.2
 have := su.put hb (q := .loop l t' ls J) (blk := .loop (lst? t') pend' (v.l ls).env (v.l ls).ps (v.l ls).a (v.l ls).b) rfl rfl ⟨pend', by rw [get_put, if_pos rfl, e2], q1, q2, q3⟩
 rw [← e1] at this
 exact this
theorem dropL_ok (s : Sat X v st env h) {l t ls : Nat} {J : List Jump} (hr : isRdy l t st.bl = some (ls, J)) (hl : l < st.n) (blk : Blk) : Sat X v (dropL l st) env (h.put (v.b l) blk) := by
 have hb := isRdy_ok hr
 refine ⟨s.pos, fun u hu => ?_⟩
 have su := s.all u hu
 have e1 := (hu l hl).2.2.1
 obtain ⟨_, l1, l2, hbl, hm⟩ := lookB_ok hb
 have := su.upd (l1 := l1) (P := [.loop l t ls J]) (P' := []) (l2 := l2) (h' := h.put (v.b l) blk) hbl (Nat.le_refl _) (fun j _ hj => by
  rw [get_put, if_neg]
  rintro rfl
  exact hj (by simp [adr, e1])) (fun q hq => by cases hq) (by simp) (fun a ha => by simp at ha)
 rw [← hm] at this
 exact this
theorem rngEnds_ok {lb ls : Nat} {J : List Jump} {lo : Nat} {posts : List (AV × St)} : ∀ {outs : OutC}, rngEnds lb ls J lo posts outs = true → ∀ ex s, (ex, s) ∈ outs → isRdy lb 2 s.bl = some (ls, J) ∧ (match ex with
  | .nor => fitsAny lo (setL lb 0 ls J s) (.bool true) posts = true
  | .jmp j => j ∈ J ∧ fitsAny lo (setL lb 1 ls J s) (.bool false) posts = true)
 | [], _, ex, s, hm => by cases hm
 | (.nor, s1) :: r, h, ex, s, hm => by
  simp only [rngEnds, aT, beq_iff_eq] at h
  rcases List.mem_cons.1 hm with hm | hm
  ·cases hm; exact ⟨h.1.1, h.1.2⟩
  ·exact rngEnds_ok h.2 ex s hm
 | (.jmp j, s1) :: r, h, ex, s, hm => by
  simp only [rngEnds, aT, beq_iff_eq, List.contains_iff_mem] at h
  rcases List.mem_cons.1 hm with hm | hm
  ·cases hm; exact ⟨h.1.1.1, h.1.1.2, h.1.2⟩
  ·exact rngEnds_ok h.2 ex s hm
theorem rngOuts_ok {lb ls : Nat} {J : List Jump} {env : List AV} : ∀ {outs : List (AV × St)} {r : OutC}, rngOuts lb ls J env outs = some r → ∀ o, o ∈ outs → (isRdy lb 0 o.2.bl = some (ls, J) ∧ (Ex.nor, { dropL lb o.2 with env := env }) ∈ r) ∨ (isRdy lb 1 o.2.bl = some (ls, J) ∧ ∀ j, j ∈ J → (Ex.jmp j, { dropL lb o.2 with env := env }) ∈ r)
 | [], r, h, o, ho => by cases ho
 | (a, s) :: outs, r, h, o, ho => by
  simp only [rngOuts] at h
  split at h
  ·cases h
  ·rename_i l hl
   split at h
   ·rename_i h0
    simp only [sI] at h; subst h
    rcases List.mem_cons.1 ho with rfl | ho
    ·exact .inl ⟨by simpa using h0, mS⟩
    ·rcases rngOuts_ok hl o ho with ⟨h1, h2⟩ | ⟨h1, h2⟩
     ·exact .inl ⟨h1, mC _ h2⟩
     ·exact .inr ⟨h1, fun j hj => mC _ (h2 j hj)⟩
   ·split at h
    ·rename_i h1
     simp only [sI] at h; subst h
     rcases List.mem_cons.1 ho with rfl | ho
     ·exact .inr ⟨by simpa using h1, fun j hj => List.mem_append_left _ (List.mem_map.2 ⟨j, hj, rfl⟩)⟩
     ·rcases rngOuts_ok hl o ho with ⟨h1, h2⟩ | ⟨h1, h2⟩
      ·exact .inl ⟨h1, List.mem_append_right _ h2⟩
      ·exact .inr ⟨h1, fun j hj => List.mem_append_right _ (h2 j hj)⟩
    ·cases h
theorem unroll_ok {c : IC} {Γ : List Con} {body : St → Hs → Option (OutC × Hs)} (hb : ∀ (st : St) (hs hs' : Hs) (outs : OutC), body st hs = some (outs, hs') → ∀ (v : V) (env : List CV) (h : H), Sat X v st env h → GOK tbl v st.n Γ → Wc tbl c env h (CQ X v st outs)) :
  ∀ (n : Nat) (st : St) (hs hs' : Hs) (outs : OutC), unrollL body n st hs = some (outs, hs') → ∀ (v : V) (env : List CV) (h : H), Sat X v st env h → GOK tbl v st.n Γ → Wc tbl (.loop c) env h (CQ X v st outs) := by
 intro n
 induction n with
 | zero => intro st hs hs' outs ho; cases ho
 | succ n ih =>
  intro st hs hs' outs ho v env h s g
  simp only [unrollL] at ho
  split at ho
  ·rename_i outs1 hs1 h1
   refine Wc_loop1 ((hb st hs hs1 outs1 h1 v env h s g).mono ?_)
   rintro ex e h' ⟨st', hm, w, hw, hn, sat⟩
   obtain ⟨k1, k2, r, hr, hsub⟩ := mapS_mem ho (ex, st') hm
   cases ex with
   | nor =>
    have := ih st' k1 k2 r hr w e h' sat (g.mono hw hn)
    exact this.mono (fun x e h'' q => q.up hw hn hsub)
   | jmp j =>
    simp only [sI, pI] at hr
    obtain ⟨rfl, _⟩ := hr
    exact ⟨st', hsub _ mS, w, hw, hn, sat⟩
  ·cases ho
theorem setEnv_ok {w : V} {st' : St} {e env' : List CV} (s : Sat X w st' e h) {as : List AV} (he : ∀ u, Agr st'.n w u → env' = denL u as) : Sat X w { st' with env := as } env' h :=
 ⟨s.pos, fun u hu => let a := s.all u hu; ⟨a.z, he u hu, a.fa, a.bl, a.nd, a.lt, a.hn, a.fr⟩⟩
theorem sC_ok {callG : List Con → SCall} (hcall : ∀ Γ, CallOK tbl Γ (callG Γ)) (n : Nat) : ∀ (c : IC) (X : Cx) (Γ : List Con) (st : St) (hs hs' : Hs) (outs : OutC), sC callG n c Γ st hs = some (outs, hs') → ∀ (v : V) (env : List CV) (h : H), Sat X v st env h → GOK tbl v st.n Γ → Wc tbl c env h (CQ X v st outs) := by
 intro c
 induction c with
 | skip =>
  intro X Γ st hs hs' outs ho v env h s g
  simp only [sC, sI, pI] at ho
  obtain ⟨rfl, _⟩ := ho
  exact Wc_skip ⟨st, mS, v, Agr.refl _ _, Nat.le_refl _, s⟩
 | exit id =>
  intro X Γ st hs hs' outs ho v env h s g
  simp only [sC, sI, pI] at ho
  obtain ⟨rfl, _⟩ := ho
  exact Wc_exit ⟨st, mS, v, Agr.refl _ _, Nat.le_refl _, s⟩
 | ret =>
  intro X Γ st hs hs' outs ho v env h s g
  simp only [sC, sI, pI] at ho
  obtain ⟨rfl, _⟩ := ho
  exact Wc_ret ⟨st, mS, v, Agr.refl _ _, Nat.le_refl _, s⟩
 | ops l =>
  intro X Γ st hs hs' outs ho v env h s g
  simp only [sC] at ho
  split at ho
  ·rename_i outs1 hs1 h1
   simp only [sI, pI] at ho
   obtain ⟨rfl, _⟩ := ho
   obtain ⟨k, e, h', hr, st', hm, w, hw, hn, sat⟩ := sOps_ok (hcall Γ) l st hs hs1 outs1 h1 v env h s g
   exact Wc_ops ⟨k, e, h', hr, st', List.mem_map.2 ⟨st', hm, rfl⟩, w, hw, hn, sat⟩
  ·cases ho
 | seq a b iha ihb =>
  intro X Γ st hs hs' outs ho v env h s g
  simp only [sC] at ho
  split at ho
  ·rename_i outs1 hs1 h1
   refine Wc_seq ((iha X Γ st hs hs1 outs1 h1 v env h s g).mono ?_)
   rintro ex e h' ⟨st', hm, w, hw, hn, sat⟩
   obtain ⟨k1, k2, r, hr, hsub⟩ := mapS_mem ho (ex, st') hm
   cases ex with
   | nor =>
    have := ihb X Γ st' k1 k2 r hr w e h' sat (g.mono hw hn)
    exact this.mono (fun x e h'' q => q.up hw hn hsub)
   | jmp j =>
    simp only [sI, pI] at hr
    obtain ⟨rfl, _⟩ := hr
    exact ⟨st', hsub _ mS, w, hw, hn, sat⟩
  ·cases ho
 | cond x a b iha ihb =>
  intro X Γ st hs hs' outs ho v env h s g
  simp only [sC] at ho
  split at ho
  ·rename_i t
   split at ho
   ·rename_i T F hc
    split at ho
    ·rename_i r1 hs1 hm1
     split at ho
     ·rename_i r2 hs2 hm2
      simp only [sI, pI] at ho
      obtain ⟨rfl, _⟩ := ho
      obtain ⟨bb, hbb, st', hst', s', hn'⟩ := condT_ok s hc
      have g' : GOK tbl v st'.n Γ := by rw [hn']; exact g
      refine Wc_cond bb hbb (fun hb => ?_) (fun hb => ?_)
      ·subst hb
       obtain ⟨k1, k2, r, hr, hsub⟩ := mapS_mem hm1 st' (by simpa using hst')
       exact (iha X Γ st' k1 k2 r hr v env h s' g').mono (fun x e h'' q => q.up (Agr.refl _ _) (by omega) (fun y hy => List.mem_append_left _ (hsub y hy)))
      ·subst hb
       obtain ⟨k1, k2, r, hr, hsub⟩ := mapS_mem hm2 st' (by simpa using hst')
       exact (ihb X Γ st' k1 k2 r hr v env h s' g').mono (fun x e h'' q => q.up (Agr.refl _ _) (by omega) (fun y hy => List.mem_append_right _ (hsub y hy)))
     ·cases ho
    ·cases ho
   ·cases ho
  ·exact Wc_cond true rfl (fun _ => iha X Γ st hs hs' outs ho v env h s g) (fun hb => by cases hb)
  ·exact Wc_cond false rfl (fun hb => by cases hb) (fun _ => ihb X Γ st hs hs' outs ho v env h s g)
  ·cases ho
 | block id c ih =>
  intro X Γ st hs hs' outs ho v env h s g
  simp only [sC] at ho
  split at ho
  ·rename_i outs1 hs1 h1
   simp only [sI, pI] at ho
   obtain ⟨rfl, _⟩ := ho
   refine Wc_block ((ih X Γ st hs hs1 outs1 h1 v env h s g).mono ?_)
   rintro ex e h' ⟨st', hm, w, hw, hn, sat⟩
   have hmap := List.mem_map_of_mem (f := fun x : Ex × St => match x with
    | (.jmp (.exit i), st) => if i = id then (Ex.nor, st) else (.jmp (.exit i), st)
    | x => x) hm
   match ex, hmap with
   | .nor, hmap => exact ⟨st', hmap, w, hw, hn, sat⟩
   | .jmp .ret, hmap => exact ⟨st', hmap, w, hw, hn, sat⟩
   | .jmp (.exit i), hmap =>
    simp only [blockQ]
    dsimp only at hmap
    by_cases hi : i = id
    ·rw [if_pos hi] at hmap ⊢; exact ⟨st', hmap, w, hw, hn, sat⟩
    ·rw [if_neg hi] at hmap ⊢; exact ⟨st', hmap, w, hw, hn, sat⟩
  ·cases ho
 | loop c ih =>
  intro X Γ st hs hs' outs ho v env h s g
  simp only [sC] at ho
  split at ho
  ·exact unroll_ok (fun st hs hs' outs hb v env h s g => ih X Γ st hs hs' outs hb v env h s g) n st _ hs' outs ho v env h s g
  ·rename_i P ma mb hs1
   split at ho
   ·rename_i hc
    simp only [aT, dT, Option.isSome_iff_exists] at hc
    obtain ⟨⟨⟨⟨⟨c1, c2⟩, c3⟩, rest, c4⟩, c5⟩, c6⟩ := hc
    split at ho
    ·rename_i outs1 hs2 hbody
     split at ho
     ·rename_i r hbk
      simp only [sI, pI] at ho
      obtain ⟨rfl, _⟩ := ho
      have hPn : 0 < P.n := Nat.lt_of_lt_of_le s.pos c3
      have so := subOK_ok c1
      have hfs : ∀ (w : V), Agr st.n v w → ∀ f, f ∈ st.fa → FOK w f := fun w hw f hf => (s.all w hw).fa f hf
      obtain ⟨ag0, s1⟩ := inForm s so s.pos hPn c4 c2 hfs c3
      rw [← s.now.env] at s1
      refine Wc_loop (I := fun m e h' => ∃ W, Agr st.n v W ∧ Sat X W { P with fa := P.fa ++ st.fa } e h' ∧ (ma.ev W - mb.ev W).toNat = m) _ ⟨_, ag0, s1, rfl⟩ ?_
      rintro m e h' ⟨W, hW, sW, rfl⟩
      have gW : GOK tbl W P.n Γ := g.mono hW c3
      refine (ih X Γ { P with fa := P.fa ++ st.fa } hs1 hs2 outs1 hbody W e h' sW gW).mono ?_
      rintro ex e2 h2 ⟨st2, hm2, w2, hw2, hn2, sat2⟩
      cases ex with
      | jmp j =>
       exact ⟨upg st2, backs_jmp hbk st2 hm2, w2, hW.trans hw2 c3, Nat.le_trans c3 hn2, upg_ok sat2⟩
      | nor =>
       have hb := backs_nor hbk st2 hm2
       unfold backOK at hb
       dsimp only at hb
       generalize hθ : solve st.n P.n 0 st2 st2.env P = θ at hb
       simp only [aT, Option.isSome_iff_exists] at hb
       obtain ⟨⟨b1, rest2, b2⟩, b3⟩ := hb
       have so2 := subOK_ok b1
       have hfs2 : ∀ (w : V), Agr st.n w2 w → ∀ f, f ∈ st.fa → FOK w f := fun w hw f hf => (s.all w ((hW.trans hw2 c3).trans hw (Nat.le_refl _))).fa f hf
       obtain ⟨ag2, s2⟩ := inForm sat2 so2 s.pos hPn b2 c2 hfs2 c3
       rw [← sat2.now.env] at s2
       have hl := limChk_ok sat2.now.fa b3 ma mb rfl
       rw [subN_ev, subN_ev] at hl
       have e1 : ma.ev w2 = ma.ev W := (Lin.agr hw2 c5).symm
       have e3 : mb.ev w2 = mb.ev W := (Lin.agr hw2 c6).symm
       exact ⟨_, by omega, w2.comp θ, (hW.trans hw2 c3).trans ag2 (Nat.le_refl _), s2, rfl⟩
     ·cases ho
    ·cases ho
   ·cases ho
  ·rename_i Fs hs1
   split at ho
   ·rename_i hc
    simp only [aT] at hc
    have hfo := formsOK_ok hc.1
    obtain ⟨F0, hF0, c1, rest, c4⟩ := entAny_ok hc.2
    have hfs : ∀ (w : V), Agr st.n v w → ∀ f, f ∈ st.fa → FOK w f := fun w hw f hf => (s.all w hw).fa f hf
    have hpos : ∀ F, F ∈ Fs → 0 < F.1.n := fun F hF => Nat.lt_of_lt_of_le s.pos (hfo F hF).2.1
    have so := subOK_ok c1
    obtain ⟨ag0, s1⟩ := inForm s so s.pos (hpos F0 hF0) c4 (hfo F0 hF0).1 hfs (hfo F0 hF0).2.1
    rw [← s.now.env] at s1
    refine Wc_loop (I := fun m e h' => ∃ F, F ∈ Fs ∧ ∃ W, Agr st.n v W ∧ Sat X W { F.1 with fa := F.1.fa ++ st.fa } e h' ∧ (F.2.1.ev W - F.2.2.ev W).toNat = m) _ ⟨F0, hF0, _, ag0, s1, rfl⟩ ?_
    rintro m e h' ⟨F, hF, W, hW, sW, rfl⟩
    obtain ⟨f1, f2, f3, f4⟩ := hfo F hF
    have gW : GOK tbl W F.1.n Γ := g.mono hW f2
    obtain ⟨k1, k2, r, hr, hsub⟩ := mapS_mem ho F hF
    split at hr
    ·rename_i outs1 hs2 hbody
     split at hr
     ·rename_i r' hbk
      simp only [sI, pI] at hr
      obtain ⟨rfl, _⟩ := hr
      refine (ih X Γ { F.1 with fa := F.1.fa ++ st.fa } k1 hs2 outs1 hbody W e h' sW gW).mono ?_
      rintro ex e2 h2 ⟨st2, hm2, w2, hw2, hn2, sat2⟩
      have hw2' : Agr F.1.n W w2 := hw2
      have hn2' : F.1.n ≤ st2.n := hn2
      cases ex with
      | jmp j =>
       exact ⟨upg st2, hsub _ (backsD_jmp hbk st2 hm2), w2, hW.trans hw2' f2, Nat.le_trans f2 hn2', upg_ok sat2⟩
      | nor =>
       obtain ⟨G, hG, b1, ⟨rest2, b2⟩, b3⟩ := backAny_ok (backsD_nor hbk st2 hm2)
       generalize hθ : solve st.n G.1.n 0 st2 st2.env G.1 = θ at b1 b2 b3
       obtain ⟨g1, g2, g3, g4⟩ := hfo G hG
       have so2 := subOK_ok b1
       have hfs2 : ∀ (w : V), Agr st.n w2 w → ∀ f, f ∈ st.fa → FOK w f := fun w hw f hf => (s.all w ((hW.trans hw2' f2).trans hw (Nat.le_refl _))).fa f hf
       obtain ⟨ag2, s2⟩ := inForm sat2 so2 s.pos (hpos G hG) b2 g1 hfs2 g2
       rw [← sat2.now.env] at s2
       have hl := limChk_ok sat2.now.fa b3 F.2.1 F.2.2 rfl
       rw [subN_ev, subN_ev] at hl
       have e1 : F.2.1.ev w2 = F.2.1.ev W := (Lin.agr hw2' f3).symm
       have e3 : F.2.2.ev w2 = F.2.2.ev W := (Lin.agr hw2' f4).symm
       exact ⟨_, by omega, G, hG, w2.comp θ, (hW.trans hw2' f2).trans ag2 (Nat.le_refl _), s2, rfl⟩
     ·cases hr
    ·cases hr
   ·cases ho
  ·cases ho
 | rangeF f ps a b iha ihb =>
  intro X Γ st hs hs' outs ho v env h s g
  simp only [sC] at ho
  split at ho <;> (try (cases ho; done))
  rename_i fn x y J P posts hs1 hf
  split at ho
  ·rename_i hc
   simp only [aT, dT, beq_iff_eq] at hc
   obtain ⟨⟨c1, c2⟩, c3⟩ := hc
   split at ho
   ·rename_i e he
    split at ho
    ·rename_i outsA hsA hA
     split at ho
     ·rename_i outsB hsB hB
      split at ho
      ·rename_i hends
       split at ho
       ·rename_i outs1 hs2 hF
        split at ho
        ·rename_i r hr
         simp only [sI, pI] at ho
         obtain ⟨rfl, _⟩ := ho
         have s0 := s.now
         let v1 : V := v.up st.n (v.i st.n) (v.c st.n) h.n ⟨env, ps, a, b⟩
         have hv1 : Agr st.n v v1 := agr_up _ _ _ _ _ _
         have at1 : ∀ u, Agr (st.n + 1) v1 u → Agr st.n v u ∧ u.b st.n = h.n ∧ u.l st.n = ⟨env, ps, a, b⟩ := fun u hu => by
          obtain ⟨x1, _, _, x4, x5⟩ := agr_up' hu
          exact ⟨x1, x4, x5⟩
         have s1 : Sat X v1 { st with n := st.n + 1, bl := .loop st.n 0 st.n J :: st.bl } env (h.push (.loop .ready none env ps a b)) := by
          refine ⟨Nat.succ_pos _, fun u hu => ?_⟩
          obtain ⟨x1, x2, x3⟩ := at1 u hu
          have := ((s.all u x1).wk' (st.n + 1)).push (q := .loop st.n 0 st.n J) (blk := .loop .ready none env ps a b) (by simp only [adr, x2]) ⟨none, by rw [x2, x3, get_push, if_pos rfl]; rfl, fun _ => rfl, (fun h => by cases h), (fun j h => by cases h)⟩
          exact this
         have hY : GOK1 tbl v1 (st.n + 1) (yCon st.n P posts) := by
          refine ⟨Nat.succ_pos _, Nat.le_refl _, fun _ => Nat.lt_succ_self _, c1, (fun a b h => by cases h), ?_⟩
          intro W args h1 hW sP _
          obtain ⟨x1, x2, x3⟩ := at1 W hW
          have hPn : 0 < P.n := by omega
          have sC1 : Sat (FrX W P h1) W { P with fa := P.fa ++ st.fa } args h1 := Sat.ofClosed c1 hPn sP (fun w hw f hf => (s.all w (x1.trans hw (by omega))).fa f hf)
          have envs : ∀ u, Agr P.n W u → setPs env ps args = some (denL u e) := fun u hu => by
           have e1 := setPsA_den u ps st.env P.env e he
           rw [← (s.all u (x1.trans hu (by omega))).env, ← (sC1.all u hu).env] at e1
           exact e1
          have eW := envs W (Agr.refl _ _)
          have sE : Sat (FrX W P h1) W { P with env := e, fa := P.fa ++ st.fa } (denL W e) h1 := setEnv_ok sC1 (fun u hu => by have := envs u hu; rw [eW, sI] at this; exact this)
          have hlP : st.n < P.n := by omega
          obtain ⟨pend, hg, p1, _, _, _⟩ := setL_ok (ls := st.n) sE c3 hlP hlP
          rw [x2, x3] at hg
          have htg : tgt v1 (yCon st.n P posts) = .yl h.n := by
           have := (at1 v1 (Agr.refl _ _)).2.1
           simp only [tgt, yCon, if_true, this]
          rw [htg]
          refine Wf_yl hg eW ?_
          have gW : GOK tbl W P.n Γ := g.mono x1 (by omega)
          refine (iha (FrX W P h1) Γ { P with env := e, fa := P.fa ++ st.fa } hs1 hsA outsA hA W (denL W e) h1 sE gW).mono ?_
          rintro ex e1 h2 ⟨st2, hm2, w2, hw2, hn2, sat2⟩
          obtain ⟨k1, k2, rr, hrr, hsub⟩ := mapS_mem hB (ex, st2) hm2
          cases ex with
          | jmp j => cases hrr
          | nor =>
           dsimp only at hrr hn2
           split at hrr
           ·rename_i hrdy
            simp only [beq_iff_eq] at hrdy
            have hl2 : st.n < st2.n := by omega
            obtain ⟨pend2, hg2, q1, _, _, put2⟩ := setL_ok (ls := st.n) sat2 hrdy hl2 hl2
            have b2 : w2.b st.n = h.n := by rw [← (hw2 st.n hlP).2.2.1, x2]
            have l2 : w2.l st.n = ⟨env, ps, a, b⟩ := by rw [← (hw2 st.n hlP).2.2.2, x3]
            have hp2 : pend2 = none := q1 rfl
            subst hp2
            have sB := put2 2 none (fun h => by cases h) (fun h => by cases h) (fun j h => by cases h)
            rw [b2, l2] at hg2 sB
            refine ⟨rfl, none, env, ps, a, b, hg2, ?_⟩
            have g2 : GOK tbl w2 st2.n Γ := gW.mono hw2 hn2
            refine (ihb (FrX W P h1) Γ (setL st.n 2 st.n J st2) k1 k2 rr hrr w2 e1 _ sB g2).mono ?_
            rintro ex3 e3 h3 ⟨st3, hm3, w3, hw3, hn3, sat3⟩
            obtain ⟨rd3, fit3⟩ := rngEnds_ok hends ex3 st3 (hsub _ hm3)
            have hn3' : st2.n ≤ st3.n := hn3
            have hw3' : Agr st2.n w2 w3 := hw3
            have hl3 : st.n < st3.n := by omega
            obtain ⟨pend3, hg3, _, _, _, put3⟩ := setL_ok (ls := st.n) sat3 rd3 hl3 hl3
            have b3 : w3.b st.n = h.n := by rw [← (hw3' st.n hl2).2.2.1, b2]
            have l3 : w3.l st.n = ⟨env, ps, a, b⟩ := by rw [← (hw3' st.n hl2).2.2.2, l2]
            rw [b3, l3] at hg3
            refine ⟨_, _, _, _, _, _, hg3, ?_⟩
            have hWw3 : Agr P.n W w3 := hw2.trans hw3' hn2
            cases ex3 with
            | nor =>
             dsimp only at fit3 ⊢
             have sF := put3 0 none (fun _ => rfl) (fun h => by cases h) (fun j h => by cases h)
             rw [b3, l3] at sF
             obtain ⟨o, ho, u, hu, hon, hsat, hden⟩ := fitsAny_ok sF (show P.n ≤ _ from by show P.n ≤ st3.n; omega) hPn fit3
             exact ⟨o, ho, u, hWw3.trans hu (Nat.le_refl _), hon, hsat, hden⟩
            | jmp j =>
             dsimp only at fit3 ⊢
             have sF := put3 1 (some j) (fun h => by cases h) (fun _ h => by cases h) (fun j' h => by cases h; exact fit3.1)
             rw [b3, l3] at sF
             obtain ⟨o, ho, u, hu, hon, hsat, hden⟩ := fitsAny_ok sF (show P.n ≤ _ from by show P.n ≤ st3.n; omega) hPn fit3.2
             exact ⟨o, ho, u, hWw3.trans hu (Nat.le_refl _), hon, hsat, hden⟩
           ·cases hrr
         have g1 : GOK tbl v1 (st.n + 1) (yCon st.n P posts :: Γ) := GOK.cons hY (g.mono hv1 (Nat.le_succ _))
         have hclo : ∀ u, Agr (st.n + 1) v1 u → f.ev env = .clo fn (denL u x) (denL u y) := fun u hu => (s.all u (at1 u hu).1).op hf
         have hrob : ∀ u, Agr (st.n + 1) v1 u → denL u (x ++ [.yld st.n] ++ y) = denL v1 (x ++ [.yld st.n] ++ y) ∧ tgT u (.fn fn) = tgT v1 (.fn fn) := fun u hu => by
          have e1 := hclo u hu
          rw [hclo v1 (Agr.refl _ _)] at e1
          simp only [CV.clo.injEq, true_and] at e1
          refine ⟨?_, rfl⟩
          simp only [denL_append, e1.1, e1.2, denL, den, (at1 u hu).2.1, (at1 v1 (Agr.refl _ _)).2.1]
         have hw := hcall (yCon st.n P posts :: Γ) (.fn fn) (x ++ [.yld st.n] ++ y) _ _ outs1 hs2 hF X v1 env _ s1 g1 hrob
         refine Wc_rangeF (hclo v1 (Agr.refl _ _)) ?_
         have hargs : denL v1 (x ++ [.yld st.n] ++ y) = denL v1 x ++ [CV.yld h.n] ++ denL v1 y := by
          simp only [denL_append, denL, den, (at1 v1 (Agr.refl _ _)).2.1]
         rw [hargs] at hw
         refine hw.mono ?_
         rintro rv h1 ⟨o, ho, w, hw1, hn1, henv, sat, _⟩
         dsimp only at hn1 henv
         have hln : st.n < o.2.n := by omega
         have bw : w.b st.n = h.n := by rw [← (hw1 st.n (Nat.lt_succ_self _)).2.2.1]; exact (at1 v1 (Agr.refl _ _)).2.1
         have hvw : Agr st.n v w := hv1.trans hw1 (Nat.le_succ _)
         have fin : ∀ (t : Nat) (blk : Blk), isRdy st.n t o.2.bl = some (st.n, J) → Sat X w { dropL st.n o.2 with env := st.env } env (h1.put h.n blk) := fun t blk hrd => by
          have := dropL_ok sat hrd hln blk
          rw [bw] at this
          exact setEnv_ok this (fun u hu => (s.all u (hvw.trans hu (by show st.n ≤ o.2.n; omega))).env)
         rcases rngOuts_ok hr o ho with ⟨rd, hm⟩ | ⟨rd, hm⟩
         ·obtain ⟨pend, hg, p1, _, _, _⟩ := setL_ok (ls := st.n) sat rd hln hln
          have hp := p1 rfl
          subst hp
          rw [bw] at hg
          exact ⟨_, none, _, _, _, _, hg, (fun h => by cases h), _, hm, w, hvw, by show st.n ≤ o.2.n; omega, fin 0 _ rd⟩
         ·obtain ⟨pend, hg, _, p2, p3, _⟩ := setL_ok (ls := st.n) sat rd hln hln
          rw [bw] at hg
          cases pend with
          | none => exact absurd rfl (p2 rfl)
          | some j => exact ⟨_, some j, _, _, _, _, hg, (fun h => by cases h), _, hm j (p3 j rfl), w, hvw, by show st.n ≤ o.2.n; omega, fin 1 _ rd⟩
        ·cases ho
       ·cases ho
      ·cases ho
     ·cases ho
    ·cases ho
   ·cases ho
  ·cases ho
end
end
end Ce.S
namespace Ce.S
noncomputable section
open Go
section
variable {tbl : Nat → Option IF} {X : Cx} {v : V} {st : St} {env : List CV} {h : H}
theorem resA_ok {w : V} (sw : Sat0 X w st env h) : ∀ {rs : List IRes} {l : List AV}, resA st rs = some l → resV rs env h = some (denL w l)
 | [], l, hr => by simp only [resA, sI] at hr; subst hr; rfl
 | .tmp t :: rs, l, hr => by
  simp only [resA, Option.map_eq_some_iff] at hr
  obtain ⟨l', h1, rfl⟩ := hr
  simp only [resV, resA_ok sw h1, denL]
  rw [sw.env, getA_den]
 | .cell t g :: rs, l, hr => by
  simp only [resA] at hr
  split at hr
  ·rename_i x l' h1 h2
   simp only [sI] at hr; subst hr
   have e := ldD_ok sw h1
   simp only [resV, resA_ok sw h2, denL]
   rw [show getl env t = den w (getA st.env t) by rw [sw.env, getA_den], e]
  ·cases hr
theorem oneR_den (w : V) : ∀ l : List AV, one? (denL w l) = den w (oneR l)
 | [] => rfl
 | [_] => rfl
 | _ :: _ :: _ => rfl
theorem endsF_ok {F : IF} {env0 : List AV} : ∀ {outs : OutC} {r : List (AV × St)}, endsF F env0 outs = some r → ∀ ex s, (ex, s) ∈ outs → (ex = .nor ∨ ex = .jmp .ret) ∧ ∃ l, resA s F.res = some l ∧ (oneR l, { s with env := env0 }) ∈ r
 | [], r, h, ex, s, hm => by cases hm
 | (ex1, s1) :: outs, r, h, ex, s, hm => by
  simp only [endsF] at h
  split at h
  ·cases h
  ·rename_i hne
   split at h
   ·rename_i l t h1 h2
    simp only [sI] at h; subst h
    rcases List.mem_cons.1 hm with hm | hm
    ·cases hm
     refine ⟨?_, l, h1, mS⟩
     match ex1, hne with
     | .nor, _ => exact .inl rfl
     | .jmp .ret, _ => exact .inr rfl
     | .jmp (.exit i), hne => exact absurd rfl (hne i)
    ·obtain ⟨h3, l', h4, h5⟩ := endsF_ok h2 ex s hm
     exact ⟨h3, l', h4, mC _ h5⟩
   ·cases h
theorem sBody_ok {callG : List Con → SCall} (hcall : ∀ Γ, CallOK tbl Γ (callG Γ)) {n : Nat} {F : IF} {Γ : List Con} {as : List AV} {hs hs' : Hs} {outs : List (AV × St)} (ho : sBody callG n F Γ as st hs = some (outs, hs')) (s : Sat X v st env h) (g : GOK tbl v st.n Γ) (hrob : ∀ u, Agr st.n v u → denL u as = denL v as) :
  Wb tbl F (denL v as) h (FPost X v st env outs) := by
 unfold sBody at ho
 split at ho
 ·rename_i outs1 hs1 hC
  split at ho
  ·rename_i r hr
   simp only [sI, pI] at ho
   obtain ⟨rfl, _⟩ := ho
   have sE : Sat X v { st with env := as ++ repA (F.ntmps - as.length) } (denL v as ++ repu (F.ntmps - (denL v as).length)) h := setEnv_ok s (fun u hu => by
    rw [denL_append, hrob u hu, repA_den, denL_length])
   refine Wb_of ((sC_ok hcall n F.body X Γ _ hs hs1 outs1 hC v _ h sE g).mono ?_)
   rintro ex e h' ⟨st', hm, w, hw, hn, sat⟩
   dsimp only at hw hn
   obtain ⟨hex, l, hl, hmem⟩ := endsF_ok hr ex st' hm
   have res : ∃ vs, resV F.res e h' = some vs ∧ FPost X v st env r (one? vs) h' := by
    refine ⟨denL w l, resA_ok sat.now hl, (oneR l, { st' with env := st.env }), hmem, w, hw, hn, rfl, setEnv_ok sat (fun u hu => (s.all u (hw.trans hu hn)).env), fun u hu => ?_⟩
    have e1 := resA_ok (sat.all u hu) hl
    rw [resA_ok sat.now hl, sI] at e1
    rw [← oneR_den, e1]
   rcases hex with rfl | rfl
   ·exact res
   ·exact res
  ·cases ho
 ·cases ho
theorem tryC_ok {as : List AV} {st : St} {r : List (AV × St)} : ∀ {Γ : List Con} {tg : Tg}, tryC as st Γ tg = some r → ∃ c, c ∈ Γ ∧ (∀ w : V, tgt w c = tgT w tg) ∧ applyC c as st = some r
 | [], tg, h => by cases tg <;> cases h
 | d :: Γ, .fn f, h => by
  have tl : tryC as st Γ (.fn f) = some r → ∃ c, c ∈ d :: Γ ∧ (∀ w : V, tgt w c = tgT w (.fn f)) ∧ applyC c as st = some r := fun h => by
   obtain ⟨c, h1, h2⟩ := tryC_ok h
   exact ⟨c, mC _ h1, h2⟩
  simp only [tryC] at h
  split at h
  ·rename_i hc
   split at h
   ·rename_i x hx
    simp only [sI] at h; subst h
    exact ⟨d, mS, fun w => by simp only [tgt, hc.1, Bool.false_eq_true, if_false, hc.2, tgT], hx⟩
   ·exact tl h
  ·exact tl h
 | d :: Γ, .yl b, h => by
  have tl : tryC as st Γ (.yl b) = some r → ∃ c, c ∈ d :: Γ ∧ (∀ w : V, tgt w c = tgT w (.yl b)) ∧ applyC c as st = some r := fun h => by
   obtain ⟨c, h1, h2⟩ := tryC_ok h
   exact ⟨c, mC _ h1, h2⟩
  simp only [tryC] at h
  split at h
  ·rename_i hc
   split at h
   ·rename_i x hx
    simp only [sI] at h; subst h
    exact ⟨d, mS, fun w => by simp only [tgt, hc.1, if_true, hc.2, tgT], hx⟩
   ·exact tl h
  ·exact tl h
theorem frAll_ok : ∀ {outs r : List (AV × St)}, frAll outs = some r → ∀ o, o ∈ outs → ∃ x, frA o.1 { o.2 with env := [o.1] } = some x ∧ (x.1, { x.2 with env := o.2.env }) ∈ r
 | [], r, h, o, ho => by cases ho
 | (a, s) :: outs, r, h, o, ho => by
  simp only [frAll] at h
  split at h
  ·rename_i x l h1 h2
   simp only [sI] at h; subst h
   rcases List.mem_cons.1 ho with rfl | ho
   ·exact ⟨x, h1, mS⟩
   ·obtain ⟨y, h3, h4⟩ := frAll_ok h2 o ho
    exact ⟨y, h3, mC _ h4⟩
  ·cases h
theorem ty_cln {w : V} : ∀ (T : Ty) (c : CV), TyOK w T c → cln c = true
 | .int k lo hi, c, h => by obtain ⟨n, rfl, _⟩ := h; rfl
 | .bool, c, h => by obtain ⟨n, rfl⟩ := h; rfl
 | .str, c, h => by obtain ⟨n, rfl⟩ := h; rfl
 | .lst R lo hi, c, h => by
  simp only [TyOK] at h
  rcases h with ⟨rfl, _⟩ | ⟨rows, ex, rfl, _, _, hr⟩
  ·rfl
  ·have : ∀ l : List (List CV), (∀ r, r ∈ l → TyOKs w R r) → clnR l = true := by
    intro l
    induction l with
    | nil => intro _; rfl
    | cons r l ih =>
     intro hl
     have key : ∀ (R : List Ty) (cs : List CV), TyOKs w R cs → (∀ T, T ∈ R → ∀ c, TyOK w T c → cln c = true) → clnL cs = true := by
      intro R
      induction R with
      | nil => intro cs h _; simp only [TyOKs] at h; subst h; rfl
      | cons T Ts ihT =>
       intro cs h hT
       obtain ⟨c, cs', rfl, h1, h2⟩ := h
       simp only [clnL, hT T mS c h1, ihT cs' h2 (fun T hm => hT T (mC _ hm)), Bool.and_self]
     simp only [clnR, key R r (hl r mS) (fun T hT c hc => ty_cln T c hc), ih (fun r h => hl r (mC _ h)), Bool.and_self]
   simp only [cln, this rows hr]
 | .agg l, c, h => by
  obtain ⟨cs, rfl, hc⟩ := h
  have key : ∀ (R : List Ty) (cs : List CV), TyOKs w R cs → (∀ T, T ∈ R → ∀ c, TyOK w T c → cln c = true) → clnL cs = true := by
   intro R
   induction R with
   | nil => intro cs h _; simp only [TyOKs] at h; subst h; rfl
   | cons T Ts ihT =>
    intro cs h hT
    obtain ⟨c, cs', rfl, h1, h2⟩ := h
    simp only [clnL, hT T mS c h1, ihT cs' h2 (fun T hm => hT T (mC _ hm)), Bool.and_self]
  simp only [cln, key l cs hc (fun T hT c hc => ty_cln T c hc)]
theorem cl1ok {w : V} {fa : List Fact} (hf : ∀ f, f ∈ fa → FOK w f) {a : AV} (hc : cl1 fa a = true) : cln (den w a) = true ∧ ∀ (k : Nat) (h : H), frz (k + 1) (den w a) h = some (den w a, h) := by
 cases a <;> simp only [cl1] at hc <;> (try (cases hc; done)) <;> (try exact ⟨rfl, fun _ _ => rfl⟩)
 rename_i s
 obtain ⟨T, h1, h2⟩ := hasTy_ok hf hc
 exact ⟨ty_cln T _ h2, fun k h => TyOK_frz h2 h1 k h⟩
theorem cl1s_ok {w : V} {fa : List Fact} (hf : ∀ f, f ∈ fa → FOK w f) : ∀ {l : List AV}, cl1s fa l = true → clnL (denL w l) = true ∧ ∀ (k : Nat) (h : H), frzL (frz (k + 1)) (denL w l) h = some (denL w l, h)
 | [], _ => ⟨rfl, fun _ _ => rfl⟩
 | a :: l, hc => by
  simp only [cl1s, aT] at hc
  obtain ⟨h1, h2⟩ := cl1ok hf hc.1
  obtain ⟨h3, h4⟩ := cl1s_ok hf hc.2
  exact ⟨by simp only [denL, clnL, h1, h3, Bool.and_self], fun k h => by simp only [denL, frzL, h2, h4]⟩
theorem clArg_ok {w : V} {fa : List Fact} (hf : ∀ f, f ∈ fa → FOK w f) {a : AV} (hc : clArg fa a = true) : cln (den w a) = true ∧ ∀ (k : Nat) (h : H), frz (k + 2) (den w a) h = some (den w a, h) := by
 cases a <;> simp only [clArg] at hc
 case agg l =>
  obtain ⟨h1, h2⟩ := cl1s_ok hf hc
  exact ⟨by simp only [den, cln, h1], fun k h => by simp only [den]; unfold frz; simp only [h2]⟩
 all_goals (have := cl1ok hf hc; exact ⟨this.1, fun k h => this.2 (k + 1) h⟩)
theorem clArgs_ok {w : V} {fa : List Fact} (hf : ∀ f, f ∈ fa → FOK w f) : ∀ {l : List AV}, clArgs fa l = true → clnL (denL w l) = true ∧ ∀ (k : Nat) (h : H), frzL (frz (k + 2)) (denL w l) h = some (denL w l, h)
 | [], _ => ⟨rfl, fun _ _ => rfl⟩
 | a :: l, hc => by
  simp only [clArgs, aT] at hc
  obtain ⟨h1, h2⟩ := clArg_ok hf hc.1
  obtain ⟨h3, h4⟩ := clArgs_ok hf hc.2
  exact ⟨by simp only [denL, clnL, h1, h3, Bool.and_self], fun k h => by simp only [denL, frzL, h2, h4]⟩
theorem sc1ok {w : V} {fa : List Fact} (hf : ∀ f, f ∈ fa → FOK w f) {a : AV} (hc : sc1 fa a = true) (k : Nat) (p : H × H) : xp (k + 1) (den w a) p = some (den w a, p) := by
 cases a <;> simp only [sc1] at hc <;> (try (cases hc; done)) <;> (try rfl)
 rename_i s
 obtain ⟨T, h1, h2⟩ := hasTy_ok hf hc
 simp only [Bool.or_eq_true] at h1
 rcases h1 with h1 | h1
 ·obtain ⟨b, hb⟩ := sty_ok hf _ _ h1 _ h2
  simp only [den, hb]; rfl
 ·obtain ⟨b, hb⟩ := sty_ok hf _ _ h1 _ h2
  simp only [den, hb]; rfl
theorem sc1s_ok {w : V} {fa : List Fact} (hf : ∀ f, f ∈ fa → FOK w f) : ∀ {l : List AV}, sc1s fa l = true → ∀ (k : Nat) (p : H × H), xpL (xp (k + 1)) (denL w l) p = some (denL w l, p)
 | [], _, _, _ => rfl
 | a :: l, hc, k, p => by
  simp only [sc1s, aT] at hc
  simp only [denL, xpL, sc1ok hf hc.1, sc1s_ok hf hc.2]
theorem scRes_ok {w : V} {fa : List Fact} (hf : ∀ f, f ∈ fa → FOK w f) {a : AV} (hc : scRes fa a = true) (k : Nat) (p : H × H) : xp (k + 2) (den w a) p = some (den w a, p) := by
 cases a <;> simp only [scRes] at hc
 case tup l => simp only [den]; unfold xp; simp only [sc1s_ok hf hc]
 all_goals exact sc1ok hf hc (k + 1) p
theorem backAll_ok {st0 : St} : ∀ {outs r : List (AV × St)}, backAll st0 outs = some r → ∀ o, o ∈ outs → scRes o.2.fa o.1 = true ∧ (o.1, (⟨o.2.n, st0.env, o.2.fa, st0.bl⟩ : St)) ∈ r
 | [], r, h, o, ho => by cases ho
 | (a, s) :: outs, r, h, o, ho => by
  simp only [backAll] at h
  split at h
  ·rename_i hs
   simp only [Option.map_eq_some_iff] at h
   obtain ⟨l, h1, rfl⟩ := h
   rcases List.mem_cons.1 ho with rfl | ho
   ·exact ⟨hs, mS⟩
   ·obtain ⟨h2, h3⟩ := backAll_ok h1 o ho
    exact ⟨h2, mC _ h3⟩
  ·cases h
theorem fitAll_ok {lo : Nat} {posts : List (AV × St)} : ∀ {outs : List (AV × St)}, fitAll lo posts outs = true → ∀ o, o ∈ outs → fitsAny lo o.2 o.1 posts = true
 | [], _, o, ho => by cases ho
 | (a, s) :: outs, h, o, ho => by
  simp only [fitAll, aT] at h
  rcases List.mem_cons.1 ho with rfl | ho
  ·exact h.1
  ·exact fitAll_ok h.2 o ho
def EOK (tbl : Nat → Option IF) (E : List (Nat × List Ty × Ty)) : Prop := ∀ f Ts T, findE E f = some (Ts, T) → ∀ (v : V) (args : List CV) (h : H), v.i 0 = 0 → TyOKs v Ts args → Wf tbl (.fn f) args h fun r h' => h' = h ∧ ∀ w : V, w.i 0 = 0 → TyOK w T r
theorem Post.toF {outs : List (AV × St)} {c : CV} {h' : H} (p : Post X v st env outs (some (c, h'))) : FPost X v st env outs c h' := by
 obtain ⟨o, ho, w, hw, hn, he, c', h2, hr, sat, hd⟩ := p
 simp only [sI, pI] at hr
 obtain ⟨rfl, rfl⟩ := hr
 exact ⟨o, ho, w, hw, hn, he, sat, hd⟩
theorem sF_ok {E : List (Nat × List Ty × Ty)} (hE : EOK tbl E) : ∀ (n : Nat) (Γ : List Con), CallOK tbl Γ (sF tbl E n Γ) := by
 intro n
 induction n with
 | zero => intro Γ tg as st hs outs hs' ho; cases ho
 | succ n ih =>
  intro Γ tg as st hs outs hs' ho X v env h s g hrob
  have s0 := s.now
  simp only [sF] at ho
  split at ho
  ·rename_i r hc
   simp only [sI, pI] at ho
   obtain ⟨rfl, _⟩ := ho
   obtain ⟨c, hm, htg, hr⟩ := tryC_ok hc
   rw [← htg v]
   exact applyC_ok s (g c hm) (g c hm).pos hr
  ·split at ho
   ·cases ho
   ·rename_i f hnone
    split at ho
    ·rename_i Ts T hfe
     split at ho
     ·rename_i hty
      simp only [sI, pI] at ho
      obtain ⟨rfl, _⟩ := ho
      refine (hE f Ts T hfe v (denL v as) h s0.z (tyAs_ok s0.z s0.fa _ _ hty)).mono ?_
      rintro r h' ⟨rfl, hT⟩
      exact (post_fresh s (r := some (r, h')) (c := r) rfl (fun w sw => hT w sw.z)).toF
     ·cases ho
    ·split at ho
     ·cases ho
     ·rename_i F hF
      split at ho
      ·rename_i P posts ma mb hs1 _
       split at ho
       ·rename_i hc
        obtain ⟨c2, c3, c4, c5, c6⟩ := hc
        split at ho
        ·rename_i outs1 hs2 hB
         split at ho
         ·rename_i hfit
          simp only [Option.map_eq_some_iff, pI] at ho
          obtain ⟨r, hr, rfl, _⟩ := ho
          have hPn : 0 < P.n := Nat.lt_of_lt_of_le s.pos c4
          have hall : ∀ (m : Nat) (W : V) (args : List CV) (h1 : H), Agr st.n v W → Sat0 (FrX W P h1) W P args h1 → (ma.ev W - mb.ev W).toNat ≤ m → Wf tbl (.fn f) args h1 (CPost W (rCon f st.n P posts ma mb none) h1) := by
           intro m
           induction m with
           | zero =>
            intro W args h1 hW sP hm
            have sC1 : Sat (FrX W P h1) W { P with fa := P.fa ++ st.fa } args h1 := Sat.ofClosed c3 hPn sP (fun w hw f hf => (s.all w (hW.trans hw c4)).fa f hf)
            have gW : GOK tbl W P.n (rCon f st.n P posts ma mb (some (ma, mb)) :: Γ) := GOK.cons ⟨s.pos, c4, (fun h => by cases h), c3, (fun a b hab => by cases hab; exact ⟨c5, c6⟩), fun W' args' h' _ _ hl => by
             have := hl ma mb rfl; omega⟩ (g.mono hW c4)
            have := sBody_ok (ih) hB sC1 gW (fun u hu => by
             simp only [clSt, aT] at c3
             exact (clL_ok hu _ c3.1.1).symm)
            rw [← sP.env] at this
            refine Wf_fn0 hF c2 ?_
            obtain ⟨k, rv, h2, hrun, o, ho, w, hw, hn, _, sat, hd⟩ := this
            refine ⟨k, rv, h2, hrun, ?_⟩
            obtain ⟨p, hp, u, hu, hpn, hsat, hden⟩ := fitsAny_ok sat hn hPn (fitAll_ok hfit o ho)
            exact ⟨p, hp, u, hw.trans hu (Nat.le_refl _), hpn, hsat, fun x hx => by rw [hden x hx]; exact hd w (Agr.refl _ _)⟩
           | succ m ihm =>
            intro W args h1 hW sP hm
            have sC1 : Sat (FrX W P h1) W { P with fa := P.fa ++ st.fa } args h1 := Sat.ofClosed c3 hPn sP (fun w hw f hf => (s.all w (hW.trans hw c4)).fa f hf)
            have gW : GOK tbl W P.n (rCon f st.n P posts ma mb (some (ma, mb)) :: Γ) := GOK.cons ⟨s.pos, c4, (fun h => by cases h), c3, (fun a b hab => by cases hab; exact ⟨c5, c6⟩), fun W' args' h' hW' sP' hl => by
             have hl := hl ma mb rfl
             exact ihm W' args' h' (hW.trans hW' (Nat.le_refl _)) sP' (by
              have : (rCon f st.n P posts ma mb (some (ma, mb))).ma.ev W' - (rCon f st.n P posts ma mb (some (ma, mb))).mb.ev W' = ma.ev W' - mb.ev W' := rfl
              omega)⟩ (g.mono hW c4)
            have := sBody_ok (ih) hB sC1 gW (fun u hu => by
             simp only [clSt, aT] at c3
             exact (clL_ok hu _ c3.1.1).symm)
            rw [← sP.env] at this
            refine Wf_fn0 hF c2 ?_
            obtain ⟨k, rv, h2, hrun, o, ho, w, hw, hn, _, sat, hd⟩ := this
            refine ⟨k, rv, h2, hrun, ?_⟩
            obtain ⟨p, hp, u, hu, hpn, hsat, hden⟩ := fitsAny_ok sat hn hPn (fitAll_ok hfit o ho)
            exact ⟨p, hp, u, hw.trans hu (Nat.le_refl _), hpn, hsat, fun x hx => by rw [hden x hx]; exact hd w (Agr.refl _ _)⟩
          have g0K : GOK1 tbl v st.n (rCon f st.n P posts ma mb none) := ⟨s.pos, Nat.le_refl _, (fun h => by cases h), c3, (fun a b h => by cases h), fun W args h1 hW sP _ => hall _ W args h1 hW sP (Nat.le_refl _)⟩
          exact applyC_ok s g0K s.pos hr
         ·cases ho
        ·cases ho
       ·cases ho
      ·split at ho
       ·rename_i hm
        exact Wf_fn0 hF hm (sBody_ok ih ho s g (fun u hu => (hrob u hu).1))
       ·rename_i hm
        split at ho
        ·rename_i outs1 hs1 hB
         split at ho
         ·rename_i r hr
          simp only [sI, pI] at ho
          obtain ⟨rfl, _⟩ := ho
          refine Wf_fn1 hF hm ?_
          obtain ⟨k, rv, h2, hrun, o, ho, w, hw, hn, he, sat, hd⟩ := sBody_ok ih hB s g (fun u hu => (hrob u hu).1)
          refine ⟨k, rv, h2, hrun, ?_⟩
          obtain ⟨x, hx, hxr⟩ := frAll_ok hr o ho
          have sat1 : Sat X w { o.2 with env := [o.1] } [rv] h2 := setEnv_ok sat (fun u hu => by simp only [denL, hd u hu])
          obtain ⟨o2, ho2, w2, hw2, hn2, he2, c2, h3, hz, sat2, hd2⟩ := frA_ok sat1 (a := o.1) (a' := x.1) (st' := x.2) hx (c := rv) (fun u su => by
           have := su.env
           simp only [denL, List.cons.injEq, and_true] at this
           exact this) 18
          simp only [List.mem_singleton] at ho2; subst ho2
          have hn2' : o.2.n ≤ x.2.n := hn2
          have hw2' : Agr o.2.n w w2 := hw2
          exact ⟨c2, h3, hz, _, hxr, w2, hw.trans hw2' hn, Nat.le_trans hn hn2', he, setEnv_ok sat2 (fun u hu => (sat.all u (hw2'.trans hu hn2')).env), hd2⟩
         ·cases ho
        ·cases ho
       ·rename_i hm0 hm1
        split at ho
        ·rename_i hc
         obtain ⟨c1, c2⟩ := hc
         split at ho
         ·rename_i outs1 hs1 hB
          split at ho
          ·rename_i r hr
           simp only [sI, pI] at ho
           obtain ⟨rfl, _⟩ := ho
           obtain ⟨k1, k2⟩ := clArgs_ok s0.fa c2
           refine Wf_fn2 hF c1 (k2 18 h) k1 ?_
           have sN : Sat ⟨H.empty, []⟩ v ⟨st.n, [], st.fa, []⟩ [] H.empty := ⟨s.pos, fun u hu => ⟨(s.all u hu).z, rfl, (s.all u hu).fa, (fun p hp => by cases hp), by simp, (fun p hp => by cases hp), Nat.le_refl _, fun _ _ _ => rfl⟩⟩
           obtain ⟨k, rv, h2, hrun, o, ho, w, hw, hn, he, sat, hd⟩ := sBody_ok ih hB sN GOK.nil (fun u hu => (hrob u hu).1)
           refine ⟨k, rv, h2, hrun, ?_⟩
           obtain ⟨b1, b2⟩ := backAll_ok hr o ho
           have e1 := hd w (Agr.refl _ _)
           have e2 := scRes_ok sat.now.fa b1 18 (h2, h)
           rw [e1] at e2
           refine ⟨rv, h2, h, e2, _, b2, w, hw, hn, rfl, ⟨sat.pos, fun u hu => ?_⟩, hd⟩
           have su := s.all u (hw.trans hu hn)
           exact ⟨su.z, su.env, (sat.all u hu).fa, su.bl, su.nd, su.lt, su.hn, su.fr⟩
          ·cases ho
         ·cases ho
        ·cases ho
end
end
end Ce.S
namespace Ce.S
noncomputable section
open Go
section
variable {tbl : Nat → Option IF}
theorem con_ok {E : List (Nat × List Ty × Ty)} (hE : EOK tbl E) {n : Nat} {c : Con} {Γ : List Con} {hs hs' : Hs} {outs : List (AV × St)} (h1 : c.yl = false) (h0 : c.n0 = 1) (hcl : clSt c.pre = true) (hn : 1 ≤ c.pre.n) (hl : c.lim = none)
  (hrun : sF tbl E n Γ (.fn c.tg) c.pre.env c.pre hs = some (outs, hs')) (hfit : fitAll c.pre.n c.posts outs = true) (hΓ : ∀ v : V, v.i 0 = 0 → GOK tbl v 1 Γ) : ∀ v : V, v.i 0 = 0 → GOK1 tbl v 1 c := by
 intro v hv
 refine ⟨by omega, by omega, fun h => by (rw [h1] at h; cases h), hcl, fun a b h => by (rw [hl] at h; cases h), ?_⟩
 intro W args h hW sP _
 have hPn : 0 < c.pre.n := by omega
 have hz : W.i 0 = 0 := by rw [← (hW 0 (by omega)).1]; exact hv
 have sC1 : Sat (FrX W c.pre h) W c.pre args h := by
  have := Sat.ofClosed (fs := []) hcl hPn sP (fun _ _ f hf => by cases hf)
  simpa using this
 have hcl' := hcl
 simp only [clSt, aT] at hcl'
 have := sF_ok hE n Γ (.fn c.tg) c.pre.env c.pre hs outs hs' hrun (FrX W c.pre h) W args h sC1 ((hΓ W hz).mono (Agr.refl _ _) hn) (fun u hu => ⟨(clL_ok hu _ hcl'.1.1).symm, rfl⟩)
 rw [← sP.env] at this
 have ht : tgt v c = tgT W (.fn c.tg) := by simp only [tgt, h1, Bool.false_eq_true, if_false, tgT]
 rw [ht]
 refine this.mono ?_
 rintro r h' ⟨o, ho, w, hw, hnn, _, sat, hd⟩
 obtain ⟨p, hp, u, hu, hpn, hsat, hden⟩ := fitsAny_ok sat hnn hPn (fitAll_ok hfit o ho)
 exact ⟨p, hp, u, hw.trans hu (Nat.le_refl _), hpn, hsat, fun x hx => by rw [hden x hx]; exact hd w (Agr.refl _ _)⟩
theorem gok_nil : ∀ v : V, v.i 0 = 0 → GOK tbl v 1 [] := fun _ _ => GOK.nil
theorem gok_cons {c : Con} {Γ : List Con} (h : ∀ v : V, v.i 0 = 0 → GOK1 tbl v 1 c) (hΓ : ∀ v : V, v.i 0 = 0 → GOK tbl v 1 Γ) : ∀ v : V, v.i 0 = 0 → GOK tbl v 1 (c :: Γ) := fun v hv => GOK.cons (h v hv) (hΓ v hv)
def v0 : V := ⟨fun _ => 0, fun _ => undef, fun _ => 0, fun _ => ⟨[], [], .skip, .skip⟩⟩
theorem api_ok {E : List (Nat × List Ty × Ty)} (hE : EOK tbl E) {n : Nat} {F : IF} {Γ : List Con} (hΓ : ∀ v : V, v.i 0 = 0 → GOK tbl v 1 Γ) {Ts : List Ty} {hs hs' : Hs} {outs : List (AV × St)}
  (hrun : sBody (sF tbl E n) n F Γ (frTs 1 Ts).1 ⟨(frTs 1 Ts).2.2, [], (frTs 1 Ts).2.1, []⟩ hs = some (outs, hs')) {args : List CV} (hT : ∀ v : V, v.i 0 = 0 → TyOKs v Ts args) :
  Wb tbl F args H.empty fun r h' => ∃ o, o ∈ outs ∧ ∃ w, Sat ⟨H.empty, []⟩ w o.2 [] h' ∧ ∀ u, Agr o.2.n w u → den u o.1 = r := by
 have hz : ∀ u : V, Agr 1 v0 u → u.i 0 = 0 := fun u hu => (hu 0 (by omega)).1.symm
 obtain ⟨hle, w, hw, hall⟩ := frTs_ok Ts 1 v0 args (fun u hu => hT u (hz u hu))
 have sat : Sat ⟨H.empty, []⟩ w ⟨(frTs 1 Ts).2.2, [], (frTs 1 Ts).2.1, []⟩ [] H.empty := ⟨by show 0 < (frTs 1 Ts).2.2; omega, fun u hu => ⟨hz u (hw.trans hu hle), rfl, (hall u hu).2, (fun p hp => by cases hp), by simp, (fun p hp => by cases hp), Nat.le_refl _, fun _ _ _ => rfl⟩⟩
 have hd : ∀ u, Agr (frTs 1 Ts).2.2 w u → denL u (frTs 1 Ts).1 = args := fun u hu => (hall u hu).1
 have g : GOK tbl w (frTs 1 Ts).2.2 Γ := (hΓ w (hz w hw)).mono (Agr.refl _ _) hle
 have := sBody_ok (sF_ok hE n) hrun sat g (fun u hu => by rw [hd u hu, hd w (Agr.refl _ _)])
 rw [hd w (Agr.refl _ _)] at this
 obtain ⟨k, r, h', hr, o, ho, w2, hw2, hn2, _, s2, hden⟩ := this
 refine ⟨k, r, h', hr, o, ho, w2, s2.agr (Agr.refl _ _) |> fun s => ?_, hden⟩
 exact ⟨s.pos, fun u hu => let a := s.all u hu; ⟨a.z, a.env, a.fa, a.bl, a.nd, a.lt, a.hn, a.fr⟩⟩
theorem eok_nil : EOK tbl [] := fun f Ts T h => by cases h
end
end
end Ce.S
