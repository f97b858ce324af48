/- A part of a proof. -/
import Derived.Test.YtdkolkjcobngnaaLxA
import Derived.Test.YtdkolkjcobngnaaTab
set_option linter.unusedVariables false
set_option linter.unusedSimpArgs false
set_option maxRecDepth 1000000
namespace Ca
open Go Ce Ce.L Ce.S
theorem p8 {x : CV} (hx : Tv tI x) : ∃ d, PutOK tbl 8 [.v x] d 1 := by
  obtain ⟨n, rfl⟩ := Tv_int hx
  exact ⟨_, put_prim0 (rfl : tbl 8 = some prim0) _ n⟩
theorem p9 {x : CV} (hx : Tv tI x) : ∃ d, PutOK tbl 9 [.v x] d 1 := by
  obtain ⟨n, rfl⟩ := Tv_int hx
  exact ⟨_, put_prim0 (rfl : tbl 9 = some prim0) _ n⟩
theorem p39 {x : CV} (hx : Tv (.agg [tI, tI]) x) : ∃ d, PutOK tbl 39 [.v x] d 2 := by
  obtain ⟨cs, rfl, k0⟩ := Tv_agg hx
  clear hx
  obtain ⟨y0, cs, rfl, h0, k1⟩ := Tvs_cons k0
  clear k0
  obtain ⟨y1, cs, rfl, h1, k2⟩ := Tvs_cons k1
  clear k1
  obtain rfl := Tvs_nil k2
  have o0 := Tv_one h0 rfl
  have o1 := Tv_one h1 rfl
  obtain ⟨d0, p0⟩ := p8 h0
  obtain ⟨d1, p1⟩ := p8 h1
  refine put_of (rfl : tbl 39 = some c39) rfl rfl rfl rfl ?_
  simp only [o, p, mv, zz, ci, aW, aI, aev, aevs, geta, puta, seta, reputa, aCells, vs, CV.cells, Ce.L.oneA, nth?, unV, splA, setN, rvA, oneAV, List.cons_append, List.nil_append, List.length_cons, List.length_nil, List.append_nil, List.take, List.drop, true_and, and_true, Nat.reduceAdd, Nat.reduceLeDiff, c39, o0, o1]
  exact ⟨d0, _, p0, d1, _, p1, by omega⟩
theorem q13 {s : Ce.L.AV} {N : Nat} (hs : LSrc [tI, tI] 2 (some 2) s N) (hN : N ≤ 2 ^ 30) (hb : noBx s = true) : ∃ d, PutOK tbl 13 [s] d (1 + N * 2) := by
  obtain ⟨d, h⟩ := put_list (gf := 39) (B := 2) (rfl : tbl 38 = some (puts0 2 (some 2))) hs hN (fun u hu => by
    exact p39 hu)
  refine put_of (rfl : tbl 13 = some c13) rfl rfl rfl (by simp [noBxs, hb]) ?_
  simp only [o, p, mv, zz, ci, aW, aI, aev, aevs, geta, puta, seta, reputa, aCells, vs, CV.cells, Ce.L.oneA, nth?, unV, splA, setN, rvA, oneAV, List.cons_append, List.nil_append, List.length_cons, List.length_nil, List.append_nil, List.take, List.drop, true_and, and_true, Nat.reduceAdd, Nat.reduceLeDiff, c13]
  exact ⟨d, _, h, by omega⟩
theorem p13 {x : CV} (hx : Tv (tL [tI, tI]) x) : ∃ d, PutOK tbl 13 [.v x] d 2097153 := q13 (LSrc_rows hx rfl) (by omega) rfl
theorem q22 {s : Ce.L.AV} {N : Nat} (hs : LSrc [tI] 1 none s N) (hN : N ≤ 2 ^ 30) (hb : noBx s = true) : ∃ d, PutOK tbl 22 [s] d (1 + N * 1) := by
  obtain ⟨d, h⟩ := put_list (gf := 8) (B := 1) (rfl : tbl 48 = some (puts0 1 none)) hs hN (fun u hu => by
    obtain ⟨T, e, hT⟩ := hu
    simp only [List.cons.injEq, and_true] at e
    subst e
    exact p8 hT)
  refine put_of (rfl : tbl 22 = some c22) rfl rfl rfl (by simp [noBxs, hb]) ?_
  simp only [o, p, mv, zz, ci, aW, aI, aev, aevs, geta, puta, seta, reputa, aCells, vs, CV.cells, Ce.L.oneA, nth?, unV, splA, setN, rvA, oneAV, List.cons_append, List.nil_append, List.length_cons, List.length_nil, List.append_nil, List.take, List.drop, true_and, and_true, Nat.reduceAdd, Nat.reduceLeDiff, c22]
  exact ⟨d, _, h, by omega⟩
theorem p22 {x : CV} (hx : Tv (tL [tI]) x) : ∃ d, PutOK tbl 22 [.v x] d 1048577 := q22 (LSrc_vals hx rfl) (by omega) rfl
theorem p82 {x : CV} (hx : Tv .str x) : ∃ d, PutOK tbl 82 [.v x] d 1 := by
  obtain ⟨n, rfl⟩ := Tv_str hx
  exact ⟨_, put_prim1 (rfl : tbl 82 = some prim1) n⟩
theorem p77 {x : CV} (hx : Tv (.agg [.str, tI, tI, tI, tI, tI]) x) : ∃ d, PutOK tbl 77 [.v x] d 6 := by
  obtain ⟨cs, rfl, k0⟩ := Tv_agg hx
  clear hx
  obtain ⟨y0, cs, rfl, h0, k1⟩ := Tvs_cons k0
  clear k0
  obtain ⟨y1, cs, rfl, h1, k2⟩ := Tvs_cons k1
  clear k1
  obtain ⟨y2, cs, rfl, h2, k3⟩ := Tvs_cons k2
  clear k2
  obtain ⟨y3, cs, rfl, h3, k4⟩ := Tvs_cons k3
  clear k3
  obtain ⟨y4, cs, rfl, h4, k5⟩ := Tvs_cons k4
  clear k4
  obtain ⟨y5, cs, rfl, h5, k6⟩ := Tvs_cons k5
  clear k5
  obtain rfl := Tvs_nil k6
  have o0 := Tv_one h0 rfl
  have o1 := Tv_one h1 rfl
  have o2 := Tv_one h2 rfl
  have o3 := Tv_one h3 rfl
  have o4 := Tv_one h4 rfl
  have o5 := Tv_one h5 rfl
  obtain ⟨d0, p0⟩ := p82 h0
  obtain ⟨d1, p1⟩ := p8 h1
  obtain ⟨d2, p2⟩ := p8 h2
  obtain ⟨d3, p3⟩ := p8 h3
  obtain ⟨d4, p4⟩ := p39 (Tv_agg_mk (Tvs_cons_mk h4 (Tvs_cons_mk h5 Tvs_nil_mk)))
  refine put_of (rfl : tbl 77 = some c77) rfl rfl rfl rfl ?_
  simp only [o, p, mv, zz, ci, aW, aI, aev, aevs, geta, puta, seta, reputa, aCells, vs, CV.cells, Ce.L.oneA, nth?, unV, splA, setN, rvA, oneAV, List.cons_append, List.nil_append, List.length_cons, List.length_nil, List.append_nil, List.take, List.drop, true_and, and_true, Nat.reduceAdd, Nat.reduceLeDiff, c77, o0, o1, o2, o3, o4, o5]
  exact ⟨d0, _, p0, d1, _, p1, d2, _, p2, d3, _, p3, d4, _, p4, by omega⟩
theorem q59 {s : Ce.L.AV} {N : Nat} (hs : LSrc [.str, tI, tI, tI, tI, tI] 6 (some 6) s N) (hN : N ≤ 2 ^ 30) (hb : noBx s = true) : ∃ d, PutOK tbl 59 [s] d (1 + N * 6) := by
  obtain ⟨d, h⟩ := put_list (gf := 77) (B := 6) (rfl : tbl 76 = some (puts0 6 (some 6))) hs hN (fun u hu => by
    exact p77 hu)
  refine put_of (rfl : tbl 59 = some c59) rfl rfl rfl (by simp [noBxs, hb]) ?_
  simp only [o, p, mv, zz, ci, aW, aI, aev, aevs, geta, puta, seta, reputa, aCells, vs, CV.cells, Ce.L.oneA, nth?, unV, splA, setN, rvA, oneAV, List.cons_append, List.nil_append, List.length_cons, List.length_nil, List.append_nil, List.take, List.drop, true_and, and_true, Nat.reduceAdd, Nat.reduceLeDiff, c59]
  exact ⟨d, _, h, by omega⟩
theorem p59 {x : CV} (hx : Tv (tL [.str, tI, tI, tI, tI, tI]) x) : ∃ d, PutOK tbl 59 [.v x] d 6291457 := q59 (LSrc_rows hx rfl) (by omega) rfl
theorem p33 {x : CV} (hx : Tv (.agg [tI, tI, tI, (tL [.str, tI, tI, tI, tI, tI])]) x) : ∃ d, PutOK tbl 33 [.v x] d 6291460 := by
  obtain ⟨cs, rfl, k0⟩ := Tv_agg hx
  clear hx
  obtain ⟨y0, cs, rfl, h0, k1⟩ := Tvs_cons k0
  clear k0
  obtain ⟨y1, cs, rfl, h1, k2⟩ := Tvs_cons k1
  clear k1
  obtain ⟨y2, cs, rfl, h2, k3⟩ := Tvs_cons k2
  clear k2
  obtain ⟨y3, cs, rfl, h3, k4⟩ := Tvs_cons k3
  clear k3
  obtain rfl := Tvs_nil k4
  have o0 := Tv_one h0 rfl
  have o1 := Tv_one h1 rfl
  have o2 := Tv_one h2 rfl
  have o3 := Tv_one h3 rfl
  obtain ⟨d0, p0⟩ := p8 h0
  obtain ⟨d1, p1⟩ := p39 (Tv_agg_mk (Tvs_cons_mk h1 (Tvs_cons_mk h2 Tvs_nil_mk)))
  obtain ⟨d2, p2⟩ := p59 h3
  refine put_of (rfl : tbl 33 = some c33) rfl rfl rfl rfl ?_
  simp only [o, p, mv, zz, ci, aW, aI, aev, aevs, geta, puta, seta, reputa, aCells, vs, CV.cells, Ce.L.oneA, nth?, unV, splA, setN, rvA, oneAV, List.cons_append, List.nil_append, List.length_cons, List.length_nil, List.append_nil, List.take, List.drop, true_and, and_true, Nat.reduceAdd, Nat.reduceLeDiff, c33, o0, o1, o2, o3]
  exact ⟨d0, _, p0, d1, _, p1, d2, _, p2, by omega⟩
def tX : Ty := (.agg [tI, tI, tI, (tL [.str, tI, tI, tI, tI, tI]), (tL [tI]), tI, tI])
theorem pall {x : CV} (hx : Tv tX x) : ∃ d, AllOK tbl 4 x d 7340039 := by
  obtain ⟨cs, rfl, k0⟩ := Tv_agg hx
  clear hx
  obtain ⟨y0, cs, rfl, h0, k1⟩ := Tvs_cons k0
  clear k0
  obtain ⟨y1, cs, rfl, h1, k2⟩ := Tvs_cons k1
  clear k1
  obtain ⟨y2, cs, rfl, h2, k3⟩ := Tvs_cons k2
  clear k2
  obtain ⟨y3, cs, rfl, h3, k4⟩ := Tvs_cons k3
  clear k3
  obtain ⟨y4, cs, rfl, h4, k5⟩ := Tvs_cons k4
  clear k4
  obtain ⟨y5, cs, rfl, h5, k6⟩ := Tvs_cons k5
  clear k5
  obtain ⟨y6, cs, rfl, h6, k7⟩ := Tvs_cons k6
  clear k6
  obtain rfl := Tvs_nil k7
  have o0 := Tv_one h0 rfl
  have o1 := Tv_one h1 rfl
  have o2 := Tv_one h2 rfl
  have o3 := Tv_one h3 rfl
  have o4 := Tv_one h4 rfl
  have o5 := Tv_one h5 rfl
  have o6 := Tv_one h6 rfl
  obtain ⟨d0, p0⟩ := p33 (Tv_agg_mk (Tvs_cons_mk h0 (Tvs_cons_mk h1 (Tvs_cons_mk h2 (Tvs_cons_mk h3 Tvs_nil_mk)))))
  obtain ⟨d1, p1⟩ := p22 h4
  obtain ⟨d2, p2⟩ := p8 h5
  obtain ⟨d3, p3⟩ := p8 h6
  refine all_of (rfl : tbl 4 = some c4) rfl rfl rfl ?_
  simp only [o, p, mv, zz, ci, aW, aI, aev, aevs, geta, puta, seta, reputa, aCells, vs, CV.cells, Ce.L.oneA, nth?, unV, splA, setN, rvA, oneAV, List.cons_append, List.nil_append, List.length_cons, List.length_nil, List.append_nil, List.take, List.drop, true_and, and_true, Nat.reduceAdd, Nat.reduceLeDiff, c4, o0, o1, o2, o3, o4, o5, o6]
  exact ⟨d0, _, p0, d1, _, p1, d2, _, p2, d3, _, p3, by omega⟩
end Ca
namespace Ca
open Go Ce Ce.S
def U : S.AV := .tup []
def I (s : Nat) (c : Int) : S.AV := .int .i64 s c
def Z (s : Nat) : S.AV := .int .i64 s 0
def Y (s : Nat) : S.AV := .sym s
def D (x y : Nat) (c : Int) : Fact := .dc x y c
def ys : Nat → Nat → List S.AV
  | _, 0 => []
  | k, n + 1 => .sym k :: ys (k + 1) n
def us : Nat → List S.AV
  | 0 => []
  | n + 1 => .tup [] :: us n
def X8 : Int := 9223372036854775808
def X7 : Int := 9223372036854775807
def J : Ty := .int .i64 ⟨0, -9223372036854775808⟩ ⟨0, 9223372036854775807⟩
end Ca
namespace Ca
open Go Ce Ce.L Ce.S
theorem one_int {k : IntKind} {n : Int} : (CV.int k n).one = true := rfl
theorem one_nils : CV.nils.one = true := rfl
theorem one_str {b : ByteArray} : (CV.str b).one = true := rfl
theorem one_bool {b : Bool} : (CV.bool b).one = true := rfl
theorem Tv_nils {R : List Ty} : Tv (tL R) .nils := fun v hv => .inl ⟨rfl, by simp [Lin.ev, hv], by simp [Lin.ev, hv]⟩
def tXs : List Ty := [tI, tI, tI, (tL [.str, tI, tI, tI, tI, tI]), (tL [tI]), tI, tI]
def Ts7 : List Ty := [(.agg [tI, tI, tI, (tL [.str, tI, tI, tI, tI, tI])])]
def sh7 : List Sh := [.v tI, .v tI, .v tI]
def Ap7 : Prop := ∀ {args : List CV}, Tvs Ts7 args → ∃ rs, ShsOK sh7 rs ∧ ApOK tbl 7 args rs
def Ts12 : List Ty := [(.agg [tI, tI, tI, (tL [.str, tI, tI, tI, tI, tI])]), (tL [tI])]
def sh12 : List Sh := [.l 2 (some 2) [tI, tI], .v tI]
def Ap12 : Prop := ∀ {args : List CV}, Tvs Ts12 args → ∃ rs, ShsOK sh12 rs ∧ ApOK tbl 12 args rs
def Ts17 : List Ty := [(.agg [tI, tI, tI, (tL [.str, tI, tI, tI, tI, tI])]), (tL [tI])]
def sh17 : List Sh := [.v tI, .v tI]
def Ap17 : Prop := ∀ {args : List CV}, Tvs Ts17 args → ∃ rs, ShsOK sh17 rs ∧ ApOK tbl 17 args rs
def Ts19 : List Ty := [(.agg [tI, tI, tI, (tL [.str, tI, tI, tI, tI, tI])]), (tL [tI])]
def sh19 : List Sh := [.v tI, .v tI]
def Ap19 : Prop := ∀ {args : List CV}, Tvs Ts19 args → ∃ rs, ShsOK sh19 rs ∧ ApOK tbl 19 args rs
def Ts21 : List Ty := [(.agg [tI, tI, tI, (tL [.str, tI, tI, tI, tI, tI])])]
def sh21 : List Sh := [.l 1 none [tI], .v tI, .v tI]
def Ap21 : Prop := ∀ {args : List CV}, Tvs Ts21 args → ∃ rs, ShsOK sh21 rs ∧ ApOK tbl 21 args rs
def Ts26 : List Ty := [(.agg [tI, tI, tI, (tL [.str, tI, tI, tI, tI, tI])]), tI]
def sh26 : List Sh := [.v tI, .v tI]
def Ap26 : Prop := ∀ {args : List CV}, Tvs Ts26 args → ∃ rs, ShsOK sh26 rs ∧ ApOK tbl 26 args rs
def Ts28 : List Ty := [(.agg [tI, tI, tI, (tL [.str, tI, tI, tI, tI, tI])])]
def sh28 : List Sh := [.v tI, .v tI, .v tI]
def Ap28 : Prop := ∀ {args : List CV}, Tvs Ts28 args → ∃ rs, ShsOK sh28 rs ∧ ApOK tbl 28 args rs
def Ts30 : List Ty := [(.agg [tI, tI, tI, (tL [.str, tI, tI, tI, tI, tI])]), tI]
def sh30 : List Sh := [.v tI, .v tI]
def Ap30 : Prop := ∀ {args : List CV}, Tvs Ts30 args → ∃ rs, ShsOK sh30 rs ∧ ApOK tbl 30 args rs
theorem k6 (hap : Ap7) {cells : List CV} (hx : Tvs tXs cells) : ∃ d, CallOK tbl 6 cells d (2 ^ 34) := by
  obtain ⟨y0, cs0, rfl, h0, k0⟩ := Tvs_cons hx
  obtain ⟨y1, cs1, rfl, h1, k1⟩ := Tvs_cons k0
  obtain ⟨y2, cs2, rfl, h2, k2⟩ := Tvs_cons k1
  obtain ⟨y3, cs3, rfl, h3, k3⟩ := Tvs_cons k2
  obtain ⟨y4, cs4, rfl, h4, k4⟩ := Tvs_cons k3
  obtain ⟨y5, cs5, rfl, h5, k5⟩ := Tvs_cons k4
  obtain ⟨y6, cs6, rfl, h6, k6⟩ := Tvs_cons k5
  obtain rfl := Tvs_nil k6
  have o0 := Tv_one h0 rfl
  have o1 := Tv_one h1 rfl
  have o2 := Tv_one h2 rfl
  have o3 := Tv_one h3 rfl
  have o4 := Tv_one h4 rfl
  have o5 := Tv_one h5 rfl
  have o6 := Tv_one h6 rfl
  obtain ⟨rs, hrs, ap⟩ := hap (Tvs_cons_mk (Tv_agg_mk (Tvs_cons_mk h0 (Tvs_cons_mk h1 (Tvs_cons_mk h2 (Tvs_cons_mk h3 Tvs_nil_mk))))) Tvs_nil_mk)
  obtain ⟨r0, rs0, rfl, hr0, m0⟩ := hrs
  obtain ⟨r1, rs1, rfl, hr1, m1⟩ := m0
  obtain ⟨r2, rs2, rfl, hr2, m2⟩ := m1
  have e : rs2 = [] := m2
  subst e
  obtain ⟨z0, rfl, t0⟩ := hr0
  obtain ⟨z1, rfl, t1⟩ := hr1
  obtain ⟨z2, rfl, t2⟩ := hr2
  have z0o := Tv_one t0 rfl
  have z1o := Tv_one t1 rfl
  have z2o := Tv_one t2 rfl
  obtain ⟨d0, p0⟩ := p8 t0
  obtain ⟨d1, p1⟩ := p8 t1
  obtain ⟨d2, p2⟩ := p9 t2
  refine call_of (t := 3) (rfl : tbl 6 = some c6) rfl rfl rfl (by simp [allOne, o0, o1, o2, o3, o4, o5, o6]) ?_
  simp only [o, p, mv, zz, ci, aW, aI, aev, aevs, geta, puta, seta, reputa, aCells, vs, CV.cells, Ce.L.oneA, nth?, unV, splA, setN, rvA, oneAV, List.cons_append, List.nil_append, List.length_cons, List.length_nil, List.append_nil, List.take, List.drop, true_and, and_true, Nat.reduceAdd, Nat.reduceLeDiff, allOne, one_int, one_nils, one_str, one_bool, Bool.and_self, c6, o0, o1, o2, o3, o4, o5, o6, z0o, z1o, z2o]
  refine ⟨[.v z0, .v z1, .v z2], ap, ?_⟩
  simp only [o, p, mv, zz, ci, aW, aI, aev, aevs, geta, puta, seta, reputa, aCells, vs, CV.cells, Ce.L.oneA, nth?, unV, splA, setN, rvA, oneAV, List.cons_append, List.nil_append, List.length_cons, List.length_nil, List.append_nil, List.take, List.drop, true_and, and_true, Nat.reduceAdd, Nat.reduceLeDiff, allOne, one_int, one_nils, one_str, one_bool, Bool.and_self, o0, o1, o2, o3, o4, o5, o6, z0o, z1o, z2o]
  exact ⟨d0, _, p0, d1, _, p1, d2, _, p2, by omega, wipe_nothing rfl⟩
theorem k11 (hap : Ap12) {cells : List CV} (hx : Tvs tXs cells) : ∃ d, CallOK tbl 11 cells d (2 ^ 34) := by
  obtain ⟨y0, cs0, rfl, h0, k0⟩ := Tvs_cons hx
  obtain ⟨y1, cs1, rfl, h1, k1⟩ := Tvs_cons k0
  obtain ⟨y2, cs2, rfl, h2, k2⟩ := Tvs_cons k1
  obtain ⟨y3, cs3, rfl, h3, k3⟩ := Tvs_cons k2
  obtain ⟨y4, cs4, rfl, h4, k4⟩ := Tvs_cons k3
  obtain ⟨y5, cs5, rfl, h5, k5⟩ := Tvs_cons k4
  obtain ⟨y6, cs6, rfl, h6, k6⟩ := Tvs_cons k5
  obtain rfl := Tvs_nil k6
  have o0 := Tv_one h0 rfl
  have o1 := Tv_one h1 rfl
  have o2 := Tv_one h2 rfl
  have o3 := Tv_one h3 rfl
  have o4 := Tv_one h4 rfl
  have o5 := Tv_one h5 rfl
  have o6 := Tv_one h6 rfl
  obtain ⟨rs, hrs, ap⟩ := hap (Tvs_cons_mk (Tv_agg_mk (Tvs_cons_mk h0 (Tvs_cons_mk h1 (Tvs_cons_mk h2 (Tvs_cons_mk h3 Tvs_nil_mk))))) (Tvs_cons_mk h4 Tvs_nil_mk))
  obtain ⟨r0, rs0, rfl, hr0, m0⟩ := hrs
  obtain ⟨r1, rs1, rfl, hr1, m1⟩ := m0
  have e : rs1 = [] := m1
  subst e
  obtain ⟨z1, rfl, t1⟩ := hr1
  have z1o := Tv_one t1 rfl
  rcases hr0 with rfl | ⟨k'0, off0, len0, cap0, c0s, rfl, ls0, w0, n0⟩
  · obtain ⟨d0, p0⟩ := p13 Tv_nils
    obtain ⟨d1, p1⟩ := p9 t1
    refine call_of (t := 3) (rfl : tbl 11 = some c11) rfl rfl rfl (by simp [allOne, o0, o1, o2, o3, o4, o5, o6]) ?_
    simp only [o, p, mv, zz, ci, aW, aI, aev, aevs, geta, puta, seta, reputa, aCells, vs, CV.cells, Ce.L.oneA, nth?, unV, splA, setN, rvA, oneAV, List.cons_append, List.nil_append, List.length_cons, List.length_nil, List.append_nil, List.take, List.drop, true_and, and_true, Nat.reduceAdd, Nat.reduceLeDiff, allOne, one_int, one_nils, one_str, one_bool, Bool.and_self, c11, o0, o1, o2, o3, o4, o5, o6, z1o]
    refine ⟨[.v .nils, .v z1], ap, ?_⟩
    simp only [o, p, mv, zz, ci, aW, aI, aev, aevs, geta, puta, seta, reputa, aCells, vs, CV.cells, Ce.L.oneA, nth?, unV, splA, setN, rvA, oneAV, List.cons_append, List.nil_append, List.length_cons, List.length_nil, List.append_nil, List.take, List.drop, true_and, and_true, Nat.reduceAdd, Nat.reduceLeDiff, allOne, one_int, one_nils, one_str, one_bool, Bool.and_self, o0, o1, o2, o3, o4, o5, o6, z1o]
    exact ⟨d0, _, p0, d1, _, p1, by omega, wipe_one rfl rfl rfl rfl (wipeB_ok rfl rfl (wspan_ok rfl (wipe1ok (g := 50) rfl rfl))) rfl rfl (rfl)⟩
  · obtain ⟨d0, p0⟩ := q13 ls0 (Nat.le_refl _) rfl
    obtain ⟨d1, p1⟩ := p9 t1
    refine call_of (t := 3) (rfl : tbl 11 = some c11) rfl rfl rfl (by simp [allOne, o0, o1, o2, o3, o4, o5, o6]) ?_
    simp only [o, p, mv, zz, ci, aW, aI, aev, aevs, geta, puta, seta, reputa, aCells, vs, CV.cells, Ce.L.oneA, nth?, unV, splA, setN, rvA, oneAV, List.cons_append, List.nil_append, List.length_cons, List.length_nil, List.append_nil, List.take, List.drop, true_and, and_true, Nat.reduceAdd, Nat.reduceLeDiff, allOne, one_int, one_nils, one_str, one_bool, Bool.and_self, c11, o0, o1, o2, o3, o4, o5, o6, z1o]
    refine ⟨[.s k'0 off0 len0 cap0 c0s, .v z1], ap, ?_⟩
    simp only [o, p, mv, zz, ci, aW, aI, aev, aevs, geta, puta, seta, reputa, aCells, vs, CV.cells, Ce.L.oneA, nth?, unV, splA, setN, rvA, oneAV, List.cons_append, List.nil_append, List.length_cons, List.length_nil, List.append_nil, List.take, List.drop, true_and, and_true, Nat.reduceAdd, Nat.reduceLeDiff, allOne, one_int, one_nils, one_str, one_bool, Bool.and_self, o0, o1, o2, o3, o4, o5, o6, z1o]
    exact ⟨d0, _, p0, d1, _, p1, by omega, wipe_one rfl rfl rfl rfl (wipeB_ok rfl rfl (wspan_ok rfl (wipe1ok (g := 50) rfl rfl))) rfl rfl (⟨w0, by omega⟩)⟩
theorem k16 (hap : Ap17) {cells : List CV} (hx : Tvs tXs cells) : ∃ d, CallOK tbl 16 cells d (2 ^ 34) := by
  obtain ⟨y0, cs0, rfl, h0, k0⟩ := Tvs_cons hx
  obtain ⟨y1, cs1, rfl, h1, k1⟩ := Tvs_cons k0
  obtain ⟨y2, cs2, rfl, h2, k2⟩ := Tvs_cons k1
  obtain ⟨y3, cs3, rfl, h3, k3⟩ := Tvs_cons k2
  obtain ⟨y4, cs4, rfl, h4, k4⟩ := Tvs_cons k3
  obtain ⟨y5, cs5, rfl, h5, k5⟩ := Tvs_cons k4
  obtain ⟨y6, cs6, rfl, h6, k6⟩ := Tvs_cons k5
  obtain rfl := Tvs_nil k6
  have o0 := Tv_one h0 rfl
  have o1 := Tv_one h1 rfl
  have o2 := Tv_one h2 rfl
  have o3 := Tv_one h3 rfl
  have o4 := Tv_one h4 rfl
  have o5 := Tv_one h5 rfl
  have o6 := Tv_one h6 rfl
  obtain ⟨rs, hrs, ap⟩ := hap (Tvs_cons_mk (Tv_agg_mk (Tvs_cons_mk h0 (Tvs_cons_mk h1 (Tvs_cons_mk h2 (Tvs_cons_mk h3 Tvs_nil_mk))))) (Tvs_cons_mk h4 Tvs_nil_mk))
  obtain ⟨r0, rs0, rfl, hr0, m0⟩ := hrs
  obtain ⟨r1, rs1, rfl, hr1, m1⟩ := m0
  have e : rs1 = [] := m1
  subst e
  obtain ⟨z0, rfl, t0⟩ := hr0
  obtain ⟨z1, rfl, t1⟩ := hr1
  have z0o := Tv_one t0 rfl
  have z1o := Tv_one t1 rfl
  obtain ⟨d0, p0⟩ := p8 t0
  obtain ⟨d1, p1⟩ := p9 t1
  refine call_of (t := 3) (rfl : tbl 16 = some c16) rfl rfl rfl (by simp [allOne, o0, o1, o2, o3, o4, o5, o6]) ?_
  simp only [o, p, mv, zz, ci, aW, aI, aev, aevs, geta, puta, seta, reputa, aCells, vs, CV.cells, Ce.L.oneA, nth?, unV, splA, setN, rvA, oneAV, List.cons_append, List.nil_append, List.length_cons, List.length_nil, List.append_nil, List.take, List.drop, true_and, and_true, Nat.reduceAdd, Nat.reduceLeDiff, allOne, one_int, one_nils, one_str, one_bool, Bool.and_self, c16, o0, o1, o2, o3, o4, o5, o6, z0o, z1o]
  refine ⟨[.v z0, .v z1], ap, ?_⟩
  simp only [o, p, mv, zz, ci, aW, aI, aev, aevs, geta, puta, seta, reputa, aCells, vs, CV.cells, Ce.L.oneA, nth?, unV, splA, setN, rvA, oneAV, List.cons_append, List.nil_append, List.length_cons, List.length_nil, List.append_nil, List.take, List.drop, true_and, and_true, Nat.reduceAdd, Nat.reduceLeDiff, allOne, one_int, one_nils, one_str, one_bool, Bool.and_self, o0, o1, o2, o3, o4, o5, o6, z0o, z1o]
  exact ⟨d0, _, p0, d1, _, p1, by omega, wipe_nothing rfl⟩
theorem k18 (hap : Ap19) {cells : List CV} (hx : Tvs tXs cells) : ∃ d, CallOK tbl 18 cells d (2 ^ 34) := by
  obtain ⟨y0, cs0, rfl, h0, k0⟩ := Tvs_cons hx
  obtain ⟨y1, cs1, rfl, h1, k1⟩ := Tvs_cons k0
  obtain ⟨y2, cs2, rfl, h2, k2⟩ := Tvs_cons k1
  obtain ⟨y3, cs3, rfl, h3, k3⟩ := Tvs_cons k2
  obtain ⟨y4, cs4, rfl, h4, k4⟩ := Tvs_cons k3
  obtain ⟨y5, cs5, rfl, h5, k5⟩ := Tvs_cons k4
  obtain ⟨y6, cs6, rfl, h6, k6⟩ := Tvs_cons k5
  obtain rfl := Tvs_nil k6
  have o0 := Tv_one h0 rfl
  have o1 := Tv_one h1 rfl
  have o2 := Tv_one h2 rfl
  have o3 := Tv_one h3 rfl
  have o4 := Tv_one h4 rfl
  have o5 := Tv_one h5 rfl
  have o6 := Tv_one h6 rfl
  obtain ⟨rs, hrs, ap⟩ := hap (Tvs_cons_mk (Tv_agg_mk (Tvs_cons_mk h0 (Tvs_cons_mk h1 (Tvs_cons_mk h2 (Tvs_cons_mk h3 Tvs_nil_mk))))) (Tvs_cons_mk h4 Tvs_nil_mk))
  obtain ⟨r0, rs0, rfl, hr0, m0⟩ := hrs
  obtain ⟨r1, rs1, rfl, hr1, m1⟩ := m0
  have e : rs1 = [] := m1
  subst e
  obtain ⟨z0, rfl, t0⟩ := hr0
  obtain ⟨z1, rfl, t1⟩ := hr1
  have z0o := Tv_one t0 rfl
  have z1o := Tv_one t1 rfl
  obtain ⟨d0, p0⟩ := p8 t0
  obtain ⟨d1, p1⟩ := p9 t1
  refine call_of (t := 3) (rfl : tbl 18 = some c18) rfl rfl rfl (by simp [allOne, o0, o1, o2, o3, o4, o5, o6]) ?_
  simp only [o, p, mv, zz, ci, aW, aI, aev, aevs, geta, puta, seta, reputa, aCells, vs, CV.cells, Ce.L.oneA, nth?, unV, splA, setN, rvA, oneAV, List.cons_append, List.nil_append, List.length_cons, List.length_nil, List.append_nil, List.take, List.drop, true_and, and_true, Nat.reduceAdd, Nat.reduceLeDiff, allOne, one_int, one_nils, one_str, one_bool, Bool.and_self, c18, o0, o1, o2, o3, o4, o5, o6, z0o, z1o]
  refine ⟨[.v z0, .v z1], ap, ?_⟩
  simp only [o, p, mv, zz, ci, aW, aI, aev, aevs, geta, puta, seta, reputa, aCells, vs, CV.cells, Ce.L.oneA, nth?, unV, splA, setN, rvA, oneAV, List.cons_append, List.nil_append, List.length_cons, List.length_nil, List.append_nil, List.take, List.drop, true_and, and_true, Nat.reduceAdd, Nat.reduceLeDiff, allOne, one_int, one_nils, one_str, one_bool, Bool.and_self, o0, o1, o2, o3, o4, o5, o6, z0o, z1o]
  exact ⟨d0, _, p0, d1, _, p1, by omega, wipe_nothing rfl⟩
theorem k20 (hap : Ap21) {cells : List CV} (hx : Tvs tXs cells) : ∃ d, CallOK tbl 20 cells d (2 ^ 34) := by
  obtain ⟨y0, cs0, rfl, h0, k0⟩ := Tvs_cons hx
  obtain ⟨y1, cs1, rfl, h1, k1⟩ := Tvs_cons k0
  obtain ⟨y2, cs2, rfl, h2, k2⟩ := Tvs_cons k1
  obtain ⟨y3, cs3, rfl, h3, k3⟩ := Tvs_cons k2
  obtain ⟨y4, cs4, rfl, h4, k4⟩ := Tvs_cons k3
  obtain ⟨y5, cs5, rfl, h5, k5⟩ := Tvs_cons k4
  obtain ⟨y6, cs6, rfl, h6, k6⟩ := Tvs_cons k5
  obtain rfl := Tvs_nil k6
  have o0 := Tv_one h0 rfl
  have o1 := Tv_one h1 rfl
  have o2 := Tv_one h2 rfl
  have o3 := Tv_one h3 rfl
  have o4 := Tv_one h4 rfl
  have o5 := Tv_one h5 rfl
  have o6 := Tv_one h6 rfl
  obtain ⟨rs, hrs, ap⟩ := hap (Tvs_cons_mk (Tv_agg_mk (Tvs_cons_mk h0 (Tvs_cons_mk h1 (Tvs_cons_mk h2 (Tvs_cons_mk h3 Tvs_nil_mk))))) Tvs_nil_mk)
  obtain ⟨r0, rs0, rfl, hr0, m0⟩ := hrs
  obtain ⟨r1, rs1, rfl, hr1, m1⟩ := m0
  obtain ⟨r2, rs2, rfl, hr2, m2⟩ := m1
  have e : rs2 = [] := m2
  subst e
  obtain ⟨z1, rfl, t1⟩ := hr1
  obtain ⟨z2, rfl, t2⟩ := hr2
  have z1o := Tv_one t1 rfl
  have z2o := Tv_one t2 rfl
  rcases hr0 with rfl | ⟨k'0, off0, len0, cap0, c0s, rfl, ls0, w0, n0⟩
  · obtain ⟨d0, p0⟩ := p22 Tv_nils
    obtain ⟨d1, p1⟩ := p8 t1
    obtain ⟨d2, p2⟩ := p9 t2
    refine call_of (t := 3) (rfl : tbl 20 = some c20) rfl rfl rfl (by simp [allOne, o0, o1, o2, o3, o4, o5, o6]) ?_
    simp only [o, p, mv, zz, ci, aW, aI, aev, aevs, geta, puta, seta, reputa, aCells, vs, CV.cells, Ce.L.oneA, nth?, unV, splA, setN, rvA, oneAV, List.cons_append, List.nil_append, List.length_cons, List.length_nil, List.append_nil, List.take, List.drop, true_and, and_true, Nat.reduceAdd, Nat.reduceLeDiff, allOne, one_int, one_nils, one_str, one_bool, Bool.and_self, c20, o0, o1, o2, o3, o4, o5, o6, z1o, z2o]
    refine ⟨[.v .nils, .v z1, .v z2], ap, ?_⟩
    simp only [o, p, mv, zz, ci, aW, aI, aev, aevs, geta, puta, seta, reputa, aCells, vs, CV.cells, Ce.L.oneA, nth?, unV, splA, setN, rvA, oneAV, List.cons_append, List.nil_append, List.length_cons, List.length_nil, List.append_nil, List.take, List.drop, true_and, and_true, Nat.reduceAdd, Nat.reduceLeDiff, allOne, one_int, one_nils, one_str, one_bool, Bool.and_self, o0, o1, o2, o3, o4, o5, o6, z1o, z2o]
    exact ⟨d0, _, p0, d1, _, p1, d2, _, p2, by omega, wipe_one rfl rfl rfl rfl (wipeB_ok rfl rfl (wipe1ok rfl rfl)) rfl rfl (rfl)⟩
  · obtain ⟨d0, p0⟩ := q22 ls0 (Nat.le_refl _) rfl
    obtain ⟨d1, p1⟩ := p8 t1
    obtain ⟨d2, p2⟩ := p9 t2
    refine call_of (t := 3) (rfl : tbl 20 = some c20) rfl rfl rfl (by simp [allOne, o0, o1, o2, o3, o4, o5, o6]) ?_
    simp only [o, p, mv, zz, ci, aW, aI, aev, aevs, geta, puta, seta, reputa, aCells, vs, CV.cells, Ce.L.oneA, nth?, unV, splA, setN, rvA, oneAV, List.cons_append, List.nil_append, List.length_cons, List.length_nil, List.append_nil, List.take, List.drop, true_and, and_true, Nat.reduceAdd, Nat.reduceLeDiff, allOne, one_int, one_nils, one_str, one_bool, Bool.and_self, c20, o0, o1, o2, o3, o4, o5, o6, z1o, z2o]
    refine ⟨[.s k'0 off0 len0 cap0 c0s, .v z1, .v z2], ap, ?_⟩
    simp only [o, p, mv, zz, ci, aW, aI, aev, aevs, geta, puta, seta, reputa, aCells, vs, CV.cells, Ce.L.oneA, nth?, unV, splA, setN, rvA, oneAV, List.cons_append, List.nil_append, List.length_cons, List.length_nil, List.append_nil, List.take, List.drop, true_and, and_true, Nat.reduceAdd, Nat.reduceLeDiff, allOne, one_int, one_nils, one_str, one_bool, Bool.and_self, o0, o1, o2, o3, o4, o5, o6, z1o, z2o]
    exact ⟨d0, _, p0, d1, _, p1, d2, _, p2, by omega, wipe_one rfl rfl rfl rfl (wipeB_ok rfl rfl (wipe1ok rfl rfl)) rfl rfl (⟨w0, by omega⟩)⟩
theorem k25 (hap : Ap26) {cells : List CV} (hx : Tvs tXs cells) : ∃ d, CallOK tbl 25 cells d (2 ^ 34) := by
  obtain ⟨y0, cs0, rfl, h0, k0⟩ := Tvs_cons hx
  obtain ⟨y1, cs1, rfl, h1, k1⟩ := Tvs_cons k0
  obtain ⟨y2, cs2, rfl, h2, k2⟩ := Tvs_cons k1
  obtain ⟨y3, cs3, rfl, h3, k3⟩ := Tvs_cons k2
  obtain ⟨y4, cs4, rfl, h4, k4⟩ := Tvs_cons k3
  obtain ⟨y5, cs5, rfl, h5, k5⟩ := Tvs_cons k4
  obtain ⟨y6, cs6, rfl, h6, k6⟩ := Tvs_cons k5
  obtain rfl := Tvs_nil k6
  have o0 := Tv_one h0 rfl
  have o1 := Tv_one h1 rfl
  have o2 := Tv_one h2 rfl
  have o3 := Tv_one h3 rfl
  have o4 := Tv_one h4 rfl
  have o5 := Tv_one h5 rfl
  have o6 := Tv_one h6 rfl
  obtain ⟨rs, hrs, ap⟩ := hap (Tvs_cons_mk (Tv_agg_mk (Tvs_cons_mk h0 (Tvs_cons_mk h1 (Tvs_cons_mk h2 (Tvs_cons_mk h3 Tvs_nil_mk))))) (Tvs_cons_mk h5 Tvs_nil_mk))
  obtain ⟨r0, rs0, rfl, hr0, m0⟩ := hrs
  obtain ⟨r1, rs1, rfl, hr1, m1⟩ := m0
  have e : rs1 = [] := m1
  subst e
  obtain ⟨z0, rfl, t0⟩ := hr0
  obtain ⟨z1, rfl, t1⟩ := hr1
  have z0o := Tv_one t0 rfl
  have z1o := Tv_one t1 rfl
  obtain ⟨d0, p0⟩ := p8 t0
  obtain ⟨d1, p1⟩ := p9 t1
  refine call_of (t := 3) (rfl : tbl 25 = some c25) rfl rfl rfl (by simp [allOne, o0, o1, o2, o3, o4, o5, o6]) ?_
  simp only [o, p, mv, zz, ci, aW, aI, aev, aevs, geta, puta, seta, reputa, aCells, vs, CV.cells, Ce.L.oneA, nth?, unV, splA, setN, rvA, oneAV, List.cons_append, List.nil_append, List.length_cons, List.length_nil, List.append_nil, List.take, List.drop, true_and, and_true, Nat.reduceAdd, Nat.reduceLeDiff, allOne, one_int, one_nils, one_str, one_bool, Bool.and_self, c25, o0, o1, o2, o3, o4, o5, o6, z0o, z1o]
  refine ⟨[.v z0, .v z1], ap, ?_⟩
  simp only [o, p, mv, zz, ci, aW, aI, aev, aevs, geta, puta, seta, reputa, aCells, vs, CV.cells, Ce.L.oneA, nth?, unV, splA, setN, rvA, oneAV, List.cons_append, List.nil_append, List.length_cons, List.length_nil, List.append_nil, List.take, List.drop, true_and, and_true, Nat.reduceAdd, Nat.reduceLeDiff, allOne, one_int, one_nils, one_str, one_bool, Bool.and_self, o0, o1, o2, o3, o4, o5, o6, z0o, z1o]
  exact ⟨d0, _, p0, d1, _, p1, by omega, wipe_nothing rfl⟩
theorem k27 (hap : Ap28) {cells : List CV} (hx : Tvs tXs cells) : ∃ d, CallOK tbl 27 cells d (2 ^ 34) := by
  obtain ⟨y0, cs0, rfl, h0, k0⟩ := Tvs_cons hx
  obtain ⟨y1, cs1, rfl, h1, k1⟩ := Tvs_cons k0
  obtain ⟨y2, cs2, rfl, h2, k2⟩ := Tvs_cons k1
  obtain ⟨y3, cs3, rfl, h3, k3⟩ := Tvs_cons k2
  obtain ⟨y4, cs4, rfl, h4, k4⟩ := Tvs_cons k3
  obtain ⟨y5, cs5, rfl, h5, k5⟩ := Tvs_cons k4
  obtain ⟨y6, cs6, rfl, h6, k6⟩ := Tvs_cons k5
  obtain rfl := Tvs_nil k6
  have o0 := Tv_one h0 rfl
  have o1 := Tv_one h1 rfl
  have o2 := Tv_one h2 rfl
  have o3 := Tv_one h3 rfl
  have o4 := Tv_one h4 rfl
  have o5 := Tv_one h5 rfl
  have o6 := Tv_one h6 rfl
  obtain ⟨rs, hrs, ap⟩ := hap (Tvs_cons_mk (Tv_agg_mk (Tvs_cons_mk h0 (Tvs_cons_mk h1 (Tvs_cons_mk h2 (Tvs_cons_mk h3 Tvs_nil_mk))))) Tvs_nil_mk)
  obtain ⟨r0, rs0, rfl, hr0, m0⟩ := hrs
  obtain ⟨r1, rs1, rfl, hr1, m1⟩ := m0
  obtain ⟨r2, rs2, rfl, hr2, m2⟩ := m1
  have e : rs2 = [] := m2
  subst e
  obtain ⟨z0, rfl, t0⟩ := hr0
  obtain ⟨z1, rfl, t1⟩ := hr1
  obtain ⟨z2, rfl, t2⟩ := hr2
  have z0o := Tv_one t0 rfl
  have z1o := Tv_one t1 rfl
  have z2o := Tv_one t2 rfl
  obtain ⟨d0, p0⟩ := p8 t0
  obtain ⟨d1, p1⟩ := p8 t1
  obtain ⟨d2, p2⟩ := p9 t2
  refine call_of (t := 3) (rfl : tbl 27 = some c27) rfl rfl rfl (by simp [allOne, o0, o1, o2, o3, o4, o5, o6]) ?_
  simp only [o, p, mv, zz, ci, aW, aI, aev, aevs, geta, puta, seta, reputa, aCells, vs, CV.cells, Ce.L.oneA, nth?, unV, splA, setN, rvA, oneAV, List.cons_append, List.nil_append, List.length_cons, List.length_nil, List.append_nil, List.take, List.drop, true_and, and_true, Nat.reduceAdd, Nat.reduceLeDiff, allOne, one_int, one_nils, one_str, one_bool, Bool.and_self, c27, o0, o1, o2, o3, o4, o5, o6, z0o, z1o, z2o]
  refine ⟨[.v z0, .v z1, .v z2], ap, ?_⟩
  simp only [o, p, mv, zz, ci, aW, aI, aev, aevs, geta, puta, seta, reputa, aCells, vs, CV.cells, Ce.L.oneA, nth?, unV, splA, setN, rvA, oneAV, List.cons_append, List.nil_append, List.length_cons, List.length_nil, List.append_nil, List.take, List.drop, true_and, and_true, Nat.reduceAdd, Nat.reduceLeDiff, allOne, one_int, one_nils, one_str, one_bool, Bool.and_self, o0, o1, o2, o3, o4, o5, o6, z0o, z1o, z2o]
  exact ⟨d0, _, p0, d1, _, p1, d2, _, p2, by omega, wipe_nothing rfl⟩
theorem k29 (hap : Ap30) {cells : List CV} (hx : Tvs tXs cells) : ∃ d, CallOK tbl 29 cells d (2 ^ 34) := by
  obtain ⟨y0, cs0, rfl, h0, k0⟩ := Tvs_cons hx
  obtain ⟨y1, cs1, rfl, h1, k1⟩ := Tvs_cons k0
  obtain ⟨y2, cs2, rfl, h2, k2⟩ := Tvs_cons k1
  obtain ⟨y3, cs3, rfl, h3, k3⟩ := Tvs_cons k2
  obtain ⟨y4, cs4, rfl, h4, k4⟩ := Tvs_cons k3
  obtain ⟨y5, cs5, rfl, h5, k5⟩ := Tvs_cons k4
  obtain ⟨y6, cs6, rfl, h6, k6⟩ := Tvs_cons k5
  obtain rfl := Tvs_nil k6
  have o0 := Tv_one h0 rfl
  have o1 := Tv_one h1 rfl
  have o2 := Tv_one h2 rfl
  have o3 := Tv_one h3 rfl
  have o4 := Tv_one h4 rfl
  have o5 := Tv_one h5 rfl
  have o6 := Tv_one h6 rfl
  obtain ⟨rs, hrs, ap⟩ := hap (Tvs_cons_mk (Tv_agg_mk (Tvs_cons_mk h0 (Tvs_cons_mk h1 (Tvs_cons_mk h2 (Tvs_cons_mk h3 Tvs_nil_mk))))) (Tvs_cons_mk h6 Tvs_nil_mk))
  obtain ⟨r0, rs0, rfl, hr0, m0⟩ := hrs
  obtain ⟨r1, rs1, rfl, hr1, m1⟩ := m0
  have e : rs1 = [] := m1
  subst e
  obtain ⟨z0, rfl, t0⟩ := hr0
  obtain ⟨z1, rfl, t1⟩ := hr1
  have z0o := Tv_one t0 rfl
  have z1o := Tv_one t1 rfl
  obtain ⟨d0, p0⟩ := p8 t0
  obtain ⟨d1, p1⟩ := p9 t1
  refine call_of (t := 3) (rfl : tbl 29 = some c29) rfl rfl rfl (by simp [allOne, o0, o1, o2, o3, o4, o5, o6]) ?_
  simp only [o, p, mv, zz, ci, aW, aI, aev, aevs, geta, puta, seta, reputa, aCells, vs, CV.cells, Ce.L.oneA, nth?, unV, splA, setN, rvA, oneAV, List.cons_append, List.nil_append, List.length_cons, List.length_nil, List.append_nil, List.take, List.drop, true_and, and_true, Nat.reduceAdd, Nat.reduceLeDiff, allOne, one_int, one_nils, one_str, one_bool, Bool.and_self, c29, o0, o1, o2, o3, o4, o5, o6, z0o, z1o]
  refine ⟨[.v z0, .v z1], ap, ?_⟩
  simp only [o, p, mv, zz, ci, aW, aI, aev, aevs, geta, puta, seta, reputa, aCells, vs, CV.cells, Ce.L.oneA, nth?, unV, splA, setN, rvA, oneAV, List.cons_append, List.nil_append, List.length_cons, List.length_nil, List.append_nil, List.take, List.drop, true_and, and_true, Nat.reduceAdd, Nat.reduceLeDiff, allOne, one_int, one_nils, one_str, one_bool, Bool.and_self, o0, o1, o2, o3, o4, o5, o6, z0o, z1o]
  exact ⟨d0, _, p0, d1, _, p1, by omega, wipe_nothing rfl⟩
end Ca
namespace Ca
open Go Ce Ce.L Ce.S
theorem top (h7 : Ap7) (h12 : Ap12) (h17 : Ap17) (h19 : Ap19) (h21 : Ap21) (h26 : Ap26) (h28 : Ap28) (h30 : Ap30) (hw : ∀ h, Wf tbl (.fn 32) [] h fun v _ => v = .bool true) {x : CV} (hx : Tv tX x) (h : H) : Wf tbl (.fn 3) [x] h fun v _ => v = .bool true := by
  have ha := pall hx
  obtain ⟨cells, rfl, hc⟩ := Tv_agg hx
  refine top_ok (fcs := [11, 16, 18, 20, 25, 27, 29]) (n := 7) (fa := 4) (fg := 5) (fs := 31) (fw := 32) (fc := 6) (rfl : tbl 3 = some c3) rfl rfl rfl rfl (rfl : tbl 5 = some (again0 31)) (rfl : tbl 31 = some same0) ha (by omega) (Tvs_len hc) (Tvs_allOne hc rfl) ?_ hw h
  intro g hg
  simp only [List.mem_cons, List.not_mem_nil, or_false] at hg
  rcases hg with rfl | rfl | rfl | rfl | rfl | rfl | rfl | rfl
  · exact k6 h7 hc
  · exact k11 h12 hc
  · exact k16 h17 hc
  · exact k18 h19 hc
  · exact k20 h21 hc
  · exact k25 h26 hc
  · exact k27 h28 hc
  · exact k29 h30 hc
end Ca
