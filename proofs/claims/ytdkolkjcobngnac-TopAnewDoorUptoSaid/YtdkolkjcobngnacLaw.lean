/- A part of a proof. -/
import Derived.Test.YtdkolkjcobngnacLxA
import Derived.Test.YtdkolkjcobngnacTab
set_option linter.unusedVariables false
set_option linter.unusedSimpArgs false
set_option maxRecDepth 1000000
namespace Do
open Go Ce Ce.L Ce.S
theorem p8 {x : CV} (hx : Tv tI x) : ∃ d, PutOK tbl 8 [.v x] d 1 := by
  obtain ⟨n, rfl⟩ := Tv_int hx
  exact ⟨_, put_prim0 (rfl : tbl 8 = some prim0) _ n⟩
theorem p9 {x : CV} (hx : Tv tI x) : ∃ d, PutOK tbl 9 [.v x] d 1 := by
  obtain ⟨n, rfl⟩ := Tv_int hx
  exact ⟨_, put_prim0 (rfl : tbl 9 = some prim0) _ n⟩
theorem p13 {x : CV} (hx : Tv (.agg [tI, tI]) x) : ∃ d, PutOK tbl 13 [.v x] d 2 := by
  obtain ⟨cs, rfl, k0⟩ := Tv_agg hx
  clear hx
  obtain ⟨y0, cs, rfl, h0, k1⟩ := Tvs_cons k0
  clear k0
  obtain ⟨y1, cs, rfl, h1, k2⟩ := Tvs_cons k1
  clear k1
  obtain rfl := Tvs_nil k2
  have o0 := Tv_one h0 rfl
  have o1 := Tv_one h1 rfl
  obtain ⟨d0, p0⟩ := p8 h0
  obtain ⟨d1, p1⟩ := p8 h1
  refine put_of (rfl : tbl 13 = some c13) rfl rfl rfl rfl ?_
  simp only [o, p, mv, zz, ci, aW, aI, aev, aevs, geta, puta, seta, reputa, aCells, vs, CV.cells, Ce.L.oneA, nth?, unV, splA, setN, rvA, oneAV, List.cons_append, List.nil_append, List.length_cons, List.length_nil, List.append_nil, List.take, List.drop, true_and, and_true, Nat.reduceAdd, Nat.reduceLeDiff, c13, o0, o1]
  exact ⟨d0, _, p0, d1, _, p1, by omega⟩
theorem q16 {s : Ce.L.AV} {N : Nat} (hs : LSrc [tI] 1 none s N) (hN : N ≤ 2 ^ 30) (hb : noBx s = true) : ∃ d, PutOK tbl 16 [s] d (1 + N * 1) := by
  obtain ⟨d, h⟩ := put_list (gf := 8) (B := 1) (rfl : tbl 41 = some (puts0 1 none)) hs hN (fun u hu => by
    obtain ⟨T, e, hT⟩ := hu
    simp only [List.cons.injEq, and_true] at e
    subst e
    exact p8 hT)
  refine put_of (rfl : tbl 16 = some c16) rfl rfl rfl (by simp [noBxs, hb]) ?_
  simp only [o, p, mv, zz, ci, aW, aI, aev, aevs, geta, puta, seta, reputa, aCells, vs, CV.cells, Ce.L.oneA, nth?, unV, splA, setN, rvA, oneAV, List.cons_append, List.nil_append, List.length_cons, List.length_nil, List.append_nil, List.take, List.drop, true_and, and_true, Nat.reduceAdd, Nat.reduceLeDiff, c16]
  exact ⟨d, _, h, by omega⟩
theorem p16 {x : CV} (hx : Tv (tL [tI]) x) : ∃ d, PutOK tbl 16 [.v x] d 1048577 := q16 (LSrc_vals hx rfl) (by omega) rfl
theorem p89 {x : CV} (hx : Tv .str x) : ∃ d, PutOK tbl 89 [.v x] d 1 := by
  obtain ⟨n, rfl⟩ := Tv_str hx
  exact ⟨_, put_prim1 (rfl : tbl 89 = some prim1) n⟩
theorem p79 {x : CV} (hx : Tv (.agg [.str, tI]) x) : ∃ d, PutOK tbl 79 [.v x] d 2 := by
  obtain ⟨cs, rfl, k0⟩ := Tv_agg hx
  clear hx
  obtain ⟨y0, cs, rfl, h0, k1⟩ := Tvs_cons k0
  clear k0
  obtain ⟨y1, cs, rfl, h1, k2⟩ := Tvs_cons k1
  clear k1
  obtain rfl := Tvs_nil k2
  have o0 := Tv_one h0 rfl
  have o1 := Tv_one h1 rfl
  obtain ⟨d0, p0⟩ := p89 h0
  obtain ⟨d1, p1⟩ := p8 h1
  refine put_of (rfl : tbl 79 = some c79) rfl rfl rfl rfl ?_
  simp only [o, p, mv, zz, ci, aW, aI, aev, aevs, geta, puta, seta, reputa, aCells, vs, CV.cells, Ce.L.oneA, nth?, unV, splA, setN, rvA, oneAV, List.cons_append, List.nil_append, List.length_cons, List.length_nil, List.append_nil, List.take, List.drop, true_and, and_true, Nat.reduceAdd, Nat.reduceLeDiff, c79, o0, o1]
  exact ⟨d0, _, p0, d1, _, p1, by omega⟩
theorem q54 {s : Ce.L.AV} {N : Nat} (hs : LSrc [.str, tI] 2 (some 2) s N) (hN : N ≤ 2 ^ 30) (hb : noBx s = true) : ∃ d, PutOK tbl 54 [s] d (1 + N * 2) := by
  obtain ⟨d, h⟩ := put_list (gf := 79) (B := 2) (rfl : tbl 78 = some (puts0 2 (some 2))) hs hN (fun u hu => by
    exact p79 hu)
  refine put_of (rfl : tbl 54 = some c54) rfl rfl rfl (by simp [noBxs, hb]) ?_
  simp only [o, p, mv, zz, ci, aW, aI, aev, aevs, geta, puta, seta, reputa, aCells, vs, CV.cells, Ce.L.oneA, nth?, unV, splA, setN, rvA, oneAV, List.cons_append, List.nil_append, List.length_cons, List.length_nil, List.append_nil, List.take, List.drop, true_and, and_true, Nat.reduceAdd, Nat.reduceLeDiff, c54]
  exact ⟨d, _, h, by omega⟩
theorem p54 {x : CV} (hx : Tv (tL [.str, tI]) x) : ∃ d, PutOK tbl 54 [.v x] d 2097153 := q54 (LSrc_rows hx rfl) (by omega) rfl
theorem p90 {x : CV} (hx : Tv .bool x) : ∃ d, PutOK tbl 90 [.v x] d 1 := by
  obtain ⟨n, rfl⟩ := Tv_bool hx
  exact ⟨_, put_bool (rfl : tbl 90 = some putBool0) n⟩
theorem p81 {x : CV} (hx : Tv (.agg [tI, .bool]) x) : ∃ d, PutOK tbl 81 [.v x] d 2 := by
  obtain ⟨cs, rfl, k0⟩ := Tv_agg hx
  clear hx
  obtain ⟨y0, cs, rfl, h0, k1⟩ := Tvs_cons k0
  clear k0
  obtain ⟨y1, cs, rfl, h1, k2⟩ := Tvs_cons k1
  clear k1
  obtain rfl := Tvs_nil k2
  have o0 := Tv_one h0 rfl
  have o1 := Tv_one h1 rfl
  obtain ⟨d0, p0⟩ := p8 h0
  obtain ⟨d1, p1⟩ := p90 h1
  refine put_of (rfl : tbl 81 = some c81) rfl rfl rfl rfl ?_
  simp only [o, p, mv, zz, ci, aW, aI, aev, aevs, geta, puta, seta, reputa, aCells, vs, CV.cells, Ce.L.oneA, nth?, unV, splA, setN, rvA, oneAV, List.cons_append, List.nil_append, List.length_cons, List.length_nil, List.append_nil, List.take, List.drop, true_and, and_true, Nat.reduceAdd, Nat.reduceLeDiff, c81, o0, o1]
  exact ⟨d0, _, p0, d1, _, p1, by omega⟩
theorem q55 {s : Ce.L.AV} {N : Nat} (hs : LSrc [tI, .bool] 2 (some 2) s N) (hN : N ≤ 2 ^ 30) (hb : noBx s = true) : ∃ d, PutOK tbl 55 [s] d (1 + N * 2) := by
  obtain ⟨d, h⟩ := put_list (gf := 81) (B := 2) (rfl : tbl 80 = some (puts0 2 (some 2))) hs hN (fun u hu => by
    exact p81 hu)
  refine put_of (rfl : tbl 55 = some c55) rfl rfl rfl (by simp [noBxs, hb]) ?_
  simp only [o, p, mv, zz, ci, aW, aI, aev, aevs, geta, puta, seta, reputa, aCells, vs, CV.cells, Ce.L.oneA, nth?, unV, splA, setN, rvA, oneAV, List.cons_append, List.nil_append, List.length_cons, List.length_nil, List.append_nil, List.take, List.drop, true_and, and_true, Nat.reduceAdd, Nat.reduceLeDiff, c55]
  exact ⟨d, _, h, by omega⟩
theorem p55 {x : CV} (hx : Tv (tL [tI, .bool]) x) : ∃ d, PutOK tbl 55 [.v x] d 2097153 := q55 (LSrc_rows hx rfl) (by omega) rfl
theorem p83 {x : CV} (hx : Tv (.agg [tI, tI, .bool]) x) : ∃ d, PutOK tbl 83 [.v x] d 3 := by
  obtain ⟨cs, rfl, k0⟩ := Tv_agg hx
  clear hx
  obtain ⟨y0, cs, rfl, h0, k1⟩ := Tvs_cons k0
  clear k0
  obtain ⟨y1, cs, rfl, h1, k2⟩ := Tvs_cons k1
  clear k1
  obtain ⟨y2, cs, rfl, h2, k3⟩ := Tvs_cons k2
  clear k2
  obtain rfl := Tvs_nil k3
  have o0 := Tv_one h0 rfl
  have o1 := Tv_one h1 rfl
  have o2 := Tv_one h2 rfl
  obtain ⟨d0, p0⟩ := p8 h0
  obtain ⟨d1, p1⟩ := p8 h1
  obtain ⟨d2, p2⟩ := p90 h2
  refine put_of (rfl : tbl 83 = some c83) rfl rfl rfl rfl ?_
  simp only [o, p, mv, zz, ci, aW, aI, aev, aevs, geta, puta, seta, reputa, aCells, vs, CV.cells, Ce.L.oneA, nth?, unV, splA, setN, rvA, oneAV, List.cons_append, List.nil_append, List.length_cons, List.length_nil, List.append_nil, List.take, List.drop, true_and, and_true, Nat.reduceAdd, Nat.reduceLeDiff, c83, o0, o1, o2]
  exact ⟨d0, _, p0, d1, _, p1, d2, _, p2, by omega⟩
theorem q56 {s : Ce.L.AV} {N : Nat} (hs : LSrc [tI, tI, .bool] 3 (some 3) s N) (hN : N ≤ 2 ^ 30) (hb : noBx s = true) : ∃ d, PutOK tbl 56 [s] d (1 + N * 3) := by
  obtain ⟨d, h⟩ := put_list (gf := 83) (B := 3) (rfl : tbl 82 = some (puts0 3 (some 3))) hs hN (fun u hu => by
    exact p83 hu)
  refine put_of (rfl : tbl 56 = some c56) rfl rfl rfl (by simp [noBxs, hb]) ?_
  simp only [o, p, mv, zz, ci, aW, aI, aev, aevs, geta, puta, seta, reputa, aCells, vs, CV.cells, Ce.L.oneA, nth?, unV, splA, setN, rvA, oneAV, List.cons_append, List.nil_append, List.length_cons, List.length_nil, List.append_nil, List.take, List.drop, true_and, and_true, Nat.reduceAdd, Nat.reduceLeDiff, c56]
  exact ⟨d, _, h, by omega⟩
theorem p56 {x : CV} (hx : Tv (tL [tI, tI, .bool]) x) : ∃ d, PutOK tbl 56 [.v x] d 3145729 := q56 (LSrc_rows hx rfl) (by omega) rfl
theorem p35 {x : CV} (hx : Tv (.agg [tI, tI, tI, (tL [.str, tI]), (tL [tI, .bool]), tI, (tL [tI, tI, .bool])]) x) : ∃ d, PutOK tbl 35 [.v x] d 7340039 := by
  obtain ⟨cs, rfl, k0⟩ := Tv_agg hx
  clear hx
  obtain ⟨y0, cs, rfl, h0, k1⟩ := Tvs_cons k0
  clear k0
  obtain ⟨y1, cs, rfl, h1, k2⟩ := Tvs_cons k1
  clear k1
  obtain ⟨y2, cs, rfl, h2, k3⟩ := Tvs_cons k2
  clear k2
  obtain ⟨y3, cs, rfl, h3, k4⟩ := Tvs_cons k3
  clear k3
  obtain ⟨y4, cs, rfl, h4, k5⟩ := Tvs_cons k4
  clear k4
  obtain ⟨y5, cs, rfl, h5, k6⟩ := Tvs_cons k5
  clear k5
  obtain ⟨y6, cs, rfl, h6, k7⟩ := Tvs_cons k6
  clear k6
  obtain rfl := Tvs_nil k7
  have o0 := Tv_one h0 rfl
  have o1 := Tv_one h1 rfl
  have o2 := Tv_one h2 rfl
  have o3 := Tv_one h3 rfl
  have o4 := Tv_one h4 rfl
  have o5 := Tv_one h5 rfl
  have o6 := Tv_one h6 rfl
  obtain ⟨d0, p0⟩ := p8 h0
  obtain ⟨d1, p1⟩ := p13 (Tv_agg_mk (Tvs_cons_mk h1 (Tvs_cons_mk h2 Tvs_nil_mk)))
  obtain ⟨d2, p2⟩ := p54 h3
  obtain ⟨d3, p3⟩ := p55 h4
  obtain ⟨d4, p4⟩ := p8 h5
  obtain ⟨d5, p5⟩ := p56 h6
  refine put_of (rfl : tbl 35 = some c35) rfl rfl rfl rfl ?_
  simp only [o, p, mv, zz, ci, aW, aI, aev, aevs, geta, puta, seta, reputa, aCells, vs, CV.cells, Ce.L.oneA, nth?, unV, splA, setN, rvA, oneAV, List.cons_append, List.nil_append, List.length_cons, List.length_nil, List.append_nil, List.take, List.drop, true_and, and_true, Nat.reduceAdd, Nat.reduceLeDiff, c35, o0, o1, o2, o3, o4, o5, o6]
  exact ⟨d0, _, p0, d1, _, p1, d2, _, p2, d3, _, p3, d4, _, p4, d5, _, p5, by omega⟩
def tX : Ty := (.agg [tI, tI, tI, (tL [.str, tI]), (tL [tI, .bool]), tI, (tL [tI, tI, .bool]), tI])
theorem pall {x : CV} (hx : Tv tX x) : ∃ d, AllOK tbl 4 x d 7340040 := by
  obtain ⟨cs, rfl, k0⟩ := Tv_agg hx
  clear hx
  obtain ⟨y0, cs, rfl, h0, k1⟩ := Tvs_cons k0
  clear k0
  obtain ⟨y1, cs, rfl, h1, k2⟩ := Tvs_cons k1
  clear k1
  obtain ⟨y2, cs, rfl, h2, k3⟩ := Tvs_cons k2
  clear k2
  obtain ⟨y3, cs, rfl, h3, k4⟩ := Tvs_cons k3
  clear k3
  obtain ⟨y4, cs, rfl, h4, k5⟩ := Tvs_cons k4
  clear k4
  obtain ⟨y5, cs, rfl, h5, k6⟩ := Tvs_cons k5
  clear k5
  obtain ⟨y6, cs, rfl, h6, k7⟩ := Tvs_cons k6
  clear k6
  obtain ⟨y7, cs, rfl, h7, k8⟩ := Tvs_cons k7
  clear k7
  obtain rfl := Tvs_nil k8
  have o0 := Tv_one h0 rfl
  have o1 := Tv_one h1 rfl
  have o2 := Tv_one h2 rfl
  have o3 := Tv_one h3 rfl
  have o4 := Tv_one h4 rfl
  have o5 := Tv_one h5 rfl
  have o6 := Tv_one h6 rfl
  have o7 := Tv_one h7 rfl
  obtain ⟨d0, p0⟩ := p35 (Tv_agg_mk (Tvs_cons_mk h0 (Tvs_cons_mk h1 (Tvs_cons_mk h2 (Tvs_cons_mk h3 (Tvs_cons_mk h4 (Tvs_cons_mk h5 (Tvs_cons_mk h6 Tvs_nil_mk))))))))
  obtain ⟨d1, p1⟩ := p8 h7
  refine all_of (rfl : tbl 4 = some c4) rfl rfl rfl ?_
  simp only [o, p, mv, zz, ci, aW, aI, aev, aevs, geta, puta, seta, reputa, aCells, vs, CV.cells, Ce.L.oneA, nth?, unV, splA, setN, rvA, oneAV, List.cons_append, List.nil_append, List.length_cons, List.length_nil, List.append_nil, List.take, List.drop, true_and, and_true, Nat.reduceAdd, Nat.reduceLeDiff, c4, o0, o1, o2, o3, o4, o5, o6, o7]
  exact ⟨d0, _, p0, d1, _, p1, by omega⟩
end Do
namespace Do
open Go Ce Ce.S
def U : S.AV := .tup []
def I (s : Nat) (c : Int) : S.AV := .int .i64 s c
def Z (s : Nat) : S.AV := .int .i64 s 0
def Y (s : Nat) : S.AV := .sym s
def D (x y : Nat) (c : Int) : Fact := .dc x y c
def ys : Nat → Nat → List S.AV
  | _, 0 => []
  | k, n + 1 => .sym k :: ys (k + 1) n
def us : Nat → List S.AV
  | 0 => []
  | n + 1 => .tup [] :: us n
def X8 : Int := 9223372036854775808
def X7 : Int := 9223372036854775807
def J : Ty := .int .i64 ⟨0, -9223372036854775808⟩ ⟨0, 9223372036854775807⟩
end Do
namespace Do
open Go Ce Ce.L Ce.S
theorem one_int {k : IntKind} {n : Int} : (CV.int k n).one = true := rfl
theorem one_nils : CV.nils.one = true := rfl
theorem one_str {b : ByteArray} : (CV.str b).one = true := rfl
theorem one_bool {b : Bool} : (CV.bool b).one = true := rfl
theorem Tv_nils {R : List Ty} : Tv (tL R) .nils := fun v hv => .inl ⟨rfl, by simp [Lin.ev, hv], by simp [Lin.ev, hv]⟩
def tXs : List Ty := [tI, tI, tI, (tL [.str, tI]), (tL [tI, .bool]), tI, (tL [tI, tI, .bool]), tI]
def Ts7 : List Ty := [(.agg [tI, tI, tI, (tL [.str, tI]), (tL [tI, .bool]), tI, (tL [tI, tI, .bool])])]
def sh7 : List Sh := [.v tI, .v tI, .v tI]
def Ap7 : Prop := ∀ {args : List CV}, Tvs Ts7 args → ∃ rs, ShsOK sh7 rs ∧ ApOK tbl 7 args rs
def Ts12 : List Ty := [(.agg [tI, tI, tI, (tL [.str, tI]), (tL [tI, .bool]), tI, (tL [tI, tI, .bool])]), tI]
def sh12 : List Sh := [.v (.agg [tI, tI]), .v tI, .v tI]
def Ap12 : Prop := ∀ {args : List CV}, Tvs Ts12 args → ∃ rs, ShsOK sh12 rs ∧ ApOK tbl 12 args rs
def Ts15 : List Ty := [(.agg [tI, tI, tI, (tL [.str, tI]), (tL [tI, .bool]), tI, (tL [tI, tI, .bool])]), tI]
def sh15 : List Sh := [.l 1 none [tI], .v tI]
def Ap15 : Prop := ∀ {args : List CV}, Tvs Ts15 args → ∃ rs, ShsOK sh15 rs ∧ ApOK tbl 15 args rs
def Ts20 : List Ty := [(.agg [tI, tI, tI, (tL [.str, tI]), (tL [tI, .bool]), tI, (tL [tI, tI, .bool])]), tI]
def sh20 : List Sh := [.l 1 none [tI], .v tI]
def Ap20 : Prop := ∀ {args : List CV}, Tvs Ts20 args → ∃ rs, ShsOK sh20 rs ∧ ApOK tbl 20 args rs
def Ts23 : List Ty := [(.agg [tI, tI, tI, (tL [.str, tI]), (tL [tI, .bool]), tI, (tL [tI, tI, .bool])])]
def sh23 : List Sh := [.l 1 none [tI], .l 1 none [tI], .v tI]
def Ap23 : Prop := ∀ {args : List CV}, Tvs Ts23 args → ∃ rs, ShsOK sh23 rs ∧ ApOK tbl 23 args rs
def Ts26 : List Ty := [(.agg [tI, tI, tI, (tL [.str, tI]), (tL [tI, .bool]), tI, (tL [tI, tI, .bool])])]
def sh26 : List Sh := [.l 1 none [tI], .v tI]
def Ap26 : Prop := ∀ {args : List CV}, Tvs Ts26 args → ∃ rs, ShsOK sh26 rs ∧ ApOK tbl 26 args rs
def Ts29 : List Ty := [(.agg [tI, tI, tI, (tL [.str, tI]), (tL [tI, .bool]), tI, (tL [tI, tI, .bool])]), tI]
def sh29 : List Sh := [.v tI, .v tI, .v tI]
def Ap29 : Prop := ∀ {args : List CV}, Tvs Ts29 args → ∃ rs, ShsOK sh29 rs ∧ ApOK tbl 29 args rs
def Ts31 : List Ty := [(.agg [tI, tI, tI, (tL [.str, tI]), (tL [tI, .bool]), tI, (tL [tI, tI, .bool])])]
def sh31 : List Sh := [.l 1 none [tI], .v tI]
def Ap31 : Prop := ∀ {args : List CV}, Tvs Ts31 args → ∃ rs, ShsOK sh31 rs ∧ ApOK tbl 31 args rs
theorem k6 (hap : Ap7) {cells : List CV} (hx : Tvs tXs cells) : ∃ d, CallOK tbl 6 cells d (2 ^ 34) := by
  obtain ⟨y0, cs0, rfl, h0, k0⟩ := Tvs_cons hx
  obtain ⟨y1, cs1, rfl, h1, k1⟩ := Tvs_cons k0
  obtain ⟨y2, cs2, rfl, h2, k2⟩ := Tvs_cons k1
  obtain ⟨y3, cs3, rfl, h3, k3⟩ := Tvs_cons k2
  obtain ⟨y4, cs4, rfl, h4, k4⟩ := Tvs_cons k3
  obtain ⟨y5, cs5, rfl, h5, k5⟩ := Tvs_cons k4
  obtain ⟨y6, cs6, rfl, h6, k6⟩ := Tvs_cons k5
  obtain ⟨y7, cs7, rfl, h7, k7⟩ := Tvs_cons k6
  obtain rfl := Tvs_nil k7
  have o0 := Tv_one h0 rfl
  have o1 := Tv_one h1 rfl
  have o2 := Tv_one h2 rfl
  have o3 := Tv_one h3 rfl
  have o4 := Tv_one h4 rfl
  have o5 := Tv_one h5 rfl
  have o6 := Tv_one h6 rfl
  have o7 := Tv_one h7 rfl
  obtain ⟨rs, hrs, ap⟩ := hap (Tvs_cons_mk (Tv_agg_mk (Tvs_cons_mk h0 (Tvs_cons_mk h1 (Tvs_cons_mk h2 (Tvs_cons_mk h3 (Tvs_cons_mk h4 (Tvs_cons_mk h5 (Tvs_cons_mk h6 Tvs_nil_mk)))))))) Tvs_nil_mk)
  obtain ⟨r0, rs0, rfl, hr0, m0⟩ := hrs
  obtain ⟨r1, rs1, rfl, hr1, m1⟩ := m0
  obtain ⟨r2, rs2, rfl, hr2, m2⟩ := m1
  have e : rs2 = [] := m2
  subst e
  obtain ⟨z0, rfl, t0⟩ := hr0
  obtain ⟨z1, rfl, t1⟩ := hr1
  obtain ⟨z2, rfl, t2⟩ := hr2
  have z0o := Tv_one t0 rfl
  have z1o := Tv_one t1 rfl
  have z2o := Tv_one t2 rfl
  obtain ⟨d0, p0⟩ := p8 t0
  obtain ⟨d1, p1⟩ := p8 t1
  obtain ⟨d2, p2⟩ := p9 t2
  refine call_of (t := 3) (rfl : tbl 6 = some c6) rfl rfl rfl (by simp [allOne, o0, o1, o2, o3, o4, o5, o6, o7]) ?_
  simp only [o, p, mv, zz, ci, aW, aI, aev, aevs, geta, puta, seta, reputa, aCells, vs, CV.cells, Ce.L.oneA, nth?, unV, splA, setN, rvA, oneAV, List.cons_append, List.nil_append, List.length_cons, List.length_nil, List.append_nil, List.take, List.drop, true_and, and_true, Nat.reduceAdd, Nat.reduceLeDiff, allOne, one_int, one_nils, one_str, one_bool, Bool.and_self, c6, o0, o1, o2, o3, o4, o5, o6, o7, z0o, z1o, z2o]
  refine ⟨[.v z0, .v z1, .v z2], ap, ?_⟩
  simp only [o, p, mv, zz, ci, aW, aI, aev, aevs, geta, puta, seta, reputa, aCells, vs, CV.cells, Ce.L.oneA, nth?, unV, splA, setN, rvA, oneAV, List.cons_append, List.nil_append, List.length_cons, List.length_nil, List.append_nil, List.take, List.drop, true_and, and_true, Nat.reduceAdd, Nat.reduceLeDiff, allOne, one_int, one_nils, one_str, one_bool, Bool.and_self, o0, o1, o2, o3, o4, o5, o6, o7, z0o, z1o, z2o]
  exact ⟨d0, _, p0, d1, _, p1, d2, _, p2, by omega, wipe_nothing rfl⟩
theorem k11 (hap : Ap12) {cells : List CV} (hx : Tvs tXs cells) : ∃ d, CallOK tbl 11 cells d (2 ^ 34) := by
  obtain ⟨y0, cs0, rfl, h0, k0⟩ := Tvs_cons hx
  obtain ⟨y1, cs1, rfl, h1, k1⟩ := Tvs_cons k0
  obtain ⟨y2, cs2, rfl, h2, k2⟩ := Tvs_cons k1
  obtain ⟨y3, cs3, rfl, h3, k3⟩ := Tvs_cons k2
  obtain ⟨y4, cs4, rfl, h4, k4⟩ := Tvs_cons k3
  obtain ⟨y5, cs5, rfl, h5, k5⟩ := Tvs_cons k4
  obtain ⟨y6, cs6, rfl, h6, k6⟩ := Tvs_cons k5
  obtain ⟨y7, cs7, rfl, h7, k7⟩ := Tvs_cons k6
  obtain rfl := Tvs_nil k7
  have o0 := Tv_one h0 rfl
  have o1 := Tv_one h1 rfl
  have o2 := Tv_one h2 rfl
  have o3 := Tv_one h3 rfl
  have o4 := Tv_one h4 rfl
  have o5 := Tv_one h5 rfl
  have o6 := Tv_one h6 rfl
  have o7 := Tv_one h7 rfl
  obtain ⟨rs, hrs, ap⟩ := hap (Tvs_cons_mk (Tv_agg_mk (Tvs_cons_mk h0 (Tvs_cons_mk h1 (Tvs_cons_mk h2 (Tvs_cons_mk h3 (Tvs_cons_mk h4 (Tvs_cons_mk h5 (Tvs_cons_mk h6 Tvs_nil_mk)))))))) (Tvs_cons_mk h7 Tvs_nil_mk))
  obtain ⟨r0, rs0, rfl, hr0, m0⟩ := hrs
  obtain ⟨r1, rs1, rfl, hr1, m1⟩ := m0
  obtain ⟨r2, rs2, rfl, hr2, m2⟩ := m1
  have e : rs2 = [] := m2
  subst e
  obtain ⟨z0, rfl, t0⟩ := hr0
  obtain ⟨z1, rfl, t1⟩ := hr1
  obtain ⟨z2, rfl, t2⟩ := hr2
  obtain ⟨g0, rfl, u0⟩ := Tv_agg t0
  obtain ⟨g0x0, gs0x0, rfl, b0x0, e0x0⟩ := Tvs_cons u0
  obtain ⟨g0x1, gs0x1, rfl, b0x1, e0x1⟩ := Tvs_cons e0x0
  obtain rfl := Tvs_nil e0x1
  have g0x0o := Tv_one b0x0 rfl
  have g0x1o := Tv_one b0x1 rfl
  have z1o := Tv_one t1 rfl
  have z2o := Tv_one t2 rfl
  obtain ⟨d0, p0⟩ := p13 t0
  obtain ⟨d1, p1⟩ := p8 t1
  obtain ⟨d2, p2⟩ := p9 t2
  refine call_of (t := 3) (rfl : tbl 11 = some c11) rfl rfl rfl (by simp [allOne, o0, o1, o2, o3, o4, o5, o6, o7, g0x0o, g0x1o]) ?_
  simp only [o, p, mv, zz, ci, aW, aI, aev, aevs, geta, puta, seta, reputa, aCells, vs, CV.cells, Ce.L.oneA, nth?, unV, splA, setN, rvA, oneAV, List.cons_append, List.nil_append, List.length_cons, List.length_nil, List.append_nil, List.take, List.drop, true_and, and_true, Nat.reduceAdd, Nat.reduceLeDiff, allOne, one_int, one_nils, one_str, one_bool, Bool.and_self, c11, o0, o1, o2, o3, o4, o5, o6, o7, g0x0o, g0x1o, z1o, z2o]
  refine ⟨[.v (.agg [g0x0, g0x1]), .v z1, .v z2], ap, ?_⟩
  simp only [o, p, mv, zz, ci, aW, aI, aev, aevs, geta, puta, seta, reputa, aCells, vs, CV.cells, Ce.L.oneA, nth?, unV, splA, setN, rvA, oneAV, List.cons_append, List.nil_append, List.length_cons, List.length_nil, List.append_nil, List.take, List.drop, true_and, and_true, Nat.reduceAdd, Nat.reduceLeDiff, allOne, one_int, one_nils, one_str, one_bool, Bool.and_self, o0, o1, o2, o3, o4, o5, o6, o7, g0x0o, g0x1o, z1o, z2o]
  exact ⟨d0, _, p0, d1, _, p1, d2, _, p2, by omega, wipe_nothing rfl⟩
theorem k14 (hap : Ap15) {cells : List CV} (hx : Tvs tXs cells) : ∃ d, CallOK tbl 14 cells d (2 ^ 34) := by
  obtain ⟨y0, cs0, rfl, h0, k0⟩ := Tvs_cons hx
  obtain ⟨y1, cs1, rfl, h1, k1⟩ := Tvs_cons k0
  obtain ⟨y2, cs2, rfl, h2, k2⟩ := Tvs_cons k1
  obtain ⟨y3, cs3, rfl, h3, k3⟩ := Tvs_cons k2
  obtain ⟨y4, cs4, rfl, h4, k4⟩ := Tvs_cons k3
  obtain ⟨y5, cs5, rfl, h5, k5⟩ := Tvs_cons k4
  obtain ⟨y6, cs6, rfl, h6, k6⟩ := Tvs_cons k5
  obtain ⟨y7, cs7, rfl, h7, k7⟩ := Tvs_cons k6
  obtain rfl := Tvs_nil k7
  have o0 := Tv_one h0 rfl
  have o1 := Tv_one h1 rfl
  have o2 := Tv_one h2 rfl
  have o3 := Tv_one h3 rfl
  have o4 := Tv_one h4 rfl
  have o5 := Tv_one h5 rfl
  have o6 := Tv_one h6 rfl
  have o7 := Tv_one h7 rfl
  obtain ⟨rs, hrs, ap⟩ := hap (Tvs_cons_mk (Tv_agg_mk (Tvs_cons_mk h0 (Tvs_cons_mk h1 (Tvs_cons_mk h2 (Tvs_cons_mk h3 (Tvs_cons_mk h4 (Tvs_cons_mk h5 (Tvs_cons_mk h6 Tvs_nil_mk)))))))) (Tvs_cons_mk h7 Tvs_nil_mk))
  obtain ⟨r0, rs0, rfl, hr0, m0⟩ := hrs
  obtain ⟨r1, rs1, rfl, hr1, m1⟩ := m0
  have e : rs1 = [] := m1
  subst e
  obtain ⟨z1, rfl, t1⟩ := hr1
  have z1o := Tv_one t1 rfl
  rcases hr0 with rfl | ⟨k'0, off0, len0, cap0, c0s, rfl, ls0, w0, n0⟩
  · obtain ⟨d0, p0⟩ := p16 Tv_nils
    obtain ⟨d1, p1⟩ := p9 t1
    refine call_of (t := 3) (rfl : tbl 14 = some c14) rfl rfl rfl (by simp [allOne, o0, o1, o2, o3, o4, o5, o6, o7]) ?_
    simp only [o, p, mv, zz, ci, aW, aI, aev, aevs, geta, puta, seta, reputa, aCells, vs, CV.cells, Ce.L.oneA, nth?, unV, splA, setN, rvA, oneAV, List.cons_append, List.nil_append, List.length_cons, List.length_nil, List.append_nil, List.take, List.drop, true_and, and_true, Nat.reduceAdd, Nat.reduceLeDiff, allOne, one_int, one_nils, one_str, one_bool, Bool.and_self, c14, o0, o1, o2, o3, o4, o5, o6, o7, z1o]
    refine ⟨[.v .nils, .v z1], ap, ?_⟩
    simp only [o, p, mv, zz, ci, aW, aI, aev, aevs, geta, puta, seta, reputa, aCells, vs, CV.cells, Ce.L.oneA, nth?, unV, splA, setN, rvA, oneAV, List.cons_append, List.nil_append, List.length_cons, List.length_nil, List.append_nil, List.take, List.drop, true_and, and_true, Nat.reduceAdd, Nat.reduceLeDiff, allOne, one_int, one_nils, one_str, one_bool, Bool.and_self, o0, o1, o2, o3, o4, o5, o6, o7, z1o]
    exact ⟨d0, _, p0, d1, _, p1, by omega, wipe_one rfl rfl rfl rfl (wipeB_ok rfl rfl (wipe1ok rfl rfl)) rfl rfl (rfl)⟩
  · obtain ⟨d0, p0⟩ := q16 ls0 (Nat.le_refl _) rfl
    obtain ⟨d1, p1⟩ := p9 t1
    refine call_of (t := 3) (rfl : tbl 14 = some c14) rfl rfl rfl (by simp [allOne, o0, o1, o2, o3, o4, o5, o6, o7]) ?_
    simp only [o, p, mv, zz, ci, aW, aI, aev, aevs, geta, puta, seta, reputa, aCells, vs, CV.cells, Ce.L.oneA, nth?, unV, splA, setN, rvA, oneAV, List.cons_append, List.nil_append, List.length_cons, List.length_nil, List.append_nil, List.take, List.drop, true_and, and_true, Nat.reduceAdd, Nat.reduceLeDiff, allOne, one_int, one_nils, one_str, one_bool, Bool.and_self, c14, o0, o1, o2, o3, o4, o5, o6, o7, z1o]
    refine ⟨[.s k'0 off0 len0 cap0 c0s, .v z1], ap, ?_⟩
    simp only [o, p, mv, zz, ci, aW, aI, aev, aevs, geta, puta, seta, reputa, aCells, vs, CV.cells, Ce.L.oneA, nth?, unV, splA, setN, rvA, oneAV, List.cons_append, List.nil_append, List.length_cons, List.length_nil, List.append_nil, List.take, List.drop, true_and, and_true, Nat.reduceAdd, Nat.reduceLeDiff, allOne, one_int, one_nils, one_str, one_bool, Bool.and_self, o0, o1, o2, o3, o4, o5, o6, o7, z1o]
    exact ⟨d0, _, p0, d1, _, p1, by omega, wipe_one rfl rfl rfl rfl (wipeB_ok rfl rfl (wipe1ok rfl rfl)) rfl rfl (⟨w0, by omega⟩)⟩
theorem k19 (hap : Ap20) {cells : List CV} (hx : Tvs tXs cells) : ∃ d, CallOK tbl 19 cells d (2 ^ 34) := by
  obtain ⟨y0, cs0, rfl, h0, k0⟩ := Tvs_cons hx
  obtain ⟨y1, cs1, rfl, h1, k1⟩ := Tvs_cons k0
  obtain ⟨y2, cs2, rfl, h2, k2⟩ := Tvs_cons k1
  obtain ⟨y3, cs3, rfl, h3, k3⟩ := Tvs_cons k2
  obtain ⟨y4, cs4, rfl, h4, k4⟩ := Tvs_cons k3
  obtain ⟨y5, cs5, rfl, h5, k5⟩ := Tvs_cons k4
  obtain ⟨y6, cs6, rfl, h6, k6⟩ := Tvs_cons k5
  obtain ⟨y7, cs7, rfl, h7, k7⟩ := Tvs_cons k6
  obtain rfl := Tvs_nil k7
  have o0 := Tv_one h0 rfl
  have o1 := Tv_one h1 rfl
  have o2 := Tv_one h2 rfl
  have o3 := Tv_one h3 rfl
  have o4 := Tv_one h4 rfl
  have o5 := Tv_one h5 rfl
  have o6 := Tv_one h6 rfl
  have o7 := Tv_one h7 rfl
  obtain ⟨rs, hrs, ap⟩ := hap (Tvs_cons_mk (Tv_agg_mk (Tvs_cons_mk h0 (Tvs_cons_mk h1 (Tvs_cons_mk h2 (Tvs_cons_mk h3 (Tvs_cons_mk h4 (Tvs_cons_mk h5 (Tvs_cons_mk h6 Tvs_nil_mk)))))))) (Tvs_cons_mk h7 Tvs_nil_mk))
  obtain ⟨r0, rs0, rfl, hr0, m0⟩ := hrs
  obtain ⟨r1, rs1, rfl, hr1, m1⟩ := m0
  have e : rs1 = [] := m1
  subst e
  obtain ⟨z1, rfl, t1⟩ := hr1
  have z1o := Tv_one t1 rfl
  rcases hr0 with rfl | ⟨k'0, off0, len0, cap0, c0s, rfl, ls0, w0, n0⟩
  · obtain ⟨d0, p0⟩ := p16 Tv_nils
    obtain ⟨d1, p1⟩ := p9 t1
    refine call_of (t := 3) (rfl : tbl 19 = some c19) rfl rfl rfl (by simp [allOne, o0, o1, o2, o3, o4, o5, o6, o7]) ?_
    simp only [o, p, mv, zz, ci, aW, aI, aev, aevs, geta, puta, seta, reputa, aCells, vs, CV.cells, Ce.L.oneA, nth?, unV, splA, setN, rvA, oneAV, List.cons_append, List.nil_append, List.length_cons, List.length_nil, List.append_nil, List.take, List.drop, true_and, and_true, Nat.reduceAdd, Nat.reduceLeDiff, allOne, one_int, one_nils, one_str, one_bool, Bool.and_self, c19, o0, o1, o2, o3, o4, o5, o6, o7, z1o]
    refine ⟨[.v .nils, .v z1], ap, ?_⟩
    simp only [o, p, mv, zz, ci, aW, aI, aev, aevs, geta, puta, seta, reputa, aCells, vs, CV.cells, Ce.L.oneA, nth?, unV, splA, setN, rvA, oneAV, List.cons_append, List.nil_append, List.length_cons, List.length_nil, List.append_nil, List.take, List.drop, true_and, and_true, Nat.reduceAdd, Nat.reduceLeDiff, allOne, one_int, one_nils, one_str, one_bool, Bool.and_self, o0, o1, o2, o3, o4, o5, o6, o7, z1o]
    exact ⟨d0, _, p0, d1, _, p1, by omega, wipe_one rfl rfl rfl rfl (wipeB_ok rfl rfl (wipe1ok rfl rfl)) rfl rfl (rfl)⟩
  · obtain ⟨d0, p0⟩ := q16 ls0 (Nat.le_refl _) rfl
    obtain ⟨d1, p1⟩ := p9 t1
    refine call_of (t := 3) (rfl : tbl 19 = some c19) rfl rfl rfl (by simp [allOne, o0, o1, o2, o3, o4, o5, o6, o7]) ?_
    simp only [o, p, mv, zz, ci, aW, aI, aev, aevs, geta, puta, seta, reputa, aCells, vs, CV.cells, Ce.L.oneA, nth?, unV, splA, setN, rvA, oneAV, List.cons_append, List.nil_append, List.length_cons, List.length_nil, List.append_nil, List.take, List.drop, true_and, and_true, Nat.reduceAdd, Nat.reduceLeDiff, allOne, one_int, one_nils, one_str, one_bool, Bool.and_self, c19, o0, o1, o2, o3, o4, o5, o6, o7, z1o]
    refine ⟨[.s k'0 off0 len0 cap0 c0s, .v z1], ap, ?_⟩
    simp only [o, p, mv, zz, ci, aW, aI, aev, aevs, geta, puta, seta, reputa, aCells, vs, CV.cells, Ce.L.oneA, nth?, unV, splA, setN, rvA, oneAV, List.cons_append, List.nil_append, List.length_cons, List.length_nil, List.append_nil, List.take, List.drop, true_and, and_true, Nat.reduceAdd, Nat.reduceLeDiff, allOne, one_int, one_nils, one_str, one_bool, Bool.and_self, o0, o1, o2, o3, o4, o5, o6, o7, z1o]
    exact ⟨d0, _, p0, d1, _, p1, by omega, wipe_one rfl rfl rfl rfl (wipeB_ok rfl rfl (wipe1ok rfl rfl)) rfl rfl (⟨w0, by omega⟩)⟩
theorem k22 (hap : Ap23) {cells : List CV} (hx : Tvs tXs cells) : ∃ d, CallOK tbl 22 cells d (2 ^ 34) := by
  obtain ⟨y0, cs0, rfl, h0, k0⟩ := Tvs_cons hx
  obtain ⟨y1, cs1, rfl, h1, k1⟩ := Tvs_cons k0
  obtain ⟨y2, cs2, rfl, h2, k2⟩ := Tvs_cons k1
  obtain ⟨y3, cs3, rfl, h3, k3⟩ := Tvs_cons k2
  obtain ⟨y4, cs4, rfl, h4, k4⟩ := Tvs_cons k3
  obtain ⟨y5, cs5, rfl, h5, k5⟩ := Tvs_cons k4
  obtain ⟨y6, cs6, rfl, h6, k6⟩ := Tvs_cons k5
  obtain ⟨y7, cs7, rfl, h7, k7⟩ := Tvs_cons k6
  obtain rfl := Tvs_nil k7
  have o0 := Tv_one h0 rfl
  have o1 := Tv_one h1 rfl
  have o2 := Tv_one h2 rfl
  have o3 := Tv_one h3 rfl
  have o4 := Tv_one h4 rfl
  have o5 := Tv_one h5 rfl
  have o6 := Tv_one h6 rfl
  have o7 := Tv_one h7 rfl
  obtain ⟨rs, hrs, ap⟩ := hap (Tvs_cons_mk (Tv_agg_mk (Tvs_cons_mk h0 (Tvs_cons_mk h1 (Tvs_cons_mk h2 (Tvs_cons_mk h3 (Tvs_cons_mk h4 (Tvs_cons_mk h5 (Tvs_cons_mk h6 Tvs_nil_mk)))))))) Tvs_nil_mk)
  obtain ⟨r0, rs0, rfl, hr0, m0⟩ := hrs
  obtain ⟨r1, rs1, rfl, hr1, m1⟩ := m0
  obtain ⟨r2, rs2, rfl, hr2, m2⟩ := m1
  have e : rs2 = [] := m2
  subst e
  obtain ⟨z2, rfl, t2⟩ := hr2
  have z2o := Tv_one t2 rfl
  rcases hr0 with rfl | ⟨k'0, off0, len0, cap0, c0s, rfl, ls0, w0, n0⟩
  · rcases hr1 with rfl | ⟨k'1, off1, len1, cap1, c1s, rfl, ls1, w1, n1⟩
    · obtain ⟨d0, p0⟩ := p16 Tv_nils
      obtain ⟨d1, p1⟩ := p16 Tv_nils
      obtain ⟨d2, p2⟩ := p9 t2
      refine call_of (t := 3) (rfl : tbl 22 = some c22) rfl rfl rfl (by simp [allOne, o0, o1, o2, o3, o4, o5, o6, o7]) ?_
      simp only [o, p, mv, zz, ci, aW, aI, aev, aevs, geta, puta, seta, reputa, aCells, vs, CV.cells, Ce.L.oneA, nth?, unV, splA, setN, rvA, oneAV, List.cons_append, List.nil_append, List.length_cons, List.length_nil, List.append_nil, List.take, List.drop, true_and, and_true, Nat.reduceAdd, Nat.reduceLeDiff, allOne, one_int, one_nils, one_str, one_bool, Bool.and_self, c22, o0, o1, o2, o3, o4, o5, o6, o7, z2o]
      refine ⟨[.v .nils, .v .nils, .v z2], ap, ?_⟩
      simp only [o, p, mv, zz, ci, aW, aI, aev, aevs, geta, puta, seta, reputa, aCells, vs, CV.cells, Ce.L.oneA, nth?, unV, splA, setN, rvA, oneAV, List.cons_append, List.nil_append, List.length_cons, List.length_nil, List.append_nil, List.take, List.drop, true_and, and_true, Nat.reduceAdd, Nat.reduceLeDiff, allOne, one_int, one_nils, one_str, one_bool, Bool.and_self, o0, o1, o2, o3, o4, o5, o6, o7, z2o]
      exact ⟨d0, _, p0, d1, _, p1, d2, _, p2, by omega, wipe_two rfl rfl rfl rfl (wipeB_ok rfl rfl (wipe1ok rfl rfl)) (wipeB_ok rfl rfl (wipe1ok rfl rfl)) rfl rfl (rfl) rfl rfl (rfl)⟩
    · obtain ⟨d0, p0⟩ := p16 Tv_nils
      obtain ⟨d1, p1⟩ := q16 ls1 (Nat.le_refl _) rfl
      obtain ⟨d2, p2⟩ := p9 t2
      refine call_of (t := 3) (rfl : tbl 22 = some c22) rfl rfl rfl (by simp [allOne, o0, o1, o2, o3, o4, o5, o6, o7]) ?_
      simp only [o, p, mv, zz, ci, aW, aI, aev, aevs, geta, puta, seta, reputa, aCells, vs, CV.cells, Ce.L.oneA, nth?, unV, splA, setN, rvA, oneAV, List.cons_append, List.nil_append, List.length_cons, List.length_nil, List.append_nil, List.take, List.drop, true_and, and_true, Nat.reduceAdd, Nat.reduceLeDiff, allOne, one_int, one_nils, one_str, one_bool, Bool.and_self, c22, o0, o1, o2, o3, o4, o5, o6, o7, z2o]
      refine ⟨[.v .nils, .s k'1 off1 len1 cap1 c1s, .v z2], ap, ?_⟩
      simp only [o, p, mv, zz, ci, aW, aI, aev, aevs, geta, puta, seta, reputa, aCells, vs, CV.cells, Ce.L.oneA, nth?, unV, splA, setN, rvA, oneAV, List.cons_append, List.nil_append, List.length_cons, List.length_nil, List.append_nil, List.take, List.drop, true_and, and_true, Nat.reduceAdd, Nat.reduceLeDiff, allOne, one_int, one_nils, one_str, one_bool, Bool.and_self, o0, o1, o2, o3, o4, o5, o6, o7, z2o]
      exact ⟨d0, _, p0, d1, _, p1, d2, _, p2, by omega, wipe_two rfl rfl rfl rfl (wipeB_ok rfl rfl (wipe1ok rfl rfl)) (wipeB_ok rfl rfl (wipe1ok rfl rfl)) rfl rfl (rfl) rfl rfl (⟨w1, by omega⟩)⟩
  · rcases hr1 with rfl | ⟨k'1, off1, len1, cap1, c1s, rfl, ls1, w1, n1⟩
    · obtain ⟨d0, p0⟩ := q16 ls0 (Nat.le_refl _) rfl
      obtain ⟨d1, p1⟩ := p16 Tv_nils
      obtain ⟨d2, p2⟩ := p9 t2
      refine call_of (t := 3) (rfl : tbl 22 = some c22) rfl rfl rfl (by simp [allOne, o0, o1, o2, o3, o4, o5, o6, o7]) ?_
      simp only [o, p, mv, zz, ci, aW, aI, aev, aevs, geta, puta, seta, reputa, aCells, vs, CV.cells, Ce.L.oneA, nth?, unV, splA, setN, rvA, oneAV, List.cons_append, List.nil_append, List.length_cons, List.length_nil, List.append_nil, List.take, List.drop, true_and, and_true, Nat.reduceAdd, Nat.reduceLeDiff, allOne, one_int, one_nils, one_str, one_bool, Bool.and_self, c22, o0, o1, o2, o3, o4, o5, o6, o7, z2o]
      refine ⟨[.s k'0 off0 len0 cap0 c0s, .v .nils, .v z2], ap, ?_⟩
      simp only [o, p, mv, zz, ci, aW, aI, aev, aevs, geta, puta, seta, reputa, aCells, vs, CV.cells, Ce.L.oneA, nth?, unV, splA, setN, rvA, oneAV, List.cons_append, List.nil_append, List.length_cons, List.length_nil, List.append_nil, List.take, List.drop, true_and, and_true, Nat.reduceAdd, Nat.reduceLeDiff, allOne, one_int, one_nils, one_str, one_bool, Bool.and_self, o0, o1, o2, o3, o4, o5, o6, o7, z2o]
      exact ⟨d0, _, p0, d1, _, p1, d2, _, p2, by omega, wipe_two rfl rfl rfl rfl (wipeB_ok rfl rfl (wipe1ok rfl rfl)) (wipeB_ok rfl rfl (wipe1ok rfl rfl)) rfl rfl (⟨w0, by omega⟩) rfl rfl (rfl)⟩
    · obtain ⟨d0, p0⟩ := q16 ls0 (Nat.le_refl _) rfl
      obtain ⟨d1, p1⟩ := q16 ls1 (Nat.le_refl _) rfl
      obtain ⟨d2, p2⟩ := p9 t2
      refine call_of (t := 3) (rfl : tbl 22 = some c22) rfl rfl rfl (by simp [allOne, o0, o1, o2, o3, o4, o5, o6, o7]) ?_
      simp only [o, p, mv, zz, ci, aW, aI, aev, aevs, geta, puta, seta, reputa, aCells, vs, CV.cells, Ce.L.oneA, nth?, unV, splA, setN, rvA, oneAV, List.cons_append, List.nil_append, List.length_cons, List.length_nil, List.append_nil, List.take, List.drop, true_and, and_true, Nat.reduceAdd, Nat.reduceLeDiff, allOne, one_int, one_nils, one_str, one_bool, Bool.and_self, c22, o0, o1, o2, o3, o4, o5, o6, o7, z2o]
      refine ⟨[.s k'0 off0 len0 cap0 c0s, .s k'1 off1 len1 cap1 c1s, .v z2], ap, ?_⟩
      simp only [o, p, mv, zz, ci, aW, aI, aev, aevs, geta, puta, seta, reputa, aCells, vs, CV.cells, Ce.L.oneA, nth?, unV, splA, setN, rvA, oneAV, List.cons_append, List.nil_append, List.length_cons, List.length_nil, List.append_nil, List.take, List.drop, true_and, and_true, Nat.reduceAdd, Nat.reduceLeDiff, allOne, one_int, one_nils, one_str, one_bool, Bool.and_self, o0, o1, o2, o3, o4, o5, o6, o7, z2o]
      exact ⟨d0, _, p0, d1, _, p1, d2, _, p2, by omega, wipe_two rfl rfl rfl rfl (wipeB_ok rfl rfl (wipe1ok rfl rfl)) (wipeB_ok rfl rfl (wipe1ok rfl rfl)) rfl rfl (⟨w0, by omega⟩) rfl rfl (⟨w1, by omega⟩)⟩
theorem k25 (hap : Ap26) {cells : List CV} (hx : Tvs tXs cells) : ∃ d, CallOK tbl 25 cells d (2 ^ 34) := by
  obtain ⟨y0, cs0, rfl, h0, k0⟩ := Tvs_cons hx
  obtain ⟨y1, cs1, rfl, h1, k1⟩ := Tvs_cons k0
  obtain ⟨y2, cs2, rfl, h2, k2⟩ := Tvs_cons k1
  obtain ⟨y3, cs3, rfl, h3, k3⟩ := Tvs_cons k2
  obtain ⟨y4, cs4, rfl, h4, k4⟩ := Tvs_cons k3
  obtain ⟨y5, cs5, rfl, h5, k5⟩ := Tvs_cons k4
  obtain ⟨y6, cs6, rfl, h6, k6⟩ := Tvs_cons k5
  obtain ⟨y7, cs7, rfl, h7, k7⟩ := Tvs_cons k6
  obtain rfl := Tvs_nil k7
  have o0 := Tv_one h0 rfl
  have o1 := Tv_one h1 rfl
  have o2 := Tv_one h2 rfl
  have o3 := Tv_one h3 rfl
  have o4 := Tv_one h4 rfl
  have o5 := Tv_one h5 rfl
  have o6 := Tv_one h6 rfl
  have o7 := Tv_one h7 rfl
  obtain ⟨rs, hrs, ap⟩ := hap (Tvs_cons_mk (Tv_agg_mk (Tvs_cons_mk h0 (Tvs_cons_mk h1 (Tvs_cons_mk h2 (Tvs_cons_mk h3 (Tvs_cons_mk h4 (Tvs_cons_mk h5 (Tvs_cons_mk h6 Tvs_nil_mk)))))))) Tvs_nil_mk)
  obtain ⟨r0, rs0, rfl, hr0, m0⟩ := hrs
  obtain ⟨r1, rs1, rfl, hr1, m1⟩ := m0
  have e : rs1 = [] := m1
  subst e
  obtain ⟨z1, rfl, t1⟩ := hr1
  have z1o := Tv_one t1 rfl
  rcases hr0 with rfl | ⟨k'0, off0, len0, cap0, c0s, rfl, ls0, w0, n0⟩
  · obtain ⟨d0, p0⟩ := p16 Tv_nils
    obtain ⟨d1, p1⟩ := p9 t1
    refine call_of (t := 3) (rfl : tbl 25 = some c25) rfl rfl rfl (by simp [allOne, o0, o1, o2, o3, o4, o5, o6, o7]) ?_
    simp only [o, p, mv, zz, ci, aW, aI, aev, aevs, geta, puta, seta, reputa, aCells, vs, CV.cells, Ce.L.oneA, nth?, unV, splA, setN, rvA, oneAV, List.cons_append, List.nil_append, List.length_cons, List.length_nil, List.append_nil, List.take, List.drop, true_and, and_true, Nat.reduceAdd, Nat.reduceLeDiff, allOne, one_int, one_nils, one_str, one_bool, Bool.and_self, c25, o0, o1, o2, o3, o4, o5, o6, o7, z1o]
    refine ⟨[.v .nils, .v z1], ap, ?_⟩
    simp only [o, p, mv, zz, ci, aW, aI, aev, aevs, geta, puta, seta, reputa, aCells, vs, CV.cells, Ce.L.oneA, nth?, unV, splA, setN, rvA, oneAV, List.cons_append, List.nil_append, List.length_cons, List.length_nil, List.append_nil, List.take, List.drop, true_and, and_true, Nat.reduceAdd, Nat.reduceLeDiff, allOne, one_int, one_nils, one_str, one_bool, Bool.and_self, o0, o1, o2, o3, o4, o5, o6, o7, z1o]
    exact ⟨d0, _, p0, d1, _, p1, by omega, wipe_one rfl rfl rfl rfl (wipeB_ok rfl rfl (wipe1ok rfl rfl)) rfl rfl (rfl)⟩
  · obtain ⟨d0, p0⟩ := q16 ls0 (Nat.le_refl _) rfl
    obtain ⟨d1, p1⟩ := p9 t1
    refine call_of (t := 3) (rfl : tbl 25 = some c25) rfl rfl rfl (by simp [allOne, o0, o1, o2, o3, o4, o5, o6, o7]) ?_
    simp only [o, p, mv, zz, ci, aW, aI, aev, aevs, geta, puta, seta, reputa, aCells, vs, CV.cells, Ce.L.oneA, nth?, unV, splA, setN, rvA, oneAV, List.cons_append, List.nil_append, List.length_cons, List.length_nil, List.append_nil, List.take, List.drop, true_and, and_true, Nat.reduceAdd, Nat.reduceLeDiff, allOne, one_int, one_nils, one_str, one_bool, Bool.and_self, c25, o0, o1, o2, o3, o4, o5, o6, o7, z1o]
    refine ⟨[.s k'0 off0 len0 cap0 c0s, .v z1], ap, ?_⟩
    simp only [o, p, mv, zz, ci, aW, aI, aev, aevs, geta, puta, seta, reputa, aCells, vs, CV.cells, Ce.L.oneA, nth?, unV, splA, setN, rvA, oneAV, List.cons_append, List.nil_append, List.length_cons, List.length_nil, List.append_nil, List.take, List.drop, true_and, and_true, Nat.reduceAdd, Nat.reduceLeDiff, allOne, one_int, one_nils, one_str, one_bool, Bool.and_self, o0, o1, o2, o3, o4, o5, o6, o7, z1o]
    exact ⟨d0, _, p0, d1, _, p1, by omega, wipe_one rfl rfl rfl rfl (wipeB_ok rfl rfl (wipe1ok rfl rfl)) rfl rfl (⟨w0, by omega⟩)⟩
theorem k28 (hap : Ap29) {cells : List CV} (hx : Tvs tXs cells) : ∃ d, CallOK tbl 28 cells d (2 ^ 34) := by
  obtain ⟨y0, cs0, rfl, h0, k0⟩ := Tvs_cons hx
  obtain ⟨y1, cs1, rfl, h1, k1⟩ := Tvs_cons k0
  obtain ⟨y2, cs2, rfl, h2, k2⟩ := Tvs_cons k1
  obtain ⟨y3, cs3, rfl, h3, k3⟩ := Tvs_cons k2
  obtain ⟨y4, cs4, rfl, h4, k4⟩ := Tvs_cons k3
  obtain ⟨y5, cs5, rfl, h5, k5⟩ := Tvs_cons k4
  obtain ⟨y6, cs6, rfl, h6, k6⟩ := Tvs_cons k5
  obtain ⟨y7, cs7, rfl, h7, k7⟩ := Tvs_cons k6
  obtain rfl := Tvs_nil k7
  have o0 := Tv_one h0 rfl
  have o1 := Tv_one h1 rfl
  have o2 := Tv_one h2 rfl
  have o3 := Tv_one h3 rfl
  have o4 := Tv_one h4 rfl
  have o5 := Tv_one h5 rfl
  have o6 := Tv_one h6 rfl
  have o7 := Tv_one h7 rfl
  obtain ⟨rs, hrs, ap⟩ := hap (Tvs_cons_mk (Tv_agg_mk (Tvs_cons_mk h0 (Tvs_cons_mk h1 (Tvs_cons_mk h2 (Tvs_cons_mk h3 (Tvs_cons_mk h4 (Tvs_cons_mk h5 (Tvs_cons_mk h6 Tvs_nil_mk)))))))) (Tvs_cons_mk h7 Tvs_nil_mk))
  obtain ⟨r0, rs0, rfl, hr0, m0⟩ := hrs
  obtain ⟨r1, rs1, rfl, hr1, m1⟩ := m0
  obtain ⟨r2, rs2, rfl, hr2, m2⟩ := m1
  have e : rs2 = [] := m2
  subst e
  obtain ⟨z0, rfl, t0⟩ := hr0
  obtain ⟨z1, rfl, t1⟩ := hr1
  obtain ⟨z2, rfl, t2⟩ := hr2
  have z0o := Tv_one t0 rfl
  have z1o := Tv_one t1 rfl
  have z2o := Tv_one t2 rfl
  obtain ⟨d0, p0⟩ := p8 t0
  obtain ⟨d1, p1⟩ := p8 t1
  obtain ⟨d2, p2⟩ := p9 t2
  refine call_of (t := 3) (rfl : tbl 28 = some c28) rfl rfl rfl (by simp [allOne, o0, o1, o2, o3, o4, o5, o6, o7]) ?_
  simp only [o, p, mv, zz, ci, aW, aI, aev, aevs, geta, puta, seta, reputa, aCells, vs, CV.cells, Ce.L.oneA, nth?, unV, splA, setN, rvA, oneAV, List.cons_append, List.nil_append, List.length_cons, List.length_nil, List.append_nil, List.take, List.drop, true_and, and_true, Nat.reduceAdd, Nat.reduceLeDiff, allOne, one_int, one_nils, one_str, one_bool, Bool.and_self, c28, o0, o1, o2, o3, o4, o5, o6, o7, z0o, z1o, z2o]
  refine ⟨[.v z0, .v z1, .v z2], ap, ?_⟩
  simp only [o, p, mv, zz, ci, aW, aI, aev, aevs, geta, puta, seta, reputa, aCells, vs, CV.cells, Ce.L.oneA, nth?, unV, splA, setN, rvA, oneAV, List.cons_append, List.nil_append, List.length_cons, List.length_nil, List.append_nil, List.take, List.drop, true_and, and_true, Nat.reduceAdd, Nat.reduceLeDiff, allOne, one_int, one_nils, one_str, one_bool, Bool.and_self, o0, o1, o2, o3, o4, o5, o6, o7, z0o, z1o, z2o]
  exact ⟨d0, _, p0, d1, _, p1, d2, _, p2, by omega, wipe_nothing rfl⟩
theorem k30 (hap : Ap31) {cells : List CV} (hx : Tvs tXs cells) : ∃ d, CallOK tbl 30 cells d (2 ^ 34) := by
  obtain ⟨y0, cs0, rfl, h0, k0⟩ := Tvs_cons hx
  obtain ⟨y1, cs1, rfl, h1, k1⟩ := Tvs_cons k0
  obtain ⟨y2, cs2, rfl, h2, k2⟩ := Tvs_cons k1
  obtain ⟨y3, cs3, rfl, h3, k3⟩ := Tvs_cons k2
  obtain ⟨y4, cs4, rfl, h4, k4⟩ := Tvs_cons k3
  obtain ⟨y5, cs5, rfl, h5, k5⟩ := Tvs_cons k4
  obtain ⟨y6, cs6, rfl, h6, k6⟩ := Tvs_cons k5
  obtain ⟨y7, cs7, rfl, h7, k7⟩ := Tvs_cons k6
  obtain rfl := Tvs_nil k7
  have o0 := Tv_one h0 rfl
  have o1 := Tv_one h1 rfl
  have o2 := Tv_one h2 rfl
  have o3 := Tv_one h3 rfl
  have o4 := Tv_one h4 rfl
  have o5 := Tv_one h5 rfl
  have o6 := Tv_one h6 rfl
  have o7 := Tv_one h7 rfl
  obtain ⟨rs, hrs, ap⟩ := hap (Tvs_cons_mk (Tv_agg_mk (Tvs_cons_mk h0 (Tvs_cons_mk h1 (Tvs_cons_mk h2 (Tvs_cons_mk h3 (Tvs_cons_mk h4 (Tvs_cons_mk h5 (Tvs_cons_mk h6 Tvs_nil_mk)))))))) Tvs_nil_mk)
  obtain ⟨r0, rs0, rfl, hr0, m0⟩ := hrs
  obtain ⟨r1, rs1, rfl, hr1, m1⟩ := m0
  have e : rs1 = [] := m1
  subst e
  obtain ⟨z1, rfl, t1⟩ := hr1
  have z1o := Tv_one t1 rfl
  rcases hr0 with rfl | ⟨k'0, off0, len0, cap0, c0s, rfl, ls0, w0, n0⟩
  · obtain ⟨d0, p0⟩ := p16 Tv_nils
    obtain ⟨d1, p1⟩ := p9 t1
    refine call_of (t := 3) (rfl : tbl 30 = some c30) rfl rfl rfl (by simp [allOne, o0, o1, o2, o3, o4, o5, o6, o7]) ?_
    simp only [o, p, mv, zz, ci, aW, aI, aev, aevs, geta, puta, seta, reputa, aCells, vs, CV.cells, Ce.L.oneA, nth?, unV, splA, setN, rvA, oneAV, List.cons_append, List.nil_append, List.length_cons, List.length_nil, List.append_nil, List.take, List.drop, true_and, and_true, Nat.reduceAdd, Nat.reduceLeDiff, allOne, one_int, one_nils, one_str, one_bool, Bool.and_self, c30, o0, o1, o2, o3, o4, o5, o6, o7, z1o]
    refine ⟨[.v .nils, .v z1], ap, ?_⟩
    simp only [o, p, mv, zz, ci, aW, aI, aev, aevs, geta, puta, seta, reputa, aCells, vs, CV.cells, Ce.L.oneA, nth?, unV, splA, setN, rvA, oneAV, List.cons_append, List.nil_append, List.length_cons, List.length_nil, List.append_nil, List.take, List.drop, true_and, and_true, Nat.reduceAdd, Nat.reduceLeDiff, allOne, one_int, one_nils, one_str, one_bool, Bool.and_self, o0, o1, o2, o3, o4, o5, o6, o7, z1o]
    exact ⟨d0, _, p0, d1, _, p1, by omega, wipe_one rfl rfl rfl rfl (wipeB_ok rfl rfl (wipe1ok rfl rfl)) rfl rfl (rfl)⟩
  · obtain ⟨d0, p0⟩ := q16 ls0 (Nat.le_refl _) rfl
    obtain ⟨d1, p1⟩ := p9 t1
    refine call_of (t := 3) (rfl : tbl 30 = some c30) rfl rfl rfl (by simp [allOne, o0, o1, o2, o3, o4, o5, o6, o7]) ?_
    simp only [o, p, mv, zz, ci, aW, aI, aev, aevs, geta, puta, seta, reputa, aCells, vs, CV.cells, Ce.L.oneA, nth?, unV, splA, setN, rvA, oneAV, List.cons_append, List.nil_append, List.length_cons, List.length_nil, List.append_nil, List.take, List.drop, true_and, and_true, Nat.reduceAdd, Nat.reduceLeDiff, allOne, one_int, one_nils, one_str, one_bool, Bool.and_self, c30, o0, o1, o2, o3, o4, o5, o6, o7, z1o]
    refine ⟨[.s k'0 off0 len0 cap0 c0s, .v z1], ap, ?_⟩
    simp only [o, p, mv, zz, ci, aW, aI, aev, aevs, geta, puta, seta, reputa, aCells, vs, CV.cells, Ce.L.oneA, nth?, unV, splA, setN, rvA, oneAV, List.cons_append, List.nil_append, List.length_cons, List.length_nil, List.append_nil, List.take, List.drop, true_and, and_true, Nat.reduceAdd, Nat.reduceLeDiff, allOne, one_int, one_nils, one_str, one_bool, Bool.and_self, o0, o1, o2, o3, o4, o5, o6, o7, z1o]
    exact ⟨d0, _, p0, d1, _, p1, by omega, wipe_one rfl rfl rfl rfl (wipeB_ok rfl rfl (wipe1ok rfl rfl)) rfl rfl (⟨w0, by omega⟩)⟩
end Do
namespace Do
open Go Ce Ce.L Ce.S
theorem top (h7 : Ap7) (h12 : Ap12) (h15 : Ap15) (h20 : Ap20) (h23 : Ap23) (h26 : Ap26) (h29 : Ap29) (h31 : Ap31) (hw : ∀ h, Wf tbl (.fn 34) [] h fun v _ => v = .bool true) {x : CV} (hx : Tv tX x) (h : H) : Wf tbl (.fn 3) [x] h fun v _ => v = .bool true := by
  have ha := pall hx
  obtain ⟨cells, rfl, hc⟩ := Tv_agg hx
  refine top_ok (fcs := [11, 14, 19, 22, 25, 28, 30]) (n := 8) (fa := 4) (fg := 5) (fs := 33) (fw := 34) (fc := 6) (rfl : tbl 3 = some c3) rfl rfl rfl rfl (rfl : tbl 5 = some (again0 33)) (rfl : tbl 33 = some same0) ha (by omega) (Tvs_len hc) (Tvs_allOne hc rfl) ?_ hw h
  intro g hg
  simp only [List.mem_cons, List.not_mem_nil, or_false] at hg
  rcases hg with rfl | rfl | rfl | rfl | rfl | rfl | rfl | rfl
  · exact k6 h7 hc
  · exact k11 h12 hc
  · exact k14 h15 hc
  · exact k19 h20 hc
  · exact k22 h23 hc
  · exact k25 h26 hc
  · exact k28 h29 hc
  · exact k30 h31 hc
end Do
