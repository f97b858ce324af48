/- A part of a proof. -/
import Derived.Test.YtfbknmgfnlckeaaLxA
import Derived.Test.YtfbknmgfnlckeaaTab
set_option linter.unusedVariables false
set_option linter.unusedSimpArgs false
set_option maxRecDepth 1000000
namespace Ro
open Go Ce Ce.L Ce.S
theorem p8 {x : CV} (hx : Tv tI x) : ∃ d, cf tbl 8 [.v x] d 1 := by
  obtain ⟨n, rfl⟩ := qC2 hx
  exact ⟨_, og (rfl : tbl 8 = some zD) _ n⟩
theorem p9 {x : CV} (hx : Tv tI x) : ∃ d, cf tbl 9 [.v x] d 1 := by
  obtain ⟨n, rfl⟩ := qC2 hx
  exact ⟨_, og (rfl : tbl 9 = some zD) _ n⟩
theorem p13 {x : CV} (hx : Tv (.agg [tI, tI]) x) : ∃ d, cf tbl 13 [.v x] d 2 := by
  obtain ⟨cs, rfl, k0⟩ := fi hx
  clear hx
  obtain ⟨y0, cs, rfl, h0, k1⟩ := aD k0
  clear k0
  obtain ⟨y1, cs, rfl, h1, k2⟩ := aD k1
  clear k1
  obtain rfl := bB k2
  have o0 := aE h0 rfl
  have o1 := aE h1 rfl
  obtain ⟨d0, p0⟩ := p8 h0
  obtain ⟨d1, p1⟩ := p8 h1
  refine jH (rfl : tbl 13 = some c13) rfl rfl rfl rfl ?_
  simp only [o, p, mv, zz, ci, aW, aI, aev, cT, cR, cj, cW, a9, aj, vs, CV.cells, Ce.L.oneA, nth?, unV, cM, cJ, rvA, bF, List.cons_append, List.nil_append, List.length_cons, List.length_nil, List.append_nil, List.take, List.drop, true_and, and_true, Nat.reduceAdd, Nat.reduceLeDiff, c13, o0, o1]
  exact ⟨d0, _, p0, d1, _, p1, by omega⟩
theorem q22 {s : Ce.L.AV} {N : Nat} (hs : tJ [tI] 1 none s N) (hN : N ≤ 2 ^ 30) (hb : noBx s = true) : ∃ d, cf tbl 22 [s] d (1 + N * 1) := by
  obtain ⟨d, h⟩ := mo (gf := 8) (B := 1) (rfl : tbl 56 = some (rQ 1 none)) hs hN (fun u hu => by
    obtain ⟨T, e, hT⟩ := hu
    simp only [List.cons.injEq, and_true] at e
    subst e
    exact p8 hT)
  refine jH (rfl : tbl 22 = some c22) rfl rfl rfl (by simp [iA, hb]) ?_
  simp only [o, p, mv, zz, ci, aW, aI, aev, cT, cR, cj, cW, a9, aj, vs, CV.cells, Ce.L.oneA, nth?, unV, cM, cJ, rvA, bF, List.cons_append, List.nil_append, List.length_cons, List.length_nil, List.append_nil, List.take, List.drop, true_and, and_true, Nat.reduceAdd, Nat.reduceLeDiff, c22]
  exact ⟨d, _, h, by omega⟩
theorem p22 {x : CV} (hx : Tv (tL [tI]) x) : ∃ d, cf tbl 22 [.v x] d 1048577 := q22 (xd hx rfl) (by omega) rfl
theorem p93 {x : CV} (hx : Tv .str x) : ∃ d, cf tbl 93 [.v x] d 1 := by
  obtain ⟨n, rfl⟩ := Tv_str hx
  exact ⟨_, wa (rfl : tbl 93 = some qG7) n⟩
theorem p84 {x : CV} (hx : Tv (.agg [.str, tI, tI]) x) : ∃ d, cf tbl 84 [.v x] d 3 := by
  obtain ⟨cs, rfl, k0⟩ := fi hx
  clear hx
  obtain ⟨y0, cs, rfl, h0, k1⟩ := aD k0
  clear k0
  obtain ⟨y1, cs, rfl, h1, k2⟩ := aD k1
  clear k1
  obtain ⟨y2, cs, rfl, h2, k3⟩ := aD k2
  clear k2
  obtain rfl := bB k3
  have o0 := aE h0 rfl
  have o1 := aE h1 rfl
  have o2 := aE h2 rfl
  obtain ⟨d0, p0⟩ := p93 h0
  obtain ⟨d1, p1⟩ := p13 (bD (aC h1 (aC h2 aX)))
  refine jH (rfl : tbl 84 = some c84) rfl rfl rfl rfl ?_
  simp only [o, p, mv, zz, ci, aW, aI, aev, cT, cR, cj, cW, a9, aj, vs, CV.cells, Ce.L.oneA, nth?, unV, cM, cJ, rvA, bF, List.cons_append, List.nil_append, List.length_cons, List.length_nil, List.append_nil, List.take, List.drop, true_and, and_true, Nat.reduceAdd, Nat.reduceLeDiff, c84, o0, o1, o2]
  exact ⟨d0, _, p0, d1, _, p1, by omega⟩
theorem q66 {s : Ce.L.AV} {N : Nat} (hs : tJ [.str, tI, tI] 3 (some 3) s N) (hN : N ≤ 2 ^ 30) (hb : noBx s = true) : ∃ d, cf tbl 66 [s] d (1 + N * 3) := by
  obtain ⟨d, h⟩ := mo (gf := 84) (B := 3) (rfl : tbl 83 = some (rQ 3 (some 3))) hs hN (fun u hu => by
    exact p84 hu)
  refine jH (rfl : tbl 66 = some c66) rfl rfl rfl (by simp [iA, hb]) ?_
  simp only [o, p, mv, zz, ci, aW, aI, aev, cT, cR, cj, cW, a9, aj, vs, CV.cells, Ce.L.oneA, nth?, unV, cM, cJ, rvA, bF, List.cons_append, List.nil_append, List.length_cons, List.length_nil, List.append_nil, List.take, List.drop, true_and, and_true, Nat.reduceAdd, Nat.reduceLeDiff, c66]
  exact ⟨d, _, h, by omega⟩
theorem p66 {x : CV} (hx : Tv (tL [.str, tI, tI]) x) : ∃ d, cf tbl 66 [.v x] d 3145729 := q66 (pf hx rfl) (by omega) rfl
theorem p86 {x : CV} (hx : Tv (.agg [tI, tI]) x) : ∃ d, cf tbl 86 [.v x] d 2 := by
  obtain ⟨cs, rfl, k0⟩ := fi hx
  clear hx
  obtain ⟨y0, cs, rfl, h0, k1⟩ := aD k0
  clear k0
  obtain ⟨y1, cs, rfl, h1, k2⟩ := aD k1
  clear k1
  obtain rfl := bB k2
  have o0 := aE h0 rfl
  have o1 := aE h1 rfl
  obtain ⟨d0, p0⟩ := p8 h0
  obtain ⟨d1, p1⟩ := p8 h1
  refine jH (rfl : tbl 86 = some c86) rfl rfl rfl rfl ?_
  simp only [o, p, mv, zz, ci, aW, aI, aev, cT, cR, cj, cW, a9, aj, vs, CV.cells, Ce.L.oneA, nth?, unV, cM, cJ, rvA, bF, List.cons_append, List.nil_append, List.length_cons, List.length_nil, List.append_nil, List.take, List.drop, true_and, and_true, Nat.reduceAdd, Nat.reduceLeDiff, c86, o0, o1]
  exact ⟨d0, _, p0, d1, _, p1, by omega⟩
theorem q67 {s : Ce.L.AV} {N : Nat} (hs : tJ [tI, tI] 2 (some 2) s N) (hN : N ≤ 2 ^ 30) (hb : noBx s = true) : ∃ d, cf tbl 67 [s] d (1 + N * 2) := by
  obtain ⟨d, h⟩ := mo (gf := 86) (B := 2) (rfl : tbl 85 = some (rQ 2 (some 2))) hs hN (fun u hu => by
    exact p86 hu)
  refine jH (rfl : tbl 67 = some c67) rfl rfl rfl (by simp [iA, hb]) ?_
  simp only [o, p, mv, zz, ci, aW, aI, aev, cT, cR, cj, cW, a9, aj, vs, CV.cells, Ce.L.oneA, nth?, unV, cM, cJ, rvA, bF, List.cons_append, List.nil_append, List.length_cons, List.length_nil, List.append_nil, List.take, List.drop, true_and, and_true, Nat.reduceAdd, Nat.reduceLeDiff, c67]
  exact ⟨d, _, h, by omega⟩
theorem p67 {x : CV} (hx : Tv (tL [tI, tI]) x) : ∃ d, cf tbl 67 [.v x] d 2097153 := q67 (pf hx rfl) (by omega) rfl
theorem p36 {x : CV} (hx : Tv (.agg [tI, tI, tI, (tL [.str, tI, tI]), tI, (tL [tI]), (tL [tI, tI])]) x) : ∃ d, cf tbl 36 [.v x] d 6291463 := by
  obtain ⟨cs, rfl, k0⟩ := fi hx
  clear hx
  obtain ⟨y0, cs, rfl, h0, k1⟩ := aD k0
  clear k0
  obtain ⟨y1, cs, rfl, h1, k2⟩ := aD k1
  clear k1
  obtain ⟨y2, cs, rfl, h2, k3⟩ := aD k2
  clear k2
  obtain ⟨y3, cs, rfl, h3, k4⟩ := aD k3
  clear k3
  obtain ⟨y4, cs, rfl, h4, k5⟩ := aD k4
  clear k4
  obtain ⟨y5, cs, rfl, h5, k6⟩ := aD k5
  clear k5
  obtain ⟨y6, cs, rfl, h6, k7⟩ := aD k6
  clear k6
  obtain rfl := bB k7
  have o0 := aE h0 rfl
  have o1 := aE h1 rfl
  have o2 := aE h2 rfl
  have o3 := aE h3 rfl
  have o4 := aE h4 rfl
  have o5 := aE h5 rfl
  have o6 := aE h6 rfl
  obtain ⟨d0, p0⟩ := p8 h0
  obtain ⟨d1, p1⟩ := p13 (bD (aC h1 (aC h2 aX)))
  obtain ⟨d2, p2⟩ := p66 h3
  obtain ⟨d3, p3⟩ := p8 h4
  obtain ⟨d4, p4⟩ := p22 h5
  obtain ⟨d5, p5⟩ := p67 h6
  refine jH (rfl : tbl 36 = some c36) rfl rfl rfl rfl ?_
  simp only [o, p, mv, zz, ci, aW, aI, aev, cT, cR, cj, cW, a9, aj, vs, CV.cells, Ce.L.oneA, nth?, unV, cM, cJ, rvA, bF, List.cons_append, List.nil_append, List.length_cons, List.length_nil, List.append_nil, List.take, List.drop, true_and, and_true, Nat.reduceAdd, Nat.reduceLeDiff, c36, o0, o1, o2, o3, o4, o5, o6]
  exact ⟨d0, _, p0, d1, _, p1, d2, _, p2, d3, _, p3, d4, _, p4, d5, _, p5, by omega⟩
def tX : Ty := (.agg [tI, tI, tI, (tL [.str, tI, tI]), tI, (tL [tI]), (tL [tI, tI]), tI, (tL [tI]), tI])
theorem pall {x : CV} (hx : Tv tX x) : ∃ d, ph tbl 4 x d 7340042 := by
  obtain ⟨cs, rfl, k0⟩ := fi hx
  clear hx
  obtain ⟨y0, cs, rfl, h0, k1⟩ := aD k0
  clear k0
  obtain ⟨y1, cs, rfl, h1, k2⟩ := aD k1
  clear k1
  obtain ⟨y2, cs, rfl, h2, k3⟩ := aD k2
  clear k2
  obtain ⟨y3, cs, rfl, h3, k4⟩ := aD k3
  clear k3
  obtain ⟨y4, cs, rfl, h4, k5⟩ := aD k4
  clear k4
  obtain ⟨y5, cs, rfl, h5, k6⟩ := aD k5
  clear k5
  obtain ⟨y6, cs, rfl, h6, k7⟩ := aD k6
  clear k6
  obtain ⟨y7, cs, rfl, h7, k8⟩ := aD k7
  clear k7
  obtain ⟨y8, cs, rfl, h8, k9⟩ := aD k8
  clear k8
  obtain ⟨y9, cs, rfl, h9, k10⟩ := aD k9
  clear k9
  obtain rfl := bB k10
  have o0 := aE h0 rfl
  have o1 := aE h1 rfl
  have o2 := aE h2 rfl
  have o3 := aE h3 rfl
  have o4 := aE h4 rfl
  have o5 := aE h5 rfl
  have o6 := aE h6 rfl
  have o7 := aE h7 rfl
  have o8 := aE h8 rfl
  have o9 := aE h9 rfl
  obtain ⟨d0, p0⟩ := p36 (bD (aC h0 (aC h1 (aC h2 (aC h3 (aC h4 (aC h5 (aC h6 aX))))))))
  obtain ⟨d1, p1⟩ := p8 h7
  obtain ⟨d2, p2⟩ := p22 h8
  obtain ⟨d3, p3⟩ := p8 h9
  refine all_of (rfl : tbl 4 = some c4) rfl rfl rfl ?_
  simp only [o, p, mv, zz, ci, aW, aI, aev, cT, cR, cj, cW, a9, aj, vs, CV.cells, Ce.L.oneA, nth?, unV, cM, cJ, rvA, bF, List.cons_append, List.nil_append, List.length_cons, List.length_nil, List.append_nil, List.take, List.drop, true_and, and_true, Nat.reduceAdd, Nat.reduceLeDiff, c4, o0, o1, o2, o3, o4, o5, o6, o7, o8, o9]
  exact ⟨d0, _, p0, d1, _, p1, d2, _, p2, d3, _, p3, by omega⟩
end Ro
namespace Ro
open Go Ce Ce.S
def U : S.AV := .tup []
def I (s : Nat) (c : Int) : S.AV := .int .i64 s c
def Z (s : Nat) : S.AV := .int .i64 s 0
def Y (s : Nat) : S.AV := .sym s
def D (x y : Nat) (c : Int) : Fact := .dc x y c
def ys : Nat → Nat → List S.AV
  | _, 0 => []
  | k, n + 1 => .sym k :: ys (k + 1) n
def us : Nat → List S.AV
  | 0 => []
  | n + 1 => .tup [] :: us n
def X8 : Int := 9223372036854775808
def X7 : Int := 9223372036854775807
def J : Ty := .int .i64 ⟨0, -9223372036854775808⟩ ⟨0, 9223372036854775807⟩
end Ro
namespace Ro
open Go Ce Ce.L Ce.S
theorem ax {k : IntKind} {n : Int} : (CV.int k n).one = true := rfl
theorem ac : CV.nils.one = true := rfl
theorem aw {b : ByteArray} : (CV.str b).one = true := rfl
theorem ae {b : Bool} : (CV.bool b).one = true := rfl
theorem mV {R : List Ty} : Tv (tL R) .nils := fun v hv => .inl ⟨rfl, by simp [Lin.ev, hv], by simp [Lin.ev, hv]⟩
def tXs : List Ty := [tI, tI, tI, (tL [.str, tI, tI]), tI, (tL [tI]), (tL [tI, tI]), tI, (tL [tI]), tI]
def Ts7 : List Ty := [(.agg [tI, tI, tI, (tL [.str, tI, tI]), tI, (tL [tI]), (tL [tI, tI])])]
def sh7 : List Sh := [.v tI, .v tI, .v tI]
def Ap7 : Prop := ∀ {args : List CV}, Tvs Ts7 args → ∃ rs, eI sh7 rs ∧ oI tbl 7 args rs
def Ts12 : List Ty := [(.agg [tI, tI, tI, (tL [.str, tI, tI]), tI, (tL [tI]), (tL [tI, tI])]), tI]
def sh12 : List Sh := [.v (.agg [tI, tI]), .v tI]
def Ap12 : Prop := ∀ {args : List CV}, Tvs Ts12 args → ∃ rs, eI sh12 rs ∧ oI tbl 12 args rs
def Ts15 : List Ty := [(.agg [tI, tI, tI, (tL [.str, tI, tI]), tI, (tL [tI]), (tL [tI, tI])]), tI]
def sh15 : List Sh := [.v (.agg [tI, tI]), .v tI]
def Ap15 : Prop := ∀ {args : List CV}, Tvs Ts15 args → ∃ rs, eI sh15 rs ∧ oI tbl 15 args rs
def Ts17 : List Ty := [(.agg [tI, tI, tI, (tL [.str, tI, tI]), tI, (tL [tI]), (tL [tI, tI])])]
def sh17 : List Sh := [.v (.agg [tI, tI]), .v tI]
def Ap17 : Prop := ∀ {args : List CV}, Tvs Ts17 args → ∃ rs, eI sh17 rs ∧ oI tbl 17 args rs
def Ts19 : List Ty := [(.agg [tI, tI, tI, (tL [.str, tI, tI]), tI, (tL [tI]), (tL [tI, tI])]), (tL [tI])]
def sh19 : List Sh := [.v (.agg [tI, tI]), .v tI]
def Ap19 : Prop := ∀ {args : List CV}, Tvs Ts19 args → ∃ rs, eI sh19 rs ∧ oI tbl 19 args rs
def Ts21 : List Ty := [(.agg [tI, tI, tI, (tL [.str, tI, tI]), tI, (tL [tI]), (tL [tI, tI])]), tI, tI]
def sh21 : List Sh := [.l 1 none [tI], .v tI, .v tI]
def Ap21 : Prop := ∀ {args : List CV}, Tvs Ts21 args → ∃ rs, eI sh21 rs ∧ oI tbl 21 args rs
def Ts26 : List Ty := [(.agg [tI, tI, tI, (tL [.str, tI, tI]), tI, (tL [tI]), (tL [tI, tI])]), tI]
def sh26 : List Sh := [.l 1 none [tI], .v tI]
def Ap26 : Prop := ∀ {args : List CV}, Tvs Ts26 args → ∃ rs, eI sh26 rs ∧ oI tbl 26 args rs
def Ts29 : List Ty := [(.agg [tI, tI, tI, (tL [.str, tI, tI]), tI, (tL [tI]), (tL [tI, tI])]), tI, tI]
def sh29 : List Sh := [.l 1 none [tI], .v tI]
def Ap29 : Prop := ∀ {args : List CV}, Tvs Ts29 args → ∃ rs, eI sh29 rs ∧ oI tbl 29 args rs
def Ts32 : List Ty := [(.agg [tI, tI, tI, (tL [.str, tI, tI]), tI, (tL [tI]), (tL [tI, tI])])]
def sh32 : List Sh := [.l 1 none [tI], .v tI]
def Ap32 : Prop := ∀ {args : List CV}, Tvs Ts32 args → ∃ rs, eI sh32 rs ∧ oI tbl 32 args rs
theorem k6 (hap : Ap7) {cells : List CV} (hx : Tvs tXs cells) : ∃ d, CallOK tbl 6 cells d (2 ^ 34) := by
  obtain ⟨y0, cs0, rfl, h0, k0⟩ := aD hx
  obtain ⟨y1, cs1, rfl, h1, k1⟩ := aD k0
  obtain ⟨y2, cs2, rfl, h2, k2⟩ := aD k1
  obtain ⟨y3, cs3, rfl, h3, k3⟩ := aD k2
  obtain ⟨y4, cs4, rfl, h4, k4⟩ := aD k3
  obtain ⟨y5, cs5, rfl, h5, k5⟩ := aD k4
  obtain ⟨y6, cs6, rfl, h6, k6⟩ := aD k5
  obtain ⟨y7, cs7, rfl, h7, k7⟩ := aD k6
  obtain ⟨y8, cs8, rfl, h8, k8⟩ := aD k7
  obtain ⟨y9, cs9, rfl, h9, k9⟩ := aD k8
  obtain rfl := bB k9
  have o0 := aE h0 rfl
  have o1 := aE h1 rfl
  have o2 := aE h2 rfl
  have o3 := aE h3 rfl
  have o4 := aE h4 rfl
  have o5 := aE h5 rfl
  have o6 := aE h6 rfl
  have o7 := aE h7 rfl
  have o8 := aE h8 rfl
  have o9 := aE h9 rfl
  obtain ⟨rs, hrs, ap⟩ := hap (aC (bD (aC h0 (aC h1 (aC h2 (aC h3 (aC h4 (aC h5 (aC h6 aX)))))))) aX)
  obtain ⟨r0, rs0, rfl, hr0, m0⟩ := hrs
  obtain ⟨r1, rs1, rfl, hr1, m1⟩ := m0
  obtain ⟨r2, rs2, rfl, hr2, m2⟩ := m1
  have e : rs2 = [] := m2
  subst e
  obtain ⟨z0, rfl, t0⟩ := hr0
  obtain ⟨z1, rfl, t1⟩ := hr1
  obtain ⟨z2, rfl, t2⟩ := hr2
  have z0o := aE t0 rfl
  have z1o := aE t1 rfl
  have z2o := aE t2 rfl
  obtain ⟨d0, p0⟩ := p8 t0
  obtain ⟨d1, p1⟩ := p8 t1
  obtain ⟨d2, p2⟩ := p9 t2
  refine dI (t := 3) (rfl : tbl 6 = some c6) rfl rfl rfl (by simp [aJ, o0, o1, o2, o3, o4, o5, o6, o7, o8, o9]) ?_
  simp only [o, p, mv, zz, ci, aW, aI, aev, cT, cR, cj, cW, a9, aj, vs, CV.cells, Ce.L.oneA, nth?, unV, cM, cJ, rvA, bF, List.cons_append, List.nil_append, List.length_cons, List.length_nil, List.append_nil, List.take, List.drop, true_and, and_true, Nat.reduceAdd, Nat.reduceLeDiff, aJ, ax, ac, aw, ae, Bool.and_self, c6, o0, o1, o2, o3, o4, o5, o6, o7, o8, o9, z0o, z1o, z2o]
  refine ⟨[.v z0, .v z1, .v z2], ap, ?_⟩
  simp only [o, p, mv, zz, ci, aW, aI, aev, cT, cR, cj, cW, a9, aj, vs, CV.cells, Ce.L.oneA, nth?, unV, cM, cJ, rvA, bF, List.cons_append, List.nil_append, List.length_cons, List.length_nil, List.append_nil, List.take, List.drop, true_and, and_true, Nat.reduceAdd, Nat.reduceLeDiff, aJ, ax, ac, aw, ae, Bool.and_self, o0, o1, o2, o3, o4, o5, o6, o7, o8, o9, z0o, z1o, z2o]
  exact ⟨d0, _, p0, d1, _, p1, d2, _, p2, by omega, dZ rfl⟩
theorem k11 (hap : Ap12) {cells : List CV} (hx : Tvs tXs cells) : ∃ d, CallOK tbl 11 cells d (2 ^ 34) := by
  obtain ⟨y0, cs0, rfl, h0, k0⟩ := aD hx
  obtain ⟨y1, cs1, rfl, h1, k1⟩ := aD k0
  obtain ⟨y2, cs2, rfl, h2, k2⟩ := aD k1
  obtain ⟨y3, cs3, rfl, h3, k3⟩ := aD k2
  obtain ⟨y4, cs4, rfl, h4, k4⟩ := aD k3
  obtain ⟨y5, cs5, rfl, h5, k5⟩ := aD k4
  obtain ⟨y6, cs6, rfl, h6, k6⟩ := aD k5
  obtain ⟨y7, cs7, rfl, h7, k7⟩ := aD k6
  obtain ⟨y8, cs8, rfl, h8, k8⟩ := aD k7
  obtain ⟨y9, cs9, rfl, h9, k9⟩ := aD k8
  obtain rfl := bB k9
  have o0 := aE h0 rfl
  have o1 := aE h1 rfl
  have o2 := aE h2 rfl
  have o3 := aE h3 rfl
  have o4 := aE h4 rfl
  have o5 := aE h5 rfl
  have o6 := aE h6 rfl
  have o7 := aE h7 rfl
  have o8 := aE h8 rfl
  have o9 := aE h9 rfl
  obtain ⟨rs, hrs, ap⟩ := hap (aC (bD (aC h0 (aC h1 (aC h2 (aC h3 (aC h4 (aC h5 (aC h6 aX)))))))) (aC h7 aX))
  obtain ⟨r0, rs0, rfl, hr0, m0⟩ := hrs
  obtain ⟨r1, rs1, rfl, hr1, m1⟩ := m0
  have e : rs1 = [] := m1
  subst e
  obtain ⟨z0, rfl, t0⟩ := hr0
  obtain ⟨z1, rfl, t1⟩ := hr1
  obtain ⟨g0, rfl, u0⟩ := fi t0
  obtain ⟨g0x0, gs0x0, rfl, b0x0, e0x0⟩ := aD u0
  obtain ⟨g0x1, gs0x1, rfl, b0x1, e0x1⟩ := aD e0x0
  obtain rfl := bB e0x1
  have g0x0o := aE b0x0 rfl
  have g0x1o := aE b0x1 rfl
  have z1o := aE t1 rfl
  obtain ⟨d0, p0⟩ := p13 t0
  obtain ⟨d1, p1⟩ := p9 t1
  refine dI (t := 3) (rfl : tbl 11 = some c11) rfl rfl rfl (by simp [aJ, o0, o1, o2, o3, o4, o5, o6, o7, o8, o9, g0x0o, g0x1o]) ?_
  simp only [o, p, mv, zz, ci, aW, aI, aev, cT, cR, cj, cW, a9, aj, vs, CV.cells, Ce.L.oneA, nth?, unV, cM, cJ, rvA, bF, List.cons_append, List.nil_append, List.length_cons, List.length_nil, List.append_nil, List.take, List.drop, true_and, and_true, Nat.reduceAdd, Nat.reduceLeDiff, aJ, ax, ac, aw, ae, Bool.and_self, c11, o0, o1, o2, o3, o4, o5, o6, o7, o8, o9, g0x0o, g0x1o, z1o]
  refine ⟨[.v (.agg [g0x0, g0x1]), .v z1], ap, ?_⟩
  simp only [o, p, mv, zz, ci, aW, aI, aev, cT, cR, cj, cW, a9, aj, vs, CV.cells, Ce.L.oneA, nth?, unV, cM, cJ, rvA, bF, List.cons_append, List.nil_append, List.length_cons, List.length_nil, List.append_nil, List.take, List.drop, true_and, and_true, Nat.reduceAdd, Nat.reduceLeDiff, aJ, ax, ac, aw, ae, Bool.and_self, o0, o1, o2, o3, o4, o5, o6, o7, o8, o9, g0x0o, g0x1o, z1o]
  exact ⟨d0, _, p0, d1, _, p1, by omega, dZ rfl⟩
theorem k14 (hap : Ap15) {cells : List CV} (hx : Tvs tXs cells) : ∃ d, CallOK tbl 14 cells d (2 ^ 34) := by
  obtain ⟨y0, cs0, rfl, h0, k0⟩ := aD hx
  obtain ⟨y1, cs1, rfl, h1, k1⟩ := aD k0
  obtain ⟨y2, cs2, rfl, h2, k2⟩ := aD k1
  obtain ⟨y3, cs3, rfl, h3, k3⟩ := aD k2
  obtain ⟨y4, cs4, rfl, h4, k4⟩ := aD k3
  obtain ⟨y5, cs5, rfl, h5, k5⟩ := aD k4
  obtain ⟨y6, cs6, rfl, h6, k6⟩ := aD k5
  obtain ⟨y7, cs7, rfl, h7, k7⟩ := aD k6
  obtain ⟨y8, cs8, rfl, h8, k8⟩ := aD k7
  obtain ⟨y9, cs9, rfl, h9, k9⟩ := aD k8
  obtain rfl := bB k9
  have o0 := aE h0 rfl
  have o1 := aE h1 rfl
  have o2 := aE h2 rfl
  have o3 := aE h3 rfl
  have o4 := aE h4 rfl
  have o5 := aE h5 rfl
  have o6 := aE h6 rfl
  have o7 := aE h7 rfl
  have o8 := aE h8 rfl
  have o9 := aE h9 rfl
  obtain ⟨rs, hrs, ap⟩ := hap (aC (bD (aC h0 (aC h1 (aC h2 (aC h3 (aC h4 (aC h5 (aC h6 aX)))))))) (aC h7 aX))
  obtain ⟨r0, rs0, rfl, hr0, m0⟩ := hrs
  obtain ⟨r1, rs1, rfl, hr1, m1⟩ := m0
  have e : rs1 = [] := m1
  subst e
  obtain ⟨z0, rfl, t0⟩ := hr0
  obtain ⟨z1, rfl, t1⟩ := hr1
  obtain ⟨g0, rfl, u0⟩ := fi t0
  obtain ⟨g0x0, gs0x0, rfl, b0x0, e0x0⟩ := aD u0
  obtain ⟨g0x1, gs0x1, rfl, b0x1, e0x1⟩ := aD e0x0
  obtain rfl := bB e0x1
  have g0x0o := aE b0x0 rfl
  have g0x1o := aE b0x1 rfl
  have z1o := aE t1 rfl
  obtain ⟨d0, p0⟩ := p13 t0
  obtain ⟨d1, p1⟩ := p9 t1
  refine dI (t := 3) (rfl : tbl 14 = some c14) rfl rfl rfl (by simp [aJ, o0, o1, o2, o3, o4, o5, o6, o7, o8, o9, g0x0o, g0x1o]) ?_
  simp only [o, p, mv, zz, ci, aW, aI, aev, cT, cR, cj, cW, a9, aj, vs, CV.cells, Ce.L.oneA, nth?, unV, cM, cJ, rvA, bF, List.cons_append, List.nil_append, List.length_cons, List.length_nil, List.append_nil, List.take, List.drop, true_and, and_true, Nat.reduceAdd, Nat.reduceLeDiff, aJ, ax, ac, aw, ae, Bool.and_self, c14, o0, o1, o2, o3, o4, o5, o6, o7, o8, o9, g0x0o, g0x1o, z1o]
  refine ⟨[.v (.agg [g0x0, g0x1]), .v z1], ap, ?_⟩
  simp only [o, p, mv, zz, ci, aW, aI, aev, cT, cR, cj, cW, a9, aj, vs, CV.cells, Ce.L.oneA, nth?, unV, cM, cJ, rvA, bF, List.cons_append, List.nil_append, List.length_cons, List.length_nil, List.append_nil, List.take, List.drop, true_and, and_true, Nat.reduceAdd, Nat.reduceLeDiff, aJ, ax, ac, aw, ae, Bool.and_self, o0, o1, o2, o3, o4, o5, o6, o7, o8, o9, g0x0o, g0x1o, z1o]
  exact ⟨d0, _, p0, d1, _, p1, by omega, dZ rfl⟩
theorem k16 (hap : Ap17) {cells : List CV} (hx : Tvs tXs cells) : ∃ d, CallOK tbl 16 cells d (2 ^ 34) := by
  obtain ⟨y0, cs0, rfl, h0, k0⟩ := aD hx
  obtain ⟨y1, cs1, rfl, h1, k1⟩ := aD k0
  obtain ⟨y2, cs2, rfl, h2, k2⟩ := aD k1
  obtain ⟨y3, cs3, rfl, h3, k3⟩ := aD k2
  obtain ⟨y4, cs4, rfl, h4, k4⟩ := aD k3
  obtain ⟨y5, cs5, rfl, h5, k5⟩ := aD k4
  obtain ⟨y6, cs6, rfl, h6, k6⟩ := aD k5
  obtain ⟨y7, cs7, rfl, h7, k7⟩ := aD k6
  obtain ⟨y8, cs8, rfl, h8, k8⟩ := aD k7
  obtain ⟨y9, cs9, rfl, h9, k9⟩ := aD k8
  obtain rfl := bB k9
  have o0 := aE h0 rfl
  have o1 := aE h1 rfl
  have o2 := aE h2 rfl
  have o3 := aE h3 rfl
  have o4 := aE h4 rfl
  have o5 := aE h5 rfl
  have o6 := aE h6 rfl
  have o7 := aE h7 rfl
  have o8 := aE h8 rfl
  have o9 := aE h9 rfl
  obtain ⟨rs, hrs, ap⟩ := hap (aC (bD (aC h0 (aC h1 (aC h2 (aC h3 (aC h4 (aC h5 (aC h6 aX)))))))) aX)
  obtain ⟨r0, rs0, rfl, hr0, m0⟩ := hrs
  obtain ⟨r1, rs1, rfl, hr1, m1⟩ := m0
  have e : rs1 = [] := m1
  subst e
  obtain ⟨z0, rfl, t0⟩ := hr0
  obtain ⟨z1, rfl, t1⟩ := hr1
  obtain ⟨g0, rfl, u0⟩ := fi t0
  obtain ⟨g0x0, gs0x0, rfl, b0x0, e0x0⟩ := aD u0
  obtain ⟨g0x1, gs0x1, rfl, b0x1, e0x1⟩ := aD e0x0
  obtain rfl := bB e0x1
  have g0x0o := aE b0x0 rfl
  have g0x1o := aE b0x1 rfl
  have z1o := aE t1 rfl
  obtain ⟨d0, p0⟩ := p13 t0
  obtain ⟨d1, p1⟩ := p9 t1
  refine dI (t := 3) (rfl : tbl 16 = some c16) rfl rfl rfl (by simp [aJ, o0, o1, o2, o3, o4, o5, o6, o7, o8, o9, g0x0o, g0x1o]) ?_
  simp only [o, p, mv, zz, ci, aW, aI, aev, cT, cR, cj, cW, a9, aj, vs, CV.cells, Ce.L.oneA, nth?, unV, cM, cJ, rvA, bF, List.cons_append, List.nil_append, List.length_cons, List.length_nil, List.append_nil, List.take, List.drop, true_and, and_true, Nat.reduceAdd, Nat.reduceLeDiff, aJ, ax, ac, aw, ae, Bool.and_self, c16, o0, o1, o2, o3, o4, o5, o6, o7, o8, o9, g0x0o, g0x1o, z1o]
  refine ⟨[.v (.agg [g0x0, g0x1]), .v z1], ap, ?_⟩
  simp only [o, p, mv, zz, ci, aW, aI, aev, cT, cR, cj, cW, a9, aj, vs, CV.cells, Ce.L.oneA, nth?, unV, cM, cJ, rvA, bF, List.cons_append, List.nil_append, List.length_cons, List.length_nil, List.append_nil, List.take, List.drop, true_and, and_true, Nat.reduceAdd, Nat.reduceLeDiff, aJ, ax, ac, aw, ae, Bool.and_self, o0, o1, o2, o3, o4, o5, o6, o7, o8, o9, g0x0o, g0x1o, z1o]
  exact ⟨d0, _, p0, d1, _, p1, by omega, dZ rfl⟩
theorem k18 (hap : Ap19) {cells : List CV} (hx : Tvs tXs cells) : ∃ d, CallOK tbl 18 cells d (2 ^ 34) := by
  obtain ⟨y0, cs0, rfl, h0, k0⟩ := aD hx
  obtain ⟨y1, cs1, rfl, h1, k1⟩ := aD k0
  obtain ⟨y2, cs2, rfl, h2, k2⟩ := aD k1
  obtain ⟨y3, cs3, rfl, h3, k3⟩ := aD k2
  obtain ⟨y4, cs4, rfl, h4, k4⟩ := aD k3
  obtain ⟨y5, cs5, rfl, h5, k5⟩ := aD k4
  obtain ⟨y6, cs6, rfl, h6, k6⟩ := aD k5
  obtain ⟨y7, cs7, rfl, h7, k7⟩ := aD k6
  obtain ⟨y8, cs8, rfl, h8, k8⟩ := aD k7
  obtain ⟨y9, cs9, rfl, h9, k9⟩ := aD k8
  obtain rfl := bB k9
  have o0 := aE h0 rfl
  have o1 := aE h1 rfl
  have o2 := aE h2 rfl
  have o3 := aE h3 rfl
  have o4 := aE h4 rfl
  have o5 := aE h5 rfl
  have o6 := aE h6 rfl
  have o7 := aE h7 rfl
  have o8 := aE h8 rfl
  have o9 := aE h9 rfl
  obtain ⟨rs, hrs, ap⟩ := hap (aC (bD (aC h0 (aC h1 (aC h2 (aC h3 (aC h4 (aC h5 (aC h6 aX)))))))) (aC h8 aX))
  obtain ⟨r0, rs0, rfl, hr0, m0⟩ := hrs
  obtain ⟨r1, rs1, rfl, hr1, m1⟩ := m0
  have e : rs1 = [] := m1
  subst e
  obtain ⟨z0, rfl, t0⟩ := hr0
  obtain ⟨z1, rfl, t1⟩ := hr1
  obtain ⟨g0, rfl, u0⟩ := fi t0
  obtain ⟨g0x0, gs0x0, rfl, b0x0, e0x0⟩ := aD u0
  obtain ⟨g0x1, gs0x1, rfl, b0x1, e0x1⟩ := aD e0x0
  obtain rfl := bB e0x1
  have g0x0o := aE b0x0 rfl
  have g0x1o := aE b0x1 rfl
  have z1o := aE t1 rfl
  obtain ⟨d0, p0⟩ := p13 t0
  obtain ⟨d1, p1⟩ := p9 t1
  refine dI (t := 3) (rfl : tbl 18 = some c18) rfl rfl rfl (by simp [aJ, o0, o1, o2, o3, o4, o5, o6, o7, o8, o9, g0x0o, g0x1o]) ?_
  simp only [o, p, mv, zz, ci, aW, aI, aev, cT, cR, cj, cW, a9, aj, vs, CV.cells, Ce.L.oneA, nth?, unV, cM, cJ, rvA, bF, List.cons_append, List.nil_append, List.length_cons, List.length_nil, List.append_nil, List.take, List.drop, true_and, and_true, Nat.reduceAdd, Nat.reduceLeDiff, aJ, ax, ac, aw, ae, Bool.and_self, c18, o0, o1, o2, o3, o4, o5, o6, o7, o8, o9, g0x0o, g0x1o, z1o]
  refine ⟨[.v (.agg [g0x0, g0x1]), .v z1], ap, ?_⟩
  simp only [o, p, mv, zz, ci, aW, aI, aev, cT, cR, cj, cW, a9, aj, vs, CV.cells, Ce.L.oneA, nth?, unV, cM, cJ, rvA, bF, List.cons_append, List.nil_append, List.length_cons, List.length_nil, List.append_nil, List.take, List.drop, true_and, and_true, Nat.reduceAdd, Nat.reduceLeDiff, aJ, ax, ac, aw, ae, Bool.and_self, o0, o1, o2, o3, o4, o5, o6, o7, o8, o9, g0x0o, g0x1o, z1o]
  exact ⟨d0, _, p0, d1, _, p1, by omega, dZ rfl⟩
theorem k20 (hap : Ap21) {cells : List CV} (hx : Tvs tXs cells) : ∃ d, CallOK tbl 20 cells d (2 ^ 34) := by
  obtain ⟨y0, cs0, rfl, h0, k0⟩ := aD hx
  obtain ⟨y1, cs1, rfl, h1, k1⟩ := aD k0
  obtain ⟨y2, cs2, rfl, h2, k2⟩ := aD k1
  obtain ⟨y3, cs3, rfl, h3, k3⟩ := aD k2
  obtain ⟨y4, cs4, rfl, h4, k4⟩ := aD k3
  obtain ⟨y5, cs5, rfl, h5, k5⟩ := aD k4
  obtain ⟨y6, cs6, rfl, h6, k6⟩ := aD k5
  obtain ⟨y7, cs7, rfl, h7, k7⟩ := aD k6
  obtain ⟨y8, cs8, rfl, h8, k8⟩ := aD k7
  obtain ⟨y9, cs9, rfl, h9, k9⟩ := aD k8
  obtain rfl := bB k9
  have o0 := aE h0 rfl
  have o1 := aE h1 rfl
  have o2 := aE h2 rfl
  have o3 := aE h3 rfl
  have o4 := aE h4 rfl
  have o5 := aE h5 rfl
  have o6 := aE h6 rfl
  have o7 := aE h7 rfl
  have o8 := aE h8 rfl
  have o9 := aE h9 rfl
  obtain ⟨rs, hrs, ap⟩ := hap (aC (bD (aC h0 (aC h1 (aC h2 (aC h3 (aC h4 (aC h5 (aC h6 aX)))))))) (aC h7 (aC h9 aX)))
  obtain ⟨r0, rs0, rfl, hr0, m0⟩ := hrs
  obtain ⟨r1, rs1, rfl, hr1, m1⟩ := m0
  obtain ⟨r2, rs2, rfl, hr2, m2⟩ := m1
  have e : rs2 = [] := m2
  subst e
  obtain ⟨z1, rfl, t1⟩ := hr1
  obtain ⟨z2, rfl, t2⟩ := hr2
  have z1o := aE t1 rfl
  have z2o := aE t2 rfl
  rcases hr0 with rfl | ⟨k'0, off0, len0, cap0, c0s, rfl, ls0, w0, n0⟩
  · obtain ⟨d0, p0⟩ := p22 mV
    obtain ⟨d1, p1⟩ := p8 t1
    obtain ⟨d2, p2⟩ := p9 t2
    refine dI (t := 3) (rfl : tbl 20 = some c20) rfl rfl rfl (by simp [aJ, o0, o1, o2, o3, o4, o5, o6, o7, o8, o9]) ?_
    simp only [o, p, mv, zz, ci, aW, aI, aev, cT, cR, cj, cW, a9, aj, vs, CV.cells, Ce.L.oneA, nth?, unV, cM, cJ, rvA, bF, List.cons_append, List.nil_append, List.length_cons, List.length_nil, List.append_nil, List.take, List.drop, true_and, and_true, Nat.reduceAdd, Nat.reduceLeDiff, aJ, ax, ac, aw, ae, Bool.and_self, c20, o0, o1, o2, o3, o4, o5, o6, o7, o8, o9, z1o, z2o]
    refine ⟨[.v .nils, .v z1, .v z2], ap, ?_⟩
    simp only [o, p, mv, zz, ci, aW, aI, aev, cT, cR, cj, cW, a9, aj, vs, CV.cells, Ce.L.oneA, nth?, unV, cM, cJ, rvA, bF, List.cons_append, List.nil_append, List.length_cons, List.length_nil, List.append_nil, List.take, List.drop, true_and, and_true, Nat.reduceAdd, Nat.reduceLeDiff, aJ, ax, ac, aw, ae, Bool.and_self, o0, o1, o2, o3, o4, o5, o6, o7, o8, o9, z1o, z2o]
    exact ⟨d0, _, p0, d1, _, p1, d2, _, p2, by omega, eB rfl rfl rfl rfl (eC rfl rfl (fQ rfl rfl)) rfl rfl (rfl)⟩
  · obtain ⟨d0, p0⟩ := q22 ls0 (Nat.le_refl _) rfl
    obtain ⟨d1, p1⟩ := p8 t1
    obtain ⟨d2, p2⟩ := p9 t2
    refine dI (t := 3) (rfl : tbl 20 = some c20) rfl rfl rfl (by simp [aJ, o0, o1, o2, o3, o4, o5, o6, o7, o8, o9]) ?_
    simp only [o, p, mv, zz, ci, aW, aI, aev, cT, cR, cj, cW, a9, aj, vs, CV.cells, Ce.L.oneA, nth?, unV, cM, cJ, rvA, bF, List.cons_append, List.nil_append, List.length_cons, List.length_nil, List.append_nil, List.take, List.drop, true_and, and_true, Nat.reduceAdd, Nat.reduceLeDiff, aJ, ax, ac, aw, ae, Bool.and_self, c20, o0, o1, o2, o3, o4, o5, o6, o7, o8, o9, z1o, z2o]
    refine ⟨[.s k'0 off0 len0 cap0 c0s, .v z1, .v z2], ap, ?_⟩
    simp only [o, p, mv, zz, ci, aW, aI, aev, cT, cR, cj, cW, a9, aj, vs, CV.cells, Ce.L.oneA, nth?, unV, cM, cJ, rvA, bF, List.cons_append, List.nil_append, List.length_cons, List.length_nil, List.append_nil, List.take, List.drop, true_and, and_true, Nat.reduceAdd, Nat.reduceLeDiff, aJ, ax, ac, aw, ae, Bool.and_self, o0, o1, o2, o3, o4, o5, o6, o7, o8, o9, z1o, z2o]
    exact ⟨d0, _, p0, d1, _, p1, d2, _, p2, by omega, eB rfl rfl rfl rfl (eC rfl rfl (fQ rfl rfl)) rfl rfl (⟨w0, by omega⟩)⟩
theorem k25 (hap : Ap26) {cells : List CV} (hx : Tvs tXs cells) : ∃ d, CallOK tbl 25 cells d (2 ^ 34) := by
  obtain ⟨y0, cs0, rfl, h0, k0⟩ := aD hx
  obtain ⟨y1, cs1, rfl, h1, k1⟩ := aD k0
  obtain ⟨y2, cs2, rfl, h2, k2⟩ := aD k1
  obtain ⟨y3, cs3, rfl, h3, k3⟩ := aD k2
  obtain ⟨y4, cs4, rfl, h4, k4⟩ := aD k3
  obtain ⟨y5, cs5, rfl, h5, k5⟩ := aD k4
  obtain ⟨y6, cs6, rfl, h6, k6⟩ := aD k5
  obtain ⟨y7, cs7, rfl, h7, k7⟩ := aD k6
  obtain ⟨y8, cs8, rfl, h8, k8⟩ := aD k7
  obtain ⟨y9, cs9, rfl, h9, k9⟩ := aD k8
  obtain rfl := bB k9
  have o0 := aE h0 rfl
  have o1 := aE h1 rfl
  have o2 := aE h2 rfl
  have o3 := aE h3 rfl
  have o4 := aE h4 rfl
  have o5 := aE h5 rfl
  have o6 := aE h6 rfl
  have o7 := aE h7 rfl
  have o8 := aE h8 rfl
  have o9 := aE h9 rfl
  obtain ⟨rs, hrs, ap⟩ := hap (aC (bD (aC h0 (aC h1 (aC h2 (aC h3 (aC h4 (aC h5 (aC h6 aX)))))))) (aC h7 aX))
  obtain ⟨r0, rs0, rfl, hr0, m0⟩ := hrs
  obtain ⟨r1, rs1, rfl, hr1, m1⟩ := m0
  have e : rs1 = [] := m1
  subst e
  obtain ⟨z1, rfl, t1⟩ := hr1
  have z1o := aE t1 rfl
  rcases hr0 with rfl | ⟨k'0, off0, len0, cap0, c0s, rfl, ls0, w0, n0⟩
  · obtain ⟨d0, p0⟩ := p22 mV
    obtain ⟨d1, p1⟩ := p9 t1
    refine dI (t := 3) (rfl : tbl 25 = some c25) rfl rfl rfl (by simp [aJ, o0, o1, o2, o3, o4, o5, o6, o7, o8, o9]) ?_
    simp only [o, p, mv, zz, ci, aW, aI, aev, cT, cR, cj, cW, a9, aj, vs, CV.cells, Ce.L.oneA, nth?, unV, cM, cJ, rvA, bF, List.cons_append, List.nil_append, List.length_cons, List.length_nil, List.append_nil, List.take, List.drop, true_and, and_true, Nat.reduceAdd, Nat.reduceLeDiff, aJ, ax, ac, aw, ae, Bool.and_self, c25, o0, o1, o2, o3, o4, o5, o6, o7, o8, o9, z1o]
    refine ⟨[.v .nils, .v z1], ap, ?_⟩
    simp only [o, p, mv, zz, ci, aW, aI, aev, cT, cR, cj, cW, a9, aj, vs, CV.cells, Ce.L.oneA, nth?, unV, cM, cJ, rvA, bF, List.cons_append, List.nil_append, List.length_cons, List.length_nil, List.append_nil, List.take, List.drop, true_and, and_true, Nat.reduceAdd, Nat.reduceLeDiff, aJ, ax, ac, aw, ae, Bool.and_self, o0, o1, o2, o3, o4, o5, o6, o7, o8, o9, z1o]
    exact ⟨d0, _, p0, d1, _, p1, by omega, eB rfl rfl rfl rfl (eC rfl rfl (fQ rfl rfl)) rfl rfl (rfl)⟩
  · obtain ⟨d0, p0⟩ := q22 ls0 (Nat.le_refl _) rfl
    obtain ⟨d1, p1⟩ := p9 t1
    refine dI (t := 3) (rfl : tbl 25 = some c25) rfl rfl rfl (by simp [aJ, o0, o1, o2, o3, o4, o5, o6, o7, o8, o9]) ?_
    simp only [o, p, mv, zz, ci, aW, aI, aev, cT, cR, cj, cW, a9, aj, vs, CV.cells, Ce.L.oneA, nth?, unV, cM, cJ, rvA, bF, List.cons_append, List.nil_append, List.length_cons, List.length_nil, List.append_nil, List.take, List.drop, true_and, and_true, Nat.reduceAdd, Nat.reduceLeDiff, aJ, ax, ac, aw, ae, Bool.and_self, c25, o0, o1, o2, o3, o4, o5, o6, o7, o8, o9, z1o]
    refine ⟨[.s k'0 off0 len0 cap0 c0s, .v z1], ap, ?_⟩
    simp only [o, p, mv, zz, ci, aW, aI, aev, cT, cR, cj, cW, a9, aj, vs, CV.cells, Ce.L.oneA, nth?, unV, cM, cJ, rvA, bF, List.cons_append, List.nil_append, List.length_cons, List.length_nil, List.append_nil, List.take, List.drop, true_and, and_true, Nat.reduceAdd, Nat.reduceLeDiff, aJ, ax, ac, aw, ae, Bool.and_self, o0, o1, o2, o3, o4, o5, o6, o7, o8, o9, z1o]
    exact ⟨d0, _, p0, d1, _, p1, by omega, eB rfl rfl rfl rfl (eC rfl rfl (fQ rfl rfl)) rfl rfl (⟨w0, by omega⟩)⟩
theorem k28 (hap : Ap29) {cells : List CV} (hx : Tvs tXs cells) : ∃ d, CallOK tbl 28 cells d (2 ^ 34) := by
  obtain ⟨y0, cs0, rfl, h0, k0⟩ := aD hx
  obtain ⟨y1, cs1, rfl, h1, k1⟩ := aD k0
  obtain ⟨y2, cs2, rfl, h2, k2⟩ := aD k1
  obtain ⟨y3, cs3, rfl, h3, k3⟩ := aD k2
  obtain ⟨y4, cs4, rfl, h4, k4⟩ := aD k3
  obtain ⟨y5, cs5, rfl, h5, k5⟩ := aD k4
  obtain ⟨y6, cs6, rfl, h6, k6⟩ := aD k5
  obtain ⟨y7, cs7, rfl, h7, k7⟩ := aD k6
  obtain ⟨y8, cs8, rfl, h8, k8⟩ := aD k7
  obtain ⟨y9, cs9, rfl, h9, k9⟩ := aD k8
  obtain rfl := bB k9
  have o0 := aE h0 rfl
  have o1 := aE h1 rfl
  have o2 := aE h2 rfl
  have o3 := aE h3 rfl
  have o4 := aE h4 rfl
  have o5 := aE h5 rfl
  have o6 := aE h6 rfl
  have o7 := aE h7 rfl
  have o8 := aE h8 rfl
  have o9 := aE h9 rfl
  obtain ⟨rs, hrs, ap⟩ := hap (aC (bD (aC h0 (aC h1 (aC h2 (aC h3 (aC h4 (aC h5 (aC h6 aX)))))))) (aC h7 (aC h9 aX)))
  obtain ⟨r0, rs0, rfl, hr0, m0⟩ := hrs
  obtain ⟨r1, rs1, rfl, hr1, m1⟩ := m0
  have e : rs1 = [] := m1
  subst e
  obtain ⟨z1, rfl, t1⟩ := hr1
  have z1o := aE t1 rfl
  rcases hr0 with rfl | ⟨k'0, off0, len0, cap0, c0s, rfl, ls0, w0, n0⟩
  · obtain ⟨d0, p0⟩ := p22 mV
    obtain ⟨d1, p1⟩ := p9 t1
    refine dI (t := 3) (rfl : tbl 28 = some c28) rfl rfl rfl (by simp [aJ, o0, o1, o2, o3, o4, o5, o6, o7, o8, o9]) ?_
    simp only [o, p, mv, zz, ci, aW, aI, aev, cT, cR, cj, cW, a9, aj, vs, CV.cells, Ce.L.oneA, nth?, unV, cM, cJ, rvA, bF, List.cons_append, List.nil_append, List.length_cons, List.length_nil, List.append_nil, List.take, List.drop, true_and, and_true, Nat.reduceAdd, Nat.reduceLeDiff, aJ, ax, ac, aw, ae, Bool.and_self, c28, o0, o1, o2, o3, o4, o5, o6, o7, o8, o9, z1o]
    refine ⟨[.v .nils, .v z1], ap, ?_⟩
    simp only [o, p, mv, zz, ci, aW, aI, aev, cT, cR, cj, cW, a9, aj, vs, CV.cells, Ce.L.oneA, nth?, unV, cM, cJ, rvA, bF, List.cons_append, List.nil_append, List.length_cons, List.length_nil, List.append_nil, List.take, List.drop, true_and, and_true, Nat.reduceAdd, Nat.reduceLeDiff, aJ, ax, ac, aw, ae, Bool.and_self, o0, o1, o2, o3, o4, o5, o6, o7, o8, o9, z1o]
    exact ⟨d0, _, p0, d1, _, p1, by omega, eB rfl rfl rfl rfl (eC rfl rfl (fQ rfl rfl)) rfl rfl (rfl)⟩
  · obtain ⟨d0, p0⟩ := q22 ls0 (Nat.le_refl _) rfl
    obtain ⟨d1, p1⟩ := p9 t1
    refine dI (t := 3) (rfl : tbl 28 = some c28) rfl rfl rfl (by simp [aJ, o0, o1, o2, o3, o4, o5, o6, o7, o8, o9]) ?_
    simp only [o, p, mv, zz, ci, aW, aI, aev, cT, cR, cj, cW, a9, aj, vs, CV.cells, Ce.L.oneA, nth?, unV, cM, cJ, rvA, bF, List.cons_append, List.nil_append, List.length_cons, List.length_nil, List.append_nil, List.take, List.drop, true_and, and_true, Nat.reduceAdd, Nat.reduceLeDiff, aJ, ax, ac, aw, ae, Bool.and_self, c28, o0, o1, o2, o3, o4, o5, o6, o7, o8, o9, z1o]
    refine ⟨[.s k'0 off0 len0 cap0 c0s, .v z1], ap, ?_⟩
    simp only [o, p, mv, zz, ci, aW, aI, aev, cT, cR, cj, cW, a9, aj, vs, CV.cells, Ce.L.oneA, nth?, unV, cM, cJ, rvA, bF, List.cons_append, List.nil_append, List.length_cons, List.length_nil, List.append_nil, List.take, List.drop, true_and, and_true, Nat.reduceAdd, Nat.reduceLeDiff, aJ, ax, ac, aw, ae, Bool.and_self, o0, o1, o2, o3, o4, o5, o6, o7, o8, o9, z1o]
    exact ⟨d0, _, p0, d1, _, p1, by omega, eB rfl rfl rfl rfl (eC rfl rfl (fQ rfl rfl)) rfl rfl (⟨w0, by omega⟩)⟩
theorem k31 (hap : Ap32) {cells : List CV} (hx : Tvs tXs cells) : ∃ d, CallOK tbl 31 cells d (2 ^ 34) := by
  obtain ⟨y0, cs0, rfl, h0, k0⟩ := aD hx
  obtain ⟨y1, cs1, rfl, h1, k1⟩ := aD k0
  obtain ⟨y2, cs2, rfl, h2, k2⟩ := aD k1
  obtain ⟨y3, cs3, rfl, h3, k3⟩ := aD k2
  obtain ⟨y4, cs4, rfl, h4, k4⟩ := aD k3
  obtain ⟨y5, cs5, rfl, h5, k5⟩ := aD k4
  obtain ⟨y6, cs6, rfl, h6, k6⟩ := aD k5
  obtain ⟨y7, cs7, rfl, h7, k7⟩ := aD k6
  obtain ⟨y8, cs8, rfl, h8, k8⟩ := aD k7
  obtain ⟨y9, cs9, rfl, h9, k9⟩ := aD k8
  obtain rfl := bB k9
  have o0 := aE h0 rfl
  have o1 := aE h1 rfl
  have o2 := aE h2 rfl
  have o3 := aE h3 rfl
  have o4 := aE h4 rfl
  have o5 := aE h5 rfl
  have o6 := aE h6 rfl
  have o7 := aE h7 rfl
  have o8 := aE h8 rfl
  have o9 := aE h9 rfl
  obtain ⟨rs, hrs, ap⟩ := hap (aC (bD (aC h0 (aC h1 (aC h2 (aC h3 (aC h4 (aC h5 (aC h6 aX)))))))) aX)
  obtain ⟨r0, rs0, rfl, hr0, m0⟩ := hrs
  obtain ⟨r1, rs1, rfl, hr1, m1⟩ := m0
  have e : rs1 = [] := m1
  subst e
  obtain ⟨z1, rfl, t1⟩ := hr1
  have z1o := aE t1 rfl
  rcases hr0 with rfl | ⟨k'0, off0, len0, cap0, c0s, rfl, ls0, w0, n0⟩
  · obtain ⟨d0, p0⟩ := p22 mV
    obtain ⟨d1, p1⟩ := p9 t1
    refine dI (t := 3) (rfl : tbl 31 = some c31) rfl rfl rfl (by simp [aJ, o0, o1, o2, o3, o4, o5, o6, o7, o8, o9]) ?_
    simp only [o, p, mv, zz, ci, aW, aI, aev, cT, cR, cj, cW, a9, aj, vs, CV.cells, Ce.L.oneA, nth?, unV, cM, cJ, rvA, bF, List.cons_append, List.nil_append, List.length_cons, List.length_nil, List.append_nil, List.take, List.drop, true_and, and_true, Nat.reduceAdd, Nat.reduceLeDiff, aJ, ax, ac, aw, ae, Bool.and_self, c31, o0, o1, o2, o3, o4, o5, o6, o7, o8, o9, z1o]
    refine ⟨[.v .nils, .v z1], ap, ?_⟩
    simp only [o, p, mv, zz, ci, aW, aI, aev, cT, cR, cj, cW, a9, aj, vs, CV.cells, Ce.L.oneA, nth?, unV, cM, cJ, rvA, bF, List.cons_append, List.nil_append, List.length_cons, List.length_nil, List.append_nil, List.take, List.drop, true_and, and_true, Nat.reduceAdd, Nat.reduceLeDiff, aJ, ax, ac, aw, ae, Bool.and_self, o0, o1, o2, o3, o4, o5, o6, o7, o8, o9, z1o]
    exact ⟨d0, _, p0, d1, _, p1, by omega, eB rfl rfl rfl rfl (eC rfl rfl (fQ rfl rfl)) rfl rfl (rfl)⟩
  · obtain ⟨d0, p0⟩ := q22 ls0 (Nat.le_refl _) rfl
    obtain ⟨d1, p1⟩ := p9 t1
    refine dI (t := 3) (rfl : tbl 31 = some c31) rfl rfl rfl (by simp [aJ, o0, o1, o2, o3, o4, o5, o6, o7, o8, o9]) ?_
    simp only [o, p, mv, zz, ci, aW, aI, aev, cT, cR, cj, cW, a9, aj, vs, CV.cells, Ce.L.oneA, nth?, unV, cM, cJ, rvA, bF, List.cons_append, List.nil_append, List.length_cons, List.length_nil, List.append_nil, List.take, List.drop, true_and, and_true, Nat.reduceAdd, Nat.reduceLeDiff, aJ, ax, ac, aw, ae, Bool.and_self, c31, o0, o1, o2, o3, o4, o5, o6, o7, o8, o9, z1o]
    refine ⟨[.s k'0 off0 len0 cap0 c0s, .v z1], ap, ?_⟩
    simp only [o, p, mv, zz, ci, aW, aI, aev, cT, cR, cj, cW, a9, aj, vs, CV.cells, Ce.L.oneA, nth?, unV, cM, cJ, rvA, bF, List.cons_append, List.nil_append, List.length_cons, List.length_nil, List.append_nil, List.take, List.drop, true_and, and_true, Nat.reduceAdd, Nat.reduceLeDiff, aJ, ax, ac, aw, ae, Bool.and_self, o0, o1, o2, o3, o4, o5, o6, o7, o8, o9, z1o]
    exact ⟨d0, _, p0, d1, _, p1, by omega, eB rfl rfl rfl rfl (eC rfl rfl (fQ rfl rfl)) rfl rfl (⟨w0, by omega⟩)⟩
end Ro
namespace Ro
open Go Ce Ce.L Ce.S
theorem top (h7 : Ap7) (h12 : Ap12) (h15 : Ap15) (h17 : Ap17) (h19 : Ap19) (h21 : Ap21) (h26 : Ap26) (h29 : Ap29) (h32 : Ap32) (hw : ∀ h, Wf tbl (.fn 35) [] h fun v _ => v = .bool true) {x : CV} (hx : Tv tX x) (h : H) : Wf tbl (.fn 3) [x] h fun v _ => v = .bool true := by
  have ha := pall hx
  obtain ⟨cells, rfl, hc⟩ := fi hx
  refine top_ok (fcs := [11, 14, 16, 18, 20, 25, 28, 31]) (n := 10) (fa := 4) (fg := 5) (fs := 34) (fw := 35) (fc := 6) (rfl : tbl 3 = some c3) rfl rfl rfl rfl (rfl : tbl 5 = some (jU 34)) (rfl : tbl 34 = some j6) ha (by omega) (qi hc) (oG hc rfl) ?_ hw h
  intro g hg
  simp only [List.mem_cons, List.not_mem_nil, or_false] at hg
  rcases hg with rfl | rfl | rfl | rfl | rfl | rfl | rfl | rfl | rfl
  · exact k6 h7 hc
  · exact k11 h12 hc
  · exact k14 h15 hc
  · exact k16 h17 hc
  · exact k18 h19 hc
  · exact k20 h21 hc
  · exact k25 h26 hc
  · exact k28 h29 hc
  · exact k31 h32 hc
end Ro
