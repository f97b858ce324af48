/- A part of a proof. -/
import Derived.Test.YtkefopelclcljacLxA
import Derived.Test.YtkefopelclcljacTab
set_option linter.unusedVariables false
set_option linter.unusedSimpArgs false
set_option maxRecDepth 1000000
namespace Tu
open Go Ce Ce.L Ce.S
theorem p8 {x : CV} (hx : Tv tI x) : ∃ d, cF tbl 8 [.v x] d 1 := by
  obtain ⟨n, rfl⟩ := qCK hx
  exact ⟨_, oS (rfl : tbl 8 = some zM) _ n⟩
theorem p9 {x : CV} (hx : Tv tI x) : ∃ d, cF tbl 9 [.v x] d 1 := by
  obtain ⟨n, rfl⟩ := qCK hx
  exact ⟨_, oS (rfl : tbl 9 = some zM) _ n⟩
theorem p13 {x : CV} (hx : Tv (.agg [tI, tI]) x) : ∃ d, cF tbl 13 [.v x] d 2 := by
  obtain ⟨cs, rfl, k0⟩ := jB hx
  clear hx
  obtain ⟨y0, cs, rfl, h0, k1⟩ := aB k0
  clear k0
  obtain ⟨y1, cs, rfl, h1, k2⟩ := aB k1
  clear k1
  obtain rfl := bY k2
  have o0 := aE h0 rfl
  have o1 := aE h1 rfl
  obtain ⟨d0, p0⟩ := p8 h0
  obtain ⟨d1, p1⟩ := p8 h1
  refine gV (rfl : tbl 13 = some c13) rfl rfl rfl rfl ?_
  simp only [o, p, mv, zz, ci, aW, aI, aev, cM, cJ, cV, cO, aZ, a9, vs, CV.cells, Ce.L.oneA, nth?, unV, cH, bz, rvA, bA, List.cons_append, List.nil_append, List.length_cons, List.length_nil, List.append_nil, List.take, List.drop, true_and, and_true, Nat.reduceAdd, Nat.reduceLeDiff, c13, o0, o1]
  exact ⟨d0, _, p0, d1, _, p1, by omega⟩
theorem q16 {s : Ce.L.AV} {N : Nat} (hs : rK [tI] 1 none s N) (hN : N ≤ 2 ^ 30) (hb : noBx s = true) : ∃ d, cF tbl 16 [s] d (1 + N * 1) := by
  obtain ⟨d, h⟩ := jR (gf := 8) (B := 1) (rfl : tbl 53 = some (oR 1 none)) hs hN (fun u hu => by
    obtain ⟨T, e, hT⟩ := hu
    simp only [List.cons.injEq, and_true] at e
    subst e
    exact p8 hT)
  refine gV (rfl : tbl 16 = some c16) rfl rfl rfl (by simp [gO, hb]) ?_
  simp only [o, p, mv, zz, ci, aW, aI, aev, cM, cJ, cV, cO, aZ, a9, vs, CV.cells, Ce.L.oneA, nth?, unV, cH, bz, rvA, bA, List.cons_append, List.nil_append, List.length_cons, List.length_nil, List.append_nil, List.take, List.drop, true_and, and_true, Nat.reduceAdd, Nat.reduceLeDiff, c16]
  exact ⟨d, _, h, by omega⟩
theorem p16 {x : CV} (hx : Tv (tL [tI]) x) : ∃ d, cF tbl 16 [.v x] d 1048577 := q16 (xy hx rfl) (by omega) rfl
theorem q72 {s : Ce.L.AV} {N : Nat} (hs : rK [tI, tI] 2 (some 2) s N) (hN : N ≤ 2 ^ 30) (hb : noBx s = true) : ∃ d, cF tbl 72 [s] d (1 + N * 2) := by
  obtain ⟨d, h⟩ := jR (gf := 13) (B := 2) (rfl : tbl 80 = some (oR 2 (some 2))) hs hN (fun u hu => by
    exact p13 hu)
  refine gV (rfl : tbl 72 = some c72) rfl rfl rfl (by simp [gO, hb]) ?_
  simp only [o, p, mv, zz, ci, aW, aI, aev, cM, cJ, cV, cO, aZ, a9, vs, CV.cells, Ce.L.oneA, nth?, unV, cH, bz, rvA, bA, List.cons_append, List.nil_append, List.length_cons, List.length_nil, List.append_nil, List.take, List.drop, true_and, and_true, Nat.reduceAdd, Nat.reduceLeDiff, c72]
  exact ⟨d, _, h, by omega⟩
theorem p72 {x : CV} (hx : Tv (tL [tI, tI]) x) : ∃ d, cF tbl 72 [.v x] d 2097153 := q72 (kp hx rfl) (by omega) rfl
theorem p82 {x : CV} (hx : Tv (.agg [tI, tI, tI, tI]) x) : ∃ d, cF tbl 82 [.v x] d 4 := by
  obtain ⟨cs, rfl, k0⟩ := jB hx
  clear hx
  obtain ⟨y0, cs, rfl, h0, k1⟩ := aB k0
  clear k0
  obtain ⟨y1, cs, rfl, h1, k2⟩ := aB k1
  clear k1
  obtain ⟨y2, cs, rfl, h2, k3⟩ := aB k2
  clear k2
  obtain ⟨y3, cs, rfl, h3, k4⟩ := aB k3
  clear k3
  obtain rfl := bY k4
  have o0 := aE h0 rfl
  have o1 := aE h1 rfl
  have o2 := aE h2 rfl
  have o3 := aE h3 rfl
  obtain ⟨d0, p0⟩ := p8 h0
  obtain ⟨d1, p1⟩ := p8 h1
  obtain ⟨d2, p2⟩ := p13 (bB (aD h2 (aD h3 aV)))
  refine gV (rfl : tbl 82 = some c82) rfl rfl rfl rfl ?_
  simp only [o, p, mv, zz, ci, aW, aI, aev, cM, cJ, cV, cO, aZ, a9, vs, CV.cells, Ce.L.oneA, nth?, unV, cH, bz, rvA, bA, List.cons_append, List.nil_append, List.length_cons, List.length_nil, List.append_nil, List.take, List.drop, true_and, and_true, Nat.reduceAdd, Nat.reduceLeDiff, c82, o0, o1, o2, o3]
  exact ⟨d0, _, p0, d1, _, p1, d2, _, p2, by omega⟩
theorem q73 {s : Ce.L.AV} {N : Nat} (hs : rK [tI, tI, tI, tI] 4 (some 4) s N) (hN : N ≤ 2 ^ 30) (hb : noBx s = true) : ∃ d, cF tbl 73 [s] d (1 + N * 4) := by
  obtain ⟨d, h⟩ := jR (gf := 82) (B := 4) (rfl : tbl 81 = some (oR 4 (some 4))) hs hN (fun u hu => by
    exact p82 hu)
  refine gV (rfl : tbl 73 = some c73) rfl rfl rfl (by simp [gO, hb]) ?_
  simp only [o, p, mv, zz, ci, aW, aI, aev, cM, cJ, cV, cO, aZ, a9, vs, CV.cells, Ce.L.oneA, nth?, unV, cH, bz, rvA, bA, List.cons_append, List.nil_append, List.length_cons, List.length_nil, List.append_nil, List.take, List.drop, true_and, and_true, Nat.reduceAdd, Nat.reduceLeDiff, c73]
  exact ⟨d, _, h, by omega⟩
theorem p73 {x : CV} (hx : Tv (tL [tI, tI, tI, tI]) x) : ∃ d, cF tbl 73 [.v x] d 4194305 := q73 (kp hx rfl) (by omega) rfl
theorem p90 {x : CV} (hx : Tv .bool x) : ∃ d, cF tbl 90 [.v x] d 1 := by
  obtain ⟨n, rfl⟩ := qFO hx
  exact ⟨_, zJ (rfl : tbl 90 = some jT) n⟩
theorem p84 {x : CV} (hx : Tv (.agg [tI, tI, .bool]) x) : ∃ d, cF tbl 84 [.v x] d 3 := by
  obtain ⟨cs, rfl, k0⟩ := jB hx
  clear hx
  obtain ⟨y0, cs, rfl, h0, k1⟩ := aB k0
  clear k0
  obtain ⟨y1, cs, rfl, h1, k2⟩ := aB k1
  clear k1
  obtain ⟨y2, cs, rfl, h2, k3⟩ := aB k2
  clear k2
  obtain rfl := bY k3
  have o0 := aE h0 rfl
  have o1 := aE h1 rfl
  have o2 := aE h2 rfl
  obtain ⟨d0, p0⟩ := p8 h0
  obtain ⟨d1, p1⟩ := p8 h1
  obtain ⟨d2, p2⟩ := p90 h2
  refine gV (rfl : tbl 84 = some c84) rfl rfl rfl rfl ?_
  simp only [o, p, mv, zz, ci, aW, aI, aev, cM, cJ, cV, cO, aZ, a9, vs, CV.cells, Ce.L.oneA, nth?, unV, cH, bz, rvA, bA, List.cons_append, List.nil_append, List.length_cons, List.length_nil, List.append_nil, List.take, List.drop, true_and, and_true, Nat.reduceAdd, Nat.reduceLeDiff, c84, o0, o1, o2]
  exact ⟨d0, _, p0, d1, _, p1, d2, _, p2, by omega⟩
theorem q74 {s : Ce.L.AV} {N : Nat} (hs : rK [tI, tI, .bool] 3 (some 3) s N) (hN : N ≤ 2 ^ 30) (hb : noBx s = true) : ∃ d, cF tbl 74 [s] d (1 + N * 3) := by
  obtain ⟨d, h⟩ := jR (gf := 84) (B := 3) (rfl : tbl 83 = some (oR 3 (some 3))) hs hN (fun u hu => by
    exact p84 hu)
  refine gV (rfl : tbl 74 = some c74) rfl rfl rfl (by simp [gO, hb]) ?_
  simp only [o, p, mv, zz, ci, aW, aI, aev, cM, cJ, cV, cO, aZ, a9, vs, CV.cells, Ce.L.oneA, nth?, unV, cH, bz, rvA, bA, List.cons_append, List.nil_append, List.length_cons, List.length_nil, List.append_nil, List.take, List.drop, true_and, and_true, Nat.reduceAdd, Nat.reduceLeDiff, c74]
  exact ⟨d, _, h, by omega⟩
theorem p74 {x : CV} (hx : Tv (tL [tI, tI, .bool]) x) : ∃ d, cF tbl 74 [.v x] d 3145729 := q74 (kp hx rfl) (by omega) rfl
theorem p35 {x : CV} (hx : Tv (.agg [(tL [tI]), tI, (tL [tI, tI]), (tL [tI, tI, tI, tI]), (tL [tI, tI, .bool])]) x) : ∃ d, cF tbl 35 [.v x] d 10485765 := by
  obtain ⟨cs, rfl, k0⟩ := jB hx
  clear hx
  obtain ⟨y0, cs, rfl, h0, k1⟩ := aB k0
  clear k0
  obtain ⟨y1, cs, rfl, h1, k2⟩ := aB k1
  clear k1
  obtain ⟨y2, cs, rfl, h2, k3⟩ := aB k2
  clear k2
  obtain ⟨y3, cs, rfl, h3, k4⟩ := aB k3
  clear k3
  obtain ⟨y4, cs, rfl, h4, k5⟩ := aB k4
  clear k4
  obtain rfl := bY k5
  have o0 := aE h0 rfl
  have o1 := aE h1 rfl
  have o2 := aE h2 rfl
  have o3 := aE h3 rfl
  have o4 := aE h4 rfl
  obtain ⟨d0, p0⟩ := p16 h0
  obtain ⟨d1, p1⟩ := p8 h1
  obtain ⟨d2, p2⟩ := p72 h2
  obtain ⟨d3, p3⟩ := p73 h3
  obtain ⟨d4, p4⟩ := p74 h4
  refine gV (rfl : tbl 35 = some c35) rfl rfl rfl rfl ?_
  simp only [o, p, mv, zz, ci, aW, aI, aev, cM, cJ, cV, cO, aZ, a9, vs, CV.cells, Ce.L.oneA, nth?, unV, cH, bz, rvA, bA, List.cons_append, List.nil_append, List.length_cons, List.length_nil, List.append_nil, List.take, List.drop, true_and, and_true, Nat.reduceAdd, Nat.reduceLeDiff, c35, o0, o1, o2, o3, o4]
  exact ⟨d0, _, p0, d1, _, p1, d2, _, p2, d3, _, p3, d4, _, p4, by omega⟩
def tX : Ty := (.agg [(tL [tI]), tI, (tL [tI, tI]), (tL [tI, tI, tI, tI]), (tL [tI, tI, .bool]), tI, tI, tI, tI, tI, tI, tI, tI])
theorem pall {x : CV} (hx : Tv tX x) : ∃ d, pQ tbl 4 x d 10485773 := by
  obtain ⟨cs, rfl, k0⟩ := jB hx
  clear hx
  obtain ⟨y0, cs, rfl, h0, k1⟩ := aB k0
  clear k0
  obtain ⟨y1, cs, rfl, h1, k2⟩ := aB k1
  clear k1
  obtain ⟨y2, cs, rfl, h2, k3⟩ := aB k2
  clear k2
  obtain ⟨y3, cs, rfl, h3, k4⟩ := aB k3
  clear k3
  obtain ⟨y4, cs, rfl, h4, k5⟩ := aB k4
  clear k4
  obtain ⟨y5, cs, rfl, h5, k6⟩ := aB k5
  clear k5
  obtain ⟨y6, cs, rfl, h6, k7⟩ := aB k6
  clear k6
  obtain ⟨y7, cs, rfl, h7, k8⟩ := aB k7
  clear k7
  obtain ⟨y8, cs, rfl, h8, k9⟩ := aB k8
  clear k8
  obtain ⟨y9, cs, rfl, h9, k10⟩ := aB k9
  clear k9
  obtain ⟨y10, cs, rfl, h10, k11⟩ := aB k10
  clear k10
  obtain ⟨y11, cs, rfl, h11, k12⟩ := aB k11
  clear k11
  obtain ⟨y12, cs, rfl, h12, k13⟩ := aB k12
  clear k12
  obtain rfl := bY k13
  have o0 := aE h0 rfl
  have o1 := aE h1 rfl
  have o2 := aE h2 rfl
  have o3 := aE h3 rfl
  have o4 := aE h4 rfl
  have o5 := aE h5 rfl
  have o6 := aE h6 rfl
  have o7 := aE h7 rfl
  have o8 := aE h8 rfl
  have o9 := aE h9 rfl
  have o10 := aE h10 rfl
  have o11 := aE h11 rfl
  have o12 := aE h12 rfl
  obtain ⟨d0, p0⟩ := p35 (bB (aD h0 (aD h1 (aD h2 (aD h3 (aD h4 aV))))))
  obtain ⟨d1, p1⟩ := p8 h5
  obtain ⟨d2, p2⟩ := p8 h6
  obtain ⟨d3, p3⟩ := p8 h7
  obtain ⟨d4, p4⟩ := p8 h8
  obtain ⟨d5, p5⟩ := p13 (bB (aD h9 (aD h10 aV)))
  obtain ⟨d6, p6⟩ := p8 h11
  obtain ⟨d7, p7⟩ := p8 h12
  refine all_of (rfl : tbl 4 = some c4) rfl rfl rfl ?_
  simp only [o, p, mv, zz, ci, aW, aI, aev, cM, cJ, cV, cO, aZ, a9, vs, CV.cells, Ce.L.oneA, nth?, unV, cH, bz, rvA, bA, List.cons_append, List.nil_append, List.length_cons, List.length_nil, List.append_nil, List.take, List.drop, true_and, and_true, Nat.reduceAdd, Nat.reduceLeDiff, c4, o0, o1, o2, o3, o4, o5, o6, o7, o8, o9, o10, o11, o12]
  exact ⟨d0, _, p0, d1, _, p1, d2, _, p2, d3, _, p3, d4, _, p4, d5, _, p5, d6, _, p6, d7, _, p7, by omega⟩
end Tu
namespace Tu
open Go Ce Ce.S
def U : S.AV := .tup []
def I (s : Nat) (c : Int) : S.AV := .int .i64 s c
def Z (s : Nat) : S.AV := .int .i64 s 0
def Y (s : Nat) : S.AV := .sym s
def D (x y : Nat) (c : Int) : Fact := .dc x y c
def ys : Nat → Nat → List S.AV
  | _, 0 => []
  | k, n + 1 => .sym k :: ys (k + 1) n
def us : Nat → List S.AV
  | 0 => []
  | n + 1 => .tup [] :: us n
def X8 : Int := 9223372036854775808
def X7 : Int := 9223372036854775807
def J : Ty := .int .i64 ⟨0, -9223372036854775808⟩ ⟨0, 9223372036854775807⟩
end Tu
namespace Tu
open Go Ce Ce.L Ce.S
theorem aq {k : IntKind} {n : Int} : (CV.int k n).one = true := rfl
theorem a7 : CV.nils.one = true := rfl
theorem an {b : ByteArray} : (CV.str b).one = true := rfl
theorem a8 {b : Bool} : (CV.bool b).one = true := rfl
theorem jy {R : List Ty} : Tv (tL R) .nils := fun v hv => .inl ⟨rfl, by simp [Lin.ev, hv], by simp [Lin.ev, hv]⟩
def tXs : List Ty := [(tL [tI]), tI, (tL [tI, tI]), (tL [tI, tI, tI, tI]), (tL [tI, tI, .bool]), tI, tI, tI, tI, tI, tI, tI, tI]
def Ts7 : List Ty := [(.agg [(tL [tI]), tI, (tL [tI, tI]), (tL [tI, tI, tI, tI]), (tL [tI, tI, .bool])])]
def sh7 : List Sh := [.v tI, .v tI, .v tI]
def Ap7 : Prop := ∀ {args : List CV}, Tvs Ts7 args → ∃ rs, eE sh7 rs ∧ oM tbl 7 args rs
def Ts12 : List Ty := [(.agg [(tL [tI]), tI, (tL [tI, tI]), (tL [tI, tI, tI, tI]), (tL [tI, tI, .bool])]), tI]
def sh12 : List Sh := [.v (.agg [tI, tI]), .v tI, .v tI]
def Ap12 : Prop := ∀ {args : List CV}, Tvs Ts12 args → ∃ rs, eE sh12 rs ∧ oM tbl 12 args rs
def Ts15 : List Ty := [(.agg [(tL [tI]), tI, (tL [tI, tI]), (tL [tI, tI, tI, tI]), (tL [tI, tI, .bool])]), tI]
def sh15 : List Sh := [.l 1 none [tI], .v tI]
def Ap15 : Prop := ∀ {args : List CV}, Tvs Ts15 args → ∃ rs, eE sh15 rs ∧ oM tbl 15 args rs
def Ts20 : List Ty := [(.agg [(tL [tI]), tI, (tL [tI, tI]), (tL [tI, tI, tI, tI]), (tL [tI, tI, .bool])]), tI]
def sh20 : List Sh := [.l 1 none [tI], .v tI]
def Ap20 : Prop := ∀ {args : List CV}, Tvs Ts20 args → ∃ rs, eE sh20 rs ∧ oM tbl 20 args rs
def Ts23 : List Ty := [(.agg [(tL [tI]), tI, (tL [tI, tI]), (tL [tI, tI, tI, tI]), (tL [tI, tI, .bool])]), tI, tI]
def sh23 : List Sh := [.v tI, .v tI]
def Ap23 : Prop := ∀ {args : List CV}, Tvs Ts23 args → ∃ rs, eE sh23 rs ∧ oM tbl 23 args rs
def Ts25 : List Ty := [(.agg [(tL [tI]), tI, (tL [tI, tI]), (tL [tI, tI, tI, tI]), (tL [tI, tI, .bool])]), (.agg [tI, tI]), tI, tI]
def sh25 : List Sh := [.l 1 none [tI], .v tI]
def Ap25 : Prop := ∀ {args : List CV}, Tvs Ts25 args → ∃ rs, eE sh25 rs ∧ oM tbl 25 args rs
def Ts28 : List Ty := [(.agg [(tL [tI]), tI, (tL [tI, tI]), (tL [tI, tI, tI, tI]), (tL [tI, tI, .bool])]), tI, tI]
def sh28 : List Sh := [.l 1 none [tI], .v tI]
def Ap28 : Prop := ∀ {args : List CV}, Tvs Ts28 args → ∃ rs, eE sh28 rs ∧ oM tbl 28 args rs
def Ts31 : List Ty := [(.agg [(tL [tI]), tI, (tL [tI, tI]), (tL [tI, tI, tI, tI]), (tL [tI, tI, .bool])])]
def sh31 : List Sh := [.l 1 none [tI], .v tI]
def Ap31 : Prop := ∀ {args : List CV}, Tvs Ts31 args → ∃ rs, eE sh31 rs ∧ oM tbl 31 args rs
theorem k6 (hap : Ap7) {cells : List CV} (hx : Tvs tXs cells) : ∃ d, CallOK tbl 6 cells d (2 ^ 34) := by
  obtain ⟨y0, cs0, rfl, h0, k0⟩ := aB hx
  obtain ⟨y1, cs1, rfl, h1, k1⟩ := aB k0
  obtain ⟨y2, cs2, rfl, h2, k2⟩ := aB k1
  obtain ⟨y3, cs3, rfl, h3, k3⟩ := aB k2
  obtain ⟨y4, cs4, rfl, h4, k4⟩ := aB k3
  obtain ⟨y5, cs5, rfl, h5, k5⟩ := aB k4
  obtain ⟨y6, cs6, rfl, h6, k6⟩ := aB k5
  obtain ⟨y7, cs7, rfl, h7, k7⟩ := aB k6
  obtain ⟨y8, cs8, rfl, h8, k8⟩ := aB k7
  obtain ⟨y9, cs9, rfl, h9, k9⟩ := aB k8
  obtain ⟨y10, cs10, rfl, h10, k10⟩ := aB k9
  obtain ⟨y11, cs11, rfl, h11, k11⟩ := aB k10
  obtain ⟨y12, cs12, rfl, h12, k12⟩ := aB k11
  obtain rfl := bY k12
  have o0 := aE h0 rfl
  have o1 := aE h1 rfl
  have o2 := aE h2 rfl
  have o3 := aE h3 rfl
  have o4 := aE h4 rfl
  have o5 := aE h5 rfl
  have o6 := aE h6 rfl
  have o7 := aE h7 rfl
  have o8 := aE h8 rfl
  have o9 := aE h9 rfl
  have o10 := aE h10 rfl
  have o11 := aE h11 rfl
  have o12 := aE h12 rfl
  obtain ⟨rs, hrs, ap⟩ := hap (aD (bB (aD h0 (aD h1 (aD h2 (aD h3 (aD h4 aV)))))) aV)
  obtain ⟨r0, rs0, rfl, hr0, m0⟩ := hrs
  obtain ⟨r1, rs1, rfl, hr1, m1⟩ := m0
  obtain ⟨r2, rs2, rfl, hr2, m2⟩ := m1
  have e : rs2 = [] := m2
  subst e
  obtain ⟨z0, rfl, t0⟩ := hr0
  obtain ⟨z1, rfl, t1⟩ := hr1
  obtain ⟨z2, rfl, t2⟩ := hr2
  have z0o := aE t0 rfl
  have z1o := aE t1 rfl
  have z2o := aE t2 rfl
  obtain ⟨d0, p0⟩ := p8 t0
  obtain ⟨d1, p1⟩ := p8 t1
  obtain ⟨d2, p2⟩ := p9 t2
  refine dB (t := 3) (rfl : tbl 6 = some c6) rfl rfl rfl (by simp [aF, o0, o1, o2, o3, o4, o5, o6, o7, o8, o9, o10, o11, o12]) ?_
  simp only [o, p, mv, zz, ci, aW, aI, aev, cM, cJ, cV, cO, aZ, a9, vs, CV.cells, Ce.L.oneA, nth?, unV, cH, bz, rvA, bA, List.cons_append, List.nil_append, List.length_cons, List.length_nil, List.append_nil, List.take, List.drop, true_and, and_true, Nat.reduceAdd, Nat.reduceLeDiff, aF, aq, a7, an, a8, Bool.and_self, c6, o0, o1, o2, o3, o4, o5, o6, o7, o8, o9, o10, o11, o12, z0o, z1o, z2o]
  refine ⟨[.v z0, .v z1, .v z2], ap, ?_⟩
  simp only [o, p, mv, zz, ci, aW, aI, aev, cM, cJ, cV, cO, aZ, a9, vs, CV.cells, Ce.L.oneA, nth?, unV, cH, bz, rvA, bA, List.cons_append, List.nil_append, List.length_cons, List.length_nil, List.append_nil, List.take, List.drop, true_and, and_true, Nat.reduceAdd, Nat.reduceLeDiff, aF, aq, a7, an, a8, Bool.and_self, o0, o1, o2, o3, o4, o5, o6, o7, o8, o9, o10, o11, o12, z0o, z1o, z2o]
  exact ⟨d0, _, p0, d1, _, p1, d2, _, p2, by omega, fp rfl⟩
theorem k11 (hap : Ap12) {cells : List CV} (hx : Tvs tXs cells) : ∃ d, CallOK tbl 11 cells d (2 ^ 34) := by
  obtain ⟨y0, cs0, rfl, h0, k0⟩ := aB hx
  obtain ⟨y1, cs1, rfl, h1, k1⟩ := aB k0
  obtain ⟨y2, cs2, rfl, h2, k2⟩ := aB k1
  obtain ⟨y3, cs3, rfl, h3, k3⟩ := aB k2
  obtain ⟨y4, cs4, rfl, h4, k4⟩ := aB k3
  obtain ⟨y5, cs5, rfl, h5, k5⟩ := aB k4
  obtain ⟨y6, cs6, rfl, h6, k6⟩ := aB k5
  obtain ⟨y7, cs7, rfl, h7, k7⟩ := aB k6
  obtain ⟨y8, cs8, rfl, h8, k8⟩ := aB k7
  obtain ⟨y9, cs9, rfl, h9, k9⟩ := aB k8
  obtain ⟨y10, cs10, rfl, h10, k10⟩ := aB k9
  obtain ⟨y11, cs11, rfl, h11, k11⟩ := aB k10
  obtain ⟨y12, cs12, rfl, h12, k12⟩ := aB k11
  obtain rfl := bY k12
  have o0 := aE h0 rfl
  have o1 := aE h1 rfl
  have o2 := aE h2 rfl
  have o3 := aE h3 rfl
  have o4 := aE h4 rfl
  have o5 := aE h5 rfl
  have o6 := aE h6 rfl
  have o7 := aE h7 rfl
  have o8 := aE h8 rfl
  have o9 := aE h9 rfl
  have o10 := aE h10 rfl
  have o11 := aE h11 rfl
  have o12 := aE h12 rfl
  obtain ⟨rs, hrs, ap⟩ := hap (aD (bB (aD h0 (aD h1 (aD h2 (aD h3 (aD h4 aV)))))) (aD h5 aV))
  obtain ⟨r0, rs0, rfl, hr0, m0⟩ := hrs
  obtain ⟨r1, rs1, rfl, hr1, m1⟩ := m0
  obtain ⟨r2, rs2, rfl, hr2, m2⟩ := m1
  have e : rs2 = [] := m2
  subst e
  obtain ⟨z0, rfl, t0⟩ := hr0
  obtain ⟨z1, rfl, t1⟩ := hr1
  obtain ⟨z2, rfl, t2⟩ := hr2
  obtain ⟨g0, rfl, u0⟩ := jB t0
  obtain ⟨g0x0, gs0x0, rfl, b0x0, e0x0⟩ := aB u0
  obtain ⟨g0x1, gs0x1, rfl, b0x1, e0x1⟩ := aB e0x0
  obtain rfl := bY e0x1
  have g0x0o := aE b0x0 rfl
  have g0x1o := aE b0x1 rfl
  have z1o := aE t1 rfl
  have z2o := aE t2 rfl
  obtain ⟨d0, p0⟩ := p13 t0
  obtain ⟨d1, p1⟩ := p8 t1
  obtain ⟨d2, p2⟩ := p9 t2
  refine dB (t := 3) (rfl : tbl 11 = some c11) rfl rfl rfl (by simp [aF, o0, o1, o2, o3, o4, o5, o6, o7, o8, o9, o10, o11, o12, g0x0o, g0x1o]) ?_
  simp only [o, p, mv, zz, ci, aW, aI, aev, cM, cJ, cV, cO, aZ, a9, vs, CV.cells, Ce.L.oneA, nth?, unV, cH, bz, rvA, bA, List.cons_append, List.nil_append, List.length_cons, List.length_nil, List.append_nil, List.take, List.drop, true_and, and_true, Nat.reduceAdd, Nat.reduceLeDiff, aF, aq, a7, an, a8, Bool.and_self, c11, o0, o1, o2, o3, o4, o5, o6, o7, o8, o9, o10, o11, o12, g0x0o, g0x1o, z1o, z2o]
  refine ⟨[.v (.agg [g0x0, g0x1]), .v z1, .v z2], ap, ?_⟩
  simp only [o, p, mv, zz, ci, aW, aI, aev, cM, cJ, cV, cO, aZ, a9, vs, CV.cells, Ce.L.oneA, nth?, unV, cH, bz, rvA, bA, List.cons_append, List.nil_append, List.length_cons, List.length_nil, List.append_nil, List.take, List.drop, true_and, and_true, Nat.reduceAdd, Nat.reduceLeDiff, aF, aq, a7, an, a8, Bool.and_self, o0, o1, o2, o3, o4, o5, o6, o7, o8, o9, o10, o11, o12, g0x0o, g0x1o, z1o, z2o]
  exact ⟨d0, _, p0, d1, _, p1, d2, _, p2, by omega, fp rfl⟩
theorem k14 (hap : Ap15) {cells : List CV} (hx : Tvs tXs cells) : ∃ d, CallOK tbl 14 cells d (2 ^ 34) := by
  obtain ⟨y0, cs0, rfl, h0, k0⟩ := aB hx
  obtain ⟨y1, cs1, rfl, h1, k1⟩ := aB k0
  obtain ⟨y2, cs2, rfl, h2, k2⟩ := aB k1
  obtain ⟨y3, cs3, rfl, h3, k3⟩ := aB k2
  obtain ⟨y4, cs4, rfl, h4, k4⟩ := aB k3
  obtain ⟨y5, cs5, rfl, h5, k5⟩ := aB k4
  obtain ⟨y6, cs6, rfl, h6, k6⟩ := aB k5
  obtain ⟨y7, cs7, rfl, h7, k7⟩ := aB k6
  obtain ⟨y8, cs8, rfl, h8, k8⟩ := aB k7
  obtain ⟨y9, cs9, rfl, h9, k9⟩ := aB k8
  obtain ⟨y10, cs10, rfl, h10, k10⟩ := aB k9
  obtain ⟨y11, cs11, rfl, h11, k11⟩ := aB k10
  obtain ⟨y12, cs12, rfl, h12, k12⟩ := aB k11
  obtain rfl := bY k12
  have o0 := aE h0 rfl
  have o1 := aE h1 rfl
  have o2 := aE h2 rfl
  have o3 := aE h3 rfl
  have o4 := aE h4 rfl
  have o5 := aE h5 rfl
  have o6 := aE h6 rfl
  have o7 := aE h7 rfl
  have o8 := aE h8 rfl
  have o9 := aE h9 rfl
  have o10 := aE h10 rfl
  have o11 := aE h11 rfl
  have o12 := aE h12 rfl
  obtain ⟨rs, hrs, ap⟩ := hap (aD (bB (aD h0 (aD h1 (aD h2 (aD h3 (aD h4 aV)))))) (aD h6 aV))
  obtain ⟨r0, rs0, rfl, hr0, m0⟩ := hrs
  obtain ⟨r1, rs1, rfl, hr1, m1⟩ := m0
  have e : rs1 = [] := m1
  subst e
  obtain ⟨z1, rfl, t1⟩ := hr1
  have z1o := aE t1 rfl
  rcases hr0 with rfl | ⟨k'0, off0, len0, cap0, c0s, rfl, ls0, w0, n0⟩
  · obtain ⟨d0, p0⟩ := p16 jy
    obtain ⟨d1, p1⟩ := p9 t1
    refine dB (t := 3) (rfl : tbl 14 = some c14) rfl rfl rfl (by simp [aF, o0, o1, o2, o3, o4, o5, o6, o7, o8, o9, o10, o11, o12]) ?_
    simp only [o, p, mv, zz, ci, aW, aI, aev, cM, cJ, cV, cO, aZ, a9, vs, CV.cells, Ce.L.oneA, nth?, unV, cH, bz, rvA, bA, List.cons_append, List.nil_append, List.length_cons, List.length_nil, List.append_nil, List.take, List.drop, true_and, and_true, Nat.reduceAdd, Nat.reduceLeDiff, aF, aq, a7, an, a8, Bool.and_self, c14, o0, o1, o2, o3, o4, o5, o6, o7, o8, o9, o10, o11, o12, z1o]
    refine ⟨[.v .nils, .v z1], ap, ?_⟩
    simp only [o, p, mv, zz, ci, aW, aI, aev, cM, cJ, cV, cO, aZ, a9, vs, CV.cells, Ce.L.oneA, nth?, unV, cH, bz, rvA, bA, List.cons_append, List.nil_append, List.length_cons, List.length_nil, List.append_nil, List.take, List.drop, true_and, and_true, Nat.reduceAdd, Nat.reduceLeDiff, aF, aq, a7, an, a8, Bool.and_self, o0, o1, o2, o3, o4, o5, o6, o7, o8, o9, o10, o11, o12, z1o]
    exact ⟨d0, _, p0, d1, _, p1, by omega, dF rfl rfl rfl rfl (dG rfl rfl (du rfl rfl)) rfl rfl (rfl)⟩
  · obtain ⟨d0, p0⟩ := q16 ls0 (Nat.le_refl _) rfl
    obtain ⟨d1, p1⟩ := p9 t1
    refine dB (t := 3) (rfl : tbl 14 = some c14) rfl rfl rfl (by simp [aF, o0, o1, o2, o3, o4, o5, o6, o7, o8, o9, o10, o11, o12]) ?_
    simp only [o, p, mv, zz, ci, aW, aI, aev, cM, cJ, cV, cO, aZ, a9, vs, CV.cells, Ce.L.oneA, nth?, unV, cH, bz, rvA, bA, List.cons_append, List.nil_append, List.length_cons, List.length_nil, List.append_nil, List.take, List.drop, true_and, and_true, Nat.reduceAdd, Nat.reduceLeDiff, aF, aq, a7, an, a8, Bool.and_self, c14, o0, o1, o2, o3, o4, o5, o6, o7, o8, o9, o10, o11, o12, z1o]
    refine ⟨[.s k'0 off0 len0 cap0 c0s, .v z1], ap, ?_⟩
    simp only [o, p, mv, zz, ci, aW, aI, aev, cM, cJ, cV, cO, aZ, a9, vs, CV.cells, Ce.L.oneA, nth?, unV, cH, bz, rvA, bA, List.cons_append, List.nil_append, List.length_cons, List.length_nil, List.append_nil, List.take, List.drop, true_and, and_true, Nat.reduceAdd, Nat.reduceLeDiff, aF, aq, a7, an, a8, Bool.and_self, o0, o1, o2, o3, o4, o5, o6, o7, o8, o9, o10, o11, o12, z1o]
    exact ⟨d0, _, p0, d1, _, p1, by omega, dF rfl rfl rfl rfl (dG rfl rfl (du rfl rfl)) rfl rfl (⟨w0, by omega⟩)⟩
theorem k19 (hap : Ap20) {cells : List CV} (hx : Tvs tXs cells) : ∃ d, CallOK tbl 19 cells d (2 ^ 34) := by
  obtain ⟨y0, cs0, rfl, h0, k0⟩ := aB hx
  obtain ⟨y1, cs1, rfl, h1, k1⟩ := aB k0
  obtain ⟨y2, cs2, rfl, h2, k2⟩ := aB k1
  obtain ⟨y3, cs3, rfl, h3, k3⟩ := aB k2
  obtain ⟨y4, cs4, rfl, h4, k4⟩ := aB k3
  obtain ⟨y5, cs5, rfl, h5, k5⟩ := aB k4
  obtain ⟨y6, cs6, rfl, h6, k6⟩ := aB k5
  obtain ⟨y7, cs7, rfl, h7, k7⟩ := aB k6
  obtain ⟨y8, cs8, rfl, h8, k8⟩ := aB k7
  obtain ⟨y9, cs9, rfl, h9, k9⟩ := aB k8
  obtain ⟨y10, cs10, rfl, h10, k10⟩ := aB k9
  obtain ⟨y11, cs11, rfl, h11, k11⟩ := aB k10
  obtain ⟨y12, cs12, rfl, h12, k12⟩ := aB k11
  obtain rfl := bY k12
  have o0 := aE h0 rfl
  have o1 := aE h1 rfl
  have o2 := aE h2 rfl
  have o3 := aE h3 rfl
  have o4 := aE h4 rfl
  have o5 := aE h5 rfl
  have o6 := aE h6 rfl
  have o7 := aE h7 rfl
  have o8 := aE h8 rfl
  have o9 := aE h9 rfl
  have o10 := aE h10 rfl
  have o11 := aE h11 rfl
  have o12 := aE h12 rfl
  obtain ⟨rs, hrs, ap⟩ := hap (aD (bB (aD h0 (aD h1 (aD h2 (aD h3 (aD h4 aV)))))) (aD h7 aV))
  obtain ⟨r0, rs0, rfl, hr0, m0⟩ := hrs
  obtain ⟨r1, rs1, rfl, hr1, m1⟩ := m0
  have e : rs1 = [] := m1
  subst e
  obtain ⟨z1, rfl, t1⟩ := hr1
  have z1o := aE t1 rfl
  rcases hr0 with rfl | ⟨k'0, off0, len0, cap0, c0s, rfl, ls0, w0, n0⟩
  · obtain ⟨d0, p0⟩ := p16 jy
    obtain ⟨d1, p1⟩ := p9 t1
    refine dB (t := 3) (rfl : tbl 19 = some c19) rfl rfl rfl (by simp [aF, o0, o1, o2, o3, o4, o5, o6, o7, o8, o9, o10, o11, o12]) ?_
    simp only [o, p, mv, zz, ci, aW, aI, aev, cM, cJ, cV, cO, aZ, a9, vs, CV.cells, Ce.L.oneA, nth?, unV, cH, bz, rvA, bA, List.cons_append, List.nil_append, List.length_cons, List.length_nil, List.append_nil, List.take, List.drop, true_and, and_true, Nat.reduceAdd, Nat.reduceLeDiff, aF, aq, a7, an, a8, Bool.and_self, c19, o0, o1, o2, o3, o4, o5, o6, o7, o8, o9, o10, o11, o12, z1o]
    refine ⟨[.v .nils, .v z1], ap, ?_⟩
    simp only [o, p, mv, zz, ci, aW, aI, aev, cM, cJ, cV, cO, aZ, a9, vs, CV.cells, Ce.L.oneA, nth?, unV, cH, bz, rvA, bA, List.cons_append, List.nil_append, List.length_cons, List.length_nil, List.append_nil, List.take, List.drop, true_and, and_true, Nat.reduceAdd, Nat.reduceLeDiff, aF, aq, a7, an, a8, Bool.and_self, o0, o1, o2, o3, o4, o5, o6, o7, o8, o9, o10, o11, o12, z1o]
    exact ⟨d0, _, p0, d1, _, p1, by omega, dF rfl rfl rfl rfl (dG rfl rfl (du rfl rfl)) rfl rfl (rfl)⟩
  · obtain ⟨d0, p0⟩ := q16 ls0 (Nat.le_refl _) rfl
    obtain ⟨d1, p1⟩ := p9 t1
    refine dB (t := 3) (rfl : tbl 19 = some c19) rfl rfl rfl (by simp [aF, o0, o1, o2, o3, o4, o5, o6, o7, o8, o9, o10, o11, o12]) ?_
    simp only [o, p, mv, zz, ci, aW, aI, aev, cM, cJ, cV, cO, aZ, a9, vs, CV.cells, Ce.L.oneA, nth?, unV, cH, bz, rvA, bA, List.cons_append, List.nil_append, List.length_cons, List.length_nil, List.append_nil, List.take, List.drop, true_and, and_true, Nat.reduceAdd, Nat.reduceLeDiff, aF, aq, a7, an, a8, Bool.and_self, c19, o0, o1, o2, o3, o4, o5, o6, o7, o8, o9, o10, o11, o12, z1o]
    refine ⟨[.s k'0 off0 len0 cap0 c0s, .v z1], ap, ?_⟩
    simp only [o, p, mv, zz, ci, aW, aI, aev, cM, cJ, cV, cO, aZ, a9, vs, CV.cells, Ce.L.oneA, nth?, unV, cH, bz, rvA, bA, List.cons_append, List.nil_append, List.length_cons, List.length_nil, List.append_nil, List.take, List.drop, true_and, and_true, Nat.reduceAdd, Nat.reduceLeDiff, aF, aq, a7, an, a8, Bool.and_self, o0, o1, o2, o3, o4, o5, o6, o7, o8, o9, o10, o11, o12, z1o]
    exact ⟨d0, _, p0, d1, _, p1, by omega, dF rfl rfl rfl rfl (dG rfl rfl (du rfl rfl)) rfl rfl (⟨w0, by omega⟩)⟩
theorem k22 (hap : Ap23) {cells : List CV} (hx : Tvs tXs cells) : ∃ d, CallOK tbl 22 cells d (2 ^ 34) := by
  obtain ⟨y0, cs0, rfl, h0, k0⟩ := aB hx
  obtain ⟨y1, cs1, rfl, h1, k1⟩ := aB k0
  obtain ⟨y2, cs2, rfl, h2, k2⟩ := aB k1
  obtain ⟨y3, cs3, rfl, h3, k3⟩ := aB k2
  obtain ⟨y4, cs4, rfl, h4, k4⟩ := aB k3
  obtain ⟨y5, cs5, rfl, h5, k5⟩ := aB k4
  obtain ⟨y6, cs6, rfl, h6, k6⟩ := aB k5
  obtain ⟨y7, cs7, rfl, h7, k7⟩ := aB k6
  obtain ⟨y8, cs8, rfl, h8, k8⟩ := aB k7
  obtain ⟨y9, cs9, rfl, h9, k9⟩ := aB k8
  obtain ⟨y10, cs10, rfl, h10, k10⟩ := aB k9
  obtain ⟨y11, cs11, rfl, h11, k11⟩ := aB k10
  obtain ⟨y12, cs12, rfl, h12, k12⟩ := aB k11
  obtain rfl := bY k12
  have o0 := aE h0 rfl
  have o1 := aE h1 rfl
  have o2 := aE h2 rfl
  have o3 := aE h3 rfl
  have o4 := aE h4 rfl
  have o5 := aE h5 rfl
  have o6 := aE h6 rfl
  have o7 := aE h7 rfl
  have o8 := aE h8 rfl
  have o9 := aE h9 rfl
  have o10 := aE h10 rfl
  have o11 := aE h11 rfl
  have o12 := aE h12 rfl
  obtain ⟨rs, hrs, ap⟩ := hap (aD (bB (aD h0 (aD h1 (aD h2 (aD h3 (aD h4 aV)))))) (aD h8 (aD h5 aV)))
  obtain ⟨r0, rs0, rfl, hr0, m0⟩ := hrs
  obtain ⟨r1, rs1, rfl, hr1, m1⟩ := m0
  have e : rs1 = [] := m1
  subst e
  obtain ⟨z0, rfl, t0⟩ := hr0
  obtain ⟨z1, rfl, t1⟩ := hr1
  have z0o := aE t0 rfl
  have z1o := aE t1 rfl
  obtain ⟨d0, p0⟩ := p8 t0
  obtain ⟨d1, p1⟩ := p9 t1
  refine dB (t := 3) (rfl : tbl 22 = some c22) rfl rfl rfl (by simp [aF, o0, o1, o2, o3, o4, o5, o6, o7, o8, o9, o10, o11, o12]) ?_
  simp only [o, p, mv, zz, ci, aW, aI, aev, cM, cJ, cV, cO, aZ, a9, vs, CV.cells, Ce.L.oneA, nth?, unV, cH, bz, rvA, bA, List.cons_append, List.nil_append, List.length_cons, List.length_nil, List.append_nil, List.take, List.drop, true_and, and_true, Nat.reduceAdd, Nat.reduceLeDiff, aF, aq, a7, an, a8, Bool.and_self, c22, o0, o1, o2, o3, o4, o5, o6, o7, o8, o9, o10, o11, o12, z0o, z1o]
  refine ⟨[.v z0, .v z1], ap, ?_⟩
  simp only [o, p, mv, zz, ci, aW, aI, aev, cM, cJ, cV, cO, aZ, a9, vs, CV.cells, Ce.L.oneA, nth?, unV, cH, bz, rvA, bA, List.cons_append, List.nil_append, List.length_cons, List.length_nil, List.append_nil, List.take, List.drop, true_and, and_true, Nat.reduceAdd, Nat.reduceLeDiff, aF, aq, a7, an, a8, Bool.and_self, o0, o1, o2, o3, o4, o5, o6, o7, o8, o9, o10, o11, o12, z0o, z1o]
  exact ⟨d0, _, p0, d1, _, p1, by omega, fp rfl⟩
theorem k24 (hap : Ap25) {cells : List CV} (hx : Tvs tXs cells) : ∃ d, CallOK tbl 24 cells d (2 ^ 34) := by
  obtain ⟨y0, cs0, rfl, h0, k0⟩ := aB hx
  obtain ⟨y1, cs1, rfl, h1, k1⟩ := aB k0
  obtain ⟨y2, cs2, rfl, h2, k2⟩ := aB k1
  obtain ⟨y3, cs3, rfl, h3, k3⟩ := aB k2
  obtain ⟨y4, cs4, rfl, h4, k4⟩ := aB k3
  obtain ⟨y5, cs5, rfl, h5, k5⟩ := aB k4
  obtain ⟨y6, cs6, rfl, h6, k6⟩ := aB k5
  obtain ⟨y7, cs7, rfl, h7, k7⟩ := aB k6
  obtain ⟨y8, cs8, rfl, h8, k8⟩ := aB k7
  obtain ⟨y9, cs9, rfl, h9, k9⟩ := aB k8
  obtain ⟨y10, cs10, rfl, h10, k10⟩ := aB k9
  obtain ⟨y11, cs11, rfl, h11, k11⟩ := aB k10
  obtain ⟨y12, cs12, rfl, h12, k12⟩ := aB k11
  obtain rfl := bY k12
  have o0 := aE h0 rfl
  have o1 := aE h1 rfl
  have o2 := aE h2 rfl
  have o3 := aE h3 rfl
  have o4 := aE h4 rfl
  have o5 := aE h5 rfl
  have o6 := aE h6 rfl
  have o7 := aE h7 rfl
  have o8 := aE h8 rfl
  have o9 := aE h9 rfl
  have o10 := aE h10 rfl
  have o11 := aE h11 rfl
  have o12 := aE h12 rfl
  obtain ⟨rs, hrs, ap⟩ := hap (aD (bB (aD h0 (aD h1 (aD h2 (aD h3 (aD h4 aV)))))) (aD (bB (aD h9 (aD h10 aV))) (aD h11 (aD h12 aV))))
  obtain ⟨r0, rs0, rfl, hr0, m0⟩ := hrs
  obtain ⟨r1, rs1, rfl, hr1, m1⟩ := m0
  have e : rs1 = [] := m1
  subst e
  obtain ⟨z1, rfl, t1⟩ := hr1
  have z1o := aE t1 rfl
  rcases hr0 with rfl | ⟨k'0, off0, len0, cap0, c0s, rfl, ls0, w0, n0⟩
  · obtain ⟨d0, p0⟩ := p16 jy
    obtain ⟨d1, p1⟩ := p9 t1
    refine dB (t := 3) (rfl : tbl 24 = some c24) rfl rfl rfl (by simp [aF, o0, o1, o2, o3, o4, o5, o6, o7, o8, o9, o10, o11, o12]) ?_
    simp only [o, p, mv, zz, ci, aW, aI, aev, cM, cJ, cV, cO, aZ, a9, vs, CV.cells, Ce.L.oneA, nth?, unV, cH, bz, rvA, bA, List.cons_append, List.nil_append, List.length_cons, List.length_nil, List.append_nil, List.take, List.drop, true_and, and_true, Nat.reduceAdd, Nat.reduceLeDiff, aF, aq, a7, an, a8, Bool.and_self, c24, o0, o1, o2, o3, o4, o5, o6, o7, o8, o9, o10, o11, o12, z1o]
    refine ⟨[.v .nils, .v z1], ap, ?_⟩
    simp only [o, p, mv, zz, ci, aW, aI, aev, cM, cJ, cV, cO, aZ, a9, vs, CV.cells, Ce.L.oneA, nth?, unV, cH, bz, rvA, bA, List.cons_append, List.nil_append, List.length_cons, List.length_nil, List.append_nil, List.take, List.drop, true_and, and_true, Nat.reduceAdd, Nat.reduceLeDiff, aF, aq, a7, an, a8, Bool.and_self, o0, o1, o2, o3, o4, o5, o6, o7, o8, o9, o10, o11, o12, z1o]
    exact ⟨d0, _, p0, d1, _, p1, by omega, dF rfl rfl rfl rfl (dG rfl rfl (du rfl rfl)) rfl rfl (rfl)⟩
  · obtain ⟨d0, p0⟩ := q16 ls0 (Nat.le_refl _) rfl
    obtain ⟨d1, p1⟩ := p9 t1
    refine dB (t := 3) (rfl : tbl 24 = some c24) rfl rfl rfl (by simp [aF, o0, o1, o2, o3, o4, o5, o6, o7, o8, o9, o10, o11, o12]) ?_
    simp only [o, p, mv, zz, ci, aW, aI, aev, cM, cJ, cV, cO, aZ, a9, vs, CV.cells, Ce.L.oneA, nth?, unV, cH, bz, rvA, bA, List.cons_append, List.nil_append, List.length_cons, List.length_nil, List.append_nil, List.take, List.drop, true_and, and_true, Nat.reduceAdd, Nat.reduceLeDiff, aF, aq, a7, an, a8, Bool.and_self, c24, o0, o1, o2, o3, o4, o5, o6, o7, o8, o9, o10, o11, o12, z1o]
    refine ⟨[.s k'0 off0 len0 cap0 c0s, .v z1], ap, ?_⟩
    simp only [o, p, mv, zz, ci, aW, aI, aev, cM, cJ, cV, cO, aZ, a9, vs, CV.cells, Ce.L.oneA, nth?, unV, cH, bz, rvA, bA, List.cons_append, List.nil_append, List.length_cons, List.length_nil, List.append_nil, List.take, List.drop, true_and, and_true, Nat.reduceAdd, Nat.reduceLeDiff, aF, aq, a7, an, a8, Bool.and_self, o0, o1, o2, o3, o4, o5, o6, o7, o8, o9, o10, o11, o12, z1o]
    exact ⟨d0, _, p0, d1, _, p1, by omega, dF rfl rfl rfl rfl (dG rfl rfl (du rfl rfl)) rfl rfl (⟨w0, by omega⟩)⟩
theorem k27 (hap : Ap28) {cells : List CV} (hx : Tvs tXs cells) : ∃ d, CallOK tbl 27 cells d (2 ^ 34) := by
  obtain ⟨y0, cs0, rfl, h0, k0⟩ := aB hx
  obtain ⟨y1, cs1, rfl, h1, k1⟩ := aB k0
  obtain ⟨y2, cs2, rfl, h2, k2⟩ := aB k1
  obtain ⟨y3, cs3, rfl, h3, k3⟩ := aB k2
  obtain ⟨y4, cs4, rfl, h4, k4⟩ := aB k3
  obtain ⟨y5, cs5, rfl, h5, k5⟩ := aB k4
  obtain ⟨y6, cs6, rfl, h6, k6⟩ := aB k5
  obtain ⟨y7, cs7, rfl, h7, k7⟩ := aB k6
  obtain ⟨y8, cs8, rfl, h8, k8⟩ := aB k7
  obtain ⟨y9, cs9, rfl, h9, k9⟩ := aB k8
  obtain ⟨y10, cs10, rfl, h10, k10⟩ := aB k9
  obtain ⟨y11, cs11, rfl, h11, k11⟩ := aB k10
  obtain ⟨y12, cs12, rfl, h12, k12⟩ := aB k11
  obtain rfl := bY k12
  have o0 := aE h0 rfl
  have o1 := aE h1 rfl
  have o2 := aE h2 rfl
  have o3 := aE h3 rfl
  have o4 := aE h4 rfl
  have o5 := aE h5 rfl
  have o6 := aE h6 rfl
  have o7 := aE h7 rfl
  have o8 := aE h8 rfl
  have o9 := aE h9 rfl
  have o10 := aE h10 rfl
  have o11 := aE h11 rfl
  have o12 := aE h12 rfl
  obtain ⟨rs, hrs, ap⟩ := hap (aD (bB (aD h0 (aD h1 (aD h2 (aD h3 (aD h4 aV)))))) (aD h7 (aD h12 aV)))
  obtain ⟨r0, rs0, rfl, hr0, m0⟩ := hrs
  obtain ⟨r1, rs1, rfl, hr1, m1⟩ := m0
  have e : rs1 = [] := m1
  subst e
  obtain ⟨z1, rfl, t1⟩ := hr1
  have z1o := aE t1 rfl
  rcases hr0 with rfl | ⟨k'0, off0, len0, cap0, c0s, rfl, ls0, w0, n0⟩
  · obtain ⟨d0, p0⟩ := p16 jy
    obtain ⟨d1, p1⟩ := p9 t1
    refine dB (t := 3) (rfl : tbl 27 = some c27) rfl rfl rfl (by simp [aF, o0, o1, o2, o3, o4, o5, o6, o7, o8, o9, o10, o11, o12]) ?_
    simp only [o, p, mv, zz, ci, aW, aI, aev, cM, cJ, cV, cO, aZ, a9, vs, CV.cells, Ce.L.oneA, nth?, unV, cH, bz, rvA, bA, List.cons_append, List.nil_append, List.length_cons, List.length_nil, List.append_nil, List.take, List.drop, true_and, and_true, Nat.reduceAdd, Nat.reduceLeDiff, aF, aq, a7, an, a8, Bool.and_self, c27, o0, o1, o2, o3, o4, o5, o6, o7, o8, o9, o10, o11, o12, z1o]
    refine ⟨[.v .nils, .v z1], ap, ?_⟩
    simp only [o, p, mv, zz, ci, aW, aI, aev, cM, cJ, cV, cO, aZ, a9, vs, CV.cells, Ce.L.oneA, nth?, unV, cH, bz, rvA, bA, List.cons_append, List.nil_append, List.length_cons, List.length_nil, List.append_nil, List.take, List.drop, true_and, and_true, Nat.reduceAdd, Nat.reduceLeDiff, aF, aq, a7, an, a8, Bool.and_self, o0, o1, o2, o3, o4, o5, o6, o7, o8, o9, o10, o11, o12, z1o]
    exact ⟨d0, _, p0, d1, _, p1, by omega, dF rfl rfl rfl rfl (dG rfl rfl (du rfl rfl)) rfl rfl (rfl)⟩
  · obtain ⟨d0, p0⟩ := q16 ls0 (Nat.le_refl _) rfl
    obtain ⟨d1, p1⟩ := p9 t1
    refine dB (t := 3) (rfl : tbl 27 = some c27) rfl rfl rfl (by simp [aF, o0, o1, o2, o3, o4, o5, o6, o7, o8, o9, o10, o11, o12]) ?_
    simp only [o, p, mv, zz, ci, aW, aI, aev, cM, cJ, cV, cO, aZ, a9, vs, CV.cells, Ce.L.oneA, nth?, unV, cH, bz, rvA, bA, List.cons_append, List.nil_append, List.length_cons, List.length_nil, List.append_nil, List.take, List.drop, true_and, and_true, Nat.reduceAdd, Nat.reduceLeDiff, aF, aq, a7, an, a8, Bool.and_self, c27, o0, o1, o2, o3, o4, o5, o6, o7, o8, o9, o10, o11, o12, z1o]
    refine ⟨[.s k'0 off0 len0 cap0 c0s, .v z1], ap, ?_⟩
    simp only [o, p, mv, zz, ci, aW, aI, aev, cM, cJ, cV, cO, aZ, a9, vs, CV.cells, Ce.L.oneA, nth?, unV, cH, bz, rvA, bA, List.cons_append, List.nil_append, List.length_cons, List.length_nil, List.append_nil, List.take, List.drop, true_and, and_true, Nat.reduceAdd, Nat.reduceLeDiff, aF, aq, a7, an, a8, Bool.and_self, o0, o1, o2, o3, o4, o5, o6, o7, o8, o9, o10, o11, o12, z1o]
    exact ⟨d0, _, p0, d1, _, p1, by omega, dF rfl rfl rfl rfl (dG rfl rfl (du rfl rfl)) rfl rfl (⟨w0, by omega⟩)⟩
theorem k30 (hap : Ap31) {cells : List CV} (hx : Tvs tXs cells) : ∃ d, CallOK tbl 30 cells d (2 ^ 34) := by
  obtain ⟨y0, cs0, rfl, h0, k0⟩ := aB hx
  obtain ⟨y1, cs1, rfl, h1, k1⟩ := aB k0
  obtain ⟨y2, cs2, rfl, h2, k2⟩ := aB k1
  obtain ⟨y3, cs3, rfl, h3, k3⟩ := aB k2
  obtain ⟨y4, cs4, rfl, h4, k4⟩ := aB k3
  obtain ⟨y5, cs5, rfl, h5, k5⟩ := aB k4
  obtain ⟨y6, cs6, rfl, h6, k6⟩ := aB k5
  obtain ⟨y7, cs7, rfl, h7, k7⟩ := aB k6
  obtain ⟨y8, cs8, rfl, h8, k8⟩ := aB k7
  obtain ⟨y9, cs9, rfl, h9, k9⟩ := aB k8
  obtain ⟨y10, cs10, rfl, h10, k10⟩ := aB k9
  obtain ⟨y11, cs11, rfl, h11, k11⟩ := aB k10
  obtain ⟨y12, cs12, rfl, h12, k12⟩ := aB k11
  obtain rfl := bY k12
  have o0 := aE h0 rfl
  have o1 := aE h1 rfl
  have o2 := aE h2 rfl
  have o3 := aE h3 rfl
  have o4 := aE h4 rfl
  have o5 := aE h5 rfl
  have o6 := aE h6 rfl
  have o7 := aE h7 rfl
  have o8 := aE h8 rfl
  have o9 := aE h9 rfl
  have o10 := aE h10 rfl
  have o11 := aE h11 rfl
  have o12 := aE h12 rfl
  obtain ⟨rs, hrs, ap⟩ := hap (aD (bB (aD h0 (aD h1 (aD h2 (aD h3 (aD h4 aV)))))) aV)
  obtain ⟨r0, rs0, rfl, hr0, m0⟩ := hrs
  obtain ⟨r1, rs1, rfl, hr1, m1⟩ := m0
  have e : rs1 = [] := m1
  subst e
  obtain ⟨z1, rfl, t1⟩ := hr1
  have z1o := aE t1 rfl
  rcases hr0 with rfl | ⟨k'0, off0, len0, cap0, c0s, rfl, ls0, w0, n0⟩
  · obtain ⟨d0, p0⟩ := p16 jy
    obtain ⟨d1, p1⟩ := p9 t1
    refine dB (t := 3) (rfl : tbl 30 = some c30) rfl rfl rfl (by simp [aF, o0, o1, o2, o3, o4, o5, o6, o7, o8, o9, o10, o11, o12]) ?_
    simp only [o, p, mv, zz, ci, aW, aI, aev, cM, cJ, cV, cO, aZ, a9, vs, CV.cells, Ce.L.oneA, nth?, unV, cH, bz, rvA, bA, List.cons_append, List.nil_append, List.length_cons, List.length_nil, List.append_nil, List.take, List.drop, true_and, and_true, Nat.reduceAdd, Nat.reduceLeDiff, aF, aq, a7, an, a8, Bool.and_self, c30, o0, o1, o2, o3, o4, o5, o6, o7, o8, o9, o10, o11, o12, z1o]
    refine ⟨[.v .nils, .v z1], ap, ?_⟩
    simp only [o, p, mv, zz, ci, aW, aI, aev, cM, cJ, cV, cO, aZ, a9, vs, CV.cells, Ce.L.oneA, nth?, unV, cH, bz, rvA, bA, List.cons_append, List.nil_append, List.length_cons, List.length_nil, List.append_nil, List.take, List.drop, true_and, and_true, Nat.reduceAdd, Nat.reduceLeDiff, aF, aq, a7, an, a8, Bool.and_self, o0, o1, o2, o3, o4, o5, o6, o7, o8, o9, o10, o11, o12, z1o]
    exact ⟨d0, _, p0, d1, _, p1, by omega, dF rfl rfl rfl rfl (dG rfl rfl (du rfl rfl)) rfl rfl (rfl)⟩
  · obtain ⟨d0, p0⟩ := q16 ls0 (Nat.le_refl _) rfl
    obtain ⟨d1, p1⟩ := p9 t1
    refine dB (t := 3) (rfl : tbl 30 = some c30) rfl rfl rfl (by simp [aF, o0, o1, o2, o3, o4, o5, o6, o7, o8, o9, o10, o11, o12]) ?_
    simp only [o, p, mv, zz, ci, aW, aI, aev, cM, cJ, cV, cO, aZ, a9, vs, CV.cells, Ce.L.oneA, nth?, unV, cH, bz, rvA, bA, List.cons_append, List.nil_append, List.length_cons, List.length_nil, List.append_nil, List.take, List.drop, true_and, and_true, Nat.reduceAdd, Nat.reduceLeDiff, aF, aq, a7, an, a8, Bool.and_self, c30, o0, o1, o2, o3, o4, o5, o6, o7, o8, o9, o10, o11, o12, z1o]
    refine ⟨[.s k'0 off0 len0 cap0 c0s, .v z1], ap, ?_⟩
    simp only [o, p, mv, zz, ci, aW, aI, aev, cM, cJ, cV, cO, aZ, a9, vs, CV.cells, Ce.L.oneA, nth?, unV, cH, bz, rvA, bA, List.cons_append, List.nil_append, List.length_cons, List.length_nil, List.append_nil, List.take, List.drop, true_and, and_true, Nat.reduceAdd, Nat.reduceLeDiff, aF, aq, a7, an, a8, Bool.and_self, o0, o1, o2, o3, o4, o5, o6, o7, o8, o9, o10, o11, o12, z1o]
    exact ⟨d0, _, p0, d1, _, p1, by omega, dF rfl rfl rfl rfl (dG rfl rfl (du rfl rfl)) rfl rfl (⟨w0, by omega⟩)⟩
end Tu
namespace Tu
open Go Ce Ce.L Ce.S
theorem top (h7 : Ap7) (h12 : Ap12) (h15 : Ap15) (h20 : Ap20) (h23 : Ap23) (h25 : Ap25) (h28 : Ap28) (h31 : Ap31) (hw : ∀ h, Wf tbl (.fn 34) [] h fun v _ => v = .bool true) {x : CV} (hx : Tv tX x) (h : H) : Wf tbl (.fn 3) [x] h fun v _ => v = .bool true := by
  have ha := pall hx
  obtain ⟨cells, rfl, hc⟩ := jB hx
  refine top_ok (fcs := [11, 14, 19, 22, 24, 27, 30]) (n := 13) (fa := 4) (fg := 5) (fs := 33) (fw := 34) (fc := 6) (rfl : tbl 3 = some c3) rfl rfl rfl rfl (rfl : tbl 5 = some (jA 33)) (rfl : tbl 33 = some jK) ha (by omega) (rJ hc) (nY hc rfl) ?_ hw h
  intro g hg
  simp only [List.mem_cons, List.not_mem_nil, or_false] at hg
  rcases hg with rfl | rfl | rfl | rfl | rfl | rfl | rfl | rfl
  · exact k6 h7 hc
  · exact k11 h12 hc
  · exact k14 h15 hc
  · exact k19 h20 hc
  · exact k22 h23 hc
  · exact k24 h25 hc
  · exact k27 h28 hc
  · exact k30 h31 hc
end Tu
