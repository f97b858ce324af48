/- A part of a proof. -/
import Derived.Test.YtmaikhlheanmdaaLxA
import Derived.Test.YtmaikhlheanmdaaTab
set_option linter.unusedVariables false
set_option linter.unusedSimpArgs false
set_option maxRecDepth 1000000
namespace Ha
open Go Ce Ce.L Ce.S
theorem p8 {x : CV} (hx : Tv .bool x) : ∃ d, cB tbl 8 [.v x] d 1 := by
  obtain ⟨n, rfl⟩ := qE6 hx
  exact ⟨_, yF (rfl : tbl 8 = some jY) n⟩
theorem p12 {x : CV} (hx : Tv tI x) : ∃ d, cB tbl 12 [.v x] d 1 := by
  obtain ⟨n, rfl⟩ := qB0 hx
  exact ⟨_, oL (rfl : tbl 12 = some yI) _ n⟩
theorem p13 {x : CV} (hx : Tv tI x) : ∃ d, cB tbl 13 [.v x] d 1 := by
  obtain ⟨n, rfl⟩ := qB0 hx
  exact ⟨_, oL (rfl : tbl 13 = some yI) _ n⟩
theorem p16 {x : CV} (hx : Tv (.agg [tI, tI]) x) : ∃ d, cB tbl 16 [.v x] d 2 := by
  obtain ⟨cs, rfl, k0⟩ := gU hx
  clear hx
  obtain ⟨y0, cs, rfl, h0, k1⟩ := aC k0
  clear k0
  obtain ⟨y1, cs, rfl, h1, k2⟩ := aC k1
  clear k1
  obtain rfl := bC k2
  have o0 := aG h0 rfl
  have o1 := aG h1 rfl
  obtain ⟨d0, p0⟩ := p12 h0
  obtain ⟨d1, p1⟩ := p12 h1
  refine gC (rfl : tbl 16 = some c16) rfl rfl rfl rfl ?_
  simp only [o, p, mv, zz, ci, aW, aI, aev, bz, bv, cG, cD, aV, a9, vs, CV.cells, Ce.L.oneA, nth?, unV, br, bo, rvA, aw, List.cons_append, List.nil_append, List.length_cons, List.length_nil, List.append_nil, List.take, List.drop, true_and, and_true, Nat.reduceAdd, Nat.reduceLeDiff, c16, o0, o1]
  exact ⟨d0, _, p0, d1, _, p1, by omega⟩
theorem q19 {s : Ce.L.AV} {N : Nat} (hs : qL [tI] 1 none s N) (hN : N ≤ 2 ^ 30) (hb : noBx s = true) : ∃ d, cB tbl 19 [s] d (1 + N * 1) := by
  obtain ⟨d, h⟩ := jW (gf := 12) (B := 1) (rfl : tbl 51 = some (oK 1 none)) hs hN (fun u hu => by
    obtain ⟨T, e, hT⟩ := hu
    simp only [List.cons.injEq, and_true] at e
    subst e
    exact p12 hT)
  refine gC (rfl : tbl 19 = some c19) rfl rfl rfl (by simp [gV, hb]) ?_
  simp only [o, p, mv, zz, ci, aW, aI, aev, bz, bv, cG, cD, aV, a9, vs, CV.cells, Ce.L.oneA, nth?, unV, br, bo, rvA, aw, List.cons_append, List.nil_append, List.length_cons, List.length_nil, List.append_nil, List.take, List.drop, true_and, and_true, Nat.reduceAdd, Nat.reduceLeDiff, c19]
  exact ⟨d, _, h, by omega⟩
theorem p19 {x : CV} (hx : Tv (tL [tI]) x) : ∃ d, cB tbl 19 [.v x] d 1048577 := q19 (wa hx rfl) (by omega) rfl
theorem p37 {x : CV} (hx : Tv .str x) : ∃ d, cB tbl 37 [.v x] d 1 := by
  obtain ⟨n, rfl⟩ := qAY hx
  exact ⟨_, vf (rfl : tbl 37 = some qEM) n⟩
theorem p87 {x : CV} (hx : Tv (.agg [.str, tI, tI]) x) : ∃ d, cB tbl 87 [.v x] d 3 := by
  obtain ⟨cs, rfl, k0⟩ := gU hx
  clear hx
  obtain ⟨y0, cs, rfl, h0, k1⟩ := aC k0
  clear k0
  obtain ⟨y1, cs, rfl, h1, k2⟩ := aC k1
  clear k1
  obtain ⟨y2, cs, rfl, h2, k3⟩ := aC k2
  clear k2
  obtain rfl := bC k3
  have o0 := aG h0 rfl
  have o1 := aG h1 rfl
  have o2 := aG h2 rfl
  obtain ⟨d0, p0⟩ := p37 h0
  obtain ⟨d1, p1⟩ := p12 h1
  obtain ⟨d2, p2⟩ := p12 h2
  refine gC (rfl : tbl 87 = some c87) rfl rfl rfl rfl ?_
  simp only [o, p, mv, zz, ci, aW, aI, aev, bz, bv, cG, cD, aV, a9, vs, CV.cells, Ce.L.oneA, nth?, unV, br, bo, rvA, aw, List.cons_append, List.nil_append, List.length_cons, List.length_nil, List.append_nil, List.take, List.drop, true_and, and_true, Nat.reduceAdd, Nat.reduceLeDiff, c87, o0, o1, o2]
  exact ⟨d0, _, p0, d1, _, p1, d2, _, p2, by omega⟩
theorem q67 {s : Ce.L.AV} {N : Nat} (hs : qL [.str, tI, tI] 3 (some 3) s N) (hN : N ≤ 2 ^ 30) (hb : noBx s = true) : ∃ d, cB tbl 67 [s] d (1 + N * 3) := by
  obtain ⟨d, h⟩ := jW (gf := 87) (B := 3) (rfl : tbl 86 = some (oK 3 (some 3))) hs hN (fun u hu => by
    exact p87 hu)
  refine gC (rfl : tbl 67 = some c67) rfl rfl rfl (by simp [gV, hb]) ?_
  simp only [o, p, mv, zz, ci, aW, aI, aev, bz, bv, cG, cD, aV, a9, vs, CV.cells, Ce.L.oneA, nth?, unV, br, bo, rvA, aw, List.cons_append, List.nil_append, List.length_cons, List.length_nil, List.append_nil, List.take, List.drop, true_and, and_true, Nat.reduceAdd, Nat.reduceLeDiff, c67]
  exact ⟨d, _, h, by omega⟩
theorem p67 {x : CV} (hx : Tv (tL [.str, tI, tI]) x) : ∃ d, cB tbl 67 [.v x] d 3145729 := q67 (ku hx rfl) (by omega) rfl
theorem p89 {x : CV} (hx : Tv (.agg [tI, tI, tI, tI]) x) : ∃ d, cB tbl 89 [.v x] d 4 := by
  obtain ⟨cs, rfl, k0⟩ := gU hx
  clear hx
  obtain ⟨y0, cs, rfl, h0, k1⟩ := aC k0
  clear k0
  obtain ⟨y1, cs, rfl, h1, k2⟩ := aC k1
  clear k1
  obtain ⟨y2, cs, rfl, h2, k3⟩ := aC k2
  clear k2
  obtain ⟨y3, cs, rfl, h3, k4⟩ := aC k3
  clear k3
  obtain rfl := bC k4
  have o0 := aG h0 rfl
  have o1 := aG h1 rfl
  have o2 := aG h2 rfl
  have o3 := aG h3 rfl
  obtain ⟨d0, p0⟩ := p16 (bS (aF h0 (aF h1 a6)))
  obtain ⟨d1, p1⟩ := p16 (bS (aF h2 (aF h3 a6)))
  refine gC (rfl : tbl 89 = some c89) rfl rfl rfl rfl ?_
  simp only [o, p, mv, zz, ci, aW, aI, aev, bz, bv, cG, cD, aV, a9, vs, CV.cells, Ce.L.oneA, nth?, unV, br, bo, rvA, aw, List.cons_append, List.nil_append, List.length_cons, List.length_nil, List.append_nil, List.take, List.drop, true_and, and_true, Nat.reduceAdd, Nat.reduceLeDiff, c89, o0, o1, o2, o3]
  exact ⟨d0, _, p0, d1, _, p1, by omega⟩
theorem q68 {s : Ce.L.AV} {N : Nat} (hs : qL [tI, tI, tI, tI] 4 (some 4) s N) (hN : N ≤ 2 ^ 30) (hb : noBx s = true) : ∃ d, cB tbl 68 [s] d (1 + N * 4) := by
  obtain ⟨d, h⟩ := jW (gf := 89) (B := 4) (rfl : tbl 88 = some (oK 4 (some 4))) hs hN (fun u hu => by
    exact p89 hu)
  refine gC (rfl : tbl 68 = some c68) rfl rfl rfl (by simp [gV, hb]) ?_
  simp only [o, p, mv, zz, ci, aW, aI, aev, bz, bv, cG, cD, aV, a9, vs, CV.cells, Ce.L.oneA, nth?, unV, br, bo, rvA, aw, List.cons_append, List.nil_append, List.length_cons, List.length_nil, List.append_nil, List.take, List.drop, true_and, and_true, Nat.reduceAdd, Nat.reduceLeDiff, c68]
  exact ⟨d, _, h, by omega⟩
theorem p68 {x : CV} (hx : Tv (tL [tI, tI, tI, tI]) x) : ∃ d, cB tbl 68 [.v x] d 4194305 := q68 (ku hx rfl) (by omega) rfl
theorem p91 {x : CV} (hx : Tv (.agg [tI, tI]) x) : ∃ d, cB tbl 91 [.v x] d 2 := by
  obtain ⟨cs, rfl, k0⟩ := gU hx
  clear hx
  obtain ⟨y0, cs, rfl, h0, k1⟩ := aC k0
  clear k0
  obtain ⟨y1, cs, rfl, h1, k2⟩ := aC k1
  clear k1
  obtain rfl := bC k2
  have o0 := aG h0 rfl
  have o1 := aG h1 rfl
  obtain ⟨d0, p0⟩ := p12 h0
  obtain ⟨d1, p1⟩ := p12 h1
  refine gC (rfl : tbl 91 = some c91) rfl rfl rfl rfl ?_
  simp only [o, p, mv, zz, ci, aW, aI, aev, bz, bv, cG, cD, aV, a9, vs, CV.cells, Ce.L.oneA, nth?, unV, br, bo, rvA, aw, List.cons_append, List.nil_append, List.length_cons, List.length_nil, List.append_nil, List.take, List.drop, true_and, and_true, Nat.reduceAdd, Nat.reduceLeDiff, c91, o0, o1]
  exact ⟨d0, _, p0, d1, _, p1, by omega⟩
theorem q69 {s : Ce.L.AV} {N : Nat} (hs : qL [tI, tI] 2 (some 2) s N) (hN : N ≤ 2 ^ 30) (hb : noBx s = true) : ∃ d, cB tbl 69 [s] d (1 + N * 2) := by
  obtain ⟨d, h⟩ := jW (gf := 91) (B := 2) (rfl : tbl 90 = some (oK 2 (some 2))) hs hN (fun u hu => by
    exact p91 hu)
  refine gC (rfl : tbl 69 = some c69) rfl rfl rfl (by simp [gV, hb]) ?_
  simp only [o, p, mv, zz, ci, aW, aI, aev, bz, bv, cG, cD, aV, a9, vs, CV.cells, Ce.L.oneA, nth?, unV, br, bo, rvA, aw, List.cons_append, List.nil_append, List.length_cons, List.length_nil, List.append_nil, List.take, List.drop, true_and, and_true, Nat.reduceAdd, Nat.reduceLeDiff, c69]
  exact ⟨d, _, h, by omega⟩
theorem p69 {x : CV} (hx : Tv (tL [tI, tI]) x) : ∃ d, cB tbl 69 [.v x] d 2097153 := q69 (ku hx rfl) (by omega) rfl
theorem p38 {x : CV} (hx : Tv (.agg [(tL [.str, tI, tI]), (tL [tI, tI, tI, tI]), (tL [tI, tI])]) x) : ∃ d, cB tbl 38 [.v x] d 9437187 := by
  obtain ⟨cs, rfl, k0⟩ := gU hx
  clear hx
  obtain ⟨y0, cs, rfl, h0, k1⟩ := aC k0
  clear k0
  obtain ⟨y1, cs, rfl, h1, k2⟩ := aC k1
  clear k1
  obtain ⟨y2, cs, rfl, h2, k3⟩ := aC k2
  clear k2
  obtain rfl := bC k3
  have o0 := aG h0 rfl
  have o1 := aG h1 rfl
  have o2 := aG h2 rfl
  obtain ⟨d0, p0⟩ := p67 h0
  obtain ⟨d1, p1⟩ := p68 h1
  obtain ⟨d2, p2⟩ := p69 h2
  refine gC (rfl : tbl 38 = some c38) rfl rfl rfl rfl ?_
  simp only [o, p, mv, zz, ci, aW, aI, aev, bz, bv, cG, cD, aV, a9, vs, CV.cells, Ce.L.oneA, nth?, unV, br, bo, rvA, aw, List.cons_append, List.nil_append, List.length_cons, List.length_nil, List.append_nil, List.take, List.drop, true_and, and_true, Nat.reduceAdd, Nat.reduceLeDiff, c38, o0, o1, o2]
  exact ⟨d0, _, p0, d1, _, p1, d2, _, p2, by omega⟩
def tX : Ty := (.agg [.str, (tL [.str, tI, tI]), (tL [tI, tI, tI, tI]), (tL [tI, tI]), tI, tI, tI])
theorem pall {x : CV} (hx : Tv tX x) : ∃ d, pG tbl 4 x d 9437191 := by
  obtain ⟨cs, rfl, k0⟩ := gU hx
  clear hx
  obtain ⟨y0, cs, rfl, h0, k1⟩ := aC k0
  clear k0
  obtain ⟨y1, cs, rfl, h1, k2⟩ := aC k1
  clear k1
  obtain ⟨y2, cs, rfl, h2, k3⟩ := aC k2
  clear k2
  obtain ⟨y3, cs, rfl, h3, k4⟩ := aC k3
  clear k3
  obtain ⟨y4, cs, rfl, h4, k5⟩ := aC k4
  clear k4
  obtain ⟨y5, cs, rfl, h5, k6⟩ := aC k5
  clear k5
  obtain ⟨y6, cs, rfl, h6, k7⟩ := aC k6
  clear k6
  obtain rfl := bC k7
  have o0 := aG h0 rfl
  have o1 := aG h1 rfl
  have o2 := aG h2 rfl
  have o3 := aG h3 rfl
  have o4 := aG h4 rfl
  have o5 := aG h5 rfl
  have o6 := aG h6 rfl
  obtain ⟨d0, p0⟩ := p37 h0
  obtain ⟨d1, p1⟩ := p38 (bS (aF h1 (aF h2 (aF h3 a6))))
  obtain ⟨d2, p2⟩ := p12 h4
  obtain ⟨d3, p3⟩ := p12 h5
  obtain ⟨d4, p4⟩ := p12 h6
  refine all_of (rfl : tbl 4 = some c4) rfl rfl rfl ?_
  simp only [o, p, mv, zz, ci, aW, aI, aev, bz, bv, cG, cD, aV, a9, vs, CV.cells, Ce.L.oneA, nth?, unV, br, bo, rvA, aw, List.cons_append, List.nil_append, List.length_cons, List.length_nil, List.append_nil, List.take, List.drop, true_and, and_true, Nat.reduceAdd, Nat.reduceLeDiff, c4, o0, o1, o2, o3, o4, o5, o6]
  exact ⟨d0, _, p0, d1, _, p1, d2, _, p2, d3, _, p3, d4, _, p4, by omega⟩
end Ha
namespace Ha
open Go Ce Ce.S
def U : S.AV := .tup []
def I (s : Nat) (c : Int) : S.AV := .int .i64 s c
def Z (s : Nat) : S.AV := .int .i64 s 0
def Y (s : Nat) : S.AV := .sym s
def D (x y : Nat) (c : Int) : Fact := .dc x y c
def ys : Nat → Nat → List S.AV
  | _, 0 => []
  | k, n + 1 => .sym k :: ys (k + 1) n
def us : Nat → List S.AV
  | 0 => []
  | n + 1 => .tup [] :: us n
def X8 : Int := 9223372036854775808
def X7 : Int := 9223372036854775807
def J : Ty := .int .i64 ⟨0, -9223372036854775808⟩ ⟨0, 9223372036854775807⟩
end Ha
namespace Ha
open Go Ce Ce.L Ce.S
theorem aj {k : IntKind} {n : Int} : (CV.int k n).one = true := rfl
theorem aY : CV.nils.one = true := rfl
theorem ai {b : ByteArray} : (CV.str b).one = true := rfl
theorem aZ {b : Bool} : (CV.bool b).one = true := rfl
theorem gT {R : List Ty} : Tv (tL R) .nils := fun v hv => .inl ⟨rfl, by simp [Lin.ev, hv], by simp [Lin.ev, hv]⟩
def tXs : List Ty := [.str, (tL [.str, tI, tI]), (tL [tI, tI, tI, tI]), (tL [tI, tI]), tI, tI, tI]
def Ts7 : List Ty := [.str]
def sh7 : List Sh := [.v .bool]
def Ap7 : Prop := ∀ {args : List CV}, Tvs Ts7 args → ∃ rs, dj sh7 rs ∧ lZ tbl 7 args rs
def Ts11 : List Ty := [(.agg [(tL [.str, tI, tI]), (tL [tI, tI, tI, tI]), (tL [tI, tI])])]
def sh11 : List Sh := [.v tI, .v tI, .v tI]
def Ap11 : Prop := ∀ {args : List CV}, Tvs Ts11 args → ∃ rs, dj sh11 rs ∧ lZ tbl 11 args rs
def Ts15 : List Ty := [(.agg [(tL [.str, tI, tI]), (tL [tI, tI, tI, tI]), (tL [tI, tI])]), tI]
def sh15 : List Sh := [.v (.agg [tI, tI]), .v tI]
def Ap15 : Prop := ∀ {args : List CV}, Tvs Ts15 args → ∃ rs, dj sh15 rs ∧ lZ tbl 15 args rs
def Ts18 : List Ty := [(.agg [(tL [.str, tI, tI]), (tL [tI, tI, tI, tI]), (tL [tI, tI])]), tI]
def sh18 : List Sh := [.l 1 none [tI], .v tI]
def Ap18 : Prop := ∀ {args : List CV}, Tvs Ts18 args → ∃ rs, dj sh18 rs ∧ lZ tbl 18 args rs
def Ts23 : List Ty := [(.agg [(tL [.str, tI, tI]), (tL [tI, tI, tI, tI]), (tL [tI, tI])]), tI]
def sh23 : List Sh := [.v (.agg [tI, tI]), .v tI]
def Ap23 : Prop := ∀ {args : List CV}, Tvs Ts23 args → ∃ rs, dj sh23 rs ∧ lZ tbl 23 args rs
def Ts25 : List Ty := [(.agg [(tL [.str, tI, tI]), (tL [tI, tI, tI, tI]), (tL [tI, tI])])]
def sh25 : List Sh := [.l 1 none [tI], .l 1 none [tI], .v tI]
def Ap25 : Prop := ∀ {args : List CV}, Tvs Ts25 args → ∃ rs, dj sh25 rs ∧ lZ tbl 25 args rs
def Ts28 : List Ty := [(.agg [(tL [.str, tI, tI]), (tL [tI, tI, tI, tI]), (tL [tI, tI])]), tI, tI]
def sh28 : List Sh := [.l 1 none [tI], .v tI]
def Ap28 : Prop := ∀ {args : List CV}, Tvs Ts28 args → ∃ rs, dj sh28 rs ∧ lZ tbl 28 args rs
def Ts31 : List Ty := [(.agg [(tL [.str, tI, tI]), (tL [tI, tI, tI, tI]), (tL [tI, tI])])]
def sh31 : List Sh := [.v tI, .v tI, .v tI]
def Ap31 : Prop := ∀ {args : List CV}, Tvs Ts31 args → ∃ rs, dj sh31 rs ∧ lZ tbl 31 args rs
def Ts33 : List Ty := [(.agg [(tL [.str, tI, tI]), (tL [tI, tI, tI, tI]), (tL [tI, tI])])]
def sh33 : List Sh := [.l 1 none [tI], .v tI]
def Ap33 : Prop := ∀ {args : List CV}, Tvs Ts33 args → ∃ rs, dj sh33 rs ∧ lZ tbl 33 args rs
theorem k6 (hap : Ap7) {cells : List CV} (hx : Tvs tXs cells) : ∃ d, CallOK tbl 6 cells d (2 ^ 34) := by
  obtain ⟨y0, cs0, rfl, h0, k0⟩ := aC hx
  obtain ⟨y1, cs1, rfl, h1, k1⟩ := aC k0
  obtain ⟨y2, cs2, rfl, h2, k2⟩ := aC k1
  obtain ⟨y3, cs3, rfl, h3, k3⟩ := aC k2
  obtain ⟨y4, cs4, rfl, h4, k4⟩ := aC k3
  obtain ⟨y5, cs5, rfl, h5, k5⟩ := aC k4
  obtain ⟨y6, cs6, rfl, h6, k6⟩ := aC k5
  obtain rfl := bC k6
  have o0 := aG h0 rfl
  have o1 := aG h1 rfl
  have o2 := aG h2 rfl
  have o3 := aG h3 rfl
  have o4 := aG h4 rfl
  have o5 := aG h5 rfl
  have o6 := aG h6 rfl
  obtain ⟨rs, hrs, ap⟩ := hap (aF h0 a6)
  obtain ⟨r0, rs0, rfl, hr0, m0⟩ := hrs
  have e : rs0 = [] := m0
  subst e
  obtain ⟨z0, rfl, t0⟩ := hr0
  have z0o := aG t0 rfl
  obtain ⟨d0, p0⟩ := p8 t0
  refine cQ (t := 3) (rfl : tbl 6 = some c6) rfl rfl rfl (by simp [aD, o0, o1, o2, o3, o4, o5, o6]) ?_
  simp only [o, p, mv, zz, ci, aW, aI, aev, bz, bv, cG, cD, aV, a9, vs, CV.cells, Ce.L.oneA, nth?, unV, br, bo, rvA, aw, List.cons_append, List.nil_append, List.length_cons, List.length_nil, List.append_nil, List.take, List.drop, true_and, and_true, Nat.reduceAdd, Nat.reduceLeDiff, aD, aj, aY, ai, aZ, Bool.and_self, c6, o0, o1, o2, o3, o4, o5, o6, z0o]
  refine ⟨[.v z0], ap, ?_⟩
  simp only [o, p, mv, zz, ci, aW, aI, aev, bz, bv, cG, cD, aV, a9, vs, CV.cells, Ce.L.oneA, nth?, unV, br, bo, rvA, aw, List.cons_append, List.nil_append, List.length_cons, List.length_nil, List.append_nil, List.take, List.drop, true_and, and_true, Nat.reduceAdd, Nat.reduceLeDiff, aD, aj, aY, ai, aZ, Bool.and_self, o0, o1, o2, o3, o4, o5, o6, z0o]
  exact ⟨d0, _, p0, by omega, dW rfl⟩
theorem k10 (hap : Ap11) {cells : List CV} (hx : Tvs tXs cells) : ∃ d, CallOK tbl 10 cells d (2 ^ 34) := by
  obtain ⟨y0, cs0, rfl, h0, k0⟩ := aC hx
  obtain ⟨y1, cs1, rfl, h1, k1⟩ := aC k0
  obtain ⟨y2, cs2, rfl, h2, k2⟩ := aC k1
  obtain ⟨y3, cs3, rfl, h3, k3⟩ := aC k2
  obtain ⟨y4, cs4, rfl, h4, k4⟩ := aC k3
  obtain ⟨y5, cs5, rfl, h5, k5⟩ := aC k4
  obtain ⟨y6, cs6, rfl, h6, k6⟩ := aC k5
  obtain rfl := bC k6
  have o0 := aG h0 rfl
  have o1 := aG h1 rfl
  have o2 := aG h2 rfl
  have o3 := aG h3 rfl
  have o4 := aG h4 rfl
  have o5 := aG h5 rfl
  have o6 := aG h6 rfl
  obtain ⟨rs, hrs, ap⟩ := hap (aF (bS (aF h1 (aF h2 (aF h3 a6)))) a6)
  obtain ⟨r0, rs0, rfl, hr0, m0⟩ := hrs
  obtain ⟨r1, rs1, rfl, hr1, m1⟩ := m0
  obtain ⟨r2, rs2, rfl, hr2, m2⟩ := m1
  have e : rs2 = [] := m2
  subst e
  obtain ⟨z0, rfl, t0⟩ := hr0
  obtain ⟨z1, rfl, t1⟩ := hr1
  obtain ⟨z2, rfl, t2⟩ := hr2
  have z0o := aG t0 rfl
  have z1o := aG t1 rfl
  have z2o := aG t2 rfl
  obtain ⟨d0, p0⟩ := p12 t0
  obtain ⟨d1, p1⟩ := p12 t1
  obtain ⟨d2, p2⟩ := p13 t2
  refine cQ (t := 3) (rfl : tbl 10 = some c10) rfl rfl rfl (by simp [aD, o0, o1, o2, o3, o4, o5, o6]) ?_
  simp only [o, p, mv, zz, ci, aW, aI, aev, bz, bv, cG, cD, aV, a9, vs, CV.cells, Ce.L.oneA, nth?, unV, br, bo, rvA, aw, List.cons_append, List.nil_append, List.length_cons, List.length_nil, List.append_nil, List.take, List.drop, true_and, and_true, Nat.reduceAdd, Nat.reduceLeDiff, aD, aj, aY, ai, aZ, Bool.and_self, c10, o0, o1, o2, o3, o4, o5, o6, z0o, z1o, z2o]
  refine ⟨[.v z0, .v z1, .v z2], ap, ?_⟩
  simp only [o, p, mv, zz, ci, aW, aI, aev, bz, bv, cG, cD, aV, a9, vs, CV.cells, Ce.L.oneA, nth?, unV, br, bo, rvA, aw, List.cons_append, List.nil_append, List.length_cons, List.length_nil, List.append_nil, List.take, List.drop, true_and, and_true, Nat.reduceAdd, Nat.reduceLeDiff, aD, aj, aY, ai, aZ, Bool.and_self, o0, o1, o2, o3, o4, o5, o6, z0o, z1o, z2o]
  exact ⟨d0, _, p0, d1, _, p1, d2, _, p2, by omega, dW rfl⟩
theorem k14 (hap : Ap15) {cells : List CV} (hx : Tvs tXs cells) : ∃ d, CallOK tbl 14 cells d (2 ^ 34) := by
  obtain ⟨y0, cs0, rfl, h0, k0⟩ := aC hx
  obtain ⟨y1, cs1, rfl, h1, k1⟩ := aC k0
  obtain ⟨y2, cs2, rfl, h2, k2⟩ := aC k1
  obtain ⟨y3, cs3, rfl, h3, k3⟩ := aC k2
  obtain ⟨y4, cs4, rfl, h4, k4⟩ := aC k3
  obtain ⟨y5, cs5, rfl, h5, k5⟩ := aC k4
  obtain ⟨y6, cs6, rfl, h6, k6⟩ := aC k5
  obtain rfl := bC k6
  have o0 := aG h0 rfl
  have o1 := aG h1 rfl
  have o2 := aG h2 rfl
  have o3 := aG h3 rfl
  have o4 := aG h4 rfl
  have o5 := aG h5 rfl
  have o6 := aG h6 rfl
  obtain ⟨rs, hrs, ap⟩ := hap (aF (bS (aF h1 (aF h2 (aF h3 a6)))) (aF h4 a6))
  obtain ⟨r0, rs0, rfl, hr0, m0⟩ := hrs
  obtain ⟨r1, rs1, rfl, hr1, m1⟩ := m0
  have e : rs1 = [] := m1
  subst e
  obtain ⟨z0, rfl, t0⟩ := hr0
  obtain ⟨z1, rfl, t1⟩ := hr1
  obtain ⟨g0, rfl, u0⟩ := gU t0
  obtain ⟨g0x0, gs0x0, rfl, b0x0, e0x0⟩ := aC u0
  obtain ⟨g0x1, gs0x1, rfl, b0x1, e0x1⟩ := aC e0x0
  obtain rfl := bC e0x1
  have g0x0o := aG b0x0 rfl
  have g0x1o := aG b0x1 rfl
  have z1o := aG t1 rfl
  obtain ⟨d0, p0⟩ := p16 t0
  obtain ⟨d1, p1⟩ := p13 t1
  refine cQ (t := 3) (rfl : tbl 14 = some c14) rfl rfl rfl (by simp [aD, o0, o1, o2, o3, o4, o5, o6, g0x0o, g0x1o]) ?_
  simp only [o, p, mv, zz, ci, aW, aI, aev, bz, bv, cG, cD, aV, a9, vs, CV.cells, Ce.L.oneA, nth?, unV, br, bo, rvA, aw, List.cons_append, List.nil_append, List.length_cons, List.length_nil, List.append_nil, List.take, List.drop, true_and, and_true, Nat.reduceAdd, Nat.reduceLeDiff, aD, aj, aY, ai, aZ, Bool.and_self, c14, o0, o1, o2, o3, o4, o5, o6, g0x0o, g0x1o, z1o]
  refine ⟨[.v (.agg [g0x0, g0x1]), .v z1], ap, ?_⟩
  simp only [o, p, mv, zz, ci, aW, aI, aev, bz, bv, cG, cD, aV, a9, vs, CV.cells, Ce.L.oneA, nth?, unV, br, bo, rvA, aw, List.cons_append, List.nil_append, List.length_cons, List.length_nil, List.append_nil, List.take, List.drop, true_and, and_true, Nat.reduceAdd, Nat.reduceLeDiff, aD, aj, aY, ai, aZ, Bool.and_self, o0, o1, o2, o3, o4, o5, o6, g0x0o, g0x1o, z1o]
  exact ⟨d0, _, p0, d1, _, p1, by omega, dW rfl⟩
theorem k17 (hap : Ap18) {cells : List CV} (hx : Tvs tXs cells) : ∃ d, CallOK tbl 17 cells d (2 ^ 34) := by
  obtain ⟨y0, cs0, rfl, h0, k0⟩ := aC hx
  obtain ⟨y1, cs1, rfl, h1, k1⟩ := aC k0
  obtain ⟨y2, cs2, rfl, h2, k2⟩ := aC k1
  obtain ⟨y3, cs3, rfl, h3, k3⟩ := aC k2
  obtain ⟨y4, cs4, rfl, h4, k4⟩ := aC k3
  obtain ⟨y5, cs5, rfl, h5, k5⟩ := aC k4
  obtain ⟨y6, cs6, rfl, h6, k6⟩ := aC k5
  obtain rfl := bC k6
  have o0 := aG h0 rfl
  have o1 := aG h1 rfl
  have o2 := aG h2 rfl
  have o3 := aG h3 rfl
  have o4 := aG h4 rfl
  have o5 := aG h5 rfl
  have o6 := aG h6 rfl
  obtain ⟨rs, hrs, ap⟩ := hap (aF (bS (aF h1 (aF h2 (aF h3 a6)))) (aF h4 a6))
  obtain ⟨r0, rs0, rfl, hr0, m0⟩ := hrs
  obtain ⟨r1, rs1, rfl, hr1, m1⟩ := m0
  have e : rs1 = [] := m1
  subst e
  obtain ⟨z1, rfl, t1⟩ := hr1
  have z1o := aG t1 rfl
  rcases hr0 with rfl | ⟨k'0, off0, len0, cap0, c0s, rfl, ls0, w0, n0⟩
  · obtain ⟨d0, p0⟩ := p19 gT
    obtain ⟨d1, p1⟩ := p13 t1
    refine cQ (t := 3) (rfl : tbl 17 = some c17) rfl rfl rfl (by simp [aD, o0, o1, o2, o3, o4, o5, o6]) ?_
    simp only [o, p, mv, zz, ci, aW, aI, aev, bz, bv, cG, cD, aV, a9, vs, CV.cells, Ce.L.oneA, nth?, unV, br, bo, rvA, aw, List.cons_append, List.nil_append, List.length_cons, List.length_nil, List.append_nil, List.take, List.drop, true_and, and_true, Nat.reduceAdd, Nat.reduceLeDiff, aD, aj, aY, ai, aZ, Bool.and_self, c17, o0, o1, o2, o3, o4, o5, o6, z1o]
    refine ⟨[.v .nils, .v z1], ap, ?_⟩
    simp only [o, p, mv, zz, ci, aW, aI, aev, bz, bv, cG, cD, aV, a9, vs, CV.cells, Ce.L.oneA, nth?, unV, br, bo, rvA, aw, List.cons_append, List.nil_append, List.length_cons, List.length_nil, List.append_nil, List.take, List.drop, true_and, and_true, Nat.reduceAdd, Nat.reduceLeDiff, aD, aj, aY, ai, aZ, Bool.and_self, o0, o1, o2, o3, o4, o5, o6, z1o]
    exact ⟨d0, _, p0, d1, _, p1, by omega, fY rfl rfl rfl rfl (bq rfl rfl (cZ rfl rfl)) rfl rfl (rfl)⟩
  · obtain ⟨d0, p0⟩ := q19 ls0 (Nat.le_refl _) rfl
    obtain ⟨d1, p1⟩ := p13 t1
    refine cQ (t := 3) (rfl : tbl 17 = some c17) rfl rfl rfl (by simp [aD, o0, o1, o2, o3, o4, o5, o6]) ?_
    simp only [o, p, mv, zz, ci, aW, aI, aev, bz, bv, cG, cD, aV, a9, vs, CV.cells, Ce.L.oneA, nth?, unV, br, bo, rvA, aw, List.cons_append, List.nil_append, List.length_cons, List.length_nil, List.append_nil, List.take, List.drop, true_and, and_true, Nat.reduceAdd, Nat.reduceLeDiff, aD, aj, aY, ai, aZ, Bool.and_self, c17, o0, o1, o2, o3, o4, o5, o6, z1o]
    refine ⟨[.s k'0 off0 len0 cap0 c0s, .v z1], ap, ?_⟩
    simp only [o, p, mv, zz, ci, aW, aI, aev, bz, bv, cG, cD, aV, a9, vs, CV.cells, Ce.L.oneA, nth?, unV, br, bo, rvA, aw, List.cons_append, List.nil_append, List.length_cons, List.length_nil, List.append_nil, List.take, List.drop, true_and, and_true, Nat.reduceAdd, Nat.reduceLeDiff, aD, aj, aY, ai, aZ, Bool.and_self, o0, o1, o2, o3, o4, o5, o6, z1o]
    exact ⟨d0, _, p0, d1, _, p1, by omega, fY rfl rfl rfl rfl (bq rfl rfl (cZ rfl rfl)) rfl rfl (⟨w0, by omega⟩)⟩
theorem k22 (hap : Ap23) {cells : List CV} (hx : Tvs tXs cells) : ∃ d, CallOK tbl 22 cells d (2 ^ 34) := by
  obtain ⟨y0, cs0, rfl, h0, k0⟩ := aC hx
  obtain ⟨y1, cs1, rfl, h1, k1⟩ := aC k0
  obtain ⟨y2, cs2, rfl, h2, k2⟩ := aC k1
  obtain ⟨y3, cs3, rfl, h3, k3⟩ := aC k2
  obtain ⟨y4, cs4, rfl, h4, k4⟩ := aC k3
  obtain ⟨y5, cs5, rfl, h5, k5⟩ := aC k4
  obtain ⟨y6, cs6, rfl, h6, k6⟩ := aC k5
  obtain rfl := bC k6
  have o0 := aG h0 rfl
  have o1 := aG h1 rfl
  have o2 := aG h2 rfl
  have o3 := aG h3 rfl
  have o4 := aG h4 rfl
  have o5 := aG h5 rfl
  have o6 := aG h6 rfl
  obtain ⟨rs, hrs, ap⟩ := hap (aF (bS (aF h1 (aF h2 (aF h3 a6)))) (aF h5 a6))
  obtain ⟨r0, rs0, rfl, hr0, m0⟩ := hrs
  obtain ⟨r1, rs1, rfl, hr1, m1⟩ := m0
  have e : rs1 = [] := m1
  subst e
  obtain ⟨z0, rfl, t0⟩ := hr0
  obtain ⟨z1, rfl, t1⟩ := hr1
  obtain ⟨g0, rfl, u0⟩ := gU t0
  obtain ⟨g0x0, gs0x0, rfl, b0x0, e0x0⟩ := aC u0
  obtain ⟨g0x1, gs0x1, rfl, b0x1, e0x1⟩ := aC e0x0
  obtain rfl := bC e0x1
  have g0x0o := aG b0x0 rfl
  have g0x1o := aG b0x1 rfl
  have z1o := aG t1 rfl
  obtain ⟨d0, p0⟩ := p16 t0
  obtain ⟨d1, p1⟩ := p13 t1
  refine cQ (t := 3) (rfl : tbl 22 = some c22) rfl rfl rfl (by simp [aD, o0, o1, o2, o3, o4, o5, o6, g0x0o, g0x1o]) ?_
  simp only [o, p, mv, zz, ci, aW, aI, aev, bz, bv, cG, cD, aV, a9, vs, CV.cells, Ce.L.oneA, nth?, unV, br, bo, rvA, aw, List.cons_append, List.nil_append, List.length_cons, List.length_nil, List.append_nil, List.take, List.drop, true_and, and_true, Nat.reduceAdd, Nat.reduceLeDiff, aD, aj, aY, ai, aZ, Bool.and_self, c22, o0, o1, o2, o3, o4, o5, o6, g0x0o, g0x1o, z1o]
  refine ⟨[.v (.agg [g0x0, g0x1]), .v z1], ap, ?_⟩
  simp only [o, p, mv, zz, ci, aW, aI, aev, bz, bv, cG, cD, aV, a9, vs, CV.cells, Ce.L.oneA, nth?, unV, br, bo, rvA, aw, List.cons_append, List.nil_append, List.length_cons, List.length_nil, List.append_nil, List.take, List.drop, true_and, and_true, Nat.reduceAdd, Nat.reduceLeDiff, aD, aj, aY, ai, aZ, Bool.and_self, o0, o1, o2, o3, o4, o5, o6, g0x0o, g0x1o, z1o]
  exact ⟨d0, _, p0, d1, _, p1, by omega, dW rfl⟩
theorem k24 (hap : Ap25) {cells : List CV} (hx : Tvs tXs cells) : ∃ d, CallOK tbl 24 cells d (2 ^ 34) := by
  obtain ⟨y0, cs0, rfl, h0, k0⟩ := aC hx
  obtain ⟨y1, cs1, rfl, h1, k1⟩ := aC k0
  obtain ⟨y2, cs2, rfl, h2, k2⟩ := aC k1
  obtain ⟨y3, cs3, rfl, h3, k3⟩ := aC k2
  obtain ⟨y4, cs4, rfl, h4, k4⟩ := aC k3
  obtain ⟨y5, cs5, rfl, h5, k5⟩ := aC k4
  obtain ⟨y6, cs6, rfl, h6, k6⟩ := aC k5
  obtain rfl := bC k6
  have o0 := aG h0 rfl
  have o1 := aG h1 rfl
  have o2 := aG h2 rfl
  have o3 := aG h3 rfl
  have o4 := aG h4 rfl
  have o5 := aG h5 rfl
  have o6 := aG h6 rfl
  obtain ⟨rs, hrs, ap⟩ := hap (aF (bS (aF h1 (aF h2 (aF h3 a6)))) a6)
  obtain ⟨r0, rs0, rfl, hr0, m0⟩ := hrs
  obtain ⟨r1, rs1, rfl, hr1, m1⟩ := m0
  obtain ⟨r2, rs2, rfl, hr2, m2⟩ := m1
  have e : rs2 = [] := m2
  subst e
  obtain ⟨z2, rfl, t2⟩ := hr2
  have z2o := aG t2 rfl
  rcases hr0 with rfl | ⟨k'0, off0, len0, cap0, c0s, rfl, ls0, w0, n0⟩
  · rcases hr1 with rfl | ⟨k'1, off1, len1, cap1, c1s, rfl, ls1, w1, n1⟩
    · obtain ⟨d0, p0⟩ := p19 gT
      obtain ⟨d1, p1⟩ := p19 gT
      obtain ⟨d2, p2⟩ := p13 t2
      refine cQ (t := 3) (rfl : tbl 24 = some c24) rfl rfl rfl (by simp [aD, o0, o1, o2, o3, o4, o5, o6]) ?_
      simp only [o, p, mv, zz, ci, aW, aI, aev, bz, bv, cG, cD, aV, a9, vs, CV.cells, Ce.L.oneA, nth?, unV, br, bo, rvA, aw, List.cons_append, List.nil_append, List.length_cons, List.length_nil, List.append_nil, List.take, List.drop, true_and, and_true, Nat.reduceAdd, Nat.reduceLeDiff, aD, aj, aY, ai, aZ, Bool.and_self, c24, o0, o1, o2, o3, o4, o5, o6, z2o]
      refine ⟨[.v .nils, .v .nils, .v z2], ap, ?_⟩
      simp only [o, p, mv, zz, ci, aW, aI, aev, bz, bv, cG, cD, aV, a9, vs, CV.cells, Ce.L.oneA, nth?, unV, br, bo, rvA, aw, List.cons_append, List.nil_append, List.length_cons, List.length_nil, List.append_nil, List.take, List.drop, true_and, and_true, Nat.reduceAdd, Nat.reduceLeDiff, aD, aj, aY, ai, aZ, Bool.and_self, o0, o1, o2, o3, o4, o5, o6, z2o]
      exact ⟨d0, _, p0, d1, _, p1, d2, _, p2, by omega, jI rfl rfl rfl rfl (bq rfl rfl (cZ rfl rfl)) (bq rfl rfl (cZ rfl rfl)) rfl rfl (rfl) rfl rfl (rfl)⟩
    · obtain ⟨d0, p0⟩ := p19 gT
      obtain ⟨d1, p1⟩ := q19 ls1 (Nat.le_refl _) rfl
      obtain ⟨d2, p2⟩ := p13 t2
      refine cQ (t := 3) (rfl : tbl 24 = some c24) rfl rfl rfl (by simp [aD, o0, o1, o2, o3, o4, o5, o6]) ?_
      simp only [o, p, mv, zz, ci, aW, aI, aev, bz, bv, cG, cD, aV, a9, vs, CV.cells, Ce.L.oneA, nth?, unV, br, bo, rvA, aw, List.cons_append, List.nil_append, List.length_cons, List.length_nil, List.append_nil, List.take, List.drop, true_and, and_true, Nat.reduceAdd, Nat.reduceLeDiff, aD, aj, aY, ai, aZ, Bool.and_self, c24, o0, o1, o2, o3, o4, o5, o6, z2o]
      refine ⟨[.v .nils, .s k'1 off1 len1 cap1 c1s, .v z2], ap, ?_⟩
      simp only [o, p, mv, zz, ci, aW, aI, aev, bz, bv, cG, cD, aV, a9, vs, CV.cells, Ce.L.oneA, nth?, unV, br, bo, rvA, aw, List.cons_append, List.nil_append, List.length_cons, List.length_nil, List.append_nil, List.take, List.drop, true_and, and_true, Nat.reduceAdd, Nat.reduceLeDiff, aD, aj, aY, ai, aZ, Bool.and_self, o0, o1, o2, o3, o4, o5, o6, z2o]
      exact ⟨d0, _, p0, d1, _, p1, d2, _, p2, by omega, jI rfl rfl rfl rfl (bq rfl rfl (cZ rfl rfl)) (bq rfl rfl (cZ rfl rfl)) rfl rfl (rfl) rfl rfl (⟨w1, by omega⟩)⟩
  · rcases hr1 with rfl | ⟨k'1, off1, len1, cap1, c1s, rfl, ls1, w1, n1⟩
    · obtain ⟨d0, p0⟩ := q19 ls0 (Nat.le_refl _) rfl
      obtain ⟨d1, p1⟩ := p19 gT
      obtain ⟨d2, p2⟩ := p13 t2
      refine cQ (t := 3) (rfl : tbl 24 = some c24) rfl rfl rfl (by simp [aD, o0, o1, o2, o3, o4, o5, o6]) ?_
      simp only [o, p, mv, zz, ci, aW, aI, aev, bz, bv, cG, cD, aV, a9, vs, CV.cells, Ce.L.oneA, nth?, unV, br, bo, rvA, aw, List.cons_append, List.nil_append, List.length_cons, List.length_nil, List.append_nil, List.take, List.drop, true_and, and_true, Nat.reduceAdd, Nat.reduceLeDiff, aD, aj, aY, ai, aZ, Bool.and_self, c24, o0, o1, o2, o3, o4, o5, o6, z2o]
      refine ⟨[.s k'0 off0 len0 cap0 c0s, .v .nils, .v z2], ap, ?_⟩
      simp only [o, p, mv, zz, ci, aW, aI, aev, bz, bv, cG, cD, aV, a9, vs, CV.cells, Ce.L.oneA, nth?, unV, br, bo, rvA, aw, List.cons_append, List.nil_append, List.length_cons, List.length_nil, List.append_nil, List.take, List.drop, true_and, and_true, Nat.reduceAdd, Nat.reduceLeDiff, aD, aj, aY, ai, aZ, Bool.and_self, o0, o1, o2, o3, o4, o5, o6, z2o]
      exact ⟨d0, _, p0, d1, _, p1, d2, _, p2, by omega, jI rfl rfl rfl rfl (bq rfl rfl (cZ rfl rfl)) (bq rfl rfl (cZ rfl rfl)) rfl rfl (⟨w0, by omega⟩) rfl rfl (rfl)⟩
    · obtain ⟨d0, p0⟩ := q19 ls0 (Nat.le_refl _) rfl
      obtain ⟨d1, p1⟩ := q19 ls1 (Nat.le_refl _) rfl
      obtain ⟨d2, p2⟩ := p13 t2
      refine cQ (t := 3) (rfl : tbl 24 = some c24) rfl rfl rfl (by simp [aD, o0, o1, o2, o3, o4, o5, o6]) ?_
      simp only [o, p, mv, zz, ci, aW, aI, aev, bz, bv, cG, cD, aV, a9, vs, CV.cells, Ce.L.oneA, nth?, unV, br, bo, rvA, aw, List.cons_append, List.nil_append, List.length_cons, List.length_nil, List.append_nil, List.take, List.drop, true_and, and_true, Nat.reduceAdd, Nat.reduceLeDiff, aD, aj, aY, ai, aZ, Bool.and_self, c24, o0, o1, o2, o3, o4, o5, o6, z2o]
      refine ⟨[.s k'0 off0 len0 cap0 c0s, .s k'1 off1 len1 cap1 c1s, .v z2], ap, ?_⟩
      simp only [o, p, mv, zz, ci, aW, aI, aev, bz, bv, cG, cD, aV, a9, vs, CV.cells, Ce.L.oneA, nth?, unV, br, bo, rvA, aw, List.cons_append, List.nil_append, List.length_cons, List.length_nil, List.append_nil, List.take, List.drop, true_and, and_true, Nat.reduceAdd, Nat.reduceLeDiff, aD, aj, aY, ai, aZ, Bool.and_self, o0, o1, o2, o3, o4, o5, o6, z2o]
      exact ⟨d0, _, p0, d1, _, p1, d2, _, p2, by omega, jI rfl rfl rfl rfl (bq rfl rfl (cZ rfl rfl)) (bq rfl rfl (cZ rfl rfl)) rfl rfl (⟨w0, by omega⟩) rfl rfl (⟨w1, by omega⟩)⟩
theorem k27 (hap : Ap28) {cells : List CV} (hx : Tvs tXs cells) : ∃ d, CallOK tbl 27 cells d (2 ^ 34) := by
  obtain ⟨y0, cs0, rfl, h0, k0⟩ := aC hx
  obtain ⟨y1, cs1, rfl, h1, k1⟩ := aC k0
  obtain ⟨y2, cs2, rfl, h2, k2⟩ := aC k1
  obtain ⟨y3, cs3, rfl, h3, k3⟩ := aC k2
  obtain ⟨y4, cs4, rfl, h4, k4⟩ := aC k3
  obtain ⟨y5, cs5, rfl, h5, k5⟩ := aC k4
  obtain ⟨y6, cs6, rfl, h6, k6⟩ := aC k5
  obtain rfl := bC k6
  have o0 := aG h0 rfl
  have o1 := aG h1 rfl
  have o2 := aG h2 rfl
  have o3 := aG h3 rfl
  have o4 := aG h4 rfl
  have o5 := aG h5 rfl
  have o6 := aG h6 rfl
  obtain ⟨rs, hrs, ap⟩ := hap (aF (bS (aF h1 (aF h2 (aF h3 a6)))) (aF h5 (aF h6 a6)))
  obtain ⟨r0, rs0, rfl, hr0, m0⟩ := hrs
  obtain ⟨r1, rs1, rfl, hr1, m1⟩ := m0
  have e : rs1 = [] := m1
  subst e
  obtain ⟨z1, rfl, t1⟩ := hr1
  have z1o := aG t1 rfl
  rcases hr0 with rfl | ⟨k'0, off0, len0, cap0, c0s, rfl, ls0, w0, n0⟩
  · obtain ⟨d0, p0⟩ := p19 gT
    obtain ⟨d1, p1⟩ := p13 t1
    refine cQ (t := 3) (rfl : tbl 27 = some c27) rfl rfl rfl (by simp [aD, o0, o1, o2, o3, o4, o5, o6]) ?_
    simp only [o, p, mv, zz, ci, aW, aI, aev, bz, bv, cG, cD, aV, a9, vs, CV.cells, Ce.L.oneA, nth?, unV, br, bo, rvA, aw, List.cons_append, List.nil_append, List.length_cons, List.length_nil, List.append_nil, List.take, List.drop, true_and, and_true, Nat.reduceAdd, Nat.reduceLeDiff, aD, aj, aY, ai, aZ, Bool.and_self, c27, o0, o1, o2, o3, o4, o5, o6, z1o]
    refine ⟨[.v .nils, .v z1], ap, ?_⟩
    simp only [o, p, mv, zz, ci, aW, aI, aev, bz, bv, cG, cD, aV, a9, vs, CV.cells, Ce.L.oneA, nth?, unV, br, bo, rvA, aw, List.cons_append, List.nil_append, List.length_cons, List.length_nil, List.append_nil, List.take, List.drop, true_and, and_true, Nat.reduceAdd, Nat.reduceLeDiff, aD, aj, aY, ai, aZ, Bool.and_self, o0, o1, o2, o3, o4, o5, o6, z1o]
    exact ⟨d0, _, p0, d1, _, p1, by omega, fY rfl rfl rfl rfl (bq rfl rfl (cZ rfl rfl)) rfl rfl (rfl)⟩
  · obtain ⟨d0, p0⟩ := q19 ls0 (Nat.le_refl _) rfl
    obtain ⟨d1, p1⟩ := p13 t1
    refine cQ (t := 3) (rfl : tbl 27 = some c27) rfl rfl rfl (by simp [aD, o0, o1, o2, o3, o4, o5, o6]) ?_
    simp only [o, p, mv, zz, ci, aW, aI, aev, bz, bv, cG, cD, aV, a9, vs, CV.cells, Ce.L.oneA, nth?, unV, br, bo, rvA, aw, List.cons_append, List.nil_append, List.length_cons, List.length_nil, List.append_nil, List.take, List.drop, true_and, and_true, Nat.reduceAdd, Nat.reduceLeDiff, aD, aj, aY, ai, aZ, Bool.and_self, c27, o0, o1, o2, o3, o4, o5, o6, z1o]
    refine ⟨[.s k'0 off0 len0 cap0 c0s, .v z1], ap, ?_⟩
    simp only [o, p, mv, zz, ci, aW, aI, aev, bz, bv, cG, cD, aV, a9, vs, CV.cells, Ce.L.oneA, nth?, unV, br, bo, rvA, aw, List.cons_append, List.nil_append, List.length_cons, List.length_nil, List.append_nil, List.take, List.drop, true_and, and_true, Nat.reduceAdd, Nat.reduceLeDiff, aD, aj, aY, ai, aZ, Bool.and_self, o0, o1, o2, o3, o4, o5, o6, z1o]
    exact ⟨d0, _, p0, d1, _, p1, by omega, fY rfl rfl rfl rfl (bq rfl rfl (cZ rfl rfl)) rfl rfl (⟨w0, by omega⟩)⟩
theorem k30 (hap : Ap31) {cells : List CV} (hx : Tvs tXs cells) : ∃ d, CallOK tbl 30 cells d (2 ^ 34) := by
  obtain ⟨y0, cs0, rfl, h0, k0⟩ := aC hx
  obtain ⟨y1, cs1, rfl, h1, k1⟩ := aC k0
  obtain ⟨y2, cs2, rfl, h2, k2⟩ := aC k1
  obtain ⟨y3, cs3, rfl, h3, k3⟩ := aC k2
  obtain ⟨y4, cs4, rfl, h4, k4⟩ := aC k3
  obtain ⟨y5, cs5, rfl, h5, k5⟩ := aC k4
  obtain ⟨y6, cs6, rfl, h6, k6⟩ := aC k5
  obtain rfl := bC k6
  have o0 := aG h0 rfl
  have o1 := aG h1 rfl
  have o2 := aG h2 rfl
  have o3 := aG h3 rfl
  have o4 := aG h4 rfl
  have o5 := aG h5 rfl
  have o6 := aG h6 rfl
  obtain ⟨rs, hrs, ap⟩ := hap (aF (bS (aF h1 (aF h2 (aF h3 a6)))) a6)
  obtain ⟨r0, rs0, rfl, hr0, m0⟩ := hrs
  obtain ⟨r1, rs1, rfl, hr1, m1⟩ := m0
  obtain ⟨r2, rs2, rfl, hr2, m2⟩ := m1
  have e : rs2 = [] := m2
  subst e
  obtain ⟨z0, rfl, t0⟩ := hr0
  obtain ⟨z1, rfl, t1⟩ := hr1
  obtain ⟨z2, rfl, t2⟩ := hr2
  have z0o := aG t0 rfl
  have z1o := aG t1 rfl
  have z2o := aG t2 rfl
  obtain ⟨d0, p0⟩ := p12 t0
  obtain ⟨d1, p1⟩ := p12 t1
  obtain ⟨d2, p2⟩ := p13 t2
  refine cQ (t := 3) (rfl : tbl 30 = some c30) rfl rfl rfl (by simp [aD, o0, o1, o2, o3, o4, o5, o6]) ?_
  simp only [o, p, mv, zz, ci, aW, aI, aev, bz, bv, cG, cD, aV, a9, vs, CV.cells, Ce.L.oneA, nth?, unV, br, bo, rvA, aw, List.cons_append, List.nil_append, List.length_cons, List.length_nil, List.append_nil, List.take, List.drop, true_and, and_true, Nat.reduceAdd, Nat.reduceLeDiff, aD, aj, aY, ai, aZ, Bool.and_self, c30, o0, o1, o2, o3, o4, o5, o6, z0o, z1o, z2o]
  refine ⟨[.v z0, .v z1, .v z2], ap, ?_⟩
  simp only [o, p, mv, zz, ci, aW, aI, aev, bz, bv, cG, cD, aV, a9, vs, CV.cells, Ce.L.oneA, nth?, unV, br, bo, rvA, aw, List.cons_append, List.nil_append, List.length_cons, List.length_nil, List.append_nil, List.take, List.drop, true_and, and_true, Nat.reduceAdd, Nat.reduceLeDiff, aD, aj, aY, ai, aZ, Bool.and_self, o0, o1, o2, o3, o4, o5, o6, z0o, z1o, z2o]
  exact ⟨d0, _, p0, d1, _, p1, d2, _, p2, by omega, dW rfl⟩
theorem k32 (hap : Ap33) {cells : List CV} (hx : Tvs tXs cells) : ∃ d, CallOK tbl 32 cells d (2 ^ 34) := by
  obtain ⟨y0, cs0, rfl, h0, k0⟩ := aC hx
  obtain ⟨y1, cs1, rfl, h1, k1⟩ := aC k0
  obtain ⟨y2, cs2, rfl, h2, k2⟩ := aC k1
  obtain ⟨y3, cs3, rfl, h3, k3⟩ := aC k2
  obtain ⟨y4, cs4, rfl, h4, k4⟩ := aC k3
  obtain ⟨y5, cs5, rfl, h5, k5⟩ := aC k4
  obtain ⟨y6, cs6, rfl, h6, k6⟩ := aC k5
  obtain rfl := bC k6
  have o0 := aG h0 rfl
  have o1 := aG h1 rfl
  have o2 := aG h2 rfl
  have o3 := aG h3 rfl
  have o4 := aG h4 rfl
  have o5 := aG h5 rfl
  have o6 := aG h6 rfl
  obtain ⟨rs, hrs, ap⟩ := hap (aF (bS (aF h1 (aF h2 (aF h3 a6)))) a6)
  obtain ⟨r0, rs0, rfl, hr0, m0⟩ := hrs
  obtain ⟨r1, rs1, rfl, hr1, m1⟩ := m0
  have e : rs1 = [] := m1
  subst e
  obtain ⟨z1, rfl, t1⟩ := hr1
  have z1o := aG t1 rfl
  rcases hr0 with rfl | ⟨k'0, off0, len0, cap0, c0s, rfl, ls0, w0, n0⟩
  · obtain ⟨d0, p0⟩ := p19 gT
    obtain ⟨d1, p1⟩ := p13 t1
    refine cQ (t := 3) (rfl : tbl 32 = some c32) rfl rfl rfl (by simp [aD, o0, o1, o2, o3, o4, o5, o6]) ?_
    simp only [o, p, mv, zz, ci, aW, aI, aev, bz, bv, cG, cD, aV, a9, vs, CV.cells, Ce.L.oneA, nth?, unV, br, bo, rvA, aw, List.cons_append, List.nil_append, List.length_cons, List.length_nil, List.append_nil, List.take, List.drop, true_and, and_true, Nat.reduceAdd, Nat.reduceLeDiff, aD, aj, aY, ai, aZ, Bool.and_self, c32, o0, o1, o2, o3, o4, o5, o6, z1o]
    refine ⟨[.v .nils, .v z1], ap, ?_⟩
    simp only [o, p, mv, zz, ci, aW, aI, aev, bz, bv, cG, cD, aV, a9, vs, CV.cells, Ce.L.oneA, nth?, unV, br, bo, rvA, aw, List.cons_append, List.nil_append, List.length_cons, List.length_nil, List.append_nil, List.take, List.drop, true_and, and_true, Nat.reduceAdd, Nat.reduceLeDiff, aD, aj, aY, ai, aZ, Bool.and_self, o0, o1, o2, o3, o4, o5, o6, z1o]
    exact ⟨d0, _, p0, d1, _, p1, by omega, fY rfl rfl rfl rfl (bq rfl rfl (cZ rfl rfl)) rfl rfl (rfl)⟩
  · obtain ⟨d0, p0⟩ := q19 ls0 (Nat.le_refl _) rfl
    obtain ⟨d1, p1⟩ := p13 t1
    refine cQ (t := 3) (rfl : tbl 32 = some c32) rfl rfl rfl (by simp [aD, o0, o1, o2, o3, o4, o5, o6]) ?_
    simp only [o, p, mv, zz, ci, aW, aI, aev, bz, bv, cG, cD, aV, a9, vs, CV.cells, Ce.L.oneA, nth?, unV, br, bo, rvA, aw, List.cons_append, List.nil_append, List.length_cons, List.length_nil, List.append_nil, List.take, List.drop, true_and, and_true, Nat.reduceAdd, Nat.reduceLeDiff, aD, aj, aY, ai, aZ, Bool.and_self, c32, o0, o1, o2, o3, o4, o5, o6, z1o]
    refine ⟨[.s k'0 off0 len0 cap0 c0s, .v z1], ap, ?_⟩
    simp only [o, p, mv, zz, ci, aW, aI, aev, bz, bv, cG, cD, aV, a9, vs, CV.cells, Ce.L.oneA, nth?, unV, br, bo, rvA, aw, List.cons_append, List.nil_append, List.length_cons, List.length_nil, List.append_nil, List.take, List.drop, true_and, and_true, Nat.reduceAdd, Nat.reduceLeDiff, aD, aj, aY, ai, aZ, Bool.and_self, o0, o1, o2, o3, o4, o5, o6, z1o]
    exact ⟨d0, _, p0, d1, _, p1, by omega, fY rfl rfl rfl rfl (bq rfl rfl (cZ rfl rfl)) rfl rfl (⟨w0, by omega⟩)⟩
end Ha
namespace Ha
open Go Ce Ce.L Ce.S
theorem top (h7 : Ap7) (h11 : Ap11) (h15 : Ap15) (h18 : Ap18) (h23 : Ap23) (h25 : Ap25) (h28 : Ap28) (h31 : Ap31) (h33 : Ap33) (hw : ∀ h, Wf tbl (.fn 36) [] h fun v _ => v = .bool true) {x : CV} (hx : Tv tX x) (h : H) : Wf tbl (.fn 3) [x] h fun v _ => v = .bool true := by
  have ha := pall hx
  obtain ⟨cells, rfl, hc⟩ := gU hx
  refine top_ok (fcs := [10, 14, 17, 22, 24, 27, 30, 32]) (n := 7) (fa := 4) (fg := 5) (fs := 35) (fw := 36) (fc := 6) (rfl : tbl 3 = some c3) rfl rfl rfl rfl (rfl : tbl 5 = some (jE 35)) (rfl : tbl 35 = some jP) ha (by omega) (qK hc) (ni hc rfl) ?_ hw h
  intro g hg
  simp only [List.mem_cons, List.not_mem_nil, or_false] at hg
  rcases hg with rfl | rfl | rfl | rfl | rfl | rfl | rfl | rfl | rfl
  · exact k6 h7 hc
  · exact k10 h11 hc
  · exact k14 h15 hc
  · exact k17 h18 hc
  · exact k22 h23 hc
  · exact k24 h25 hc
  · exact k27 h28 hc
  · exact k30 h31 hc
  · exact k32 h33 hc
end Ha
