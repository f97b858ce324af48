/- A part of a proof. -/
import Derived.Test.YtglkncbccadnoadGreatLxA
import Derived.Test.YtglkncbccadnoadGreatTab
set_option linter.unusedVariables false
set_option linter.unusedSimpArgs false
set_option maxRecDepth 1000000
namespace Cl
open Go Ce Ce.L Ce.S
theorem p8{x:CV}(hx:Tv tI x):∃d,dM tbl 8 [.v x] d 1:=by
  obtain ⟨n,rfl⟩:=qN0 hx;exact ⟨_,sG (rfl:tbl 8=some qIB) _ n⟩
theorem p9{x:CV}(hx:Tv tI x):∃d,dM tbl 9 [.v x] d 1:=by
  obtain ⟨n,rfl⟩:=qN0 hx;exact ⟨_,sG (rfl:tbl 9=some qIB) _ n⟩
theorem q13{s:Ce.L.AV}{N:Nat}(hs:rt [tI] 1 none s N)(hN:N≤2 ^ 30)(hb:noBx s=true):∃d,dM tbl 13 [s] d (1+N*1):=by
  obtain ⟨d,h⟩:=jz (gf:=8) (B:=1) (rfl:tbl 56=some (py 1 none)) hs hN (fun u hu=>by
    obtain ⟨T,e,hT⟩:=hu;simp only [List.cons.injEq,and_true] at e;subst e;exact p8 hT)
  refine iq (rfl:tbl 13=some c13) rfl rfl rfl (by simp [jI,hb]) ?_;simp only [o,p,mv,zz,ci,aW,aI,aev,dq,dm,eE,du,au,bB,vs,CV.cells,Ce.L.oneA,nth?,unV,dj,da,rvA,bh,List.cons_append,List.nil_append,List.length_cons,List.length_nil,List.append_nil,List.take,List.drop,true_and,and_true,Nat.reduceAdd,Nat.reduceLeDiff,c13];exact ⟨d,_,h,by omega⟩
theorem p13{x:CV}(hx:Tv (tL [tI]) x):∃d,dM tbl 13 [.v x] d 1048577:=q13 (tZ hx rfl) (by omega) rfl
theorem p23{x:CV}(hx:Tv (.agg [tI,tI]) x):∃d,dM tbl 23 [.v x] d 2:=by
  obtain ⟨cs,rfl,k0⟩:=kf hx;clear hx;obtain ⟨y0,cs,rfl,h0,k1⟩:=aD k0;clear k0;obtain ⟨y1,cs,rfl,h1,k2⟩:=aD k1;clear k1;obtain rfl:=cJ k2;have o0:=aK h0 rfl;have o1:=aK h1 rfl;obtain ⟨d0,p0⟩:=p8 h0;obtain ⟨d1,p1⟩:=p8 h1;refine iq (rfl:tbl 23=some c23) rfl rfl rfl rfl ?_;simp only [o,p,mv,zz,ci,aW,aI,aev,dq,dm,eE,du,au,bB,vs,CV.cells,Ce.L.oneA,nth?,unV,dj,da,rvA,bh,List.cons_append,List.nil_append,List.length_cons,List.length_nil,List.append_nil,List.take,List.drop,true_and,and_true,Nat.reduceAdd,Nat.reduceLeDiff,c23,o0,o1];exact ⟨d0,_,p0,d1,_,p1,by omega⟩
theorem p89{x:CV}(hx:Tv .str x):∃d,dM tbl 89 [.v x] d 1:=by
  obtain ⟨n,rfl⟩:=Tv_str hx;exact ⟨_,qD0 (rfl:tbl 89=some zA8) n⟩
theorem q70{s:Ce.L.AV}{N:Nat}(hs:rt [.str] 1 none s N)(hN:N≤2 ^ 30)(hb:noBx s=true):∃d,dM tbl 70 [s] d (1+N*1):=by
  obtain ⟨d,h⟩:=jz (gf:=89) (B:=1) (rfl:tbl 88=some (py 1 none)) hs hN (fun u hu=>by
    obtain ⟨T,e,hT⟩:=hu;simp only [List.cons.injEq,and_true] at e;subst e;exact p89 hT)
  refine iq (rfl:tbl 70=some c70) rfl rfl rfl (by simp [jI,hb]) ?_;simp only [o,p,mv,zz,ci,aW,aI,aev,dq,dm,eE,du,au,bB,vs,CV.cells,Ce.L.oneA,nth?,unV,dj,da,rvA,bh,List.cons_append,List.nil_append,List.length_cons,List.length_nil,List.append_nil,List.take,List.drop,true_and,and_true,Nat.reduceAdd,Nat.reduceLeDiff,c70];exact ⟨d,_,h,by omega⟩
theorem p70{x:CV}(hx:Tv (tL [.str]) x):∃d,dM tbl 70 [.v x] d 1048577:=q70 (tZ hx rfl) (by omega) rfl
theorem p91{x:CV}(hx:Tv (.agg [(tL [tI]),tI,tI,tI]) x):∃d,dM tbl 91 [.v x] d 1048580:=by
  obtain ⟨cs,rfl,k0⟩:=kf hx;clear hx;obtain ⟨y0,cs,rfl,h0,k1⟩:=aD k0;clear k0;obtain ⟨y1,cs,rfl,h1,k2⟩:=aD k1;clear k1;obtain ⟨y2,cs,rfl,h2,k3⟩:=aD k2;clear k2;obtain ⟨y3,cs,rfl,h3,k4⟩:=aD k3;clear k3;obtain rfl:=cJ k4;have o0:=aK h0 rfl;have o1:=aK h1 rfl;have o2:=aK h2 rfl;have o3:=aK h3 rfl;obtain ⟨d0,p0⟩:=p13 h0;obtain ⟨d1,p1⟩:=p23 (cf (aG h1 (aG h2 aw)));obtain ⟨d2,p2⟩:=p8 h3;refine iq (rfl:tbl 91=some c91) rfl rfl rfl rfl ?_;simp only [o,p,mv,zz,ci,aW,aI,aev,dq,dm,eE,du,au,bB,vs,CV.cells,Ce.L.oneA,nth?,unV,dj,da,rvA,bh,List.cons_append,List.nil_append,List.length_cons,List.length_nil,List.append_nil,List.take,List.drop,true_and,and_true,Nat.reduceAdd,Nat.reduceLeDiff,c91,o0,o1,o2,o3];exact ⟨d0,_,p0,d1,_,p1,d2,_,p2,by omega⟩
theorem q71{s:Ce.L.AV}{N:Nat}(hs:rt [(tL [tI]),tI,tI,tI] 4 (some 4) s N)(hN:N≤2 ^ 30)(hb:noBx s=true):∃d,dM tbl 71 [s] d (1+N*1048580):=by
  obtain ⟨d,h⟩:=jz (gf:=91) (B:=1048580) (rfl:tbl 90=some (py 4 (some 4))) hs hN (fun u hu=>by
    exact p91 hu)
  refine iq (rfl:tbl 71=some c71) rfl rfl rfl (by simp [jI,hb]) ?_;simp only [o,p,mv,zz,ci,aW,aI,aev,dq,dm,eE,du,au,bB,vs,CV.cells,Ce.L.oneA,nth?,unV,dj,da,rvA,bh,List.cons_append,List.nil_append,List.length_cons,List.length_nil,List.append_nil,List.take,List.drop,true_and,and_true,Nat.reduceAdd,Nat.reduceLeDiff,c71];exact ⟨d,_,h,by omega⟩
theorem p71{x:CV}(hx:Tv (tL [(tL [tI]),tI,tI,tI]) x):∃d,dM tbl 71 [.v x] d 1099515822081:=q71 (oM hx rfl) (by omega) rfl
theorem p93{x:CV}(hx:Tv (.agg [tI,tI,tI]) x):∃d,dM tbl 93 [.v x] d 3:=by
  obtain ⟨cs,rfl,k0⟩:=kf hx;clear hx;obtain ⟨y0,cs,rfl,h0,k1⟩:=aD k0;clear k0;obtain ⟨y1,cs,rfl,h1,k2⟩:=aD k1;clear k1;obtain ⟨y2,cs,rfl,h2,k3⟩:=aD k2;clear k2;obtain rfl:=cJ k3;have o0:=aK h0 rfl;have o1:=aK h1 rfl;have o2:=aK h2 rfl;obtain ⟨d0,p0⟩:=p8 h0;obtain ⟨d1,p1⟩:=p8 h1;obtain ⟨d2,p2⟩:=p8 h2;refine iq (rfl:tbl 93=some c93) rfl rfl rfl rfl ?_;simp only [o,p,mv,zz,ci,aW,aI,aev,dq,dm,eE,du,au,bB,vs,CV.cells,Ce.L.oneA,nth?,unV,dj,da,rvA,bh,List.cons_append,List.nil_append,List.length_cons,List.length_nil,List.append_nil,List.take,List.drop,true_and,and_true,Nat.reduceAdd,Nat.reduceLeDiff,c93,o0,o1,o2];exact ⟨d0,_,p0,d1,_,p1,d2,_,p2,by omega⟩
theorem q72{s:Ce.L.AV}{N:Nat}(hs:rt [tI,tI,tI] 3 (some 3) s N)(hN:N≤2 ^ 30)(hb:noBx s=true):∃d,dM tbl 72 [s] d (1+N*3):=by
  obtain ⟨d,h⟩:=jz (gf:=93) (B:=3) (rfl:tbl 92=some (py 3 (some 3))) hs hN (fun u hu=>by
    exact p93 hu)
  refine iq (rfl:tbl 72=some c72) rfl rfl rfl (by simp [jI,hb]) ?_;simp only [o,p,mv,zz,ci,aW,aI,aev,dq,dm,eE,du,au,bB,vs,CV.cells,Ce.L.oneA,nth?,unV,dj,da,rvA,bh,List.cons_append,List.nil_append,List.length_cons,List.length_nil,List.append_nil,List.take,List.drop,true_and,and_true,Nat.reduceAdd,Nat.reduceLeDiff,c72];exact ⟨d,_,h,by omega⟩
theorem p72{x:CV}(hx:Tv (tL [tI,tI,tI]) x):∃d,dM tbl 72 [.v x] d 3145729:=q72 (oM hx rfl) (by omega) rfl
theorem p95{x:CV}(hx:Tv (.agg [tI,tI,tI]) x):∃d,dM tbl 95 [.v x] d 3:=by
  obtain ⟨cs,rfl,k0⟩:=kf hx;clear hx;obtain ⟨y0,cs,rfl,h0,k1⟩:=aD k0;clear k0;obtain ⟨y1,cs,rfl,h1,k2⟩:=aD k1;clear k1;obtain ⟨y2,cs,rfl,h2,k3⟩:=aD k2;clear k2;obtain rfl:=cJ k3;have o0:=aK h0 rfl;have o1:=aK h1 rfl;have o2:=aK h2 rfl;obtain ⟨d0,p0⟩:=p8 h0;obtain ⟨d1,p1⟩:=p8 h1;obtain ⟨d2,p2⟩:=p8 h2;refine iq (rfl:tbl 95=some c95) rfl rfl rfl rfl ?_;simp only [o,p,mv,zz,ci,aW,aI,aev,dq,dm,eE,du,au,bB,vs,CV.cells,Ce.L.oneA,nth?,unV,dj,da,rvA,bh,List.cons_append,List.nil_append,List.length_cons,List.length_nil,List.append_nil,List.take,List.drop,true_and,and_true,Nat.reduceAdd,Nat.reduceLeDiff,c95,o0,o1,o2];exact ⟨d0,_,p0,d1,_,p1,d2,_,p2,by omega⟩
theorem q73{s:Ce.L.AV}{N:Nat}(hs:rt [tI,tI,tI] 3 (some 3) s N)(hN:N≤2 ^ 30)(hb:noBx s=true):∃d,dM tbl 73 [s] d (1+N*3):=by
  obtain ⟨d,h⟩:=jz (gf:=95) (B:=3) (rfl:tbl 94=some (py 3 (some 3))) hs hN (fun u hu=>by
    exact p95 hu)
  refine iq (rfl:tbl 73=some c73) rfl rfl rfl (by simp [jI,hb]) ?_;simp only [o,p,mv,zz,ci,aW,aI,aev,dq,dm,eE,du,au,bB,vs,CV.cells,Ce.L.oneA,nth?,unV,dj,da,rvA,bh,List.cons_append,List.nil_append,List.length_cons,List.length_nil,List.append_nil,List.take,List.drop,true_and,and_true,Nat.reduceAdd,Nat.reduceLeDiff,c73];exact ⟨d,_,h,by omega⟩
theorem p73{x:CV}(hx:Tv (tL [tI,tI,tI]) x):∃d,dM tbl 73 [.v x] d 3145729:=q73 (oM hx rfl) (by omega) rfl
theorem p34{x:CV}(hx:Tv (.agg [(tL [.str]),(tL [tI]),(tL [(tL [tI]),tI,tI,tI]),(tL [tI,tI,tI]),(tL [tI,tI,tI])]) x):∃d,dM tbl 34 [.v x] d 1099524210693:=by
  obtain ⟨cs,rfl,k0⟩:=kf hx;clear hx;obtain ⟨y0,cs,rfl,h0,k1⟩:=aD k0;clear k0;obtain ⟨y1,cs,rfl,h1,k2⟩:=aD k1;clear k1;obtain ⟨y2,cs,rfl,h2,k3⟩:=aD k2;clear k2;obtain ⟨y3,cs,rfl,h3,k4⟩:=aD k3;clear k3;obtain ⟨y4,cs,rfl,h4,k5⟩:=aD k4;clear k4;obtain rfl:=cJ k5;have o0:=aK h0 rfl;have o1:=aK h1 rfl;have o2:=aK h2 rfl;have o3:=aK h3 rfl;have o4:=aK h4 rfl;obtain ⟨d0,p0⟩:=p70 h0;obtain ⟨d1,p1⟩:=p13 h1;obtain ⟨d2,p2⟩:=p71 h2;obtain ⟨d3,p3⟩:=p72 h3;obtain ⟨d4,p4⟩:=p73 h4;refine iq (rfl:tbl 34=some c34) rfl rfl rfl rfl ?_;simp only [o,p,mv,zz,ci,aW,aI,aev,dq,dm,eE,du,au,bB,vs,CV.cells,Ce.L.oneA,nth?,unV,dj,da,rvA,bh,List.cons_append,List.nil_append,List.length_cons,List.length_nil,List.append_nil,List.take,List.drop,true_and,and_true,Nat.reduceAdd,Nat.reduceLeDiff,c34,o0,o1,o2,o3,o4];exact ⟨d0,_,p0,d1,_,p1,d2,_,p2,d3,_,p3,d4,_,p4,by omega⟩
def tX:Ty:=(.agg [(tL [.str]),(tL [tI]),(tL [(tL [tI]),tI,tI,tI]),(tL [tI,tI,tI]),(tL [tI,tI,tI]),tI,tI,tI,tI])
theorem pall{x:CV}(hx:Tv tX x):∃d,tc tbl 4 x d 1099524210697:=by
  obtain ⟨cs,rfl,k0⟩:=kf hx;clear hx;obtain ⟨y0,cs,rfl,h0,k1⟩:=aD k0;clear k0;obtain ⟨y1,cs,rfl,h1,k2⟩:=aD k1;clear k1;obtain ⟨y2,cs,rfl,h2,k3⟩:=aD k2;clear k2;obtain ⟨y3,cs,rfl,h3,k4⟩:=aD k3;clear k3;obtain ⟨y4,cs,rfl,h4,k5⟩:=aD k4;clear k4;obtain ⟨y5,cs,rfl,h5,k6⟩:=aD k5;clear k5;obtain ⟨y6,cs,rfl,h6,k7⟩:=aD k6;clear k6;obtain ⟨y7,cs,rfl,h7,k8⟩:=aD k7;clear k7;obtain ⟨y8,cs,rfl,h8,k9⟩:=aD k8;clear k8;obtain rfl:=cJ k9;have o0:=aK h0 rfl;have o1:=aK h1 rfl;have o2:=aK h2 rfl;have o3:=aK h3 rfl;have o4:=aK h4 rfl;have o5:=aK h5 rfl;have o6:=aK h6 rfl;have o7:=aK h7 rfl;have o8:=aK h8 rfl;obtain ⟨d0,p0⟩:=p34 (cf (aG h0 (aG h1 (aG h2 (aG h3 (aG h4 aw))))));obtain ⟨d1,p1⟩:=p8 h5;obtain ⟨d2,p2⟩:=p8 h6;obtain ⟨d3,p3⟩:=p8 h7;obtain ⟨d4,p4⟩:=p8 h8;refine all_of (rfl:tbl 4=some c4) rfl rfl rfl ?_;simp only [o,p,mv,zz,ci,aW,aI,aev,dq,dm,eE,du,au,bB,vs,CV.cells,Ce.L.oneA,nth?,unV,dj,da,rvA,bh,List.cons_append,List.nil_append,List.length_cons,List.length_nil,List.append_nil,List.take,List.drop,true_and,and_true,Nat.reduceAdd,Nat.reduceLeDiff,c4,o0,o1,o2,o3,o4,o5,o6,o7,o8];exact ⟨d0,_,p0,d1,_,p1,d2,_,p2,d3,_,p3,d4,_,p4,by omega⟩
end Cl
namespace Cl
open Go Ce Ce.S
def U:S.AV:=.tup []
def I(s:Nat)(c:Int):S.AV:=.int .i64 s c
def Z(s:Nat):S.AV:=.int .i64 s 0
def Y(s:Nat):S.AV:=.sym s
def D(x y:Nat)(c:Int):Fact:=.dc x y c
def O(b:Nat):S.AV:=.ptr b 0
def B(b:Nat)(l:List S.AV):BE:=.blk b (.cells l) false
def zs:Nat→Nat→List S.AV
  | _,0=>[]
  | k,n+1=>.int .i64 k 0::zs (k+1) n
def fu:Nat→Nat→List Fact
  | _,0=>[]
  | k,n+1=>.dc k 0 9223372036854775807::.dc 0 k 9223372036854775808::fu (k+1) n
def ys:Nat→Nat→List S.AV
  | _,0=>[]
  | k,n+1=>.sym k::ys (k+1) n
def us:Nat→List S.AV
  | 0=>[]
  | n+1=>.tup []::us n
def X8:Int:=9223372036854775808
def X7:Int:=9223372036854775807
def J:Ty:=.int .i64 ⟨0,-9223372036854775808⟩ ⟨0,9223372036854775807⟩
end Cl
namespace Cl
open Go Ce Ce.S
def wAa(a b c d:Nat):List S.AV:=([(Y a),(Y (a+1)),(.clo b [] [(O 6)]),U,U,U,(Y (a+2)),(Y (a+3)),(Y (a+8)),(Y (a+9)),(Y (a+10))]++ys (a+4) 4++[(Y c),(Z d),(Z (a+11))]++ys (a+12) 10++[U,U,(Y (a+22))])
def wAb:List S.AV:=([(Y 34),(Y 31),U,U,(Y 36),(Y 38),(Y 37),(Z 35),(Z 39)]++ys 40 8++[U,(Y 48)])
def wAc:List S.AV:=([(Y 32),(Y 33),(.clo 40 [] []),U,U,U,(Y 34),(Y 35),(Y 40),(Y 41),(Y 42)]++ys 36 4++[(Y 2),(Z 31),(Z 43)]++ys 44 10++[U,U,(Y 54)])
def wAd(a b c d:Nat):List S.AV:=([(O a),(Y b),U,(O c),(Y (b+1)),(O (c+2))]++ys (b+7) 4++ys (b+2) 5++[(Y 4),(Z d),(Z (b+11))]++ys (b+12) 52)
def wAe(a b c d e:Nat):List S.AV:=([(O a),(Y b),U,(O c),(Y (b+1)),(O (c+2)),(Z (b+11)),(O (b+67)),(Y (b+70)),(Y (b+71))]++ys (b+2) 5++[(Y 4),(Z d),(Z (b+11)),(.bool true),(Z (b+11)),(.rptr (zs (b+64) 3)),(.agg (zs (b+64) 3)),(O a),(O a),(.ptr a 5),(Z e),(Z (b+11)),(Z (b+68)),(Z (b+69))]++ys (b+72) 40++[(Y (b+63))])
def wAf(a b c d e:Nat):List S.AV:=([(O a),(Y b),U,(O c),(Y (b+1)),(O (c+2)),(Z (b+11)),(O (b+67)),(Z (b+85)),(Z (b+74))]++ys (b+2) 5++[(Y 4),(Z d),(Z (b+11)),(.bool true),(Z (b+11)),(.rptr (zs (b+64) 3)),(.agg (zs (b+64) 3)),(O a),(O a),(.ptr a 5),(Z e),(Z (b+11)),(Z (b+68)),(Z (b+69)),(.bool false),(.ptr (b+67) 1),(Z (b+65)),(Y (b+86)),(Z (b+87)),(O a),(O a),(O a),(.ptr a 2),(Y 3),(.ptr (b+67) 1),(Z (b+65)),(Y (b+88)),(Y (b+89)),(Y (b+90)),(.ptr (b+67) 2),(Z (b+66)),(Z (b+74))]++ys (b+41) 23)
def wAg(a b c d e:Nat):List S.AV:=([(O a),(Y b),U,(O c),(Y (b+1)),(O (c+2)),(Z (b+11)),(O (b+67)),(Z (b+92)),(Z (b+94))]++ys (b+2) 5++[(Y 4),(Z d),(Z (b+11)),(.bool true),(Z (b+11)),(.rptr (zs (b+64) 3)),(.agg (zs (b+64) 3)),(O a),(O a),(.ptr a 5),(Z e),(Z (b+11)),(Z (b+68)),(Z (b+69)),(.bool false),(.ptr (b+67) 1),(Z (b+65)),(Y (b+86)),(Z (b+87)),(O a),(O a),(O a),(.ptr a 2),(Y 3),(.ptr (b+67) 1),(Z (b+65)),(Y (b+88)),(Y (b+89)),(Y (b+90)),(.ptr (b+67) 2),(Z (b+66)),(Z (b+74)),(O (b+67)),(Z (b+64))]++ys (b+95) 11++ys (b+54) 10)
def wAh(a b c d e:Nat):List S.AV:=([(O a),(Y b),U,(O c),(Y (b+1)),(O (c+2)),(Z (b+11)),(O (b+67)),(Z (b+92)),(Z (b+94))]++ys (b+2) 5++[(Y 4),(Z d),(Z (b+11)),(.bool true),(Z (b+11)),(.rptr (zs (b+64) 3)),(.agg (zs (b+64) 3)),(O a),(O a),(.ptr a 5),(Z e),(Z (b+11)),(Z (b+68)),(Z (b+69)),(.bool false),(.ptr (b+67) 1),(Z (b+65)),(Y (b+86)),(Z (b+87)),(O a),(O a),(O a),(.ptr a 2),(Y 3),(.ptr (b+67) 1),(Z (b+65)),(Y (b+88)),(Y (b+89)),(Y (b+90)),(.ptr (b+67) 2),(Z (b+66)),(Z (b+74)),(O (b+67)),(Z (b+64))]++ys (b+95) 11++[(O (b+67)),(Z (b+64)),(.iptr (c+2) 0 1 ⟨(b+64),0⟩),(.iptr (c+2) 0 1 ⟨(b+64),0⟩),(Y (b+106)),(Z (b+92)),(Z (b+94)),(Y (b+107)),(Y (b+108)),(Y (b+63))])
def wAi(a b:Nat):List S.AV:=([(Z 0),(Y a),(O b),(Y (a+1)),(Y (a+2)),(Y (a+3)),(O (b+2)),U,(Y (a+4)),(O (b+3)),(Z (a+24))]++ys (a+5) 8++us 13++ys (a+13) 11++ys (a+25) 14)
def wAj(a b c d:Nat):List S.AV:=([(O a),(Y b),U,(O c),(Z (b+81)),(Y (b+1)),(Y (b+2)),(Y (b+17)),(Y (b+18)),(Y (b+47)),(Y (b+48)),(Y (b+49))]++ys (b+3) 10++[U]++ys (b+13) 4++[(Y 5),(Z d),(Z (b+19))]++ys (b+20) 26++ys (b+50) 28++ys (b+82) 10++[(Y (b+78)),(Y (b+79)),(Y (b+80))]++ys (b+92) 4++[(Y (b+46))]++us 7)
def wAk(a b c d:Nat):List S.AV:=([(O a),(Y b),U,(O c),(Z (c+82)),(Y (b+1)),(Y (b+2)),(Z (c+20)),(O (c+100))]++ys (b+3) 13++[U]++ys (b+16) 4++[(Y 5),(Z d),(Z (c+20))]++ys (b+20) 30++[(Y 5),(Z d),(Z (b+89))]++ys (b+50) 39++us 7)
def wAl(a b c d:Nat):List S.AV:=([(Z a),(Y b),U,U,(Y (b+1)),(.slc 1 c 0 ⟨0,0⟩ ⟨d,0⟩ ⟨d,0⟩),(Z (b+4)),(Y (b+5)),(Y (b+2)),(Y (b+3)),(Z d),(Z (b+6))]++ys (b+7) 16++[U,U,U])
def wAm(a b c:Nat):List S.AV:=([(.slc 1 a 0 ⟨0,0⟩ ⟨(a+5),0⟩ ⟨b,0⟩),(.clo 85 [] [(O c),(O (c+2))]),U,U,(Y (a+24)),(Y (a+26)),(Y (a+25)),(Z (a+5)),(Z (a+27))]++ys (a+28) 8++[U,(Y (a+36))])
def wAn(a b:Nat):List S.AV:=([(O a),(Y (a+13)),U,(O (a+10)),(Y (a+14)),(O (a+12)),(Y (a+20)),(Y (a+21)),U,U]++ys (a+15) 5++[(Y 4),(Z b),(Z 0)]++ys (a+22) 12++us 39++[(Y (a+34))])
def wAo(a b c d:Nat):List S.AV:=([(O a),(Y b),U,(O c),(Z 0),(Y (b+1)),(Y (b+2))]++us 5++ys (b+3) 10++[U]++ys (b+13) 4++[(Y 5),(Z d),(Z 0)]++us 79)
def wAp(a b c d:Nat):List S.AV:=([(O a),(Y b),U,(O c),(Y (b+1)),(O (c+2)),U,U,U,U]++ys (b+2) 5++[(Y 4),(Z d),(Z 0)]++us 52)
def wAq(a b c d:Nat):List S.AV:=([(Z a),(Y b),U,U,(Y (b+1)),(.slc 1 c 0 ⟨0,0⟩ ⟨d,0⟩ ⟨d,0⟩),(Z 0),U,(Y (b+2)),(Y (b+3)),(Z d),(Z 0)]++us 19)
def wAr(a b c d:Nat):List S.AV:=([(Y a),(Y (a+1)),(O 8),(O 9),(O 10),(Y (a+2)),(Y (a+3)),(O b),(Y (a+4)),(Z (a+25)),U,(Y (a+26))]++ys (a+5) 11++[U,U]++ys (a+16) 9++[(.slc 1 c 0 ⟨0,0⟩ ⟨(c+5),0⟩ ⟨d,0⟩),(Z (c+5)),(Z (a+27))]++ys (a+28) 25++us 14)
def wAs(a b:Nat):List S.AV:=([(Y a),(Y (a+1)),(O 8),(Z 0),(O b),(Y (a+11)),U]++ys (a+2) 7++[U,(Y (a+9)),(Y (a+10)),(Z 59),(Z (a+12))]++ys (a+13) 4++us 10++[(Y (a+17)),U])
def wAt(a b:Nat):List S.AV:=(ys a 6++[(Z (a+40)),(Z (a+27))]++ys (a+6) 4++[U,U,(Y (a+28)),(Y (a+29))]++ys (a+10) 15++[U,(Y (a+25)),(Y (a+26))]++us 24++[(.agg (zs b 4)),(Z (a+30))]++ys (a+31) 9++[U,U,U,U])
def wAu(a b:Nat):List S.AV:=([(Y a),(O 7),.nils,(Y (a+1)),(.bool false),(Y (a+13)),(Y (a+14))]++ys (a+2) 8++[U,(Y (a+10)),(Y (a+11)),(Y (a+12)),(Z b),(Z (a+15))]++ys (a+16) 9++us 18++ys (a+25) 5++[U,(Y (a+30)),U])
def wAv(a b c:Nat):List S.AV:=([(Y a),(O 7),(.slc 1 b 0 ⟨0,0⟩ ⟨(b+5),0⟩ ⟨c,0⟩),(Y (a+1)),(.bool true)]++ys (a+2) 10++[U,(Y (a+12)),(Y (a+13)),(Y (a+14)),(Z (c+48)),(Z (a+31))]++ys (a+15) 9++ys (a+32) 18++ys (a+24) 7++[U])
def wAw(a b:Nat):List S.AV:=([(.slc 1 a 0 ⟨0,0⟩ ⟨(a+5),0⟩ ⟨b,0⟩),(.slc 1 (b+62) 0 ⟨0,0⟩ ⟨(b+67),0⟩ ⟨b,0⟩),U,U]++ys (a+24) 5++[(.slc 1 a 0 ⟨0,0⟩ ⟨(a+5),0⟩ ⟨b,0⟩),(Z (a+5)),(Z (a+29))]++ys (a+30) 17++[U,(Y (a+47))]++us 5)
def wAx:Fact:=.row 3 ⟨0,0⟩ ([(Y 60)]++zs 61 3)
def wAy:Fact:=.row 3 ⟨0,0⟩ ([(Y 61)]++zs 62 3)
def wAz:Fact:=.ty 3 (.lst [(.lst [J] ⟨0,0⟩ ⟨0,1048576⟩),J,J,J] ⟨0,0⟩ ⟨0,1048576⟩)
def wAA:Fact:=.row 3 ⟨0,1⟩ ([(Y 99)]++zs 100 3)
def wAB:Fact:=.row 3 ⟨0,1⟩ ([(Y 98)]++zs 99 3)
def wAC:BE:=B 8 (ys 1 5)
def wAD:BE:=B 7 (ys 1 5)
def wAE:Fact:=.ty 61 (.lst [(.int .i64 ⟨0,0⟩ ⟨90,(-1)⟩)] ⟨0,0⟩ ⟨0,8⟩)
def wAF:Fact:=.row 3 ⟨0,2⟩ ([(Y 137)]++zs 138 3)
def wAG:BE:=.map 264 true [(.i .i64),(.i .i64),(.i .i64),(.i .i64)] J none
def wAH:BE:=.map 226 true [(.i .i64),(.i .i64),(.i .i64),(.i .i64)] J none
def wAI:Fact:=.row 3 ⟨0,2⟩ ([(Y 136)]++zs 137 3)
def wAJ:Fact:=.ty 99 (.lst [(.int .i64 ⟨0,0⟩ ⟨128,(-1)⟩)] ⟨0,0⟩ ⟨0,8⟩)
def wAK:BE:=.map 188 true [(.i .i64),(.i .i64),(.i .i64),(.i .i64)] J none
def wAL:BE:=.blk 124 (.cells [(.clo 114 [] []),(.clo 115 [] []),(.clo 116 [] []),(.clo 117 [] [])]) false
def wAM:BE:=.map 265 true [(.i .i64),(.i .i64),(.i .i64),(.i .i64)] J none
def wAN:BE:=.map 150 true [(.i .i64),(.i .i64),(.i .i64),(.i .i64)] J none
def wAO:BE:=.map 227 true [(.i .i64),(.i .i64),(.i .i64),(.i .i64)] J none
def wAP:BE:=.blk 123 (.cells [(.clo 114 [] []),(.clo 115 [] []),(.clo 116 [] []),(.clo 117 [] [])]) false
def wAQ:BE:=B 9 (ys 1 5)
def wAR:BE:=.blk 120 (.cells [(.clo 84 [] [(O 114),(O 118),(O 119),(O 117),(O 116),(O 120)])]) false
def wAS:BE:=B 9 [(Z 6)]
def wAT:BE:=B 10 (ys 1 5)
def wAU:BE:=.map 189 true [(.i .i64),(.i .i64),(.i .i64),(.i .i64)] J none
def wAV:BE:=.map 267 true [(.i .i64),(.i .i64),(.i .i64),(.i .i64)] J none
def wAW:Fact:=.ty 137 (.lst [(.int .i64 ⟨0,0⟩ ⟨166,(-1)⟩)] ⟨0,0⟩ ⟨0,8⟩)
def wAX:BE:=.blk 292 (.cells [(.clo 114 [] []),(.clo 115 [] []),(.clo 116 [] []),(.clo 117 [] [])]) false
def wAY:BE:=.blk 291 (.cells [(.clo 114 [] []),(.clo 115 [] []),(.clo 116 [] []),(.clo 117 [] [])]) false
def wAZ:BE:=.blk 371 (.cells [(.clo 114 [] []),(.clo 115 [] []),(.clo 116 [] []),(.clo 117 [] [])]) false
def wA0:BE:=.blk 370 (.cells [(.clo 114 [] []),(.clo 115 [] []),(.clo 116 [] []),(.clo 117 [] [])]) false
def wA1:BE:=.blk 451 (.cells [(.clo 114 [] []),(.clo 115 [] []),(.clo 116 [] []),(.clo 117 [] [])]) false
def wA2:BE:=.blk 450 (.cells [(.clo 114 [] []),(.clo 115 [] []),(.clo 116 [] []),(.clo 117 [] [])]) false
def wA3:BE:=.map 151 true [(.i .i64),(.i .i64),(.i .i64),(.i .i64)] J none
def wA4:BE:=.map 229 true [(.i .i64),(.i .i64),(.i .i64),(.i .i64)] J none
def wA5:Fact:=.row 3 ⟨0,3⟩ ([(Y 175)]++zs 176 3)
def wA6:BE:=B 266 (ys 1 5++[(Z 0),(.map 265)])
def wA7:BE:=B 12 (ys 1 5)
def wA8:BE:=.map 263 true [(.i .i64),(.i .i64),(.i .i64),(.i .i64)] J none
def wA9:BE:=.map 191 true [(.i .i64),(.i .i64),(.i .i64),(.i .i64)] J none
def wBa:BE:=.map 270 true [(.i .i64),(.i .i64),(.i .i64),(.i .i64)] J none
def wBb:BE:=.blk 214 (.cells [(.clo 114 [] []),(.clo 115 [] []),(.clo 116 [] []),(.clo 117 [] [])]) false
def wBc:BE:=.blk 213 (.cells [(.clo 114 [] []),(.clo 115 [] []),(.clo 116 [] []),(.clo 117 [] [])]) false
def wBd:BE:=.blk 125 (.cells [(.clo 114 [] []),(.clo 115 [] []),(.clo 116 [] []),(.clo 117 [] [])]) false
def wBe:BE:=.blk 128 (.cells [(.clo 114 [] []),(.clo 115 [] []),(.clo 116 [] []),(.clo 117 [] [])]) false
def wBf:BE:=.blk 127 (.cells [(.clo 114 [] []),(.clo 115 [] []),(.clo 116 [] []),(.clo 117 [] [])]) false
def wBg:BE:=.blk 277 (.cells [(.clo 84 [] [(O 271),(O 275),(O 276),(O 274),(O 273),(O 277)])]) false
def wBh:BE:=.blk 399 (.cells [(.clo 84 [] [(O 393),(O 397),(O 398),(O 396),(O 395),(O 399)])]) false
def wBi:BE:=.blk 400 (.cells [(.clo 84 [] [(O 394),(O 398),(O 399),(O 397),(O 396),(O 400)])]) false
def wBj:BE:=.blk 398 (.cells [(.clo 84 [] [(O 392),(O 396),(O 397),(O 395),(O 394),(O 398)])]) false
def wBk:BE:=.blk 124 (.cells [(.clo 84 [] [(O 118),(O 122),(O 123),(O 121),(O 120),(O 124)])]) false
def wBl:BE:=.blk 401 (.cells [(.clo 84 [] [(O 395),(O 399),(O 400),(O 398),(O 397),(O 401)])]) false
def wBm:BE:=.blk 418 (.cells [(.clo 84 [] [(O 412),(O 416),(O 417),(O 415),(O 414),(O 418)])]) false
def wBn:BE:=.blk 404 (.cells [(.clo 84 [] [(O 398),(O 402),(O 403),(O 401),(O 400),(O 404)])]) false
def wBo:Fact:=.row 3 ⟨0,3⟩ ([(Y 174)]++zs 175 3)
def wBp:BE:=B 228 (ys 1 5++[(Z 0),(.map 227)])
def wBq:BE:=B 122 [(Z 0),(Z 0),(Z 0),(Z 0)]
def wBr:BE:=.map 225 true [(.i .i64),(.i .i64),(.i .i64),(.i .i64)] J none
def wBs:BE:=.map 153 true [(.i .i64),(.i .i64),(.i .i64),(.i .i64)] J none
def wBt:BE:=.map 232 true [(.i .i64),(.i .i64),(.i .i64),(.i .i64)] J none
def wBu:Fact:=.ty 2 (.lst [J] ⟨0,0⟩ ⟨0,1048576⟩)
def wBv:BE:=.blk 120 (.rows 1 [(.int .i64 ⟨0,0⟩ ⟨58,(-1)⟩)] ⟨58,0⟩) false
def wBw:BE:=B 190 (ys 1 5++[(Z 0),(.map 189)])
def wBx:BE:=B 112 (ys 1 5++[(Z 0),(.map 111)])
def wBy:BE:=B 268 (ys 1 5++[(Z 0),(.map 267)])
def wBz:BE:=B 265 (ys 1 5++[(Z 0),(.map 264)])
def wBA:BE:=.blk 126 (.cells [(.clo 114 [] []),(.clo 115 [] []),(.clo 116 [] []),(.clo 117 [] [])]) false
def wBB:BE:=.blk 117 (.cells [(.clo 83 [(O 112)] [])]) false
def wBC:Fact:=.ty 2 (.lst [(.int .i64 ⟨0,0⟩ ⟨0,60⟩)] ⟨31,0⟩ ⟨31,0⟩)
def wBD:BE:=.blk 239 (.cells [(.clo 84 [] [(O 233),(O 237),(O 238),(O 236),(O 235),(O 239)])]) false
def wBE:BE:=.blk 313 (.cells [(.clo 84 [] [(O 307),(O 311),(O 312),(O 310),(O 309),(O 313)])]) false
def wBF:BE:=.blk 122 (.cells [(.clo 84 [] [(O 116),(O 120),(O 121),(O 119),(O 118),(O 122)])]) false
def wBG:BE:=.blk 314 (.cells [(.clo 84 [] [(O 308),(O 312),(O 313),(O 311),(O 310),(O 314)])]) false
def wBH:BE:=.blk 312 (.cells [(.clo 84 [] [(O 306),(O 310),(O 311),(O 309),(O 308),(O 312)])]) false
def wBI:BE:=.blk 315 (.cells [(.clo 84 [] [(O 309),(O 313),(O 314),(O 312),(O 311),(O 315)])]) false
def wBJ:BE:=.blk 332 (.cells [(.clo 84 [] [(O 326),(O 330),(O 331),(O 329),(O 328),(O 332)])]) false
def wBK:BE:=.blk 318 (.cells [(.clo 84 [] [(O 312),(O 316),(O 317),(O 315),(O 314),(O 318)])]) false
def wBL:BE:=B 14 [(I 0 60)]
def wBM:BE:=B 262 [(Z 0)]
def wBN:BE:=.map 187 true [(.i .i64),(.i .i64),(.i .i64),(.i .i64)] J none
def wBO:BE:=.map 194 true [(.i .i64),(.i .i64),(.i .i64),(.i .i64)] J none
def wBP:BE:=B 230 (ys 1 5++[(Z 0),(.map 229)])
def wBQ:BE:=B 227 (ys 1 5++[(Z 0),(.map 226)])
def wBR:BE:=.blk 138 (.rows 1 [(.int .i64 ⟨0,0⟩ ⟨58,(-1)⟩)] ⟨58,0⟩) false
def wBS:BE:=B 266 (ys 1 5++[(Z 268),(Y 269)])
def wBT:Fact:=.ty 175 (.lst [(.int .i64 ⟨0,0⟩ ⟨204,(-1)⟩)] ⟨0,0⟩ ⟨0,8⟩)
def wBU:BE:=.blk 231 (.rows 1 [(.int .i64 ⟨0,0⟩ ⟨0,0⟩)] ⟨58,0⟩) false
def wBV:Fact:=.ty 56 (.lst [(.int .i64 ⟨0,0⟩ ⟨85,(-1)⟩)] ⟨0,0⟩ ⟨0,8⟩)
def wBW:Fact:=.ty 60 (.lst [(.int .i64 ⟨0,0⟩ ⟨89,(-1)⟩)] ⟨0,0⟩ ⟨0,8⟩)
def wBX:BE:=B 15 (ys 1 5)
def wBY:Fact:=.ty 56 (.lst [J] ⟨0,0⟩ ⟨0,1048576⟩)
def wBZ:BE:=B 152 (ys 1 5++[(Z 0),(.map 151)])
def wB0:BE:=B 114 (ys 1 5++[(Z 0),(.map 113)])
def wB1:BE:=B 264 (ys 1 5++[(Z 0),(.map 263)])
def wB2:BE:=B 116 (ys 1 5++[(Z 0),(.map 115)])
def wB3:BE:=B 192 (ys 1 5++[(Z 0),(.map 191)])
def wB4:BE:=B 189 (ys 1 5++[(Z 0),(.map 188)])
def wB5:BE:=B 271 (ys 1 5++[(Z 0),(.map 270)])
def wB6:BE:=B 224 [(Z 0)]
def wB7:BE:=B 228 (ys 1 5++[(Z 230),(Y 231)])
def wB8:BE:=B 13 [(Z 0)]
def wB9:BE:=B 12 [(Z 7)]
def wCa:BE:=B 11 [(Z 7)]
def wCb:BE:=B 10 [(Z 6)]
def wCc:BE:=B 290 [(Z 224),(Z 266),(Z 286),(Z 287)]
def wCd:BE:=B 369 [(Z 262),(Z 305),(Z 347),(Z 366)]
def wCe:BE:=B 449 [(Z 300),(Z 344),(Z 387),(Z 429)]
def wCf:BE:=B 118 [(Z 0),(Z 0),(Z 0),(Z 0)]
def wCg:BE:=B 119 [(Z 0),(Z 0),(Z 0),(Z 0)]
def wCh:BE:=.vec 409 1 [J] ⟨410,0⟩ false
def wCi:BE:=.blk 196 (.rows 1 [(.int .i64 ⟨0,0⟩ ⟨134,(-1)⟩)] ⟨134,0⟩) false
def wCj:BE:=.blk 234 (.rows 1 [(.int .i64 ⟨0,0⟩ ⟨172,(-1)⟩)] ⟨172,0⟩) false
def wCk:BE:=.blk 272 (.rows 1 [(.int .i64 ⟨0,0⟩ ⟨210,(-1)⟩)] ⟨210,0⟩) false
def wCl:BE:=B 151 (ys 1 5++[(Z 400),(.map 150)])
def wCm:BE:=B 189 (ys 1 5++[(Z 507),(.map 188)])
def wCn:BE:=B 227 (ys 1 5++[(Z 482),(.map 226)])
def wCo:BE:=B 265 (ys 1 5++[(Z 592),(.map 264)])
def wCp:BE:=.map 149 true [(.i .i64),(.i .i64),(.i .i64),(.i .i64)] J none
def wCq:BE:=.map 156 true [(.i .i64),(.i .i64),(.i .i64),(.i .i64)] J none
def wCr:BE:=.blk 274 (.cells [(.clo 83 [(O 266)] [])]) false
def wCs:BE:=.blk 396 (.cells [(.clo 83 [(O 266)] [])]) false
def wCt:BE:=.blk 397 (.cells [(.clo 83 [(O 266)] [])]) false
def wCu:BE:=.blk 395 (.cells [(.clo 83 [(O 264)] [])]) false
def wCv:BE:=.blk 121 (.cells [(.clo 83 [(O 116)] [])]) false
def wCw:BE:=.blk 398 (.cells [(.clo 83 [(O 268)] [])]) false
def wCx:BE:=.blk 415 (.cells [(.clo 83 [(O 265)] [])]) false
def wCy:BE:=.blk 401 (.cells [(.clo 83 [(O 271)] [])]) false
def wCz:BE:=.blk 158 (.rows 1 [(.int .i64 ⟨0,0⟩ ⟨96,(-1)⟩)] ⟨96,0⟩) false
def wCA:BE:=B 8 [(.vec 1 409 ⟨410,0⟩)]
def wCB:BE:=.blk 201 (.cells [(.clo 84 [] [(O 195),(O 199),(O 200),(O 198),(O 197),(O 201)])]) false
def wCC:BE:=.blk 362 (.cells [(.clo 84 [] [(O 356),(O 360),(O 361),(O 359),(O 358),(O 362)])]) false
def wCD:BE:=.blk 363 (.cells [(.clo 84 [] [(O 357),(O 361),(O 362),(O 360),(O 359),(O 363)])]) false
def wCE:BE:=.blk 361 (.cells [(.clo 84 [] [(O 355),(O 359),(O 360),(O 358),(O 357),(O 361)])]) false
def wCF:BE:=.blk 364 (.cells [(.clo 84 [] [(O 358),(O 362),(O 363),(O 361),(O 360),(O 364)])]) false
def wCG:BE:=.blk 381 (.cells [(.clo 84 [] [(O 375),(O 379),(O 380),(O 378),(O 377),(O 381)])]) false
def wCH:BE:=.blk 367 (.cells [(.clo 84 [] [(O 361),(O 365),(O 366),(O 364),(O 363),(O 367)])]) false
def wCI:BE:=B 226 (ys 1 5++[(Z 0),(.map 225)])
def wCJ:BE:=B 154 (ys 1 5++[(Z 0),(.map 153)])
def wCK:BE:=B 151 (ys 1 5++[(Z 0),(.map 150)])
def wCL:BE:=B 233 (ys 1 5++[(Z 0),(.map 232)])
def wCM:Fact:=.ty 4 (.lst [(.int .i64 ⟨0,0⟩ ⟨0,3⟩),(.int .i64 ⟨0,0⟩ ⟨60,(-1)⟩),J] ⟨137,0⟩ ⟨137,0⟩)
def wCN:Fact:=.ty 4 (.lst [(.int .i64 ⟨0,0⟩ ⟨0,3⟩),(.int .i64 ⟨0,0⟩ ⟨60,(-1)⟩),J] ⟨175,0⟩ ⟨175,0⟩)
def wCO:Fact:=.ty 4 (.lst [(.int .i64 ⟨0,0⟩ ⟨0,3⟩),(.int .i64 ⟨0,0⟩ ⟨60,(-1)⟩),J] ⟨213,0⟩ ⟨213,0⟩)
def wCP:BE:=B 186 [(Z 0)]
def wCQ:BE:=B 261 [(Z 0)]
def wCR:BE:=B 260 [(Z 0)]
def wCS:Fact:=.ty 94 (.lst [(.int .i64 ⟨0,0⟩ ⟨123,(-1)⟩)] ⟨0,0⟩ ⟨0,8⟩)
def wCT:Fact:=.ty 4 (.lst [(.int .i64 ⟨0,0⟩ ⟨0,3⟩),(.int .i64 ⟨0,0⟩ ⟨60,(-1)⟩),J] ⟨99,0⟩ ⟨99,0⟩)
def wCU:BE:=B 190 (ys 1 5++[(Z 288),(Y 289)])
def wCV:BE:=B 228 (ys 1 5++[(Z 367),(Y 368)])
def wCW:BE:=B 266 (ys 1 5++[(Z 447),(Y 448)])
def wCX:BE:=B 190 (ys 1 5++[(Z 192),(Y 193)])
def wCY:Fact:=.ty 98 (.lst [(.int .i64 ⟨0,0⟩ ⟨127,(-1)⟩)] ⟨0,0⟩ ⟨0,8⟩)
def wCZ:BE:=B 391 [(O 266)]
def wC0:BE:=.vec 323 1 [J] ⟨324,0⟩ false
def wC1:BE:=B 10 [(Z 0),(Z 0)]
def wC2:BE:=B 264 (ys 1 5)
def wC3:BE:=B 8 [(.vec 1 323 ⟨324,0⟩)]
def wC4:BE:=.loop 413 0 413 [(.exit 1)]
def wC5:Fact:=.len 61 66
def wC6:BE:=B 152 (ys 1 5++[(Z 383),(.map 151)])
def wC7:BE:=B 190 (ys 1 5++[(Z 490),(.map 189)])
def wC8:BE:=B 228 (ys 1 5++[(Z 465),(.map 227)])
def wC9:BE:=B 266 (ys 1 5++[(Z 575),(.map 265)])
def wDa:BE:=B 261 [(Z 6)]
def wDb:BE:=B 223 [(Z 0)]
def wDc:BE:=B 222 [(Z 0)]
def wDd:BE:=B 265 [(I 11 (-1))]
def wDe:BE:=B 305 [(O 228)]
def wDf:BE:=B 188 (ys 1 5++[(Z 0),(.map 187)])
def wDg:BE:=B 195 (ys 1 5++[(Z 0),(.map 194)])
def wDh:S.AV:=(I 0 1)
def wDi:BE:=.vec 372 1 [J] ⟨373,0⟩ false
def wDj:Fact:=.len 1 90
def wDk:BE:=B 152 (ys 1 5++[(Z 210),(Y 211)])
def wDl:BE:=B 152 (ys 1 5++[(Z 154),(Y 155)])
def wDm:BE:=.blk 236 (.cells [(.clo 83 [(O 228)] [])]) false
def wDn:BE:=.blk 310 (.cells [(.clo 83 [(O 228)] [])]) false
def wDo:BE:=.blk 119 (.cells [(.clo 83 [(O 114)] [])]) false
def wDp:BE:=.blk 311 (.cells [(.clo 83 [(O 228)] [])]) false
def wDq:BE:=.blk 309 (.cells [(.clo 83 [(O 226)] [])]) false
def wDr:BE:=.blk 312 (.cells [(.clo 83 [(O 230)] [])]) false
def wDs:BE:=.blk 329 (.cells [(.clo 83 [(O 227)] [])]) false
def wDt:BE:=.blk 315 (.cells [(.clo 83 [(O 233)] [])]) false
def wDu:BE:=B 148 [(Z 0)]
def wDv:BE:=B 109 [(Z 0)]
def wDw:BE:=B 108 [(Z 0)]
def wDx:Fact:=.row 3 ⟨0,0⟩ ([(Y 56)]++zs 57 3)
def wDy:BE:=B 226 (ys 1 5)
def wDz:BE:=B 126 [(Z 0),(Z 0),(Z 0),(Z 0)]
def wDA:BE:=B 123 [(Z 0),(Z 0),(Z 0),(Z 0)]
def wDB:BE:=B 8 [(.vec 1 372 ⟨373,0⟩)]
def wDC:BE:=.loop 327 0 327 [(.exit 1)]
def wDD:BE:=B 227 [(I 11 (-1))]
def wDE:Fact:=.len 99 104
def wDF:BE:=.loop 272 0 272 [.ret]
def wDG:BE:=.blk 406 (.rows 1 [(.int .i64 ⟨0,0⟩ ⟨122,(-1)⟩)] ⟨122,0⟩) false
def wDH:BE:=.blk 513 (.rows 1 [(.int .i64 ⟨0,0⟩ ⟨160,(-1)⟩)] ⟨160,0⟩) false
def wDI:BE:=.blk 488 (.rows 1 [(.int .i64 ⟨0,0⟩ ⟨198,(-1)⟩)] ⟨198,0⟩) false
def wDJ:BE:=.blk 598 (.rows 1 [(.int .i64 ⟨0,0⟩ ⟨236,(-1)⟩)] ⟨236,0⟩) false
def wDK:BE:=.blk 382 (.rows 1 [(.int .i64 ⟨0,0⟩ ⟨125,(-1)⟩)] ⟨125,0⟩) false
def wDL:BE:=.blk 491 (.rows 1 [(.int .i64 ⟨0,0⟩ ⟨163,(-1)⟩)] ⟨163,0⟩) false
def wDM:BE:=.blk 468 (.rows 1 [(.int .i64 ⟨0,0⟩ ⟨201,(-1)⟩)] ⟨201,0⟩) false
def wDN:BE:=.blk 580 (.rows 1 [(.int .i64 ⟨0,0⟩ ⟨239,(-1)⟩)] ⟨239,0⟩) false
def wDO:BE:=.blk 436 (.rows 1 [(.int .i64 ⟨0,0⟩ ⟨134,(-1)⟩)] ⟨134,0⟩) false
def wDP:BE:=.blk 387 (.rows 1 [(.int .i64 ⟨0,0⟩ ⟨172,(-1)⟩)] ⟨172,0⟩) false
def wDQ:BE:=.blk 473 (.rows 1 [(.int .i64 ⟨0,0⟩ ⟨210,(-1)⟩)] ⟨210,0⟩) false
def wDR:BE:=B 223 [(Z 6)]
def wDS:BE:=.map 111 true [(.i .i64),(.i .i64),(.i .i64),(.i .i64)] J none
def wDT:BE:=B 185 [(Z 0)]
def wDU:BE:=B 184 [(Z 0)]
def wDV:BE:=.blk 353 (.rows 1 [(.int .i64 ⟨0,0⟩ ⟨96,(-1)⟩)] ⟨96,0⟩) false
def wDW:BE:=B 270 [(.bool false)]
def wDX:Fact:=.ty 132 (.lst [(.int .i64 ⟨0,0⟩ ⟨161,(-1)⟩)] ⟨0,0⟩ ⟨0,8⟩)
def wDY:Fact:=.ty 136 (.lst [(.int .i64 ⟨0,0⟩ ⟨165,(-1)⟩)] ⟨0,0⟩ ⟨0,8⟩)
def wDZ:Fact:=D 0 62 0
def wD0:Fact:=.len 1 128
def wD1:Fact:=D 128 36 0
def wD2:BE:=B 354 [(O 190)]
def wD3:BE:=B 114 [(O 112)]
def wD4:BE:=B 113 [(.bool true)]
def wD5:BE:=B 395 [(O 268)]
def wD6:BE:=B 393 [(O 268)]
def wD7:BE:=B 390 [(O 265)]
def wD8:Fact:=.ty 1 (.lst [.str] ⟨0,0⟩ ⟨0,1048576⟩)
def wD9:Fact:=.len 2 36
def wEa:Fact:=D 36 0 X7
def wEb:BE:=B 212 ([(Z 186)]++zs 207 3)
def wEc:S.AV:=(.rptr ([(Y 61)]++zs 62 3))
def wEd:BE:=B 113 [(I 11 (-1))]
def wEe:BE:=B 189 [(I 11 (-1))]
def wEf:BE:=B 188 (ys 1 5)
def wEg:BE:=B 110 (ys 1 5)
def wEh:BE:=B 266 (ys 1 5)
def wEi:BE:=B 263 (ys 1 5)
def wEj:Fact:=.ty 94 (.lst [J] ⟨0,0⟩ ⟨0,1048576⟩)
def wEk:BE:=B 150 (ys 1 5++[(Z 0),(.map 149)])
def wEl:BE:=B 113 (ys 1 5++[(Z 0),(.map 112)])
def wEm:BE:=B 157 (ys 1 5++[(Z 0),(.map 156)])
def wEn:BE:=.loop 234 0 234 [.ret]
def wEo:Fact:=D 0 100 0
def wEp:Fact:=.len 3 60
def wEq:BE:=.loop 394 0 394 []
def wEr:BE:=B 263 [(I 7 (-1))]
def wEs:BE:=.loop 395 0 395 []
def wEt:BE:=B 263 [(I 9 (-1))]
def wEu:BE:=B 116 [(.yld 115)]
def wEv:BE:=.loop 393 0 393 []
def wEw:BE:=.loop 396 0 396 []
def wEx:BE:=B 8 [(.vec 1 289 ⟨290,0⟩)]
def wEy:BE:=.loop 376 0 376 [(.exit 1)]
def wEz:BE:=.loop 399 0 399 []
def wEA:BE:=B 268 [(I 8 (-1))]
def wEB:BE:=.vec 289 1 [(.int .i64 ⟨0,0⟩ ⟨0,0⟩)] ⟨290,0⟩ false
def wEC:Fact:=.row 3 ⟨0,1⟩ ([(Y 94)]++zs 95 3)
def wED:BE:=B 232 [(.bool false)]
def wEE:BE:=B 309 [(O 230)]
def wEF:BE:=B 307 [(O 230)]
def wEG:BE:=B 304 [(O 227)]
def wEH:BE:=B 185 [(Z 6)]
def wEI:BE:=B 110 [(Z 0)]
def wEJ:BE:=B 107 [(Z 0)]
def wEK:BE:=B 147 [(Z 0)]
def wEL:BE:=B 146 [(Z 0)]
def wEM:BE:=B 264 [(Z 0)]
def wEN:BE:=B 263 [(Z 6)]
def wEO:BE:=B 124 [(Z 0),(Z 0),(Z 0),(Z 0)]
def wEP:BE:=B 120 [(Z 0),(Z 0),(Z 0),(Z 0)]
def wEQ:S.AV:=(I 0 2)
def wER:BE:=B 228 (ys 1 5)
def wES:BE:=B 225 (ys 1 5)
def wET:Fact:=.len 137 142
def wEU:BE:=.blk 198 (.cells [(.clo 83 [(O 190)] [])]) false
def wEV:BE:=.blk 359 (.cells [(.clo 83 [(O 190)] [])]) false
def wEW:BE:=.blk 360 (.cells [(.clo 83 [(O 190)] [])]) false
def wEX:BE:=.blk 358 (.cells [(.clo 83 [(O 188)] [])]) false
def wEY:BE:=.blk 361 (.cells [(.clo 83 [(O 192)] [])]) false
def wEZ:BE:=.blk 378 (.cells [(.clo 83 [(O 189)] [])]) false
def wE0:BE:=.blk 364 (.cells [(.clo 83 [(O 195)] [])]) false
def wE1:BE:=B 151 [(I 11 (-1))]
def wE2:Fact:=.row 56 ⟨0,0⟩ [(Z 66)]
def wE3:BE:=B 226 [(Z 0)]
def wE4:BE:=B 225 [(Z 6)]
def wE5:Fact:=D 90 36 0
def wE6:BE:=B 271 [(O 266)]
def wE7:BE:=B 271 [(O 152)]
def wE8:BE:=.loop 308 0 308 []
def wE9:BE:=B 225 [(I 7 (-1))]
def wFa:BE:=B 393 [(O 266)]
def wFb:BE:=B 111 [(I 9 (-1))]
def wFc:BE:=.loop 309 0 309 []
def wFd:BE:=B 225 [(I 9 (-1))]
def wFe:BE:=B 394 [(O 266)]
def wFf:BE:=.loop 307 0 307 []
def wFg:BE:=B 392 [(O 264)]
def wFh:BE:=B 389 [(O 264)]
def wFi:BE:=B 118 [(O 116)]
def wFj:BE:=B 358 [(O 192)]
def wFk:BE:=B 356 [(O 192)]
def wFl:BE:=.loop 310 0 310 []
def wFm:BE:=B 353 [(O 189)]
def wFn:BE:=B 412 [(O 265)]
def wFo:BE:=B 411 [(Z 403)]
def wFp:BE:=.loop 313 0 313 []
def wFq:BE:=B 230 [(I 8 (-1))]
def wFr:BE:=B 398 [(O 271)]
def wFs:BE:=B 396 [(O 271)]
def wFt:BE:=.loop 196 0 196 [.ret]
def wFu:BE:=B 278 [(Z 62),(Z 63)]
def wFv:BE:=B 400 [(Z 62),(Z 63)]
def wFw:BE:=B 401 [(Z 62),(Z 63)]
def wFx:BE:=B 399 [(Z 60),(Z 61)]
def wFy:BE:=B 402 [(Z 64),(Z 65)]
def wFz:BE:=B 419 [(Z 61),(Z 62)]
def wFA:BE:=B 405 [(Z 67),(Z 68)]
def wFB:Fact:=.pre 2 ⟨43,0⟩ [(.int .i64 ⟨0,0⟩ ⟨0,60⟩)]
def wFC:Fact:=.ty 4 (.lst [J,J,J] ⟨0,0⟩ ⟨0,1048576⟩)
def wFD:Fact:=.ty 5 (.lst [J,J,J] ⟨0,0⟩ ⟨0,1048576⟩)
def wFE:S.AV:=(O 152)
def wFF:BE:=B 194 [(.bool false)]
def wFG:BE:=B 491 [(Z 482),(Z 483),(Z 488),(Z 489)]
def wFH:BE:=B 150 (ys 1 5)
def wFI:BE:=B 262 (ys 1 5)
def wFJ:BE:=B 114 (ys 1 5)
def wFK:BE:=B 190 (ys 1 5)
def wFL:BE:=B 187 (ys 1 5)
def wFM:BE:=B 269 (ys 1 5)
def wFN:BE:=.loop 293 0 293 [(.exit 1)]
def wFO:Fact:=.len 1 166
def wFP:Fact:=D 166 36 0
def wFQ:Fact:=.pimp 4 ⟨137,0⟩ 0 2 2 ⟨0,0⟩ ⟨60,(-1)⟩
def wFR:Fact:=.pimp 4 ⟨175,0⟩ 0 2 2 ⟨0,0⟩ ⟨60,(-1)⟩
def wFS:Fact:=.pimp 4 ⟨213,0⟩ 0 2 2 ⟨0,0⟩ ⟨60,(-1)⟩
def wFT:BE:=B 117 [(.bool true)]
def wFU:BE:=B 152 [(.bool true)]
def wFV:Fact:=.pimp 4 ⟨69,0⟩ 0 2 2 ⟨0,0⟩ ⟨55,(-1)⟩
def wFW:Fact:=.pimp 4 ⟨56,0⟩ 0 2 2 ⟨0,0⟩ ⟨55,(-1)⟩
def wFX:Fact:=.pimp 4 ⟨99,0⟩ 0 2 2 ⟨0,0⟩ ⟨60,(-1)⟩
def wFY:BE:=B 147 [(Z 6)]
def wFZ:BE:=B 259 [(Z 0)]
def wF0:BE:=B 112 [(Z 0)]
def wF1:BE:=B 111 [(Z 6)]
def wF2:BE:=B 188 [(Z 0)]
def wF3:BE:=B 187 [(Z 6)]
def wF4:BE:=B 267 [(Z 0)]
def wF5:BE:=B 266 [(Z 6)]
def wF6:BE:=B 164 (ys 1 5++[(Z 122),(.map 163)])
def wF7:BE:=B 238 (ys 1 5++[(Z 212),(.map 237)])
def wF8:Fact:=.ty 132 (.lst [J] ⟨0,0⟩ ⟨0,1048576⟩)
def wF9:BE:=B 233 [(O 228)]
def wGa:BE:=B 307 [(O 228)]
def wGb:BE:=B 116 [(O 114)]
def wGc:BE:=B 308 [(O 228)]
def wGd:BE:=B 150 [(O 112)]
def wGe:BE:=B 147 [(O 112)]
def wGf:BE:=B 306 [(O 226)]
def wGg:BE:=B 303 [(O 226)]
def wGh:BE:=B 275 [(O 154)]
def wGi:BE:=B 273 [(O 154)]
def wGj:BE:=B 270 [(O 151)]
def wGk:BE:=B 326 [(O 227)]
def wGl:BE:=B 325 [(Z 317)]
def wGm:BE:=B 312 [(O 233)]
def wGn:BE:=B 310 [(O 233)]
def wGo:Fact:=.row 3 ⟨0,2⟩ ([(Y 132)]++zs 133 3)
def wGp:Fact:=.len 1 7
def wGq:Fact:=.row 94 ⟨0,0⟩ [(Z 104)]
def wGr:Fact:=D 66 0 X7
def wGs:Fact:=D 0 138 0
def wGt:BE:=B 273 [(.yld 272)]
def wGu:BE:=B 326 [(Z 100),(Z 101)]
def wGv:BE:=B 278 [(Z 321),(Z 0),(Z 0),(Z 0)]
def wGw:BE:=B 277 [(Z 320),(Z 0),(Z 0),(Z 0)]
def wGx:BE:=.loop 357 0 357 []
def wGy:BE:=B 187 [(I 7 (-1))]
def wGz:BE:=B 395 [(.yld 394)]
def wGA:BE:=B 449 [(Z 100),(Z 101)]
def wGB:BE:=B 279 [(Z 322),(Z 0),(Z 0),(Z 0)]
def wGC:BE:=.loop 358 0 358 []
def wGD:BE:=B 187 [(I 9 (-1))]
def wGE:BE:=B 396 [(.yld 395)]
def wGF:BE:=B 451 [(Z 100),(Z 101)]
def wGG:BE:=.loop 356 0 356 []
def wGH:BE:=B 394 [(.yld 393)]
def wGI:BE:=B 120 [(.yld 119)]
def wGJ:BE:=.loop 359 0 359 []
def wGK:BE:=B 397 [(.yld 396)]
def wGL:BE:=B 453 [(Z 102),(Z 103)]
def wGM:BE:=B 414 [(.yld 413)]
def wGN:BE:=.loop 362 0 362 []
def wGO:BE:=B 192 [(I 8 (-1))]
def wGP:BE:=B 400 [(.yld 399)]
def wGQ:BE:=B 457 [(Z 105),(Z 106)]
def wGR:Fact:=D 31 0 1048576
def wGS:Fact:=D 104 0 X7
def wGT:BE:=B 112 (ys 1 5)
def wGU:BE:=B 224 (ys 1 5)
def wGV:BE:=B 152 (ys 1 5)
def wGW:BE:=B 149 (ys 1 5)
def wGX:BE:=B 231 (ys 1 5)
def wGY:BE:=B 10 [(Z 377),(Z 378)]
def wGZ:BE:=B 10 [(Z 486),(Z 487)]
def wG0:BE:=B 10 [(Z 463),(Z 464)]
def wG1:BE:=B 10 [(Z 575),(Z 576)]
def wG2:BE:=B 467 [(Z 99),(Z 100)]
def wG3:BE:=B 121 [(Z 0),(Z 0),(Z 0),(Z 0)]
def wG4:BE:=B 171 [(Z 0),(Z 0),(Z 0),(Z 0)]
def wG5:BE:=.loop 158 0 158 [.ret]
def wG6:BE:=B 240 [(Z 62),(Z 63)]
def wG7:BE:=B 314 [(Z 62),(Z 63)]
def wG8:BE:=.loop 117 0 117 [.ret]
def wG9:BE:=B 315 [(Z 62),(Z 63)]
def wHa:BE:=.loop 115 0 115 [.ret]
def wHb:BE:=B 313 [(Z 60),(Z 61)]
def wHc:BE:=B 449 [(Z 98),(Z 99)]
def wHd:BE:=.loop 119 0 119 [.ret]
def wHe:BE:=B 316 [(Z 64),(Z 65)]
def wHf:BE:=.loop 116 0 116 [.ret]
def wHg:BE:=B 333 [(Z 61),(Z 62)]
def wHh:BE:=B 319 [(Z 67),(Z 68)]
def wHi:BE:=.loop 167 0 167 [.ret]
def wHj:BE:=.loop 241 0 241 [.ret]
def wHk:BE:=B 109 [(Z 6)]
def wHl:BE:=B 221 [(Z 0)]
def wHm:BE:=B 150 [(Z 0)]
def wHn:BE:=B 149 [(Z 6)]
def wHo:BE:=B 229 [(Z 0)]
def wHp:BE:=B 228 [(Z 6)]
def wHq:Fact:=.len 3 55
def wHr:Fact:=.len 2 31
def wHs:BE:=B 156 [(.bool false)]
def wHt:Fact:=D 0 450 0
def wHu:BE:=B 115 [(.bool false)]
def wHv:BE:=B 113 [(.bool false)]
def wHw:BE:=B 117 [(.bool false)]
def wHx:BE:=B 114 [(.bool false)]
def wHy:BE:=B 165 [(.bool false)]
def wHz:BE:=B 239 [(.bool false)]
def wHA:BE:=B 195 [(O 190)]
def wHB:BE:=B 356 [(O 190)]
def wHC:BE:=B 115 [(.bool true)]
def wHD:BE:=B 357 [(O 190)]
def wHE:BE:=B 355 [(O 188)]
def wHF:BE:=B 352 [(O 188)]
def wHG:BE:=B 375 [(O 189)]
def wHH:BE:=B 374 [(Z 366)]
def wHI:BE:=B 361 [(O 195)]
def wHJ:BE:=B 359 [(O 195)]
def wHK:BE:=B 384 ([(Z 374)]++zs 380 3)
def wHL:BE:=B 466 (zs 458 3++[(Z 464)])
def wHM:Fact:=D 0 57 0
def wHN:Fact:=D 0 7 0
def wHO:Fact:=D 85 0 1048576
def wHP:S.AV:=(Z 226)
def wHQ:BE:=B 186 (ys 1 5)
def wHR:BE:=B 193 (ys 1 5)
def wHS:Fact:=D 90 0 X7
def wHT:BE:=B 235 [(.yld 234)]
def wHU:BE:=.loop 274 0 274 []
def wHV:BE:=B 149 [(I 7 (-1))]
def wHW:Fact:=D 0 448 0
def wHX:BE:=B 309 [(.yld 308)]
def wHY:BE:=.emap 265
def wHZ:BE:=B 118 [(.yld 117)]
def wH0:BE:=.loop 153 0 153 []
def wH1:BE:=B 150 [(I 0 (-1))]
def wH2:BE:=.loop 275 0 275 []
def wH3:BE:=B 149 [(I 9 (-1))]
def wH4:BE:=B 310 [(.yld 309)]
def wH5:BE:=.emap 111
def wH6:BE:=.loop 151 0 151 []
def wH7:BE:=B 148 [(I 0 (-1))]
def wH8:BE:=.loop 273 0 273 []
def wH9:BE:=B 308 [(.yld 307)]
def wIa:BE:=.emap 115
def wIb:BE:=.loop 154 0 154 []
def wIc:BE:=.loop 276 0 276 []
def wId:BE:=B 311 [(.yld 310)]
def wIe:BE:=B 328 [(.yld 327)]
def wIf:BE:=.loop 279 0 279 []
def wIg:BE:=B 154 [(I 8 (-1))]
def wIh:BE:=B 314 [(.yld 313)]
def wIi:BE:=B 149 [(Z 0)]
def wIj:BE:=B 183 [(Z 0)]
def wIk:BE:=B 191 [(Z 0)]
def wIl:BE:=B 190 [(Z 6)]
def wIm:Fact:=.row 132 ⟨0,0⟩ [(Z 142)]
def wIn:S.AV:=(I 0 3)
def wIo:Fact:=D 0 31 0
def wIp:Fact:=D 57 61 (-1)
def wIq:Fact:=D 66 85 (-1)
def wIr:Fact:=D 58 61 (-1)
def wIs:Fact:=.len 175 180
def wIt:S.AV:=(.ptr 282 1)
def wIu:BE:=B 360 (zs 357 3)
def wIv:BE:=B 439 (zs 436 3)
def wIw:BE:=B 519 (zs 516 3)
def wIx:Fact:=D 63 66 (-1)
def wIy:Fact:=D 57 0 X7
def wIz:Fact:=D 58 0 X7
def wIA:Fact:=.len 1 89
def wIB:Fact:=D 35 0 X7
def wIC:Fact:=D 123 0 1048576
def wID:BE:=B 157 [(O 152)]
def wIE:Fact:=D 0 404 0
def wIF:BE:=B 273 [(O 152)]
def wIG:BE:=.emap 227
def wIH:Fact:=D 0 405 0
def wII:Fact:=D 448 0 3
def wIJ:Fact:=D 0 447 0
def wIK:Fact:=D 0 446 0
def wIL:BE:=.emap 113
def wIM:BE:=B 274 [(O 152)]
def wIN:BE:=B 272 [(O 150)]
def wIO:BE:=B 269 [(O 150)]
def wIP:BE:=B 153 [(O 116)]
def wIQ:BE:=B 151 [(O 116)]
def wIR:BE:=B 274 [(Y 376)]
def wIS:BE:=B 357 [(Y 485)]
def wIT:BE:=B 308 [(Y 462)]
def wIU:BE:=B 394 [(Y 574)]
def wIV:BE:=B 115 [(O 113)]
def wIW:BE:=B 292 [(O 151)]
def wIX:BE:=B 291 [(Z 283)]
def wIY:BE:=B 278 [(O 157)]
def wIZ:BE:=B 276 [(O 157)]
def wI0:Fact:=D 0 59 (-1)
def wI1:Fact:=D 0 61 (-1)
def wI2:BE:=B 8 [.nils]
def wI3:Fact:=D 57 0 1048576
def wI4:Fact:=D 81 0 1048576
def wI5:Fact:=D 104 123 (-1)
def wI6:Fact:=D 101 104 (-1)
def wI7:BE:=B 148 (ys 1 5)
def wI8:BE:=B 111 (ys 1 5)
def wI9:BE:=B 155 (ys 1 5)
def wJa:List BE:=[wBX,wBL,wB8,wB9,wCa,wCb,wAQ]
def wJb:List S.AV:=([wFE,(Y 215),U,(O 212),(Y 216),(O 214),wHP,(O 282),(Z 301),(Z 303)]++ys 217 5++[(Y 4),(Z 99),wHP,(.bool true),wHP,(.rptr (zs 279 3)),(.agg (zs 279 3)),wFE,wFE,(.ptr 152 5),(Z 210),wHP,(Z 283),(Z 284),(.bool false),wIt,(Z 280),(O 212),(Z 186),wFE,wFE,wFE,(.ptr 152 2),(Y 3),wIt,(Z 280),wEc,wEc,(Y 61),(.ptr 282 2),(Z 281),(Z 289),(O 282),(Z 279)]++ys 304 11)
def wJc:List BE:=[wEg,wDv,wDw,wEJ,wAC,wAD,wAL,wAP,wBq,wAR,wCg,wCf,wBB,wEu]
def wJd:List BE:=[wCx,wGM,wC4,wFn,wFo,wCh,wD7,wBz,wAG,wEi,wBM,wCQ,wCR,wAQ,wCA]
def wJe:List BE:=[wB2,wIa,wFJ,wEd,wF0,wF1,wA7,wC1,wAS]
def wJf:List Fact:=[wD0,wDE,wDj,wC5,wEp,wD9]
def wJg:List Fact:=[wAB,wAx,wAB,wAx,wAB,wAx]
def wJh:List Fact:=[D 7 123 0,D 7 85 0,D 7 31 0,D 7 0 4,D 31 7 0,wGR,D 95 96 0,D 95 99 (-1),D 95 0 X7]
def wJi:List BE:=[wHY,wC2,wEr,wBM,wDa,wAT,wAS,wAC]
def wJj:List BE:=[wAH,wES,wB6,wDb,wDc,wAQ,wC3,wAD]
def wJk:List Fact:=[D 59 0 99,D 123 7 0,wIC,D 97 0 99,D 161 7 0,D 161 0 1048576,D 137 0 4,D 57 58 0,wIp,wIy,D 133 134 0,D 133 137 (-1),D 133 0 X7,D 85 7 0,wHO]
def wJl:List Fact:=[wAx,wBo,wAI,wAB,wAx]
def wJm:List Fact:=[wAF,wAA,wAy]
def wJn:List S.AV:=([U,(Y 413),(O 408),(Z 433)]++ys 414 8++us 13++ys 422 11++ys 434 14)
def wJo:List Fact:=[D 0 97 (-1),D 0 96 0,D 0 95 0,D 0 104 0,D 0 123 0,D 0 99 (-1)]
def wJp:List BE:=[wH0,B 152 [(O 114)],B 151 [(Z 0)],wH1,B 149 [(O 114)],wGb,wHC,wB0,wIL,wGT,wFb,wEI,wHk,wAT,wAC,wBA,wBd,wEO,wBF,wG3,wEP,wDo,wHZ]
def wJq:List BE:=[wAK,wFL,wCP,wDT,wDU,wAQ,wDB,wAD]
def wJr:List BE:=[wEh,wDd,wEM,wEN,wA7]
def wJs:List Fact:=[.len 1 127,.len 98 103,wIA,.len 60 65,.len 3 59,.len 2 35]
def wJt:List Fact:=[wI0,D 0 58 0,wHM,D 0 66 0,D 0 85 0,wI1]
def wJu:List Fact:=[.len 1 123,.len 94 99,.len 1 85,.len 56 61,wHq,wHr,wGp]
def wJv:List BE:=([wBa,wFM,wEA,wF4,wF5]++wJa)
def wJw:List Fact:=[wAx,wAI,wAB,wAx,wAI,wAB,wAx]
def wJx:List BE:=([wIP,wFU,wIQ,wFi,wFT]++wJe++[wAC,wBe,wBf,wDz,wBk,wDA,wBq,wCv,wGI])
def wJy:List BE:=[wAM,wC2,wEt,wBM,wDa,wAT]
def wJz:List BE:=[wER,wDD,wE3,wE4,wA7]
def wJA:List BE:=[wAN,wGW,wDu,wEK,wEL,wAQ,wEx,wAD]
def wJB:List BE:=([wBt,wGX,wFq,wHo,wHp]++wJa)
def wJC:List BE:=[wA8,wFI,wCQ,wCR,wFZ]
def wJD:List BE:=[wIG,wDy,wE9,wB6,wDR,wAT,wAS,wAC]
def wJE:List BE:=[wEl,.emap 112,wI8,wEI,wDv,wDw,wAQ,wI2,wAD]
def wJF:List BE:=([wCq,wI9,wIg,B 153 [(Z 0)],B 152 [(Z 6)]]++wJa)
def wJG:List BE:=[wFK,wEe,wF2,wF3,wA7]
def wJH:List BE:=([wGd,wIi,wH7,wGe,wD3,wD4,wBx,wH5]++wJc)
def wJI:List BE:=([wDs,wIe,wDC,wGk,wGl,wC0,wEG,wBQ]++wJj)
def wJJ:List Fact:=[D 204 36 0,wFP,wD1,wE5,D 36 204 0,wEa]
def wJK:List BE:=[.emap 189,wEf,wGy,wCP,wEH]
def wJL:List Fact:=(wJl++[wBo,wAI,wAB,wAx])
def wJM:List BE:=[wBr,wGU,wDb,wDc,wHl]
def wJN:List Fact:=[D 0 135 (-1),D 0 134 0,D 0 133 0,D 0 142 0,D 0 161 0,D 0 137 (-1)]
def wJO:List BE:=[wCr,wGt,wDF,wE6,wDW,wBS]
def wJP:List BE:=[wAO,wDy,wFd,wB6,wDR,wAT,wAC]
def wJQ:List BE:=[wHj,B 240 [(O 238)],wHz,wF7,.emap 237,B 236 (ys 1 5),wBU,wBv,wAD]
def wJR:List BE:=[wGV,wE1,wHm,wHn,wA7]
def wJS:List BE:=([wBO,wHR,wGO,wIk,wIl]++wJa)
def wJT:List S.AV:=([U,(Y 366),(O 361),(Z 386)]++ys 367 8++us 13++ys 375 11++ys 387 14)
def wJU:List Fact:=[wIr,wIz,D 134 137 (-1),D 134 0 X7,D 142 161 (-1),D 142 0 X7]
def wJV:List BE:=[wBz,wC4,wFn,wFo,wCh,wD7,wAG,wEi,wBM,wCQ,wCR,wAQ,wCA]
def wJW:List Fact:=[wAW,wAJ,wAE,wAz]
def wJX:List BE:=[wHi,B 166 [(O 164)],wHy,wF6,.emap 163,B 162 (ys 1 5),wBR]
def wJY:List Fact:=[.len 1 204,wIs,wFO,wET]
def wJZ:List Fact:=[D 61 0 4,D 96 99 (-1),D 96 0 X7]
def wJ0:List BE:=[wAU,wEf,wGD,wCP,wEH,wAT,wAC]
def wJ1:List S.AV:=([U,(Y 454),(O 449),(Z 474)]++ys 455 8++us 13++ys 463 11++ys 475 14)
def wJ2:List Fact:=[wAy,.len 4 99,wDj,wC5,wEp,wCT,wFX,wAE,.len 3 7,wAz]
def wJ3:List BE:=[wCp,wI7,wEK,wEL,B 145 [(Z 0)]]
def wJ4:List Fact:=[D 0 176 0,wGs,wEo,wDZ]
def wJ5:List BE:=([wEZ,B 377 [(.yld 376)],wEy,wHG,wHH,wDi,wFm,wB4]++wJq)
def wJ6:List BE:=[wBN,wHQ,wDT,wDU,wIj]
def wJ7:List Fact:=[wFP,wD1,wE5,D 36 166 0,wEa]
def wJ8:List BE:=[.emap 151,wFH,wHV,wDu,wFY,wAT,wAS,wAC]
def wJ9:List S.AV:=([U,(Y 415),(O 410),(Z 435)]++ys 416 8++us 13++ys 424 11++ys 436 14)
def wKa:List BE:=[wB0,wIL,wGT,wFb,wEI,wHk,wAT,wAC]
def wKb:List BE:=[wBx,wH5,wEg,wDv,wDw,wEJ,wAC,wAD]
def wKc:List BE:=[wA3,wFH,wH3,wDu,wFY,wAT,wAC]
def wKd:List BE:=([wFh,wB1]++wJC++[wAC,wAD])
def wKe:List BE:=([.loop 276 2 276 [],wGh,wIR,wGi]++wJR++[wGY,wAS,wAC])
def wKf:List BE:=([.loop 359 2 359 [],wFj,wIS,wFk]++wJG++[wGZ,wAS,wAC])
def wKg:List BE:=([.loop 310 2 310 [],wEE,wIT,wEF]++wJz++[wG0,wAS,wAC])
def wKh:List BE:=([.loop 396 2 396 [],wD5,wIU,wD6]++wJr++[wG1,wAS,wAC])
end Cl
namespace Cl
open Go Ce Ce.L Ce.S
theorem ba{k:IntKind}{n:Int}:(CV.int k n).one=true:=rfl
theorem bI:CV.nils.one=true:=rfl
theorem bZ{b:ByteArray}:(CV.str b).one=true:=rfl
theorem bJ{b:Bool}:(CV.bool b).one=true:=rfl
theorem pZ{R:List Ty}:Tv (tL R) .nils:=fun v hv=>.inl ⟨rfl,by simp [Lin.ev,hv],by simp [Lin.ev,hv]⟩
def tXs:List Ty:=[(tL [.str]),(tL [tI]),(tL [(tL [tI]),tI,tI,tI]),(tL [tI,tI,tI]),(tL [tI,tI,tI]),tI,tI,tI,tI]
def Ts7:List Ty:=[(.agg [(tL [.str]),(tL [tI]),(tL [(tL [tI]),tI,tI,tI]),(tL [tI,tI,tI]),(tL [tI,tI,tI])])]
def sh7:List Sh:=[.v tI,.v tI,.v tI]
def Ap7:Prop:=∀{args:List CV},Tvs Ts7 args→∃rs,gF sh7 rs∧r6 tbl 7 args rs
def zC:List Ty:=[(.agg [(tL [.str]),(tL [tI]),(tL [(tL [tI]),tI,tI,tI]),(tL [tI,tI,tI]),(tL [tI,tI,tI])]),tI]
def xq:List Sh:=[.l 1 none [tI],.v tI]
def Ap12:Prop:=∀{args:List CV},Tvs zC args→∃rs,gF xq rs∧r6 tbl 12 args rs
def zB:List Ty:=[(.agg [(tL [.str]),(tL [tI]),(tL [(tL [tI]),tI,tI,tI]),(tL [tI,tI,tI]),(tL [tI,tI,tI])]),tI]
def xn:List Sh:=[.v tI,.v tI]
def Ap17:Prop:=∀{args:List CV},Tvs zB args→∃rs,gF xn rs∧r6 tbl 17 args rs
def yz:List Ty:=[(.agg [(tL [.str]),(tL [tI]),(tL [(tL [tI]),tI,tI,tI]),(tL [tI,tI,tI]),(tL [tI,tI,tI])])]
def xm:List Sh:=[.l 1 none [tI],.v tI]
def Ap19:Prop:=∀{args:List CV},Tvs yz args→∃rs,gF xm rs∧r6 tbl 19 args rs
def yy:List Ty:=[(.agg [(tL [.str]),(tL [tI]),(tL [(tL [tI]),tI,tI,tI]),(tL [tI,tI,tI]),(tL [tI,tI,tI])]),tI]
def xk:List Sh:=[.v (.agg [tI,tI]),.v tI]
def Ap22:Prop:=∀{args:List CV},Tvs yy args→∃rs,gF xk rs∧r6 tbl 22 args rs
def yx:List Ty:=[(.agg [(tL [.str]),(tL [tI]),(tL [(tL [tI]),tI,tI,tI]),(tL [tI,tI,tI]),(tL [tI,tI,tI])])]
def xj:List Sh:=[.l 1 none [tI],.v tI]
def Ap25:Prop:=∀{args:List CV},Tvs yx args→∃rs,gF xj rs∧r6 tbl 25 args rs
def yw:List Ty:=[(.agg [(tL [.str]),(tL [tI]),(tL [(tL [tI]),tI,tI,tI]),(tL [tI,tI,tI]),(tL [tI,tI,tI])]),tI,tI]
def xh:List Sh:=[.v tI,.v tI,.v tI]
def Ap28:Prop:=∀{args:List CV},Tvs yw args→∃rs,gF xh rs∧r6 tbl 28 args rs
def yu:List Ty:=[(.agg [(tL [.str]),(tL [tI]),(tL [(tL [tI]),tI,tI,tI]),(tL [tI,tI,tI]),(tL [tI,tI,tI])])]
def xg:List Sh:=[.l 1 none [tI],.v tI]
def Ap30:Prop:=∀{args:List CV},Tvs yu args→∃rs,gF xg rs∧r6 tbl 30 args rs
theorem k6(hap:Ap7){cells:List CV}(hx:Tvs tXs cells):∃d,CallOK tbl 6 cells d (2 ^ 34):=by
  obtain ⟨y0,cs0,rfl,h0,k0⟩:=aD hx;obtain ⟨y1,cs1,rfl,h1,k1⟩:=aD k0;obtain ⟨y2,cs2,rfl,h2,k2⟩:=aD k1;obtain ⟨y3,cs3,rfl,h3,k3⟩:=aD k2;obtain ⟨y4,cs4,rfl,h4,k4⟩:=aD k3;obtain ⟨y5,cs5,rfl,h5,k5⟩:=aD k4;obtain ⟨y6,cs6,rfl,h6,k6⟩:=aD k5;obtain ⟨y7,cs7,rfl,h7,k7⟩:=aD k6;obtain ⟨y8,cs8,rfl,h8,k8⟩:=aD k7;obtain rfl:=cJ k8;have o0:=aK h0 rfl;have o1:=aK h1 rfl;have o2:=aK h2 rfl;have o3:=aK h3 rfl;have o4:=aK h4 rfl;have o5:=aK h5 rfl;have o6:=aK h6 rfl;have o7:=aK h7 rfl;have o8:=aK h8 rfl;obtain ⟨rs,hrs,ap⟩:=hap (aG (cf (aG h0 (aG h1 (aG h2 (aG h3 (aG h4 aw)))))) aw);obtain ⟨r0,rs0,rfl,hr0,m0⟩:=hrs;obtain ⟨r1,rs1,rfl,hr1,m1⟩:=m0;obtain ⟨r2,rs2,rfl,hr2,m2⟩:=m1;have e:rs2=[]:=m2;subst e;obtain ⟨z0,rfl,t0⟩:=hr0;obtain ⟨z1,rfl,t1⟩:=hr1;obtain ⟨z2,rfl,t2⟩:=hr2;have z0o:=aK t0 rfl;have z1o:=aK t1 rfl;have z2o:=aK t2 rfl;obtain ⟨d0,p0⟩:=p8 t0;obtain ⟨d1,p1⟩:=p8 t1;obtain ⟨d2,p2⟩:=p9 t2;refine ep (t:=3) (rfl:tbl 6=some c6) rfl rfl rfl (by simp [aM,o0,o1,o2,o3,o4,o5,o6,o7,o8]) ?_;simp only [o,p,mv,zz,ci,aW,aI,aev,dq,dm,eE,du,au,bB,vs,CV.cells,Ce.L.oneA,nth?,unV,dj,da,rvA,bh,List.cons_append,List.nil_append,List.length_cons,List.length_nil,List.append_nil,List.take,List.drop,true_and,and_true,Nat.reduceAdd,Nat.reduceLeDiff,aM,ba,bI,bZ,bJ,Bool.and_self,c6,o0,o1,o2,o3,o4,o5,o6,o7,o8,z0o,z1o,z2o];refine ⟨[.v z0,.v z1,.v z2],ap,?_⟩;simp only [o,p,mv,zz,ci,aW,aI,aev,dq,dm,eE,du,au,bB,vs,CV.cells,Ce.L.oneA,nth?,unV,dj,da,rvA,bh,List.cons_append,List.nil_append,List.length_cons,List.length_nil,List.append_nil,List.take,List.drop,true_and,and_true,Nat.reduceAdd,Nat.reduceLeDiff,aM,ba,bI,bZ,bJ,Bool.and_self,o0,o1,o2,o3,o4,o5,o6,o7,o8,z0o,z1o,z2o]
  exact ⟨d0,_,p0,d1,_,p1,d2,_,p2,by omega,gP rfl⟩
theorem k11(hap:Ap12){cells:List CV}(hx:Tvs tXs cells):∃d,CallOK tbl 11 cells d (2 ^ 34):=by
  obtain ⟨y0,cs0,rfl,h0,k0⟩:=aD hx;obtain ⟨y1,cs1,rfl,h1,k1⟩:=aD k0;obtain ⟨y2,cs2,rfl,h2,k2⟩:=aD k1;obtain ⟨y3,cs3,rfl,h3,k3⟩:=aD k2;obtain ⟨y4,cs4,rfl,h4,k4⟩:=aD k3;obtain ⟨y5,cs5,rfl,h5,k5⟩:=aD k4;obtain ⟨y6,cs6,rfl,h6,k6⟩:=aD k5;obtain ⟨y7,cs7,rfl,h7,k7⟩:=aD k6;obtain ⟨y8,cs8,rfl,h8,k8⟩:=aD k7;obtain rfl:=cJ k8;have o0:=aK h0 rfl;have o1:=aK h1 rfl;have o2:=aK h2 rfl;have o3:=aK h3 rfl;have o4:=aK h4 rfl;have o5:=aK h5 rfl;have o6:=aK h6 rfl;have o7:=aK h7 rfl;have o8:=aK h8 rfl;obtain ⟨rs,hrs,ap⟩:=hap (aG (cf (aG h0 (aG h1 (aG h2 (aG h3 (aG h4 aw)))))) (aG h5 aw));obtain ⟨r0,rs0,rfl,hr0,m0⟩:=hrs;obtain ⟨r1,rs1,rfl,hr1,m1⟩:=m0;have e:rs1=[]:=m1;subst e;obtain ⟨z1,rfl,t1⟩:=hr1;have z1o:=aK t1 rfl;rcases hr0 with rfl | ⟨k'0,off0,len0,cap0,c0s,rfl,ls0,w0,n0⟩
  · obtain ⟨d0,p0⟩:=p13 pZ;obtain ⟨d1,p1⟩:=p9 t1;refine ep (t:=3) (rfl:tbl 11=some c11) rfl rfl rfl (by simp [aM,o0,o1,o2,o3,o4,o5,o6,o7,o8]) ?_;simp only [o,p,mv,zz,ci,aW,aI,aev,dq,dm,eE,du,au,bB,vs,CV.cells,Ce.L.oneA,nth?,unV,dj,da,rvA,bh,List.cons_append,List.nil_append,List.length_cons,List.length_nil,List.append_nil,List.take,List.drop,true_and,and_true,Nat.reduceAdd,Nat.reduceLeDiff,aM,ba,bI,bZ,bJ,Bool.and_self,c11,o0,o1,o2,o3,o4,o5,o6,o7,o8,z1o];refine ⟨[.v .nils,.v z1],ap,?_⟩;simp only [o,p,mv,zz,ci,aW,aI,aev,dq,dm,eE,du,au,bB,vs,CV.cells,Ce.L.oneA,nth?,unV,dj,da,rvA,bh,List.cons_append,List.nil_append,List.length_cons,List.length_nil,List.append_nil,List.take,List.drop,true_and,and_true,Nat.reduceAdd,Nat.reduceLeDiff,aM,ba,bI,bZ,bJ,Bool.and_self,o0,o1,o2,o3,o4,o5,o6,o7,o8,z1o];exact ⟨d0,_,p0,d1,_,p1,by omega,fq rfl rfl rfl rfl (ft rfl rfl (iU rfl rfl)) rfl rfl (rfl)⟩
  · obtain ⟨d0,p0⟩:=q13 ls0 (Nat.le_refl _) rfl;obtain ⟨d1,p1⟩:=p9 t1;refine ep (t:=3) (rfl:tbl 11=some c11) rfl rfl rfl (by simp [aM,o0,o1,o2,o3,o4,o5,o6,o7,o8]) ?_;simp only [o,p,mv,zz,ci,aW,aI,aev,dq,dm,eE,du,au,bB,vs,CV.cells,Ce.L.oneA,nth?,unV,dj,da,rvA,bh,List.cons_append,List.nil_append,List.length_cons,List.length_nil,List.append_nil,List.take,List.drop,true_and,and_true,Nat.reduceAdd,Nat.reduceLeDiff,aM,ba,bI,bZ,bJ,Bool.and_self,c11,o0,o1,o2,o3,o4,o5,o6,o7,o8,z1o];refine ⟨[.s k'0 off0 len0 cap0 c0s,.v z1],ap,?_⟩;simp only [o,p,mv,zz,ci,aW,aI,aev,dq,dm,eE,du,au,bB,vs,CV.cells,Ce.L.oneA,nth?,unV,dj,da,rvA,bh,List.cons_append,List.nil_append,List.length_cons,List.length_nil,List.append_nil,List.take,List.drop,true_and,and_true,Nat.reduceAdd,Nat.reduceLeDiff,aM,ba,bI,bZ,bJ,Bool.and_self,o0,o1,o2,o3,o4,o5,o6,o7,o8,z1o];exact ⟨d0,_,p0,d1,_,p1,by omega,fq rfl rfl rfl rfl (ft rfl rfl (iU rfl rfl)) rfl rfl (⟨w0,by omega⟩)⟩
theorem k16(hap:Ap17){cells:List CV}(hx:Tvs tXs cells):∃d,CallOK tbl 16 cells d (2 ^ 34):=by
  obtain ⟨y0,cs0,rfl,h0,k0⟩:=aD hx;obtain ⟨y1,cs1,rfl,h1,k1⟩:=aD k0;obtain ⟨y2,cs2,rfl,h2,k2⟩:=aD k1;obtain ⟨y3,cs3,rfl,h3,k3⟩:=aD k2;obtain ⟨y4,cs4,rfl,h4,k4⟩:=aD k3;obtain ⟨y5,cs5,rfl,h5,k5⟩:=aD k4;obtain ⟨y6,cs6,rfl,h6,k6⟩:=aD k5;obtain ⟨y7,cs7,rfl,h7,k7⟩:=aD k6;obtain ⟨y8,cs8,rfl,h8,k8⟩:=aD k7;obtain rfl:=cJ k8;have o0:=aK h0 rfl;have o1:=aK h1 rfl;have o2:=aK h2 rfl;have o3:=aK h3 rfl;have o4:=aK h4 rfl;have o5:=aK h5 rfl;have o6:=aK h6 rfl;have o7:=aK h7 rfl;have o8:=aK h8 rfl;obtain ⟨rs,hrs,ap⟩:=hap (aG (cf (aG h0 (aG h1 (aG h2 (aG h3 (aG h4 aw)))))) (aG h6 aw));obtain ⟨r0,rs0,rfl,hr0,m0⟩:=hrs;obtain ⟨r1,rs1,rfl,hr1,m1⟩:=m0;have e:rs1=[]:=m1;subst e;obtain ⟨z0,rfl,t0⟩:=hr0;obtain ⟨z1,rfl,t1⟩:=hr1;have z0o:=aK t0 rfl;have z1o:=aK t1 rfl;obtain ⟨d0,p0⟩:=p8 t0;obtain ⟨d1,p1⟩:=p9 t1;refine ep (t:=3) (rfl:tbl 16=some c16) rfl rfl rfl (by simp [aM,o0,o1,o2,o3,o4,o5,o6,o7,o8]) ?_;simp only [o,p,mv,zz,ci,aW,aI,aev,dq,dm,eE,du,au,bB,vs,CV.cells,Ce.L.oneA,nth?,unV,dj,da,rvA,bh,List.cons_append,List.nil_append,List.length_cons,List.length_nil,List.append_nil,List.take,List.drop,true_and,and_true,Nat.reduceAdd,Nat.reduceLeDiff,aM,ba,bI,bZ,bJ,Bool.and_self,c16,o0,o1,o2,o3,o4,o5,o6,o7,o8,z0o,z1o];refine ⟨[.v z0,.v z1],ap,?_⟩;simp only [o,p,mv,zz,ci,aW,aI,aev,dq,dm,eE,du,au,bB,vs,CV.cells,Ce.L.oneA,nth?,unV,dj,da,rvA,bh,List.cons_append,List.nil_append,List.length_cons,List.length_nil,List.append_nil,List.take,List.drop,true_and,and_true,Nat.reduceAdd,Nat.reduceLeDiff,aM,ba,bI,bZ,bJ,Bool.and_self,o0,o1,o2,o3,o4,o5,o6,o7,o8,z0o,z1o]
  exact ⟨d0,_,p0,d1,_,p1,by omega,gP rfl⟩
theorem k18(hap:Ap19){cells:List CV}(hx:Tvs tXs cells):∃d,CallOK tbl 18 cells d (2 ^ 34):=by
  obtain ⟨y0,cs0,rfl,h0,k0⟩:=aD hx;obtain ⟨y1,cs1,rfl,h1,k1⟩:=aD k0;obtain ⟨y2,cs2,rfl,h2,k2⟩:=aD k1;obtain ⟨y3,cs3,rfl,h3,k3⟩:=aD k2;obtain ⟨y4,cs4,rfl,h4,k4⟩:=aD k3;obtain ⟨y5,cs5,rfl,h5,k5⟩:=aD k4;obtain ⟨y6,cs6,rfl,h6,k6⟩:=aD k5;obtain ⟨y7,cs7,rfl,h7,k7⟩:=aD k6;obtain ⟨y8,cs8,rfl,h8,k8⟩:=aD k7;obtain rfl:=cJ k8;have o0:=aK h0 rfl;have o1:=aK h1 rfl;have o2:=aK h2 rfl;have o3:=aK h3 rfl;have o4:=aK h4 rfl;have o5:=aK h5 rfl;have o6:=aK h6 rfl;have o7:=aK h7 rfl;have o8:=aK h8 rfl;obtain ⟨rs,hrs,ap⟩:=hap (aG (cf (aG h0 (aG h1 (aG h2 (aG h3 (aG h4 aw)))))) aw);obtain ⟨r0,rs0,rfl,hr0,m0⟩:=hrs;obtain ⟨r1,rs1,rfl,hr1,m1⟩:=m0;have e:rs1=[]:=m1;subst e;obtain ⟨z1,rfl,t1⟩:=hr1;have z1o:=aK t1 rfl;rcases hr0 with rfl | ⟨k'0,off0,len0,cap0,c0s,rfl,ls0,w0,n0⟩
  · obtain ⟨d0,p0⟩:=p13 pZ;obtain ⟨d1,p1⟩:=p9 t1;refine ep (t:=3) (rfl:tbl 18=some c18) rfl rfl rfl (by simp [aM,o0,o1,o2,o3,o4,o5,o6,o7,o8]) ?_;simp only [o,p,mv,zz,ci,aW,aI,aev,dq,dm,eE,du,au,bB,vs,CV.cells,Ce.L.oneA,nth?,unV,dj,da,rvA,bh,List.cons_append,List.nil_append,List.length_cons,List.length_nil,List.append_nil,List.take,List.drop,true_and,and_true,Nat.reduceAdd,Nat.reduceLeDiff,aM,ba,bI,bZ,bJ,Bool.and_self,c18,o0,o1,o2,o3,o4,o5,o6,o7,o8,z1o];refine ⟨[.v .nils,.v z1],ap,?_⟩;simp only [o,p,mv,zz,ci,aW,aI,aev,dq,dm,eE,du,au,bB,vs,CV.cells,Ce.L.oneA,nth?,unV,dj,da,rvA,bh,List.cons_append,List.nil_append,List.length_cons,List.length_nil,List.append_nil,List.take,List.drop,true_and,and_true,Nat.reduceAdd,Nat.reduceLeDiff,aM,ba,bI,bZ,bJ,Bool.and_self,o0,o1,o2,o3,o4,o5,o6,o7,o8,z1o];exact ⟨d0,_,p0,d1,_,p1,by omega,fq rfl rfl rfl rfl (ft rfl rfl (iU rfl rfl)) rfl rfl (rfl)⟩
  · obtain ⟨d0,p0⟩:=q13 ls0 (Nat.le_refl _) rfl;obtain ⟨d1,p1⟩:=p9 t1;refine ep (t:=3) (rfl:tbl 18=some c18) rfl rfl rfl (by simp [aM,o0,o1,o2,o3,o4,o5,o6,o7,o8]) ?_;simp only [o,p,mv,zz,ci,aW,aI,aev,dq,dm,eE,du,au,bB,vs,CV.cells,Ce.L.oneA,nth?,unV,dj,da,rvA,bh,List.cons_append,List.nil_append,List.length_cons,List.length_nil,List.append_nil,List.take,List.drop,true_and,and_true,Nat.reduceAdd,Nat.reduceLeDiff,aM,ba,bI,bZ,bJ,Bool.and_self,c18,o0,o1,o2,o3,o4,o5,o6,o7,o8,z1o];refine ⟨[.s k'0 off0 len0 cap0 c0s,.v z1],ap,?_⟩;simp only [o,p,mv,zz,ci,aW,aI,aev,dq,dm,eE,du,au,bB,vs,CV.cells,Ce.L.oneA,nth?,unV,dj,da,rvA,bh,List.cons_append,List.nil_append,List.length_cons,List.length_nil,List.append_nil,List.take,List.drop,true_and,and_true,Nat.reduceAdd,Nat.reduceLeDiff,aM,ba,bI,bZ,bJ,Bool.and_self,o0,o1,o2,o3,o4,o5,o6,o7,o8,z1o];exact ⟨d0,_,p0,d1,_,p1,by omega,fq rfl rfl rfl rfl (ft rfl rfl (iU rfl rfl)) rfl rfl (⟨w0,by omega⟩)⟩
theorem k21(hap:Ap22){cells:List CV}(hx:Tvs tXs cells):∃d,CallOK tbl 21 cells d (2 ^ 34):=by
  obtain ⟨y0,cs0,rfl,h0,k0⟩:=aD hx;obtain ⟨y1,cs1,rfl,h1,k1⟩:=aD k0;obtain ⟨y2,cs2,rfl,h2,k2⟩:=aD k1;obtain ⟨y3,cs3,rfl,h3,k3⟩:=aD k2;obtain ⟨y4,cs4,rfl,h4,k4⟩:=aD k3;obtain ⟨y5,cs5,rfl,h5,k5⟩:=aD k4;obtain ⟨y6,cs6,rfl,h6,k6⟩:=aD k5;obtain ⟨y7,cs7,rfl,h7,k7⟩:=aD k6;obtain ⟨y8,cs8,rfl,h8,k8⟩:=aD k7;obtain rfl:=cJ k8;have o0:=aK h0 rfl;have o1:=aK h1 rfl;have o2:=aK h2 rfl;have o3:=aK h3 rfl;have o4:=aK h4 rfl;have o5:=aK h5 rfl;have o6:=aK h6 rfl;have o7:=aK h7 rfl;have o8:=aK h8 rfl;obtain ⟨rs,hrs,ap⟩:=hap (aG (cf (aG h0 (aG h1 (aG h2 (aG h3 (aG h4 aw)))))) (aG h7 aw));obtain ⟨r0,rs0,rfl,hr0,m0⟩:=hrs;obtain ⟨r1,rs1,rfl,hr1,m1⟩:=m0;have e:rs1=[]:=m1;subst e;obtain ⟨z0,rfl,t0⟩:=hr0;obtain ⟨z1,rfl,t1⟩:=hr1;obtain ⟨g0,rfl,u0⟩:=kf t0;obtain ⟨g0x0,gs0x0,rfl,b0x0,e0x0⟩:=aD u0;obtain ⟨g0x1,gs0x1,rfl,b0x1,e0x1⟩:=aD e0x0;obtain rfl:=cJ e0x1;have g0x0o:=aK b0x0 rfl;have g0x1o:=aK b0x1 rfl;have z1o:=aK t1 rfl;obtain ⟨d0,p0⟩:=p23 t0;obtain ⟨d1,p1⟩:=p9 t1;refine ep (t:=3) (rfl:tbl 21=some c21) rfl rfl rfl (by simp [aM,o0,o1,o2,o3,o4,o5,o6,o7,o8,g0x0o,g0x1o]) ?_;simp only [o,p,mv,zz,ci,aW,aI,aev,dq,dm,eE,du,au,bB,vs,CV.cells,Ce.L.oneA,nth?,unV,dj,da,rvA,bh,List.cons_append,List.nil_append,List.length_cons,List.length_nil,List.append_nil,List.take,List.drop,true_and,and_true,Nat.reduceAdd,Nat.reduceLeDiff,aM,ba,bI,bZ,bJ,Bool.and_self,c21,o0,o1,o2,o3,o4,o5,o6,o7,o8,g0x0o,g0x1o,z1o];refine ⟨[.v (.agg [g0x0,g0x1]),.v z1],ap,?_⟩;simp only [o,p,mv,zz,ci,aW,aI,aev,dq,dm,eE,du,au,bB,vs,CV.cells,Ce.L.oneA,nth?,unV,dj,da,rvA,bh,List.cons_append,List.nil_append,List.length_cons,List.length_nil,List.append_nil,List.take,List.drop,true_and,and_true,Nat.reduceAdd,Nat.reduceLeDiff,aM,ba,bI,bZ,bJ,Bool.and_self,o0,o1,o2,o3,o4,o5,o6,o7,o8,g0x0o,g0x1o,z1o]
  exact ⟨d0,_,p0,d1,_,p1,by omega,gP rfl⟩
theorem k24(hap:Ap25){cells:List CV}(hx:Tvs tXs cells):∃d,CallOK tbl 24 cells d (2 ^ 34):=by
  obtain ⟨y0,cs0,rfl,h0,k0⟩:=aD hx;obtain ⟨y1,cs1,rfl,h1,k1⟩:=aD k0;obtain ⟨y2,cs2,rfl,h2,k2⟩:=aD k1;obtain ⟨y3,cs3,rfl,h3,k3⟩:=aD k2;obtain ⟨y4,cs4,rfl,h4,k4⟩:=aD k3;obtain ⟨y5,cs5,rfl,h5,k5⟩:=aD k4;obtain ⟨y6,cs6,rfl,h6,k6⟩:=aD k5;obtain ⟨y7,cs7,rfl,h7,k7⟩:=aD k6;obtain ⟨y8,cs8,rfl,h8,k8⟩:=aD k7;obtain rfl:=cJ k8;have o0:=aK h0 rfl;have o1:=aK h1 rfl;have o2:=aK h2 rfl;have o3:=aK h3 rfl;have o4:=aK h4 rfl;have o5:=aK h5 rfl;have o6:=aK h6 rfl;have o7:=aK h7 rfl;have o8:=aK h8 rfl;obtain ⟨rs,hrs,ap⟩:=hap (aG (cf (aG h0 (aG h1 (aG h2 (aG h3 (aG h4 aw)))))) aw);obtain ⟨r0,rs0,rfl,hr0,m0⟩:=hrs;obtain ⟨r1,rs1,rfl,hr1,m1⟩:=m0;have e:rs1=[]:=m1;subst e;obtain ⟨z1,rfl,t1⟩:=hr1;have z1o:=aK t1 rfl;rcases hr0 with rfl | ⟨k'0,off0,len0,cap0,c0s,rfl,ls0,w0,n0⟩
  · obtain ⟨d0,p0⟩:=p13 pZ;obtain ⟨d1,p1⟩:=p9 t1;refine ep (t:=3) (rfl:tbl 24=some c24) rfl rfl rfl (by simp [aM,o0,o1,o2,o3,o4,o5,o6,o7,o8]) ?_;simp only [o,p,mv,zz,ci,aW,aI,aev,dq,dm,eE,du,au,bB,vs,CV.cells,Ce.L.oneA,nth?,unV,dj,da,rvA,bh,List.cons_append,List.nil_append,List.length_cons,List.length_nil,List.append_nil,List.take,List.drop,true_and,and_true,Nat.reduceAdd,Nat.reduceLeDiff,aM,ba,bI,bZ,bJ,Bool.and_self,c24,o0,o1,o2,o3,o4,o5,o6,o7,o8,z1o];refine ⟨[.v .nils,.v z1],ap,?_⟩;simp only [o,p,mv,zz,ci,aW,aI,aev,dq,dm,eE,du,au,bB,vs,CV.cells,Ce.L.oneA,nth?,unV,dj,da,rvA,bh,List.cons_append,List.nil_append,List.length_cons,List.length_nil,List.append_nil,List.take,List.drop,true_and,and_true,Nat.reduceAdd,Nat.reduceLeDiff,aM,ba,bI,bZ,bJ,Bool.and_self,o0,o1,o2,o3,o4,o5,o6,o7,o8,z1o];exact ⟨d0,_,p0,d1,_,p1,by omega,fq rfl rfl rfl rfl (ft rfl rfl (iU rfl rfl)) rfl rfl (rfl)⟩
  · obtain ⟨d0,p0⟩:=q13 ls0 (Nat.le_refl _) rfl;obtain ⟨d1,p1⟩:=p9 t1;refine ep (t:=3) (rfl:tbl 24=some c24) rfl rfl rfl (by simp [aM,o0,o1,o2,o3,o4,o5,o6,o7,o8]) ?_;simp only [o,p,mv,zz,ci,aW,aI,aev,dq,dm,eE,du,au,bB,vs,CV.cells,Ce.L.oneA,nth?,unV,dj,da,rvA,bh,List.cons_append,List.nil_append,List.length_cons,List.length_nil,List.append_nil,List.take,List.drop,true_and,and_true,Nat.reduceAdd,Nat.reduceLeDiff,aM,ba,bI,bZ,bJ,Bool.and_self,c24,o0,o1,o2,o3,o4,o5,o6,o7,o8,z1o];refine ⟨[.s k'0 off0 len0 cap0 c0s,.v z1],ap,?_⟩;simp only [o,p,mv,zz,ci,aW,aI,aev,dq,dm,eE,du,au,bB,vs,CV.cells,Ce.L.oneA,nth?,unV,dj,da,rvA,bh,List.cons_append,List.nil_append,List.length_cons,List.length_nil,List.append_nil,List.take,List.drop,true_and,and_true,Nat.reduceAdd,Nat.reduceLeDiff,aM,ba,bI,bZ,bJ,Bool.and_self,o0,o1,o2,o3,o4,o5,o6,o7,o8,z1o];exact ⟨d0,_,p0,d1,_,p1,by omega,fq rfl rfl rfl rfl (ft rfl rfl (iU rfl rfl)) rfl rfl (⟨w0,by omega⟩)⟩
theorem k27(hap:Ap28){cells:List CV}(hx:Tvs tXs cells):∃d,CallOK tbl 27 cells d (2 ^ 34):=by
  obtain ⟨y0,cs0,rfl,h0,k0⟩:=aD hx;obtain ⟨y1,cs1,rfl,h1,k1⟩:=aD k0;obtain ⟨y2,cs2,rfl,h2,k2⟩:=aD k1;obtain ⟨y3,cs3,rfl,h3,k3⟩:=aD k2;obtain ⟨y4,cs4,rfl,h4,k4⟩:=aD k3;obtain ⟨y5,cs5,rfl,h5,k5⟩:=aD k4;obtain ⟨y6,cs6,rfl,h6,k6⟩:=aD k5;obtain ⟨y7,cs7,rfl,h7,k7⟩:=aD k6;obtain ⟨y8,cs8,rfl,h8,k8⟩:=aD k7;obtain rfl:=cJ k8;have o0:=aK h0 rfl;have o1:=aK h1 rfl;have o2:=aK h2 rfl;have o3:=aK h3 rfl;have o4:=aK h4 rfl;have o5:=aK h5 rfl;have o6:=aK h6 rfl;have o7:=aK h7 rfl;have o8:=aK h8 rfl;obtain ⟨rs,hrs,ap⟩:=hap (aG (cf (aG h0 (aG h1 (aG h2 (aG h3 (aG h4 aw)))))) (aG h5 (aG h8 aw)));obtain ⟨r0,rs0,rfl,hr0,m0⟩:=hrs;obtain ⟨r1,rs1,rfl,hr1,m1⟩:=m0;obtain ⟨r2,rs2,rfl,hr2,m2⟩:=m1;have e:rs2=[]:=m2;subst e;obtain ⟨z0,rfl,t0⟩:=hr0;obtain ⟨z1,rfl,t1⟩:=hr1;obtain ⟨z2,rfl,t2⟩:=hr2;have z0o:=aK t0 rfl;have z1o:=aK t1 rfl;have z2o:=aK t2 rfl;obtain ⟨d0,p0⟩:=p8 t0;obtain ⟨d1,p1⟩:=p8 t1;obtain ⟨d2,p2⟩:=p9 t2;refine ep (t:=3) (rfl:tbl 27=some c27) rfl rfl rfl (by simp [aM,o0,o1,o2,o3,o4,o5,o6,o7,o8]) ?_;simp only [o,p,mv,zz,ci,aW,aI,aev,dq,dm,eE,du,au,bB,vs,CV.cells,Ce.L.oneA,nth?,unV,dj,da,rvA,bh,List.cons_append,List.nil_append,List.length_cons,List.length_nil,List.append_nil,List.take,List.drop,true_and,and_true,Nat.reduceAdd,Nat.reduceLeDiff,aM,ba,bI,bZ,bJ,Bool.and_self,c27,o0,o1,o2,o3,o4,o5,o6,o7,o8,z0o,z1o,z2o];refine ⟨[.v z0,.v z1,.v z2],ap,?_⟩;simp only [o,p,mv,zz,ci,aW,aI,aev,dq,dm,eE,du,au,bB,vs,CV.cells,Ce.L.oneA,nth?,unV,dj,da,rvA,bh,List.cons_append,List.nil_append,List.length_cons,List.length_nil,List.append_nil,List.take,List.drop,true_and,and_true,Nat.reduceAdd,Nat.reduceLeDiff,aM,ba,bI,bZ,bJ,Bool.and_self,o0,o1,o2,o3,o4,o5,o6,o7,o8,z0o,z1o,z2o]
  exact ⟨d0,_,p0,d1,_,p1,d2,_,p2,by omega,gP rfl⟩
theorem k29(hap:Ap30){cells:List CV}(hx:Tvs tXs cells):∃d,CallOK tbl 29 cells d (2 ^ 34):=by
  obtain ⟨y0,cs0,rfl,h0,k0⟩:=aD hx;obtain ⟨y1,cs1,rfl,h1,k1⟩:=aD k0;obtain ⟨y2,cs2,rfl,h2,k2⟩:=aD k1;obtain ⟨y3,cs3,rfl,h3,k3⟩:=aD k2;obtain ⟨y4,cs4,rfl,h4,k4⟩:=aD k3;obtain ⟨y5,cs5,rfl,h5,k5⟩:=aD k4;obtain ⟨y6,cs6,rfl,h6,k6⟩:=aD k5;obtain ⟨y7,cs7,rfl,h7,k7⟩:=aD k6;obtain ⟨y8,cs8,rfl,h8,k8⟩:=aD k7;obtain rfl:=cJ k8;have o0:=aK h0 rfl;have o1:=aK h1 rfl;have o2:=aK h2 rfl;have o3:=aK h3 rfl;have o4:=aK h4 rfl;have o5:=aK h5 rfl;have o6:=aK h6 rfl;have o7:=aK h7 rfl;have o8:=aK h8 rfl;obtain ⟨rs,hrs,ap⟩:=hap (aG (cf (aG h0 (aG h1 (aG h2 (aG h3 (aG h4 aw)))))) aw);obtain ⟨r0,rs0,rfl,hr0,m0⟩:=hrs;obtain ⟨r1,rs1,rfl,hr1,m1⟩:=m0;have e:rs1=[]:=m1;subst e;obtain ⟨z1,rfl,t1⟩:=hr1;have z1o:=aK t1 rfl;rcases hr0 with rfl | ⟨k'0,off0,len0,cap0,c0s,rfl,ls0,w0,n0⟩
  · obtain ⟨d0,p0⟩:=p13 pZ;obtain ⟨d1,p1⟩:=p9 t1;refine ep (t:=3) (rfl:tbl 29=some c29) rfl rfl rfl (by simp [aM,o0,o1,o2,o3,o4,o5,o6,o7,o8]) ?_;simp only [o,p,mv,zz,ci,aW,aI,aev,dq,dm,eE,du,au,bB,vs,CV.cells,Ce.L.oneA,nth?,unV,dj,da,rvA,bh,List.cons_append,List.nil_append,List.length_cons,List.length_nil,List.append_nil,List.take,List.drop,true_and,and_true,Nat.reduceAdd,Nat.reduceLeDiff,aM,ba,bI,bZ,bJ,Bool.and_self,c29,o0,o1,o2,o3,o4,o5,o6,o7,o8,z1o];refine ⟨[.v .nils,.v z1],ap,?_⟩;simp only [o,p,mv,zz,ci,aW,aI,aev,dq,dm,eE,du,au,bB,vs,CV.cells,Ce.L.oneA,nth?,unV,dj,da,rvA,bh,List.cons_append,List.nil_append,List.length_cons,List.length_nil,List.append_nil,List.take,List.drop,true_and,and_true,Nat.reduceAdd,Nat.reduceLeDiff,aM,ba,bI,bZ,bJ,Bool.and_self,o0,o1,o2,o3,o4,o5,o6,o7,o8,z1o];exact ⟨d0,_,p0,d1,_,p1,by omega,fq rfl rfl rfl rfl (ft rfl rfl (iU rfl rfl)) rfl rfl (rfl)⟩
  · obtain ⟨d0,p0⟩:=q13 ls0 (Nat.le_refl _) rfl;obtain ⟨d1,p1⟩:=p9 t1;refine ep (t:=3) (rfl:tbl 29=some c29) rfl rfl rfl (by simp [aM,o0,o1,o2,o3,o4,o5,o6,o7,o8]) ?_;simp only [o,p,mv,zz,ci,aW,aI,aev,dq,dm,eE,du,au,bB,vs,CV.cells,Ce.L.oneA,nth?,unV,dj,da,rvA,bh,List.cons_append,List.nil_append,List.length_cons,List.length_nil,List.append_nil,List.take,List.drop,true_and,and_true,Nat.reduceAdd,Nat.reduceLeDiff,aM,ba,bI,bZ,bJ,Bool.and_self,c29,o0,o1,o2,o3,o4,o5,o6,o7,o8,z1o];refine ⟨[.s k'0 off0 len0 cap0 c0s,.v z1],ap,?_⟩;simp only [o,p,mv,zz,ci,aW,aI,aev,dq,dm,eE,du,au,bB,vs,CV.cells,Ce.L.oneA,nth?,unV,dj,da,rvA,bh,List.cons_append,List.nil_append,List.length_cons,List.length_nil,List.append_nil,List.take,List.drop,true_and,and_true,Nat.reduceAdd,Nat.reduceLeDiff,aM,ba,bI,bZ,bJ,Bool.and_self,o0,o1,o2,o3,o4,o5,o6,o7,o8,z1o];exact ⟨d0,_,p0,d1,_,p1,by omega,fq rfl rfl rfl rfl (ft rfl rfl (iU rfl rfl)) rfl rfl (⟨w0,by omega⟩)⟩
end Cl
namespace Cl
open Go Ce Ce.L Ce.S
theorem top(h7:Ap7)(h12:Ap12)(h17:Ap17)(h19:Ap19)(h22:Ap22)(h25:Ap25)(h28:Ap28)(h30:Ap30)(hw:∀h,Wf tbl (.fn 33) [] h fun v _=>v=.bool true){x:CV}(hx:Tv tX x)(h:H):Wf tbl (.fn 3) [x] h fun v _=>v=.bool true:=by
  have ha:=pall hx;obtain ⟨cells,rfl,hc⟩:=kf hx;refine top_ok (fcs:=[11,16,18,21,24,27,29]) (n:=9) (fa:=4) (fg:=5) (fs:=32) (fw:=33) (fc:=6) (rfl:tbl 3=some c3) rfl rfl rfl rfl (rfl:tbl 5=some (lw 32)) (rfl:tbl 32=some mH) ha (by omega) (uj hc) (rZ hc rfl) ?_ hw h;intro g hg;simp only [List.mem_cons,List.not_mem_nil,or_false] at hg;rcases hg with rfl | rfl | rfl | rfl | rfl | rfl | rfl | rfl
  · exact k6 h7 hc
  · exact k11 h12 hc
  · exact k16 h17 hc
  · exact k18 h19 hc
  · exact k21 h22 hc
  · exact k24 h25 hc
  · exact k27 h28 hc
  · exact k29 h30 hc
end Cl
