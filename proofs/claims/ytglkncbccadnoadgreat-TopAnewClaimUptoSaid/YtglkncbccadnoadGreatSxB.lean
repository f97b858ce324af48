/- A part of a proof. -/
import Derived.Test.YtglkncbccadnoadGreatCeB
import Derived.Test.YtglkncbccadnoadGreatSxA
set_option linter.unusedVariables false
set_option linter.unusedSimpArgs false
set_option maxRecDepth 1000000
namespace Ce.S
noncomputable section
open Go
section
variable {X:Cx} {v:V} {st:St} {env:List CV} {h:H}
def qHL(st:St)(k bytes:Nat)(s x:AV):Option (List (AV × St)) :=
 match mW st k x with
 | none=>none
 | some (m,new)=>match s with
  | .slc k' b off i len cap=>match hiC st.fa len with
   | none=>none
   | some hi=>if k'=k∧off=0∧i.s=0∧i.c=0∧leL st.fa ⟨0,1⟩ len 0=true∧leL st.fa cap len 0=true∧(hi.toNat+m)*(bytes+1)≤2 ^ 40 then
     match ai b st.bl with
     | some (.blk _ (.rows k2 R n) _)=>if k2=k∧leL st.fa len n 0=true∧oj st.fa R (fP k m new)=true then
       some [(.vec k st.n (len.add m),{ st with n:=st.n+1,bl:=.blk st.n (.rows k R (len.add m)) false::st.bl })] else none
     | some (.vec _ k2 R n _)=>if k2=k∧leL st.fa len n 0=true∧oj st.fa R (fP k m new)=true then
       some [(.vec k st.n (len.add m),{ st with n:=st.n+1,bl:=.blk st.n (.rows k R (len.add m)) false::st.bl })] else none
     | _=>none
    else none
  | _=>none
theorem xD(s:Sat X v st env h){k bytes m b:Nat}{new:List AV}{len cap n:Lin}{R:List Ty}{ro:Bool}{ca cx:CV}{r:Option (CV × H)}{cs0:List CV}{i:Lin}{hi:Int}
  (hr:r=appV k bytes ca cx h) (ha:∀w,Sat0 X w st env h→ca=den w (.slc k b 0 i len cap)) (hi0:i.s=0∧i.c=0)
  (hnew:∀w,Sat0 X w st env h→0 < m∧new.length=m*k∧lenOf cx=some m∧cellsOf k m h cx=some (aF w new)∧aM (aF w new)=true)
  (hh:hiC st.fa len=some hi) (g5:leL st.fa ⟨0,1⟩ len 0=true) (g6:leL st.fa cap len 0=true) (g7:(hi.toNat+m)*(bytes+1)≤2 ^ 40)
  (g8:leL st.fa len n 0=true) (g9:oj st.fa R (fP k m new)=true)
  (hblk:∀w,Sat0 X w st env h→h.get (w.b b)=some (.cells cs0 ro)∧0 < k∧R.length=k∧aQ w k R cs0 (n.ev w).toNat) :
  ae X v st env [(.vec k st.n (len.add m),{ st with n:=st.n+1,bl:=.blk st.n (.rows k R (len.add m)) false::st.bl })] r:=by
 have s0:=s.now;have basics:∀w,Sat0 X w st env h→1≤len.ev w∧cap.ev w≤len.ev w∧len.ev w≤hi∧len.ev w≤n.ev w∧i.ev w=0:=fun w sw=>by
  have q1:=aE sw.fa g5;have q2:=aE sw.fa g6;have q3:=eF sw.z sw.fa hh;have q4:=aE sw.fa g8;have q5:i.ev w=0:=by simp only [Lin.ev,hi0.1,hi0.2,sw.z]; omega
  simp only [Lin.ev,sw.z] at q1 q2 q3 q4 ⊢;simp only [Lin.ev] at q5;omega
 have same:∀w,Sat0 X w st env h→w.b b=v.b b∧(len.ev w).toNat=(len.ev v).toNat:=fun w sw=>by
  have e1:=ha w sw;rw [ha v s0] at e1;simp only [den,CV.slc.injEq,cQ] at e1;exact ⟨e1.1.symm,e1.2.2.1.symm⟩
 have hcut:∀w,Sat0 X w st env h→cut? cs0 0 ((len.ev w).toNat*k)=some ((cs0.drop 0).take ((len.ev w).toNat*k))∧aQ w k R ((cs0.drop 0).take ((len.ev w).toNat*k)) (len.ev w).toNat:=fun w sw=>by
  obtain ⟨_,hk0,hRk,hrows⟩:=hblk w sw;have hb:=basics w sw;have hl:=((ab w k R hRk _ _).1 hrows).1;have hle:(len.ev w).toNat*k≤(n.ev w).toNat*k:=dA _ (by omega);refine ⟨?_,?_⟩
  ·unfold cut?; rw [aH (by omega)]
  ·rw [kX]; exact ik hRk hrows (by omega)
 refine f8 s (cs:=(cs0.drop 0).take ((len.ev v).toNat*k)++aF v new) (fun u hu su=>?_) (fun u su=>?_)
 ·have hb:=basics u su;obtain ⟨n1,n2,n3,n4,n5⟩:=hnew u su;obtain ⟨_,_,_,n4v,n5v⟩:=hnew v s0;obtain ⟨hg,hk0,hRk,hrows⟩:=hblk u su;have hc:=(hcut u su).1;have hsz:((len.ev u).toNat+m)*(bytes+1)≤2 ^ 40:=cz (dA _ (by omega)) g7;rw [hr,ha u su];have e0:i.ev u=0:=hb.2.2.2.2;simp only [den,e0,gN,d9,d8];have hlo:lenOf (CV.slc k (u.b b) 0 (len.ev u).toNat (some (cap.ev u).toNat))=some (len.ev u).toNat:=rfl;simp only [appV,hlo,n3,aC (show ¬m=0 by omega),aC (show ¬((len.ev u).toNat+m)*(bytes+1)>2 ^ 46 by omega),n4v,n5v,nI,bX,dY,jk,hg];rw [aC (by omega),hc];simp only [(same u su).2];have hl2:(len.add ↑m).ev u=(((len.ev v).toNat+m:Nat):Int):=by
   rw [Lin.add_ev]; have:=(same u su).2; omega
  rw [aC (by omega),hl2,hu,fS]
 ·obtain ⟨n1,n2,n3,n4,n5⟩:=hnew u su;obtain ⟨_,_,_,n4v,_⟩:=hnew v s0;obtain ⟨hg,hk0,hRk,hrows⟩:=hblk u su;have hb:=basics u su;have hc:=(hcut u su).2;have hnw:aF v new=aF u new:=by rw [n4] at n4v; exact (lu n4v).symm
  have hl2:(len.add ↑m).ev u=(((len.ev v).toNat+m:Nat):Int):=by
   rw [Lin.add_ev]; have:=(same u su).2; omega
  refine ⟨hk0,hRk,by rw [hl2]; omega,?_⟩;rw [hl2,fS,hnw];rw [(same u su).2] at hc;exact jg hc (gX su.z su.fa n2 g9)
theorem qPS(s:Sat X v st env h){k bytes:Nat}{a x:AV}{outs:List (AV × St)}(hs:qHL st k bytes a x=some outs){ca cx:CV}{r:Option (CV × H)}(hr:r=appV k bytes ca cx h)(ha:∀w,Sat0 X w st env h→ca=den w a)(hx:∀w,Sat0 X w st env h→cx=den w x):ae X v st env outs r:=by
 have s0:=s.now;unfold qHL at hs;split at hs<;>(try (cases hs; done));rename_i m new hnc;have hnew:∀w,Sat0 X w st env h→0 < m∧new.length=m*k∧lenOf cx=some m∧cellsOf k m h cx=some (aF w new)∧aM (aF w new)=true:=fun w sw=>by
  rw [hx w sw]; exact kB sw hnc
 split at hs<;>(try (cases hs; done));rename_i k' b off i len cap;split at hs<;>(try (cases hs; done));rename_i hi hh;split at hs<;>(try (cases hs; done));rename_i hg;obtain ⟨rfl,rfl,g3,g4,g5,g6,g7⟩:=hg;split at hs<;>(try (cases hs; done))
 ·rename_i b' k2 R n ro hb;have hkey:=(s0.blk hb).2;simp only [dF] at hkey; subst hkey;split at hs<;>(try (cases hs; done));rename_i hg2;obtain ⟨rfl,g8,g9⟩:=hg2;simp only [sI] at hs; subst hs;obtain ⟨cs0,hcs0,_⟩:=(s0.blk hb).1;refine xD s hr ha ⟨g3,g4⟩ hnew hh g5 g6 g7 g8 g9 (cs0:=cs0) (ro:=ro) (fun w sw=>?_);obtain ⟨cs1,hcs1,hk0,hRk,hn0,hrows⟩:=(sw.blk hb).1;have e1:=ha w sw;rw [ha v s0] at e1;simp only [den,CV.slc.injEq,cQ] at e1;rw [←e1.1] at hcs1 ⊢;rw [hcs0] at hcs1;simp only [sI,Blk.cells.injEq,cZ] at hcs1; subst hcs1;exact ⟨hcs0,hk0,hRk,hrows⟩
 ·rename_i b' k2 R n ro hb;have hkey:=(s0.blk hb).2;simp only [dF] at hkey; subst hkey;split at hs<;>(try (cases hs; done));rename_i hg2;obtain ⟨rfl,g8,g9⟩:=hg2;simp only [sI] at hs; subst hs;have pos:∀w,Sat0 X w st env h→¬n.ev w=0:=fun w sw=>by
   have q1:=aE sw.fa g5;have q4:=aE sw.fa g8;simp only [Lin.ev,sw.z] at q1 q4 ⊢; omega
  rcases (s0.blk hb).1 with h0 | ⟨cs0,hcs0,_⟩
  ·exact absurd h0 (pos v s0)
  refine xD s hr ha ⟨g3,g4⟩ hnew hh g5 g6 g7 g8 g9 (cs0:=cs0) (ro:=ro) (fun w sw=>?_);rcases (sw.blk hb).1 with h0 | ⟨cs1,hcs1,hk0,hRk,hn0,hrows⟩
  ·exact absurd h0 (pos w sw)
  have e1:=ha w sw;rw [ha v s0] at e1;simp only [den,CV.slc.injEq,cQ] at e1;rw [←e1.1] at hcs1 ⊢;rw [hcs0] at hcs1;simp only [sI,Blk.cells.injEq,cZ] at hcs1; subst hcs1;exact ⟨hcs0,hk0,hRk,hrows⟩
theorem ph:∀(cs new:List CV),cs.length=new.length→splice cs 0 new=new
 | [],[],_=>rfl
 | [],_::_,h=>by simp at h
 | _::_,[],h=>by simp at h
 | c::cs,x::xs,h=>by simp only [splice]; rw [ph cs xs (by simpa using h)]
def qHH(st:St)(k:Nat)(d s:AV):Option (List (AV × St)) :=
 match xf st k s,d with
 | some (R,sl),.slc k' b off i len _ =>
  if k'=k∧off=0∧i.s=0∧i.c=0∧leL st.fa ⟨0,0⟩ len 0=true∧leL st.fa len sl 0=true∧hO R=true then
   match ai b st.bl with
   | some (.blk _ (.rows k2 _ n) false)=>if k2=k∧be st.fa len n=true then
     some [(.int .i64 len.s len.c,{ st with bl:=dS b [.blk b (.rows k R len) false] st.bl })] else none
   | _=>none
  else none
 | _,_=>none
theorem qHG(s:Sat X v st env h){k:Nat}{a x:AV}{outs:List (AV × St)}(hs:qHH st k a x=some outs){ca cx:CV}{r:Option (CV × H)}(hr:r=cpyV k ca cx h)(ha:∀w,Sat0 X w st env h→ca=den w a)(hx:∀w,Sat0 X w st env h→cx=den w x):ae X v st env outs r:=by
 have s0:=s.now;unfold qHH at hs;split at hs<;>(try (cases hs; done));rename_i R sl k' b off i len cap hsrc;obtain ⟨m,hm,hsl,hRk,hnew⟩:=oy s hsrc hx;split at hs<;>(try (cases hs; done));rename_i hg;obtain ⟨rfl,rfl,g1,g2,g3,g4,g5⟩:=hg;split at hs<;>(try (cases hs; done));rename_i b' k2 R2 n hb;have hkey:=(s0.blk hb).2;simp only [dF] at hkey; subst hkey;split at hs<;>(try (cases hs; done));rename_i hg2;obtain ⟨rfl,g6⟩:=hg2;simp only [sI] at hs; subst hs;have basics:∀w,Sat0 X w st env h→0≤len.ev w∧len.ev w≤(m:Int)∧n.ev w=len.ev w∧i.ev w=0:=fun w sw=>by
  have q1:=aE sw.fa g3;have q2:=aE sw.fa g4;have q3:=aj sw.fa g6;have q4:=hsl w sw;have q5:i.ev w=0:=by simp only [Lin.ev,g1,g2,sw.z]; omega
  simp only [Lin.ev,sw.z] at q1 q2 q3 q4 ⊢;simp only [Lin.ev] at q5;omega
 have hlen:lenOf ca=some (len.ev v).toNat:=by rw [ha v s0]; rfl
 have same:∀w,Sat0 X w st env h→w.b b'=v.b b'∧(len.ev w).toNat=(len.ev v).toNat:=fun w sw=>by
  have e1:=ha w sw;rw [ha v s0] at e1;simp only [den,CV.slc.injEq,cQ] at e1;exact ⟨e1.1.symm,e1.2.2.1.symm⟩
 rw [qBN hlen hm] at hr;have bv:=basics v s0;have hmin:min m (len.ev v).toNat=(len.ev v).toNat:=Nat.min_eq_right (by omega);rw [hmin] at hr;obtain ⟨cs0,hcs0,hk0,_,hn0,hrows0⟩:=(s0.blk hb).1;have dv:∀w,Sat0 X w st env h→den w (.int .i64 len.s len.c)=.int .i64 ((len.ev v).toNat:Nat):=fun w sw=>by
  have:=(basics w sw).1;have:=(same w sw).2;simp only [den]
  congr 1
  show len.ev w=_
  omega
 by_cases h0:(len.ev v).toNat=0
 ·rw [aH h0] at hr;refine ae.mk' (w:=v) (c:=.int .i64 0) (h':=h) mS (Agr.refl _ _) (aV _) rfl s.pos hr (fun u hu=>?_);have su:=s.all u hu;refine ⟨su.say hb rfl ⟨cs0,?_,hk0,hRk,(basics u su).1,?_⟩,by rw [dv u su,h0]; rfl⟩
  ·rw [(same u su).1]; exact hcs0
  ·have e:(len.ev u).toNat=0:=by rw [(same u su).2,h0]
   have e2:(n.ev v).toNat=0:=by rw [bv.2.2.1]; exact h0
   rw [e2] at hrows0;rw [e];exact hrows0
 ·rw [aC h0] at hr;obtain ⟨new,hcells,hrowsN⟩:=hnew (len.ev v).toNat (by omega) h0;have hone:aM new=true:=jx g5 (hrowsN v s0);have hnl:=((ab v k2 R hRk _ _).1 (hrowsN v s0)).1;refine qC s hb (fun u=>rfl) (cs:=new) (ro:=false) (fun u su=>?_) (fun u su=>?_)
  ·obtain ⟨cs1,hcs1,_,hR1,_,hrows1⟩:=(su.blk hb).1;have hl1:=((ab u k2 R2 hR1 _ _).1 hrows1).1;have bu:=basics u su;have sm:=same u su;rw [bu.2.2.1,sm.2] at hl1;rw [hr,hcells,dv u su,ha u su];simp only [den,hcs1,bu.2.2.2,gN,d9,d8,dg];rw [aH (by simp only [aT,dT]; exact ⟨by omega,hone⟩),ph _ _ (by omega)]
  ·refine ⟨hk0,hRk,(basics u su).1,?_⟩;rw [(same u su).2];exact hrowsN u su
def qHF(st:St)(d s:AV):Option (List (AV × St)):=match s,d with
 | .nils,.slc _ _ _ _ _ _=>some [(.int .i64 0 0,st)]
 | _,_=>none
theorem qHE(s:Sat X v st env h){k:Nat}{a x:AV}{outs:List (AV × St)}(hs:qHF st a x=some outs){ca cx:CV}{r:Option (CV × H)}(hr:r=cpyV k ca cx h)(ha:∀w,Sat0 X w st env h→ca=den w a)(hx:∀w,Sat0 X w st env h→cx=den w x):ae X v st env outs r:=by
 unfold qHF at hs;split at hs<;>(try (cases hs; done));rename_i k1 b off i len cap;simp only [sI] at hs; subst hs;refine aJ s fun w sw=>?_
 rw [hr,ha w sw,hx w sw];simp only [den,cpyV,lenOf,Nat.zero_min,ac,sw.z,Int.zero_add]
def xx(st:St)(k bytes:Nat)(z:List CV)(l c:AV)(R:List Ty):Option (List (AV × St)) :=
 match asLin l,asLin c,jF z with
 | some ll,some lc,some zs=>if leL st.fa ⟨0,0⟩ ll 0&&leL st.fa ll lc 0&&leL st.fa lc ⟨0,(2 ^ 40 / (bytes+1):Nat)⟩ 0&&decide (0 < k)&&R.length==k&&p7 st.fa R zs then
   some [(.slc k st.n 0 ⟨0,0⟩ ll lc,{ st with n:=st.n+1,bl:=.blk st.n (.rows k R lc) false::st.bl })] else none
 | _,_,_=>none
theorem qCQ(s:Sat X v st env h){k bytes:Nat}{z:List CV}{l c:AV}{R:List Ty}{outs:List (AV × St)}(hs:xx st k bytes z l c R=some outs){cl cc:CV}{r:Option (CV × H)}(hr:r=mkslV k bytes z cl cc h)(hl:∀w,Sat0 X w st env h→cl=den w l)(hc:∀w,Sat0 X w st env h→cc=den w c):ae X v st env outs r:=by
 have s0:=s.now;unfold xx at hs;split at hs
 ·rename_i ll lc zs h1 h2 h3;split at hs
  ·rename_i hg;simp only [aT,dT,aZ] at hg;obtain ⟨⟨⟨⟨⟨g1,g2⟩,g3⟩,g4⟩,g5⟩,g6⟩:=hg;have hz:∀w,Sat0 X w st env h→a8 w R z:=fun w sw=>by
    have:=fm sw.z sw.fa R zs g6
    rwa [dR sw.z z zs h3] at this
   simp only [sI] at hs; subst hs;have vals:∀w,Sat0 X w st env h→∃k1 k2,cl=.int k1 (ll.ev w)∧cc=.int k2 (lc.ev w)∧0≤ll.ev w∧ll.ev w≤lc.ev w∧lc.ev w≤(2 ^ 40 / (bytes+1):Nat):=fun w sw=>by
    obtain ⟨k1,e1⟩:=dX (w:=w) h1;obtain ⟨k2,e2⟩:=dX (w:=w) h2;have q1:=aE sw.fa g1;have q2:=aE sw.fa g2;have q3:=aE sw.fa g3;simp only [Lin.ev,sw.z] at q1 q2 q3;refine ⟨k1,k2,by rw [hl w sw,e1],by rw [hc w sw,e2],?_,?_,?_⟩<;>simp only [Lin.ev]<;>omega
   obtain ⟨k1,k2,e1,e2,p1,p2,p3⟩:=vals v s0;have hsz:lc.ev v*(bytes+1)≤2 ^ 40:=by
    obtain ⟨m,hm⟩:=Int.eq_ofNat_of_zero_le (show 0≤lc.ev v by omega);rw [hm] at p3 ⊢;have h5:m≤2 ^ 40 / (bytes+1):=Int.ofNat_le.1 p3;have h6:m*(bytes+1)≤2 ^ 40:=cz (dA _ h5) (Nat.div_mul_le_self _ _);have h7:((m*(bytes+1):Nat):Int)≤((2 ^ 40:Nat):Int):=Int.ofNat_le.2 h6;have h8:((m*(bytes+1):Nat):Int)=(m:Int)*((bytes:Int)+1):=by rw [Int.natCast_mul,Int.natCast_add]; rfl
    have h9:((2 ^ 40:Nat):Int)=(2:Int) ^ 40:=rfl;rw [←h8,←h9]; exact h7
   have zl:z.length=k:=by
    have:=((bi v R z).1 (hz v s0)).1; omega
   have same:∀u,Sat0 X u st env h→ll.ev u=ll.ev v∧lc.ev u=lc.ev v:=fun u su=>by
    obtain ⟨k3,k4,e3,e4,_⟩:=vals u su;rw [e1] at e3; rw [e2] at e4;simp only [CV.int.injEq] at e3 e4;exact ⟨e3.2.symm,e4.2.symm⟩
   refine f8 s (cs:=dQ z (lc.ev v).toNat) (fun u hb su=>?_) (fun u su=>?_)
   ·rw [hr,e1,e2];simp only [mkslV,aH (show 0≤ll.ev v∧ll.ev v≤lc.ev v∧lc.ev v*(bytes+1)≤2 ^ 40 from ⟨p1,p2,hsz⟩),den,hb,(same u su).1,(same u su).2];simp only [Lin.ev,su.z,gN,d9,d8,eV]
   ·simp only [cR,(same u su).2];exact ⟨g4,g5,by omega,jC zl (hz u su) _⟩
  ·cases hs
 ·cases hs
def qJD(op:BinOp)(a b:Lin):Option Lin:=match op with
 | .add=>if b.s=0 then some ⟨a.s,a.c+b.c⟩ else if a.s=0 then some ⟨b.s,a.c+b.c⟩ else none
 | .sub=>if b.s=0 then some ⟨a.s,a.c - b.c⟩ else none
 | _=>none
def qD(fs:List Fact)(st:St):St:={ st with fa:=fs++st.fa }
def zf(op:BinOp)(k:IntKind)(a b:Lin)(st:St):Option (List (AV × St)):=match qJD op a b with
 | some l=>some [(.int k l.s l.c,qD [.dc 0 l.s (l.c - kLo k),.dc l.s 0 (kHi k - l.c)] st),fresh (qD [.dc l.s 0 (kLo k - 1 - l.c)] st) (eU k),fresh (qD [.dc 0 l.s (l.c - kHi k - 1)] st) (eU k)]
 | none=>none
theorem qQO{op:BinOp}{a b l:Lin}(h:qJD op a b=some l){w:V}(z:w.i 0=0)(k:IntKind):iS op k (a.ev w) (b.ev w)=some (.int k (k.wrap (l.ev w))):=by
 cases op<;>simp only [qJD] at h<;>(try (cases h; done))
 ·split at h
  ·rename_i h0;simp only [sI] at h; subst h;have:b.ev w=b.c:=by simp only [Lin.ev,h0,z]; omega
   simp only [iS,this];rw [show (⟨a.s,a.c+b.c⟩:Lin).ev w=a.ev w+b.c by simp only [Lin.ev]; omega]
  ·split at h
   ·rename_i h0;simp only [sI] at h; subst h;have:a.ev w=a.c:=by simp only [Lin.ev,h0,z]; omega
    simp only [iS,this];rw [show (⟨b.s,a.c+b.c⟩:Lin).ev w=a.c+b.ev w by simp only [Lin.ev]; omega]
   ·cases h
 ·split at h
  ·rename_i h0;simp only [sI] at h; subst h;have:b.ev w=b.c:=by simp only [Lin.ev,h0,z]; omega
   simp only [iS,this];rw [show (⟨a.s,a.c - b.c⟩:Lin).ev w=a.ev w - b.c by simp only [Lin.ev]; omega]
  ·cases h
theorem qHI(s:Sat X v st env h){op:BinOp}{k:IntKind}{a b:Lin}{outs:List (AV × St)}(hs:zf op k a b st=some outs){r:Option (CV × H)}{x y:Int}(hx:∀w,Sat0 X w st env h→a.ev w=x)(hy:∀w,Sat0 X w st env h→b.ev w=y)(hr:r=match iS op k x y with
  | some c=>some (c,h)
  | none=>none):ae X v st env outs r:=by
 have s0:=s.now;unfold zf at hs;split at hs<;>(try (cases hs; done));rename_i l hl;simp only [sI] at hs; subst hs;have hv:∀w,Sat0 X w st env h→r=some (.int k (k.wrap (l.ev w)),h):=fun w sw=>by
  have:=qQO hl sw.z k;rw [hx w sw,hy w sw] at this;rw [hr,this]
 have key:∀(fs:List Fact),(∀u,Sat0 X u st env h→∀f,f∈fs→FOK u f)→Sat X v (qD fs st) env h:=fun fs hf=>s.fact hf
 have weak:∀(fs:List Fact) (w:V),Sat0 X w (qD fs st) env h→Sat0 X w st env h:=fun fs w sw=>⟨sw.z,sw.env,fun f hf=>sw.fa f (fF _ hf),sw.bl,sw.nd,sw.lt,sw.hn,sw.fr⟩
 have far:∀(fs:List Fact),(∀u,Sat0 X u st env h→∀f,f∈fs→FOK u f)→ae X v st env [fresh (qD fs st) (eU k)] r:=fun fs hf=>by
  have:=dN (key fs hf) (T:=eU k) (hv v s0) (fun w sw=>qXR sw.z k (l.ev v));exact this
 have hm:∀w,Sat0 X w st env h→l.ev w=l.ev v:=fun w sw=>by
  have e1:=hx w sw; have e2:=hy w sw; have e3:=hx v s0; have e4:=hy v s0;have z1:=sw.z; have z2:=s0.z;cases op<;>simp only [qJD] at hl<;>(try (cases hl; done))
  ·split at hl
   ·simp only [sI] at hl; subst hl;simp only [Lin.ev] at *; omega
   ·split at hl
    ·simp only [sI] at hl; subst hl;simp only [Lin.ev] at *; omega
    ·cases hl
  ·split at hl
   ·simp only [sI] at hl; subst hl;simp only [Lin.ev] at *; omega
   ·cases hl
 by_cases h1:kLo k≤l.ev v
 ·by_cases h2:l.ev v≤kHi k
  ·refine ae.sub (o1:=[(.int k l.s l.c,qD [.dc 0 l.s (l.c - kLo k),.dc l.s 0 (kHi k - l.c)] st)]) ?_ (fun o ho=>by simp only [cM] at ho; subst ho; exact mS);have s1:=key [.dc 0 l.s (l.c - kLo k),.dc l.s 0 (kHi k - l.c)] (fun u su f hf=>by
    have:=hm u su;have hz:=su.z;simp only [aS,bz,br] at hf;simp only [Lin.ev] at this h1 h2;rcases hf with rfl | rfl<;>simp only [FOK]<;>omega)
   have:=aJ s1 (a:=.int k l.s l.c) (r:=r) (fun w sw=>by
    have sw0:=weak _ w sw;have hb:=hm w sw0;rw [hv w sw0,ou (by omega) (by omega)];simp only [den,Lin.ev])
   exact this
  ·refine ae.sub (far [.dc 0 l.s (l.c - kHi k - 1)] (fun u su f hf=>?_)) (fun o ho=>by simp only [cM] at ho; subst ho; exact mC _ (mC _ mS));have:=hm u su;have hz:=su.z;simp only [aS,bz,br] at hf;simp only [Lin.ev] at this h2;subst hf; simp only [FOK]; omega
 ·refine ae.sub (far [.dc l.s 0 (kLo k - 1 - l.c)] (fun u su f hf=>?_)) (fun o ho=>by simp only [cM] at ho; subst ho; exact mC _ mS);have:=hm u su;have hz:=su.z;simp only [aS,bz,br] at hf;simp only [Lin.ev] at this h1;subst hf; simp only [FOK]; omega
def zg(st:St)(k bytes:Nat)(s x:AV):Option (List (AV × St)):=match qHM st k bytes s x with
 | some r=>some r
 | none=>match sApp st k bytes s x with
  | some r=>some r
  | none=>match qHN st k bytes s x with
   | some r=>some r
   | none=>qHL st k bytes s x
theorem vH(s:Sat X v st env h){k bytes:Nat}{a x:AV}{outs:List (AV × St)}(hs:zg st k bytes a x=some outs){ca cx:CV}{r:Option (CV × H)}(hr:r=appV k bytes ca cx h)(ha:∀w,Sat0 X w st env h→ca=den w a)(hx:∀w,Sat0 X w st env h→cx=den w x):ae X v st env outs r:=by
 unfold zg at hs;split at hs
 ·rename_i r1 h1;simp only [sI] at hs; subst hs;exact qPT s h1 hr ha hx
 ·split at hs
  ·rename_i r1 h1;simp only [sI] at hs; subst hs;exact qPR s h1 hr ha hx
  ·split at hs
   ·rename_i r1 h1;simp only [sI] at hs; subst hs;exact qPU s h1 hr ha hx
   ·exact qPS s hs hr ha hx
def isSl:AV→Bool
 | .slc _ _ _ _ _ _ | .vec _ _ _=>true
 | _=>false
def fzA(st:St)(x:AV):Option St:=match x with
 | .slc _ b _ _ _ _=>match ai b st.bl with
  | some (.blk _ (.cells [a]) false)=>if isSl a then (match frA a st with
    | some (a',st1)=>match ai b st1.bl with
     | some (.blk _ (.cells [_]) false)=>some { st1 with bl:=dS b [.blk b (.cells [a']) false] st1.bl }
     | _=>none
    | none=>none) else if zu st.fa a then some st else none
  | _=>none
 | _=>none
theorem fzA_ok(s:Sat X v st env h){x:AV}{st':St}(hs:fzA st x=some st'){cx:CV}(hx:∀w,Sat0 X w st env h→cx=den w x) :
  ∃w h1,Agr st.n v w∧st.n≤st'.n∧st'.env=st.env∧fzX cx h=some h1∧Sat X w st' env h1:=by
 have s0:=s.now;unfold fzA at hs;split at hs<;>(try (cases hs; done));rename_i k b off i len cap;split at hs<;>(try (cases hs; done));rename_i b0 a hb;have hkey:=(s0.blk hb).2;simp only [dF] at hkey; subst hkey;have hbb:∀w,Sat0 X w st env h→w.b b0=v.b b0:=fun w sw=>by
  have e1:=hx w sw;rw [hx v s0] at e1;simp only [den,CV.slc.injEq,cQ] at e1;exact e1.1.symm
 have hget:∀w,Sat0 X w st env h→h.get (v.b b0)=some (.cells [den w a] false):=fun w sw=>by
  obtain ⟨cs,hcs,ho⟩:=(sw.blk hb).1;simp only [cR,aF] at ho; subst ho;rw [hbb w sw] at hcs; exact hcs
 have hc:∀w,Sat0 X w st env h→den v a=den w a:=fun w sw=>by
  have e1:=hget w sw;rw [hget v s0] at e1;simp only [sI,Blk.cells.injEq,iJ,cZ] at e1;exact e1
 have hxv:cx=.slc k (v.b b0) (off+(i.ev v).toNat*k) (len.ev v).toNat (some (cap.ev v).toNat):=hx v s0;split at hs
 ·rename_i hsl;split at hs<;>(try (cases hs; done));rename_i a' st1 hfr;split at hs<;>(try (cases hs; done));rename_i b2 y hb2;simp only [sI] at hs; subst hs;obtain ⟨o,ho,w,hw,hn,he,c',h1,hfz,sw,hden⟩:=yV s hfr hc 18;simp only [cM] at ho; subst ho
  dsimp only at hn he hden sw
  have hub:∀u,Agr st1.n w u→u.b b0=v.b b0:=fun u hu=>hbb u (s.all u (hw.trans hu hn))
  have hget2:∃z,h1.get (v.b b0)=some (.cells [z] false):=by
   obtain ⟨cs,hcs,ho⟩:=(sw.now.blk hb2).1;have hk2:=(sw.now.blk hb2).2;simp only [dF] at hk2;simp only [cR,aF] at ho; subst ho;rw [hk2,hub w (Agr.refl _ _)] at hcs;exact ⟨_,hcs⟩
  have hk2:=(sw.now.blk hb2).2;simp only [dF] at hk2; subst hk2;have two:(∃k1 r1 o1 l1 c1,den v a=.slc k1 r1 o1 l1 c1)∨den v a=.nils:=by
   cases a<;>simp only [isSl] at hsl<;>(try (cases hsl; done))
   ·exact .inl ⟨_,_,_,_,_,rfl⟩
   ·simp only [den];split
    ·exact .inr rfl
    ·exact .inl ⟨_,_,_,_,_,rfl⟩
  rcases two with ⟨k1,r1,o1,l1,c1,e⟩ | e
  ·obtain ⟨z,hz⟩:=hget2;refine ⟨w,h1.put (v.b b2) (.cells [c'] false),hw,hn,he,?_,sw.pos,fun u hu=>?_⟩
   ·rw [hxv];have hg:=hget v s0;rw [e] at hg hfz;simp only [fzX,hg,hfz,hz]
   ·have su:=sw.all u hu;have:=su.put hb2 (q:=.blk b2 (.cells [a']) false) (blk:=.cells [c'] false) rfl rfl ⟨[c'],by rw [get_put,aH rfl],by simp only [cR,aF,hden u hu]⟩;rw [hub u hu] at this;exact this
  ·have hfz2:(CV.nils,h)=(c',h1):=by
    rw [e] at hfz;exact lu hfz
   simp only [pI] at hfz2;obtain ⟨rfl,rfl⟩:=hfz2;refine ⟨w,h,hw,hn,he,?_,sw.pos,fun u hu=>?_⟩
   ·rw [hxv];have hg:=hget v s0;rw [e] at hg;simp only [fzX,hg]
   ·have su:=sw.all u hu;refine su.say hb2 rfl ⟨[.nils],?_,by simp only [cR,aF,hden u hu]⟩;rw [hub u hu,hget v s0,e]
 ·split at hs
  ·rename_i hp;simp only [sI] at hs; subst hs;refine ⟨v,h,Agr.refl _ _,aV _,rfl,?_,s⟩;rw [hxv];have hg:=hget v s0;have hno:∀k1 r1 o1 l1 c1,den v a≠.slc k1 r1 o1 l1 c1:=fun k1 r1 o1 l1 c1 e=>by
    have:=pz s0.fa hp 0 h;rw [e] at this;simp only [frz] at this;split at this
    ·split at this
     ·split at this<;>simp at this
     ·cases this
    ·cases this
   simp only [fzX,hg];cases hd:den v a<;>simp only [hd]<;>first | rfl | exact absurd hd (hno _ _ _ _ _)
  ·cases hs
def qHK(st:St)(k bytes:Nat)(s x:AV):Option (List (AV × St)):=match Nat.beq bytes 24&&Nat.beq k 1 with
 | true=>match fzA st x with
  | some st1=>zg st1 k bytes s x
  | none=>none
 | false=>zg st k bytes s x
theorem qHJ(s:Sat X v st env h){k bytes:Nat}{a x:AV}{outs:List (AV × St)}(hs:qHK st k bytes a x=some outs){ca cx:CV}{r:Option (CV × H)}(hr:r=appW k bytes ca cx h)(ha:∀(st2:St) (h2:H) (w:V),st2.env=st.env→Sat0 X w st2 env h2→ca=den w a)(hx:∀(st2:St) (h2:H) (w:V),st2.env=st.env→Sat0 X w st2 env h2→cx=den w x):ae X v st env outs r:=by
 unfold qHK at hs;unfold appW at hr;split at hs
 ·rename_i hbb;rw [hbb] at hr;split at hs
  ·rename_i st1 hf;obtain ⟨w,h1,hw,hn,he,hfx,sw⟩:=fzA_ok s hf (cx:=cx) (fun w sw=>hx st h w rfl sw)
   dsimp only at hr
   rw [hfx] at hr;obtain ⟨o,ho,w2,hw2,hn2,he2,rest⟩:=vH sw hs hr (fun u su=>ha st1 h1 u he su) (fun u su=>hx st1 h1 u he su);exact ⟨o,ho,w2,hw.trans hw2 hn,cz hn hn2,he2.trans he,rest⟩
  ·cases hs
 ·rename_i hbb;rw [hbb] at hr;exact vH s hs hr (fun u su=>ha st h u rfl su) (fun u su=>hx st h u rfl su)
end
end
end Ce.S
namespace Ce.S
noncomputable section
open Go
section
variable {X:Cx} {v:V} {st:St} {env:List CV} {h:H}
def endB(fa:List Fact)(i len n:Lin):Bool:=match ug i len with
 | some t=>leL fa t n 0
 | none=>false
def qCU(z:List AV):Nat→List AV
 | 0=>[]
 | n+1=>z++qCU z n
def qPL(st:St)(k:Nat)(z:List CV)(x:AV):Option (List (AV × St)):=match x with
 | .slv k1 b i len=>match ai b st.bl,jF z with
  | some (.vec b' k2 R n false),some zA=>if k1=k∧b'=b∧k2=k∧p7 st.fa R zA=true∧leL st.fa ⟨0,0⟩ i 0=true∧leL st.fa ⟨0,0⟩ len 0=true∧z.length=k∧aM z=true∧leL st.fa ⟨0,1⟩ n 0=true∧endB st.fa i len n=true then some [(.tup [],st)] else none
  | some (.blk b' (.cells l) false),some zA=>if k1=k∧b'=b∧0 < k∧i.s=0∧0≤i.c∧len.s=0∧0≤len.c∧zA.length=k∧aM z=true∧(i.c.toNat+len.c.toNat)*k≤l.length then
    (if len.c.toNat=0 then some [(.tup [],st)] else some [(.tup [],{ st with bl:=dS b [.blk b (.cells (dI l (i.c.toNat*k) (qCU zA len.c.toNat))) false] st.bl })]) else none
  | _,_=>none
 | _=>none
theorem vJ{v:V}{z:List CV}{zA:List AV}(h:aF v zA=z):∀n,aF v (qCU zA n)=dQ z n
 | 0=>rfl
 | n+1=>by simp only [qCU,cX,h,vJ h n,dQ]
theorem qPK(s:Sat X v st env h){k:Nat}{z:List CV}{x:AV}{outs:List (AV × St)}(hs:qPL st k z x=some outs){cx:CV}(hx:∀w,Sat0 X w st env h→cx=den w x){r:Option (CV × H)}(hr:r=match (generalizing:=false) cx with
  | .slc _ r off len _=>if len=0 then some (.tup [],h) else if k=0 then none else (match h.get r with
   | some (.cells cs false)=>if off+len*k≤cs.length&&aM z then some (.tup [],h.put r (.cells (splice cs off (dQ z len)) false)) else none
   | _=>none)
  | _=>none):ae X v st env outs r:=by
 have s0:=s.now;unfold qPL at hs;split at hs<;>(try (cases hs; done));rename_i k1 b i len;split at hs<;>(try (cases hs; done))
 rotate_left
 ·rename_i b' l zA hlk hzA;split at hs<;>(try (cases hs; done));rename_i hc;obtain ⟨rfl,rfl,c1,c2,c3,c4,c5,c6,c7,c8⟩:=hc;have e0:=hx v s0;have ei:∀w,Sat0 X w st env h→(i.ev w).toNat=i.c.toNat∧(len.ev w).toNat=len.c.toNat:=fun w sw=>by
   simp only [Lin.ev,c2,c4,sw.z]; constructor<;>congr 1<;>omega
  have blk:∀w,Sat0 X w st env h→h.get (w.b b')=some (.cells (aF w l) false):=fun w sw=>by
   obtain ⟨hbl,_⟩:=sw.blk hlk;simp only [BOK] at hbl;obtain ⟨cs,hg,hct⟩:=hbl;have:cs=aF w l:=hct;rw [hg,this]
  have hcx:cx=.slc k1 (v.b b') (i.c.toNat*k1) len.c.toNat none:=by
   rw [e0]; simp only [den,(ei v s0).1,(ei v s0).2]
  have hzd:∀w,Sat0 X w st env h→aF w zA=z:=fun w sw=>dR sw.z z zA hzA
  have hzl:z.length=k1:=by rw [←hzd v s0,aq]; exact c6
  have hrl:∀n,(dQ z n).length=n*k1:=fun n=>by
   induction n with
   | zero=>simp [dQ]
   | succ n ih=>simp only [dQ,jP,ih,hzl,eH]; omega
  have hnew:∀w,Sat0 X w st env h→aF w (dI l (i.c.toNat*k1) (qCU zA len.c.toNat))=splice (aF w l) (i.c.toNat*k1) (dQ z len.c.toNat):=fun w sw=>by
   rw [db,vJ (hzd w sw)]
  split at hs
  ·rename_i h0;simp only [sI] at hs; subst hs;exact aJ s fun w sw=>by rw [hr,hcx]; simp only [h0,ac,den,aF]
  ·rename_i h0;simp only [sI] at hs; subst hs;refine ⟨_,mS,v,Agr.refl _ _,aV _,rfl,.tup [],h.put (v.b b') (.cells (splice (aF v l) (i.c.toNat*k1) (dQ z len.c.toNat)) false),?_,⟨s.pos,fun u hu=>?_⟩,fun u hu=>rfl⟩
   ·rw [hr,hcx];simp only [aC h0,aC (show ¬k1=0 by omega),blk v s0];rw [aH];simp only [aT,dT];exact ⟨by rw [aq]; rw [eH] at c8; omega,c7⟩
   ·have su:=s.all u hu;have e1:=hx u su;rw [hcx] at e1;simp only [den,CV.slc.injEq,cZ,cQ] at e1;have hub:u.b b'=v.b b':=e1.1.symm;have hbu:=blk u su;rw [hub,blk v s0,sI,Blk.cells.injEq] at hbu;have:=su.put hlk (q:=.blk b' (.cells (dI l (i.c.toNat*k1) (qCU zA len.c.toNat))) false) (blk:=.cells (splice (aF v l) (i.c.toNat*k1) (dQ z len.c.toNat)) false) (by simp only [adr]) (by simp only [adr]) ⟨_,by rw [get_put,aH rfl],by
     simp only [cR]; rw [hnew u su,hbu.1]⟩
    rw [hub] at this;exact this
 rename_i b' k2 R n zA hlk hzA;split at hs<;>(try (cases hs; done));rename_i hc;obtain ⟨rfl,rfl,rfl,c1,c2,c3,c4,c5,c6,c7⟩:=hc;simp only [sI] at hs; subst hs;obtain ⟨t,ht,c7⟩:∃t,ug i len=some t∧leL st.fa t n 0=true:=by
  unfold endB at c7;cases ha:ug i len with
  | none=>rw [ha] at c7; cases c7
  | some t=>rw [ha] at c7; exact ⟨t,rfl,c7⟩
 have key:∀w,Sat0 X w st env h→0≤i.ev w∧0≤len.ev w∧i.ev w+len.ev w≤n.ev w∧∃cs,h.get (w.b b')=some (.cells cs false)∧0 < k2∧R.length=k2∧aQ w k2 R cs (n.ev w).toNat∧a8 w R z:=fun w sw=>by
  have q2:=aE sw.fa c2;have q3:=aE sw.fa c3;have q6:=aE sw.fa c6;have q7:=aE sw.fa c7;have e:=pY sw.z ht;simp only [Lin.ev,sw.z] at q2 q3 q6 q7 e;obtain ⟨hbl,_⟩:=sw.blk hlk;simp only [BOK] at hbl;have hz:=fm sw.z sw.fa R zA c1;rw [dR sw.z z zA hzA] at hz;rcases hbl with h0 | ⟨cs,hg,hk0,hR,hn,hrw⟩
  ·simp only [Lin.ev] at h0; omega
  ·refine ⟨by simp only [Lin.ev]; omega,by simp only [Lin.ev]; omega,by simp only [Lin.ev]; omega,cs,hg,hk0,hR,hrw,hz⟩
 obtain ⟨k1',k2',k3',cs,hg,hk0,hR,hrw,hz⟩:=key v s0;by_cases h0:(len.ev v).toNat=0
 ·refine aJ s fun w sw=>?_
  have e0:=hx v s0;have:cx=.slc k2 (v.b b') ((i.ev v).toNat*k2) (len.ev v).toNat none:=by rw [e0]; rfl
  rw [hr,this];simp only [aH h0];rfl
 ·have hsp:=iO hR hrw (jC (w:=v) c4 hz (len.ev v).toNat) (i:=(i.ev v).toNat) (by omega);have hlen:(dQ z (len.ev v).toNat).length=(len.ev v).toNat*k2:=by
   have:=((ab v k2 R hR _ _).1 (jC (w:=v) c4 hz (len.ev v).toNat)).1;exact this
  refine ⟨_,mS,v,Agr.refl _ _,aV _,rfl,.tup [],h.put (v.b b') (.cells (splice cs ((i.ev v).toNat*k2) (dQ z (len.ev v).toNat)) false),?_,⟨s.pos,fun u hu=>?_⟩,fun u hu=>rfl⟩
  ·have e0:=hx v s0;have:cx=.slc k2 (v.b b') ((i.ev v).toNat*k2) (len.ev v).toNat none:=by rw [e0]; rfl
   rw [hr,this];simp only [aC h0,aC (show ¬k2=0 by omega),hg];rw [aH];simp only [aT,dT];exact ⟨by have:=hsp.1; omega,c5⟩
  ·have su:=s.all u hu;obtain ⟨u1,u2,u3,cs',hg',_,_,hrw',hz'⟩:=key u su;have e1:=hx v s0;rw [hx u su] at e1;simp only [den,CV.slc.injEq,cZ,cQ] at e1;obtain ⟨p1,p2,p3⟩:=e1;rw [p1,hg,sI,Blk.cells.injEq] at hg';obtain ⟨hcs,_⟩:=hg';subst hcs;have hi:(i.ev u).toNat=(i.ev v).toNat:=Nat.eq_of_mul_eq_mul_right hk0 p2;have hsu:=iO hR hrw' (jC (w:=u) c4 hz' (len.ev v).toNat) (i:=(i.ev v).toNat) (by omega);have hadr:adr u (.vec b' k2 R n false)=[u.b b']:=by
    simp only [adr]; rw [aC (by have:=aE su.fa c6; simp only [Lin.ev,su.z] at this ⊢; omega)]
   have:=su.put hlk (q:=.vec b' k2 R n false) (blk:=.cells (splice cs ((i.ev v).toNat*k2) (dQ z (len.ev v).toNat)) false) hadr hadr (.inr ⟨_,by rw [get_put,aH rfl],hk0,hR,by omega,hsu.2⟩);rw [nc hlk,p1] at this;exact this
end
end
end Ce.S
namespace Ce.S
noncomputable section
open Go
section
variable {X:Cx} {v:V} {st:St} {env:List CV} {h:H}
def op?(st:St):Option Opd→Option (Option AV)
 | none=>some none
 | some o=>(opA st.env o).map some
theorem op?_ok{w:V}(sw:Sat0 X w st env h){o:Option Opd}{a:Option AV}(ha:op? st o=some a):Opd.evo env o=a.map (den w):=by
 cases o with
 | none=>simp only [op?,sI] at ha; subst ha; rfl
 | some o =>
  simp only [op?,ez] at ha;obtain ⟨x,hx,rfl⟩:=ha;simp only [Opd.evo,sw.op hx,dh]
def vN(fa:List Fact)(s:Nat)(i:Lin):List Fact→Option (List AV)
 | []=>none
 | .row s' i' cs::r=>if s'==s&&be fa i' i then some cs else vN fa s i r
 | _::r=>vN fa s i r
theorem qHS{w:V}{fa:List Fact}(hf:∀f,f∈fa→FOK w f){s:Nat}{i:Lin}{cs:List AV}:∀{l:List Fact},(∀f,f∈l→FOK w f)→vN fa s i l=some cs→FOK w (.row s i cs):=by
 intro l
 induction l with
 | nil=>intro _ h; cases h
 | cons f r ih =>
  intro hl h;have hrest:=ih (fun f hm=>hl f (mC _ hm));have h0:=hl f (mS);cases f with
  | row s' i' ds =>
   simp only [vN] at h;split at h
   ·rename_i hc;simp only [aT,aZ] at hc;simp only [sI] at h;obtain ⟨rfl,h1⟩:=hc;subst h;have e:=aj hf h1;obtain ⟨q1,q2⟩:=h0;rw [e] at q1 q2;exact ⟨q1,q2⟩
   ·exact hrest h
  | _=>exact hrest h
def qHC(st:St)(k:Nat)(x i:AV):Option (List (AV × St)):=match x,asLin i with
 | .sym s,some ii=>match vN st.fa s ii st.fa with
  | some cs=>if cs.length=k then some [(.rptr cs,st)] else qHB st k x i
  | none=>qHB st k x i
 | _,_=>qHB st k x i
theorem zb(s:Sat X v st env h){k:Nat}{x i:AV}{outs:List (AV × St)}(hs:qHC st k x i=some outs){cx ci:CV}(hx:∀w,Sat0 X w st env h→cx=den w x)(hi:∀w,Sat0 X w st env h→ci=den w i){r:Option (CV × H)}(hr:r=match (generalizing:=false) cx,bf? ci with
  | .slc _ r off len _,some i=>if i < len then some (.ptr r (off+i*k),h) else none
  | .lst rows _,some i=>match nth? rows i with
   | some row=>if row.length=k then some (.rptr row,h) else none
   | none=>none
  | _,_=>none):ae X v st env outs r:=by
 unfold qHC at hs;split at hs
 ·rename_i s1 ii hii;split at hs
  ·rename_i cs hcs;split at hs
   ·rename_i hk;simp only [sI] at hs; subst hs;refine aJ s fun w sw=>?_
    obtain ⟨q1,rows,ex,q2,q3⟩:=qHS sw.fa sw.fa hcs;obtain ⟨kk,e1⟩:=dX (w:=w) hii;rw [hr,hx w sw,hi w sw,e1];simp only [den,q2,bf?,aH q1,q3,aq,hk,ac]
   ·exact tp s hs hx hi hr
  ·exact tp s hs hx hi hr
 ·exact tp s hs hx hi hr
def qAQ:BinOp→Bool
 | .shl | .shr=>true
 | _=>false
def zAD:AV→Bool
 | .ptr _ _ | .iptr _ _ _ _ | .clo _ _ _ | .rptr _=>true
 | _=>false
def sO(o:Ins)(st:St):Option (List (AV × St)) :=
 match o with
 | .mov x=>(opA st.env x).map fun a=>[(a,st)]
 | .pick c a b=>match opA st.env c,opA st.env a,opA st.env b with
  | some c,some a,some b=>qH3 st c a b
  | _,_,_=>none
 | .alloc z=>xy st z
 | .box x=>match opA st.env x with
  | some a=>sBox st a
  | none=>none
 | .build z ps=>match jF z with
  | some l=>(wT st l ps).map fun c=>[(.agg c,st)]
  | none=>none
 | .bsl k z len ps=>sBsl st k z len ps
 | .ld g a=>match opA st.env a with
  | some a=>sLd st g a
  | none=>none
 | .st n a x=>match opA st.env a,opA st.env x with
  | some a,some x=>sSt st n a x
  | _,_=>none
 | .nilck x=>match opA st.env x with
  | some a=>if zAD a then some [(a,st)] else none
  | none=>none
 | .bin op x y=>match opA st.env x,opA st.env y with
  | some (.int k s c),some (.int k' s' c')=>if qAQ op then xw op k ⟨s,c⟩ ⟨s',c'⟩ st else if k=k' then sBin op k ⟨s,c⟩ ⟨s',c'⟩ st else none
  | _,_=>none
 | .eqo neg e x y=>match opA st.env x,opA st.env y with
  | some a,some b=>sEqA neg e a b st
  | _,_=>none
 | .un op x=>match opA st.env x with
  | some a=>sUn op a st
  | none=>none
 | .cvi k x=>match opA st.env x with
  | some (.int _ s c)=>some [oO st k (some ⟨s,c⟩) []]
  | _=>none
 | .mkf f a b=>match qG st.env a,qG st.env b with
  | some a,some b=>some [(.clo f a b,st)]
  | _,_=>none
 | .mkmap=>some (qHA st)
 | .mksl k bytes z l c=>match opA st.env l,opA st.env c with
  | some l,some c=>qH9 st k bytes z l c
  | _,_=>none
 | .slA n k x lo hi mx=>match opA st.env x,op? st lo,op? st hi,op? st mx with
  | some x,some lo,some hi,some mx=>sSlA st n k x lo hi mx
  | _,_,_,_=>none
 | .slS k x lo hi mx=>match opA st.env x,op? st lo,op? st hi,op? st mx with
  | some x,some lo,some hi,some mx=>sSlS st k x lo hi mx
  | _,_,_,_=>none
 | .fad off x=>match opA st.env x with
  | some (.ptr b o)=>some [(.ptr b (o+off),st)]
  | some (.iptr b o k i)=>some [(.iptr b (o+off) k i,st)]
  | some (.rptr c)=>some [(.rptr (c.drop off),st)]
  | _=>none
 | .fld off g x=>match opA st.env x with
  | some (.agg l)=>(oT st.fa g l off).map fun a=>[(a,st)]
  | _=>none
 | .iaS k x i=>match opA st.env x,opA st.env i with
  | some x,some i=>(qHC st k x i).map fun outs=>outs.flatMap (iB 3 2)
  | _,_=>none
 | .iaA n k x i=>match opA st.env x,opA st.env i with
  | some x,some i=>(qHD st n k x i).map fun outs=>outs.flatMap (iB 6 2)
  | _,_=>none
 | .ixA n k g x i=>match opA st.env x,opA st.env i with
  | some x,some i=>sIxA st n k g x i
  | _,_=>none
 | .lku ag ls z x i ok=>match opA st.env x,opA st.env i with
  | some x,some i=>sLku st ag ls z x i ok
  | _,_=>none
 | .mset ag ls m k x=>match opA st.env m,opA st.env k,opA st.env x with
  | some m,some k,some x=>qH7 st ag ls m k x
  | _,_,_=>none
 | .ext t i=>match opA st.env t with
  | some (.tup l)=>(lV l i).map fun a=>[(a,st)]
  | _=>none
 | .app k bytes s x=>match opA st.env s,opA st.env x with
  | some s,some x=>qHK st k bytes s x
  | _,_=>none
 | .lenS x=>match opA st.env x with
  | some a=>sLen a st
  | none=>none
 | .ixT x i=>match opA st.env x,opA st.env i with
  | some (.str b),some (.int _ t c)=>if leL st.fa ⟨0,0⟩ ⟨t,c⟩ 0&&leL st.fa ⟨t,c⟩ ⟨0,(b.data.toList.length:Int)⟩ (-1) then some [fresh st (.int .u8 ⟨0,0⟩ ⟨0,255⟩)] else none
  | _,_=>none
 | .clr k z x=>match opA st.env x with
  | some a=>qPL st k z a
  | none=>none
 | .lenA n=>some [(.int .i64 0 n,st)]
 | .cpy k d s=>match opA st.env d,opA st.env s with
  | some d,some s=>match qHH st k d s with
   | some r=>some r
   | none=>match qHF st d s with
    | some r=>some r
    | none=>sCpy st k d s
  | _,_=>none
 | .mn xs=>match qG st.env xs with
  | some l=>sMn l st
  | none=>none
 | .mx xs=>match qG st.env xs with
  | some l=>sMx l st
  | none=>none
 | .ckl g a x=>match opA st.env a,opA st.env x with
  | some a,some x=>sCkl st g a x
  | _,_=>none
 | .cku ag ls z x i ok d=>match opA st.env x,opA st.env i,opA st.env d with
  | some x,some i,some d=>sCku st ag ls z x i ok d
  | _,_,_=>none
 | _=>none
theorem zA2(s:Sat X v st env h){o:Ins}{outs:List (AV × St)}(hs:sO o st=some outs):ae X v st env outs (stepO noC o env h):=by
 have s0:=s.now;cases o<;>simp only [sO] at hs<;>(try (cases hs; done))
 case mov x =>
  simp only [ez] at hs;obtain ⟨a,ha,rfl⟩:=hs;exact aJ s fun w sw=>by simp only [stepO,sw.op ha]
 case pick c a b =>
  split at hs<;>(try (cases hs; done));rename_i c' a' b' h1 h2 h3;exact qH2 s hs (by simp only [stepO]; rfl) (fun w z e=>by rw [e]; exact iX z h1) (fun w z e=>by rw [e]; exact iX z h2) (fun w z e=>by rw [e]; exact iX z h3)
 case alloc z=>exact qCS s hs rfl
 case box x =>
  split at hs<;>(try (cases hs; done));rename_i a ha;exact qPP s hs rfl (fun w sw=>sw.op ha)
 case build z ps =>
  split at hs<;>(try (cases hs; done));rename_i l hl;simp only [ez] at hs;obtain ⟨c,hc,rfl⟩:=hs;exact aJ s fun w sw=>by
   have:=wS sw ps l c hc;rw [dR sw.z z l hl] at this;simp only [stepO,this,den]
 case bsl k z len ps=>exact qPO s hs rfl
 case ld g a =>
  split at hs<;>(try (cases hs; done));rename_i a' ha;exact sLd_ok s hs (fun w sw=>sw.op ha) rfl
 case st n a x =>
  split at hs<;>(try (cases hs; done));rename_i a' x' ha hx;exact sSt_ok s hs (fun w sw=>sw.op ha) (fun w sw=>sw.op hx) rfl
 case nilck x =>
  split at hs<;>(try (cases hs; done));rename_i a ha;split at hs
  ·rename_i hn;simp only [sI] at hs; subst hs;refine aJ s fun w sw=>?_
   simp only [stepO,sw.op ha];cases a<;>first | rfl | (simp [zAD] at hn)
  ·cases hs
 case bin op x y =>
  split at hs<;>(try (cases hs; done));rename_i k s1 c k' s2 c' h1 h2;have e1:∀w,Sat0 X w st env h→x.ev env=.int k ((⟨s1,c⟩:Lin).ev w):=fun w sw=>sw.op h1
  have e2:∀w,Sat0 X w st env h→y.ev env=.int k' ((⟨s2,c'⟩:Lin).ev w):=fun w sw=>sw.op h2
  have f1:∀w,Sat0 X w st env h→(⟨s1,c⟩:Lin).ev w=(⟨s1,c⟩:Lin).ev v:=fun w sw=>by
   have:=e1 w sw; rw [e1 v s0] at this; simp only [CV.int.injEq,cQ] at this; exact this.symm
  have f2:∀w,Sat0 X w st env h→(⟨s2,c'⟩:Lin).ev w=(⟨s2,c'⟩:Lin).ev v:=fun w sw=>by
   have:=e2 w sw; rw [e2 v s0] at this; simp only [CV.int.injEq,cQ] at this; exact this.symm
  split at hs
  ·rename_i hsh;refine qCP s hs f1 f2 ?_;simp only [stepO,e1 v s0,e2 v s0];cases op<;>first | (simp [qAQ] at hsh; done) | rfl
  ·rename_i hsh;split at hs
   ·rename_i hk; subst hk;refine qPQ s hs f1 f2 ?_;simp only [stepO,e1 v s0,e2 v s0];cases op<;>first | (simp only [Ce.bin,ac]; done) | (simp only [Ce.bin,ac]; rfl) | (exact absurd rfl hsh)
   ·cases hs
 case eqo neg e x y =>
  split at hs<;>(try (cases hs; done));rename_i a b h1 h2;exact qPI s hs (fun st2 w he sw=>sw.op (by rw [he]; exact h1)) (fun st2 w he sw=>sw.op (by rw [he]; exact h2)) rfl
 case un op x =>
  split at hs<;>(try (cases hs; done));rename_i a ha;exact sUn_ok s hs (fun w sw=>sw.op ha) rfl
 case cvi k x =>
  split at hs<;>(try (cases hs; done));rename_i k1 s1 c1 ha;simp only [sI] at hs; subst hs;have e1:∀w,Sat0 X w st env h→x.ev env=.int k1 ((⟨s1,c1⟩:Lin).ev w):=fun w sw=>sw.op ha
  refine f7 s (m:=(⟨s1,c1⟩:Lin).ev v) (by simp only [stepO,e1 v s0]) (fun w l' hl sw=>?_) (fun w sw hn f hf=>by cases hf);simp only [sI] at hl; subst hl;have:=e1 w sw; rw [e1 v s0] at this; simp only [CV.int.injEq,cQ] at this; exact this.symm
 case mkf f a b =>
  split at hs<;>(try (cases hs; done));rename_i a' b' ha hb;simp only [sI] at hs; subst hs;exact aJ s fun w sw=>by simp only [stepO,sw.ops ha,sw.ops hb,den]
 case mkmap =>
  simp only [sI] at hs; subst hs;exact qCR s rfl
 case mksl k bytes z l c =>
  split at hs<;>(try (cases hs; done));rename_i l' c' hl hc;exact qH8 s hs rfl (fun w sw=>sw.op hl) (fun w sw=>sw.op hc)
 case slA n k x lo hi mx =>
  split at hs<;>(try (cases hs; done));rename_i x' lo' hi' mx' hx h1 h2 h3;exact qPA s hs rfl (fun w sw=>sw.op hx) (fun w sw=>op?_ok sw h1) (fun w sw=>op?_ok sw h2) (fun w sw=>op?_ok sw h3)
 case slS k x lo hi mx =>
  split at hs<;>(try (cases hs; done));rename_i x' lo' hi' mx' hx h1 h2 h3;exact qP9 s hs rfl (fun w sw=>sw.op hx) (fun w sw=>op?_ok sw h1) (fun w sw=>op?_ok sw h2) (fun w sw=>op?_ok sw h3)
 case fad off x =>
  split at hs<;>(try (cases hs; done))
  ·rename_i b o ha;simp only [sI] at hs; subst hs;exact aJ s fun w sw=>by simp only [stepO,sw.op ha,den]
  ·rename_i b o k i ha;simp only [sI] at hs; subst hs;exact aJ s fun w sw=>by simp only [stepO,sw.op ha,den]; rw [show o+(i.ev w).toNat*k+off=o+off+(i.ev w).toNat*k by omega]
  ·rename_i c ha;simp only [sI] at hs; subst hs;exact aJ s fun w sw=>by simp only [stepO,sw.op ha,den,jK]
 case fld off g x =>
  split at hs<;>(try (cases hs; done));rename_i l ha;simp only [ez] at hs;obtain ⟨a,h1,rfl⟩:=hs;exact aJ s fun w sw=>by simp only [stepO,sw.op ha,den,jG sw.fa h1]
 case iaS k x i =>
  split at hs<;>(try (cases hs; done));rename_i x' i' h1 h2;simp only [ez] at hs;obtain ⟨o1,hs1,rfl⟩:=hs;exact iV (zb s hs1 (fun w sw=>sw.op h1) (fun w sw=>sw.op h2) rfl)
 case iaA n k x i =>
  split at hs<;>(try (cases hs; done));rename_i x' i' h1 h2;simp only [ez] at hs;obtain ⟨o1,hs1,rfl⟩:=hs;exact iV (tq s hs1 (fun w sw=>sw.op h1) (fun w sw=>sw.op h2) rfl)
 case ixA n k g x i =>
  split at hs<;>(try (cases hs; done));rename_i x' i' h1 h2;exact qPE s hs (fun w sw=>sw.op h1) (fun w sw=>sw.op h2) rfl
 case lku ag ls z x i ok =>
  split at hs<;>(try (cases hs; done));rename_i x' i' h1 h2;exact qPC s hs rfl (fun w sw=>sw.op h1) (fun w sw=>sw.op h2)
 case mset ag ls m k x =>
  split at hs<;>(try (cases hs; done));rename_i m' k' x' h1 h2 h3;exact qH6 s hs rfl (fun w z e=>by rw [e]; exact iX z h1) (fun w z e=>by rw [e]; exact iX z h2) (fun w z e=>by rw [e]; exact iX z h3)
 case ext t i =>
  split at hs<;>(try (cases hs; done));rename_i l ha;simp only [ez] at hs;obtain ⟨a,h1,rfl⟩:=hs;exact aJ s fun w sw=>by simp only [stepO,sw.op ha,den,jH h1]
 case app k bytes x y =>
  split at hs<;>(try (cases hs; done));rename_i x' y' h1 h2;exact qHJ s hs rfl (fun st2 hh w he sw=>sw.op (by rw [he]; exact h1)) (fun st2 hh w he sw=>sw.op (by rw [he]; exact h2))
 case lenS x =>
  split at hs<;>(try (cases hs; done));rename_i a ha;exact qPD s hs (fun w sw=>sw.op ha) rfl
 case ixT x i =>
  split at hs<;>(try (cases hs; done));rename_i b k t c h1 h2;split at hs<;>(try (cases hs; done));rename_i hc;simp only [sI] at hs; subst hs;simp only [aT] at hc;have e1:=aE s0.fa hc.1;have e2:=aE s0.fa hc.2;simp only [Lin.ev,s0.z] at e1 e2;have hx:x.ev env=.str b:=s0.op h1;have hi:i.ev env=.int k (v.i t+c):=s0.op h2;have hlt:(v.i t+c).toNat < b.data.toList.length:=by omega
  have hget:b.data.toList[(v.i t+c).toNat]?=some b.data.toList[(v.i t+c).toNat]:=ed hlt;have hnat:bf? (.int k (v.i t+c))=some (v.i t+c).toNat:=by simp only [bf?]; rw [aH (by omega)]
  refine dN s (c:=.int .u8 ((b.data.toList[(v.i t+c).toNat]).toNat:Int)) ?_ (fun w sw=>⟨_,rfl,by simp only [Lin.ev,sw.z]; omega,by
   simp only [Lin.ev,sw.z];have:=(b.data.toList[(v.i t+c).toNat]).toNat_lt;omega⟩)
  simp only [stepO,hx,hi,hnat];rw [hget]
 case clr k z x =>
  split at hs<;>(try (cases hs; done));rename_i a ha;have hsv:∃k1 b i len,a=.slv k1 b i len:=by
   unfold qPL at hs;split at hs
   ·exact ⟨_,_,_,_,rfl⟩
   ·cases hs
  obtain ⟨k1,b,i,len,rfl⟩:=hsv;refine qPK s hs (cx:=x.ev env) (fun w sw=>sw.op ha) ?_;simp only [stepO,s0.op ha,den]
  first | rfl | (split<;>rfl) | (repeat' split)<;>rfl
 case lenA n =>
  simp only [sI] at hs; subst hs;exact aJ s fun w sw=>by simp only [stepO,den,sw.z,Int.zero_add]
 case cpy k d x =>
  split at hs<;>(try (cases hs; done));rename_i x' y' h1 h2;split at hs
  ·rename_i r hr;simp only [sI] at hs; subst hs;exact qHG s hr rfl (fun w sw=>sw.op h1) (fun w sw=>sw.op h2)
  ·split at hs
   ·rename_i r hr;simp only [sI] at hs; subst hs;exact qHE s hr rfl (fun w sw=>sw.op h1) (fun w sw=>sw.op h2)
   ·exact qPJ s hs rfl (fun w sw=>sw.op h1) (fun w sw=>sw.op h2)
 case mn xs =>
  split at hs<;>(try (cases hs; done));rename_i l hl;exact sMn_ok s hs (fun w sw=>sw.ops hl) rfl
 case mx xs =>
  split at hs<;>(try (cases hs; done));rename_i l hl;exact sMx_ok s hs (fun w sw=>sw.ops hl) rfl
 case ckl g a x =>
  split at hs<;>(try (cases hs; done));rename_i x' y' h1 h2;exact qPN s hs rfl (fun w sw=>sw.op h1) (fun w sw=>sw.op h2)
 case cku ag ls z x i ok d =>
  split at hs<;>(try (cases hs; done));rename_i x' i' d' h1 h2 h3;exact qPM s hs rfl (fun w sw=>sw.op h1) (fun w sw=>sw.op h2) (fun w sw=>sw.op h3)
def widT:Ty→Ty
 | .int k _ _=>eU k
 | T=>T
def xV(lo hi:Nat):Nat→List Ty→List Ty
 | _,[]=>[]
 | i,T::Ts=>(if lo≤i∧i < hi then widT T else T)::xV lo hi (i+1) Ts
def qJQ(fa:List Fact):Ty→Ty→Ty
 | .int k l h,.int _ l' h'=>.int k (if leL fa l l' 0 then l else if leL fa l' l 0 then l' else ⟨0,kLo k⟩) (if leL fa h' h 0 then h else if leL fa h h' 0 then h' else ⟨0,kHi k⟩)
 | T,_=>T
def qJR(fa:List Fact):List Ty→List Ty→List Ty
 | T::Ts,U::Us=>qJQ fa T U::qJR fa Ts Us
 | Ts,_=>Ts
def joinL(fa:List Fact):Ty→Ty→Ty
 | .lst R l h,.lst R' l' h'=>.lst (if R.isEmpty then R' else if R'.isEmpty then R else qJR fa R R') (if leL fa l l' 0 then l else if leL fa l' l 0 then l' else ⟨0,0⟩) (if leL fa h' h 0 then h else if leL fa h h' 0 then h' else ⟨0,1099511627776⟩)
 | T,U=>qJQ fa T U
def lstT(st:St):AV→Option Ty
 | .slc _ b _ _ len _=>match ai b st.bl with
  | some (.blk _ (.rows _ R _) _)=>some (.lst R len len)
  | _=>none
 | .vec _ b len=>match ai b st.bl with
  | some (.vec _ _ R _ _)=>some (.lst R len len)
  | some (.blk _ (.rows _ R _) _)=>some (.lst R len len)
  | _=>none
 | .nils=>some (.lst [] ⟨0,0⟩ ⟨0,0⟩)
 | _=>none
def qJG(fa:List Fact)(a:Lin):List Fact→Option Lin
 | []=>none
 | .len _ t::r=>if leL fa a ⟨t,-1⟩ 0 then some ⟨t,-1⟩ else qJG fa a r
 | _::r=>qJG fa a r
def valT(fa:List Fact):AV→Option Ty
 | .int k s c=>some (.int k (if leL fa ⟨0,0⟩ ⟨s,c⟩ 0 then ⟨0,0⟩ else ⟨0,kLo k⟩) (match qJG fa ⟨s,c⟩ fa with
  | some l=>l
  | none=>match hiC fa ⟨s,c⟩ with
   | some x=>⟨0,min x (kHi k)⟩
   | none=>⟨0,kHi k⟩))
 | _=>none
def zAK(fa:List Fact)(lo:Nat)(xs:List AV):Nat→List Ty→List Ty
 | _,[]=>[]
 | i,T::Ts=>(if lo≤i then (match lV xs (i - lo) with
  | some a=>(match valT fa a with
   | some U=>qJQ fa T U
   | none=>widT T)
  | none=>T) else T)::zAK fa lo xs (i+1) Ts
def tgtR(o:Ins)(st:St)(lo hi:Nat)(R:List Ty):List Ty:=match o with
 | .cpy k _ x=>match (opA st.env x).bind (xf st k) with
  | some (R',_)=>qJR st.fa R R'
  | none=>xV lo hi 0 R
 | .app _ _ _ x=>match opA st.env x with
  | some (.slc _ b _ _ _ _)=>(match ai b st.bl,R with
   | some (.blk _ (.cells [a]) _),[T]=>(match lstT st a with
    | some U=>[joinL st.fa T U]
    | none=>xV lo hi 0 R)
   | _,_=>xV lo hi 0 R)
  | _=>xV lo hi 0 R
 | .st _ _ x=>match opA st.env x with
  | some a=>zAK st.fa lo (eG a) 0 R
  | none=>xV lo hi 0 R
 | _=>xV lo hi 0 R
def qCH(st:St)(b:Nat)(f:List Ty→List Ty):St:=match ai b st.bl with
 | some (.blk b' (.rows k R n) ro)=>if jT st.fa R (f R)=true∧(f R).length=R.length then { st with bl:=dS b [.blk b' (.rows k (f R) n) ro] st.bl } else st
 | some (.vec b' k R n ro)=>if jT st.fa R (f R)=true∧(f R).length=R.length then { st with bl:=dS b [.vec b' k (f R) n ro] st.bl } else st
 | _=>st
theorem nW{w:V}{k:Nat}{R R2:List Ty}(hR:∀c,a8 w R c→a8 w R2 c):∀(n:Nat) (cs:List CV),aQ w k R cs n→aQ w k R2 cs n
 | 0,_,h=>h
 | n+1,_,⟨h1,h2,h3⟩=>⟨h1,hR _ h2,nW hR n _ h3⟩
theorem qNB(s:Sat X v st env h)(b:Nat)(f:List Ty→List Ty):Sat X v (qCH st b f) env h:=by
 have one:∀(p q:BE),ai b st.bl=some p→(∀w,Sat0 X w st env h→BOK w h q)→(∀w,adr w q=adr w p)→(∀w,(adr w p).Nodup)→Sat X v { st with bl:=dS b [q] st.bl } env h:=by
  intro p q hl hq ha hnd;refine ⟨s.pos,fun u hu=>?_⟩;have su:=s.all u hu;obtain ⟨_,l1,l2,hbl,hm⟩:=dx hl;have:=su.upd (l1:=l1) (P:=[p]) (P':=[q]) (l2:=l2) (h':=h) hbl (aV _) (fun j _ _=>rfl) (fun r hr=>by
   simp only [cM] at hr; subst hr; exact hq u su) (by simpa [ha] using hnd u) (fun a hm=>.inl (by simpa [ha] using hm))
  rw [←hm] at this;exact this
 unfold qCH;split
 ·rename_i b' k R n ro hl;split
  ·rename_i hst;obtain ⟨hst,hlen⟩:=hst;refine one _ _ hl (fun w sw=>?_) (fun w=>rfl) (fun w=>by simp [adr]);obtain ⟨cs,h1,h2,h3,h4,h5⟩:=(sw.blk hl).1;exact ⟨cs,h1,h2,by rw [hlen]; exact h3,h4,nW (fun c=>eQ sw.fa _ _ hst c) _ _ h5⟩
  ·exact s
 ·rename_i b' k R n ro hl;split
  ·rename_i hst;obtain ⟨hst,hlen⟩:=hst;refine one _ _ hl (fun w sw=>?_) (fun w=>rfl) (fun w=>by simp only [adr]; split<;>simp);rcases (sw.blk hl).1 with h0 | ⟨cs,h1,h2,h3,h4,h5⟩
   ·exact .inl h0
   ·exact .inr ⟨cs,h1,h2,by rw [hlen]; exact h3,h4,nW (fun c=>eQ sw.fa _ _ hst c) _ _ h5⟩
  ·exact s
 ·exact s
theorem widB_n(st:St)(b:Nat)(f:List Ty→List Ty):(qCH st b f).n=st.n∧(qCH st b f).env=st.env:=by
 unfold qCH;split
 ·split<;>exact ⟨rfl,rfl⟩
 ·split<;>exact ⟨rfl,rfl⟩
 ·exact ⟨rfl,rfl⟩
def dstB(n:Nat):AV→Option (Nat × Nat × Nat)
 | .slc k b _ _ _ _=>some (b,0,k)
 | .vec k b _=>some (b,0,k)
 | .iptr b off _ _=>some (b,off,off+n)
 | _=>none
def wrB(o:Ins)(st:St):Option (Nat × Nat × Nat):=match o with
 | .st n a _=>(opA st.env a).bind (dstB n)
 | .cpy _ d _=>(opA st.env d).bind (dstB 0)
 | .app _ _ d _=>(opA st.env d).bind (dstB 0)
 | _=>none
def sOw(o:Ins)(st:St):Option (List (AV × St)):=match sO o st with
 | some r=>some r
 | none=>match wrB o st with
  | some (b,lo,hi)=>sO o (qCH st b (tgtR o st lo hi))
  | none=>none
theorem qH4(s:Sat X v st env h){o:Ins}{outs:List (AV × St)}(hs:sOw o st=some outs):ae X v st env outs (stepO noC o env h):=by
 unfold sOw at hs;split at hs
 ·rename_i r hr;simp only [sI] at hs; subst hs;exact zA2 s hr
 ·split at hs
  ·rename_i b lo hi _;have:=zA2 (qNB s b (tgtR o st lo hi)) hs;obtain ⟨o',ho,w,hw,hn,he,rest⟩:=this;obtain ⟨e1,e2⟩:=widB_n st b (tgtR o st lo hi);rw [e1] at hw hn; rw [e2] at he;exact ⟨o',ho,w,hw,hn,he,rest⟩
  ·cases hs
inductive Sp where
 | fk
 | fr
 | fa
 | mk (R:List Ty)
 | wf
def mL(st:St)(k:Nat)(x:AV)(t:Lin):Nat→Nat→Option (List (AV × St))
 | _,0=>some []
 | j,c+1=>match (if lh st.fa t j then some [] else qHC { st with fa:=[.dc t.s 0 (j - t.c),.dc 0 t.s (t.c - j)]++st.fa } k x (.int .i64 0 j)),mL st k x t (j+1) c with
  | some a,some b=>some (a++b)
  | _,_=>none
theorem mK{st:St}{k:Nat}{x:AV}{t:Lin}:∀{c j0 j:Nat} {outs:List (AV × St)},mL st k x t j0 c=some outs→j0≤j→j < j0+c→lh st.fa t j=false→∃o1,qHC { st with fa:=[.dc t.s 0 (j - t.c),.dc 0 t.s (t.c - j)]++st.fa } k x (.int .i64 0 j)=some o1∧∀o,o∈o1→o∈outs
 | 0,j0,j,outs,_,h1,h2,_=>by omega
 | c+1,j0,j,outs,h,h1,h2,hb=>by
  simp only [mL] at h;split at h<;>(try (cases h; done));rename_i a b e1 e2;simp only [sI] at h; subst h;by_cases hj:j=j0
  ·subst hj;rw [hb] at e1;simp only [bj,bX] at e1;exact ⟨a,e1,fun o ho=>ig _ ho⟩
  ·obtain ⟨o1,h3,h4⟩:=mK e2 (by omega) (by omega) hb;exact ⟨o1,h3,fun o ho=>fF _ (h4 o ho)⟩
def sIaF(st:St)(k:Nat)(x i:AV):Option (List (AV × St)):=match i with
 | .int .i64 s c=>match hiC st.fa ⟨s,c⟩ with
  | some hi=>if leL st.fa ⟨0,0⟩ ⟨s,c⟩ 0=true∧hi≤8 then mL st k x ⟨s,c⟩ 0 (hi.toNat+1) else none
  | none=>none
 | _=>none
theorem qPH(s:Sat X v st env h){k:Nat}{xo io:Opd}{x i:AV}{outs:List (AV × St)}(hs:sIaF st k x i=some outs)(h1:opA st.env xo=some x)(h2:opA st.env io=some i):ae X v st env outs (stepO noC (.iaS k xo io) env h):=by
 have s0:=s.now;unfold sIaF at hs;split at hs<;>(try (cases hs; done));rename_i si c;split at hs<;>(try (cases hs; done));rename_i hi hhi;split at hs<;>(try (cases hs; done));rename_i hg;have z:=s0.z;have e1:=aE s0.fa hg.1;have e2:=eF z s0.fa hhi;have h0:0≤(⟨si,c⟩:Lin).ev v:=by simp only [Lin.ev,z] at e1 ⊢; omega
 have hbad:lh st.fa ⟨si,c⟩ ((⟨si,c⟩:Lin).ev v).toNat=false:=by
  cases hb:lh st.fa ⟨si,c⟩ ((⟨si,c⟩:Lin).ev v).toNat with
  | false=>rfl
  | true =>
   simp only [lh,bU] at hb;rcases hb with hb | hb<;>(have:=aE s0.fa hb; simp only [Lin.ev,z] at this h0; omega)
 obtain ⟨o1,ho1,hsub⟩:=mK hs (j:=((⟨si,c⟩:Lin).ev v).toNat) (by omega) (by omega) hbad;have iev:io.ev env=.int .i64 ((⟨si,c⟩:Lin).ev v):=s0.op h2;have hsame:∀u,Agr st.n v u→(⟨si,c⟩:Lin).ev u=(⟨si,c⟩:Lin).ev v:=fun u hu=>by
  have:=(s.all u hu).op h2;rw [iev] at this;simp only [den,CV.int.injEq,cQ] at this;simp only [Lin.ev] at this ⊢; omega
 have sj:Sat X v { st with fa:=[.dc si 0 ((((⟨si,c⟩:Lin).ev v).toNat:Int) - c),.dc 0 si (c - (((⟨si,c⟩:Lin).ev v).toNat:Int))]++st.fa } env h:=⟨s.pos,fun u hu=>by
  have su:=s.all u hu;refine ⟨su.z,su.env,fun f hf=>?_,su.bl,su.nd,su.lt,su.hn,su.fr⟩;rcases bP.1 hf with hf | hf
  ·have hsm:=hsame u hu;have hz:=su.z;simp only [aS,bz,br] at hf;simp only [Lin.ev] at hsm h0;rcases hf with rfl | rfl<;>simp only [FOK]<;>(simp only [Lin.ev]; omega)
  ·exact su.fa f hf⟩
 have:=zb (r:=stepO noC (.iaS k xo io) env h) sj ho1 (cx:=xo.ev env) (ci:=io.ev env) (fun w sw=>sw.op h1) (fun w sw=>by
  have hz:=sw.z;rw [iev];simp only [den,hz]
  congr 1
  omega) rfl
 exact (this.sub hsub).fact
def qPG(o:Ins)(R:Sp)(st:St):Option (List (AV × St)):=match o,R with
 | .iaA n k x i,.fk=>match opA st.env x,opA st.env i with
  | some x,some i=>qHD st n k x i
  | _,_=>none
 | .iaA n k x i,.fa=>match opA st.env x,opA st.env i with
  | some x,some i=>(qHD st n k x i).map fun outs=>outs.flatMap (iB 8 1)
  | _,_=>none
 | .iaS k x i,.fr=>match opA st.env x,opA st.env i with
  | some x,some i=>sIaF st k x i
  | _,_=>none
 | .bin op x y,.wf=>match opA st.env x,opA st.env y with
  | some (.int k s c),some (.int k' s' c')=>if k=k' then zf op k ⟨s,c⟩ ⟨s',c'⟩ st else none
  | _,_=>none
 | .mksl k bytes z l c,.mk R=>match opA st.env l,opA st.env c with
  | some l,some c=>xx st k bytes z l c R
  | _,_=>none
 | _,_=>none
theorem qPF(s:Sat X v st env h){o:Ins}{R:Sp}{outs:List (AV × St)}(hs:qPG o R st=some outs):ae X v st env outs (stepO noC o env h):=by
 unfold qPG at hs;split at hs<;>(try (cases hs; done))
 ·rename_i n k x i;split at hs<;>(try (cases hs; done));rename_i x' i' h1 h2;exact tq s hs (fun w sw=>sw.op h1) (fun w sw=>sw.op h2) rfl
 ·rename_i n k x i;split at hs<;>(try (cases hs; done));rename_i x' i' h1 h2;simp only [ez] at hs;obtain ⟨o1,hs1,rfl⟩:=hs;exact iV (tq s hs1 (fun w sw=>sw.op h1) (fun w sw=>sw.op h2) rfl)
 ·rename_i k x i;split at hs<;>(try (cases hs; done));rename_i x' i' h1 h2;exact qPH s hs h1 h2
 ·rename_i op x y;split at hs<;>(try (cases hs; done));rename_i k s1 c k' s2 c' h1 h2;split at hs<;>(try (cases hs; done));rename_i hk; subst hk;have s0:=s.now;have e1:∀w,Sat0 X w st env h→x.ev env=.int k ((⟨s1,c⟩:Lin).ev w):=fun w sw=>sw.op h1
  have e2:∀w,Sat0 X w st env h→y.ev env=.int k ((⟨s2,c'⟩:Lin).ev w):=fun w sw=>sw.op h2
  have f1:∀w,Sat0 X w st env h→(⟨s1,c⟩:Lin).ev w=(⟨s1,c⟩:Lin).ev v:=fun w sw=>by
   have:=e1 w sw; rw [e1 v s0] at this; simp only [CV.int.injEq,cQ] at this; exact this.symm
  have f2:∀w,Sat0 X w st env h→(⟨s2,c'⟩:Lin).ev w=(⟨s2,c'⟩:Lin).ev v:=fun w sw=>by
   have:=e2 w sw; rw [e2 v s0] at this; simp only [CV.int.injEq,cQ] at this; exact this.symm
  refine qHI s hs f1 f2 ?_;have hop:op=.add∨op=.sub:=by
   unfold zf at hs;split at hs
   ·rename_i l hl;cases op<;>simp only [qJD] at hl<;>first | exact .inl rfl | exact .inr rfl | cases hl
   ·cases hs
  simp only [stepO,e1 v s0,e2 v s0];rcases hop with rfl | rfl<;>simp only [Ce.bin,ac]<;>rfl
 ·rename_i k bytes z l c R;split at hs<;>(try (cases hs; done));rename_i l' c' h1 h2;exact qCQ s hs rfl (fun w sw=>sw.op h1) (fun w sw=>sw.op h2)
end
end
end Ce.S
namespace Ce.S
noncomputable section
open Go
def kQ(fa:List Fact)(s:Nat)(i:Lin)(R:List Ty):List Fact→Bool
 | []=>false
 | .pre s' i' R'::r=>(s'==s&&jT fa R' R&&(be fa i' i || (leL fa i i' 1&&chkRow fa s i' R fa))) || kQ fa s i R r
 | _::r=>kQ fa s i R r
where
 chkRow (fa:List Fact) (s:Nat) (i:Lin) (R:List Ty):List Fact→Bool
 | []=>false
 | .row s' i' cs::r=>(s'==s&&be fa i' i&&p7 fa R cs) || chkRow fa s i R r
 | _::r=>chkRow fa s i R r
def mj(fa:List Fact)(s:Nat)(i:Lin)(cs:List AV):List Fact→Bool
 | []=>false
 | .row s' i' ds::r=>(s'==s&&be fa i' i&&qk fa ds cs) || mj fa s i cs r
 | _::r=>mj fa s i cs r
def l8(fa:List Fact):List Lin→List Lin→Bool
 | [],[]=>true
 | a::as,b::bs=>be fa a b&&l8 fa as bs
 | _,_=>false
def rA(fa:List Fact)(t:Lin)(up dn:List Lin):List Fact→Bool
 | []=>false
 | .csum t' up' dn'::r=>(be fa ⟨t',0⟩ t&&l8 fa up' up&&l8 fa dn' dn) || rA fa t up dn r
 | _::r=>rA fa t up dn r
def wv(fa:List Fact)(X Y Z:Lin)(k:Nat)(c:Int):List Fact→Bool
 | []=>false
 | .ln x0 y0 z0 k0 c0::r=>(Nat.beq k0 k&&Nat.beq z0 Z.s&&Nat.beq y0 Y.s&&leL fa X ⟨x0,0⟩ ((k:Int)*Z.c+c+Y.c - c0)) || wv fa X Y Z k c r
 | _::r=>wv fa X Y Z k c r
def zA3(fa:List Fact)(k1:Nat)(c:Int)(k2:Nat)(lo hi:Lin)(cs:List AV):Bool:=match lV cs k1,lV cs k2 with
 | some (.int _ x cx),some (.int _ y cy)=>leL fa ⟨x,cx⟩ ⟨0,c⟩ (-1) || (leL fa lo ⟨y,cy⟩ 0&&leL fa ⟨y,cy⟩ hi 0)
 | _,_=>false
def nX(fa:List Fact)(s:Nat)(i:Lin)(k1:Nat)(c:Int)(k2:Nat)(lo hi:Lin):List Fact→Bool
 | []=>false
 | .row s' i' cs::r=>(s'==s&&be fa i' i&&zA3 fa k1 c k2 lo hi cs) || nX fa s i k1 c k2 lo hi r
 | _::r=>nX fa s i k1 c k2 lo hi r
def ve(fa:List Fact)(s:Nat)(i:Lin)(k1:Nat)(c:Int)(k2:Nat)(lo hi:Lin):List Fact→Bool
 | []=>false
 | .pimp s' i' k1' c' k2' lo' hi'::r=>(s'==s&&(k1'==k1&&(k2'==k2&&(decide (c'≤c)&&(leL fa lo lo' 0&&(leL fa hi' hi 0&&(leL fa i i' 0 || (leL fa i i' 1&&nX fa s i' k1 c k2 lo hi fa)))))))) || ve fa s i k1 c k2 lo hi r
 | _::r=>ve fa s i k1 c k2 lo hi r
def qM0(fa:List Fact)(s:Nat)(i:Lin)(k1:Nat)(c:Int)(k2:Nat)(lo hi:Lin):Bool :=
 leL fa i ⟨0,0⟩ 0 || ve fa s i k1 c k2 lo hi fa || (leL fa i ⟨0,1⟩ 0&&nX fa s ⟨0,0⟩ k1 c k2 lo hi fa)
theorem sA{w:V}{fa:List Fact}(z:w.i 0=0)(hf:∀f,f∈fa→FOK w f){s:Nat}{i:Lin}{k1:Nat}{c:Int}{k2:Nat}{lo hi:Lin}:∀{l:List Fact},(∀f,f∈l→FOK w f)→nX fa s i k1 c k2 lo hi l=true→0≤i.ev w∧∃rows ex r,w.c s=.lst rows ex∧nth? rows (i.ev w).toNat=some r∧∀ka a kb b,nth? r k1=some (.int ka a)→nth? r k2=some (.int kb b)→c≤a→lo.ev w≤b∧b≤hi.ev w:=by
 intro l
 induction l with
 | nil=>intro _ h; cases h
 | cons f r ih =>
  intro hl h;have hrest:=ih (fun f hm=>hl f (mC _ hm));have h0:=hl f mS;cases f with
  | row s' i' cs =>
   simp only [nX,bU,aT,aZ] at h;rcases h with ⟨⟨rfl,h1⟩,h2⟩ | h
   ·obtain ⟨q1,rows,ex,q2,q3⟩:=h0;have e:=aj hf h1;rw [e] at q1 q3;refine ⟨q1,rows,ex,_,q2,q3,?_⟩;unfold zA3 at h2;split at h2<;>(try (cases h2; done));rename_i k x cx k' y cy e1 e2;intro ka a kb b ha hb hc;rw [jH e1] at ha;rw [jH e2] at hb;simp only [den,sI,CV.int.injEq] at ha hb;simp only [bU,aT] at h2;rcases h2 with h2 | ⟨h2,h3⟩
    ·have:=aE hf h2;simp only [Lin.ev,z] at this;omega
    ·have a1:=aE hf h2;have a2:=aE hf h3;simp only [Lin.ev] at a1 a2 ⊢;omega
   ·exact hrest h
  | _=>exact hrest h
theorem qIQ{w:V}{fa:List Fact}(z:w.i 0=0)(hf:∀f,f∈fa→FOK w f){s:Nat}{i:Lin}{k1:Nat}{c:Int}{k2:Nat}{lo hi:Lin}:∀{l:List Fact},(∀f,f∈l→FOK w f)→ve fa s i k1 c k2 lo hi l=true→FOK w (.pimp s i k1 c k2 lo hi):=by
 intro l
 induction l with
 | nil=>intro _ h; cases h
 | cons f r ih =>
  intro hl h;have hrest:=ih (fun f hm=>hl f (mC _ hm));have h0:=hl f mS;cases f with
  | pimp s' i' k1' c' k2' lo' hi' =>
   simp only [ve,bU,aT,aZ,dT] at h;rcases h with ⟨rfl,rfl,rfl,h4,h5,h6,h7⟩ | h
   ·have a5:=aE hf h5;have a6:=aE hf h6;have old:∀rows ex,w.c s'=.lst rows ex→∀j r,nth? rows j=some r→(j:Int) < i'.ev w→∀ka a kb b,nth? r k1'=some (.int ka a)→nth? r k2'=some (.int kb b)→c≤a→lo.ev w≤b∧b≤hi.ev w:=fun rows ex hr j r hj hlt ka a kb b ha hb hc=>by
     have:=h0 rows ex hr j r hj hlt ka a kb b ha hb (by omega);omega
    simp only [FOK];intro rows ex hr j r hj hlt;rcases h7 with h7 | ⟨h7,h8⟩
    ·have:=aE hf h7;exact old rows ex hr j r hj (by omega)
    ·have a7:=aE hf h7;obtain ⟨b1,rows',ex',r',b2,b3,b4⟩:=sA z hf hf h8;rcases Int.lt_or_le (j:Int) (i'.ev w) with hlt' | hge
     ·exact old rows ex hr j r hj hlt'
     ·have hj':j=(i'.ev w).toNat:=by omega
      subst hj';rw [hr] at b2;simp only [CV.lst.injEq] at b2;obtain ⟨rfl,_⟩:=b2;rw [hj,sI] at b3;subst b3;exact b4
   ·exact hrest h
  | _=>exact hrest h
theorem qLZ{w:V}{fa:List Fact}(z:w.i 0=0)(hf:∀f,f∈fa→FOK w f){s:Nat}{i:Lin}{k1:Nat}{c:Int}{k2:Nat}{lo hi:Lin}(h:qM0 fa s i k1 c k2 lo hi=true):FOK w (.pimp s i k1 c k2 lo hi):=by
 simp only [qM0,bU,aT] at h;rcases h with (h | h) | ⟨h1,h2⟩
 ·have:=aE hf h;simp only [Lin.ev,z] at this;simp only [FOK];intro rows ex _ j r _ hj;simp only [Lin.ev] at hj; omega
 ·exact qIQ z hf hf h
 ·have a1:=aE hf h1;obtain ⟨_,rows',ex',r',b2,b3,b4⟩:=sA z hf hf h2;simp only [Lin.ev,z] at a1;simp only [FOK];intro rows ex hr j r hj hlt;have hj':j=0:=by simp only [Lin.ev] at hlt; omega
  subst hj';have e0:(Lin.ev w ⟨0,0⟩).toNat=0:=by simp only [Lin.ev,z]; rfl
  rw [e0] at b3;rw [hr] at b2;simp only [CV.lst.injEq] at b2;obtain ⟨rfl,_⟩:=b2;rw [hj,sI] at b3;subst b3;exact b4
def vM(fa:List Fact)(s:Nat)(j:Nat)(R:List Ty):List Fact→Bool
 | []=>false
 | .row s' i cs::r=>(s'==s&&be fa i ⟨0,(j:Int)⟩&&p7 fa R cs) || vM fa s j R r
 | _::r=>vM fa s j R r
def zm(fa:List Fact)(s:Nat)(R:List Ty):Nat→Bool
 | 0=>true
 | n+1=>zm fa s R n&&vM fa s n R fa
def tyRw(fa:List Fact):Ty→AV→Bool
 | .lst R lo hi,.sym s=>match iQ s fa with
  | some t=>match hiC fa ⟨t,0⟩ with
   | some n=>decide (n≤8)&&decide (0≤n)&&leL fa ⟨0,n⟩ ⟨t,0⟩ 0&&leL fa lo ⟨0,n⟩ 0&&leL fa ⟨0,n⟩ hi 0&&zm fa s R n.toNat
   | none=>false
  | none=>false
 | _,_=>false
theorem qPX{w:V}{fa:List Fact}(z:w.i 0=0)(hf:∀f,f∈fa→FOK w f){s j:Nat}{R:List Ty}:∀{l:List Fact},(∀f,f∈l→FOK w f)→vM fa s j R l=true→∃rows ex r,w.c s=.lst rows ex∧nth? rows j=some r∧a8 w R r:=by
 intro l
 induction l with
 | nil=>intro _ h; cases h
 | cons f r ih =>
  intro hl h;have hrest:=ih (fun f hm=>hl f (mC _ hm));have h0:=hl f mS;cases f with
  | row s' i cs =>
   simp only [vM,bU,aT,aZ] at h;rcases h with ⟨⟨rfl,h1⟩,h2⟩ | h
   ·obtain ⟨q1,rows,ex,q2,q3⟩:=h0;have e:=aj hf h1;have e2:(Lin.ev w ⟨0,(j:Int)⟩)=j:=by simp only [Lin.ev,z]; omega
    rw [e,e2,fS] at q3;exact ⟨rows,ex,_,q2,q3,fm z hf R cs h2⟩
   ·exact hrest h
  | _=>exact hrest h
theorem vL{w:V}{fa:List Fact}(z:w.i 0=0)(hf:∀f,f∈fa→FOK w f){s:Nat}{R:List Ty}:∀{n:Nat},zm fa s R n=true→∀j,j < n→∃rows ex r,w.c s=.lst rows ex∧nth? rows j=some r∧a8 w R r
 | 0,_,j,hj=>by omega
 | n+1,h,j,hj=>by
  simp only [zm,aT] at h;rcases i7 j n with hjn | hjn
  ·exact vL z hf h.1 j hjn
  ·have:j=n:=by omega
   subst this;exact qPX z hf hf h.2
theorem nth?_mem'{α:Type}:∀{l:List α} {a:α},a∈l→∃j,j < l.length∧nth? l j=some a
 | b::l,a,h=>by
  rcases aS.1 h with rfl | h
  ·exact ⟨0,by simp,rfl⟩
  ·obtain ⟨j,h1,h2⟩:=nth?_mem' h;exact ⟨j+1,by simpa using h1,h2⟩
theorem qNF{w:V}{fa:List Fact}(z:w.i 0=0)(hf:∀f,f∈fa→FOK w f){T:Ty}{a:AV}(h:tyRw fa T a=true):av w T (den w a):=by
 unfold tyRw at h;split at h<;>(try (cases h; done));rename_i R lo hi s;split at h<;>(try (cases h; done));rename_i t ht;split at h<;>(try (cases h; done));rename_i n hn;simp only [aT,dT] at h;obtain ⟨⟨⟨⟨⟨h1,h2⟩,h3⟩,h4⟩,h5⟩,h6⟩:=h;obtain ⟨m,hm,hti⟩:=eo hf ht;have e3:=aE hf h3;have e4:=aE hf h4;have e5:=aE hf h5;have e6:=eF z hf hn;simp only [Lin.ev,z] at e3 e4 e5 e6;have hmn:(m:Int)=n:=by omega
 simp only [av,den];have hr:=vL z hf h6;cases hc:w.c s with
 | nils =>
  rw [hc] at hm; simp only [cV,sI] at hm
  left; exact ⟨rfl,by simp only [Lin.ev]; omega,by simp only [Lin.ev]; omega⟩
 | lst rows ex =>
  rw [hc] at hm; simp only [cV,sI] at hm
  right
  refine ⟨rows,ex,rfl,by simp only [Lin.ev]; omega,by simp only [Lin.ev]; omega,fun r hr'=>?_⟩;obtain ⟨j,hj,hjr⟩:=nth?_mem' hr';obtain ⟨rows',ex',r',q1,q2,q3⟩:=hr j (by omega);rw [hc] at q1;simp only [CV.lst.injEq] at q1;obtain ⟨rfl,_⟩:=q1;rw [hjr,sI] at q2;subst q2; exact q3
 | _=>rw [hc] at hm; cases hm
def ww(fa:List Fact)(θ:Sub):Fact→Bool
 | .dc x y c=>leL fa (θ.iL x) (θ.iL y) c
 | .ty s T=>tyA fa (ol θ T) (θ.cA s) || tyRw fa (ol θ T) (θ.cA s)
 | .len s t=>match θ.cA s with
  | .sym s'=>match iQ s' fa with
   | some t'=>be fa ⟨t',0⟩ (θ.iL t)
   | none=>false
  | .nils=>be fa ⟨0,0⟩ (θ.iL t)
  | .lrows rows _=>be fa ⟨0,rows.length⟩ (θ.iL t)
  | _=>false
 | .row s i cs=>match θ.cA s with
  | .sym s'=>mj fa s' (dH θ i) (jt θ cs) fa
  | _=>false
 | .ixd _ _=>false
 | .sum _ _ _ _=>false
 | .prm _ _=>false
 | .cnd _ _ _ _ _=>false
 | .pimp s i k1 c k2 lo hi=>match θ.cA s with
  | .sym s'=>qM0 fa s' (dH θ i) k1 c k2 (dH θ lo) (dH θ hi)
  | .nils=>true
  | _=>false
 | .lc _ _ _ _ _=>false
 | .csum t up dn=>rA fa (θ.iL t) (up.map (dH θ)) (dn.map (dH θ)) fa
 | .ln x y z k c=>(Nat.beq (θ.iL z).s 0&&leL fa (θ.iL x) (θ.iL y) ((k:Int)*(θ.iL z).c+c)) || wv fa (θ.iL x) (θ.iL y) (θ.iL z) k c fa
 | .pre s i R=>match θ.cA s with
  | .sym s'=>leL fa (dH θ i) ⟨0,0⟩ 0 || kQ fa s' (dH θ i) (fx θ R) fa || (leL fa (dH θ i) ⟨0,1⟩ 0&&kQ.chkRow fa s' ⟨0,0⟩ (fx θ R) fa)
  | .nils=>true
  | _=>false
theorem qM1{w:V}{fa:List Fact}(hf:∀f,f∈fa→FOK w f){X Y Z:Lin}{k:Nat}{c:Int}:∀{l:List Fact},(∀f,f∈l→FOK w f)→wv fa X Y Z k c l=true→X.ev w≤Y.ev w+(k:Int)*Z.ev w+c:=by
 intro l
 induction l with
 | nil=>intro _ h; cases h
 | cons f r ih =>
  intro hl h;have hrest:=ih (fun f hm=>hl f (mC _ hm));have h0:=hl f mS;cases f with
  | ln x0 y0 z0 k0 c0 =>
   simp only [wv,bU,aT] at h;rcases h with ⟨⟨⟨h1,h2⟩,h3⟩,h4⟩ | h
   ·have e1:=nQ h1;have e2:=nQ h2;have e3:=nQ h3;have e4:=aE hf h4;subst e1;simp only [FOK,e2,e3] at h0;have e5:(k0:Int)*Z.ev w=(k0:Int)*w.i Z.s+(k0:Int)*Z.c:=by simp only [Lin.ev]; rw [Int.mul_add]
    rw [e5];simp only [Lin.ev] at e4 ⊢;omega
   ·exact hrest h
  | _=>exact hrest h
theorem tE{w:V}{fa:List Fact}(z:w.i 0=0)(hf:∀f,f∈fa→FOK w f){s:Nat}{i:Lin}{R:List Ty}:∀{l:List Fact},(∀f,f∈l→FOK w f)→kQ.chkRow fa s i R l=true→0≤i.ev w∧∃rows ex r,w.c s=.lst rows ex∧nth? rows (i.ev w).toNat=some r∧a8 w R r:=by
 intro l
 induction l with
 | nil=>intro _ h; cases h
 | cons f r ih =>
  intro hl h;have hrest:=ih (fun f hm=>hl f (mC _ hm));have h0:=hl f (mS);cases f with
  | row s' i' cs =>
   simp only [kQ.chkRow,bU,aT,aZ] at h;rcases h with ⟨⟨rfl,h1⟩,h2⟩ | h
   ·have e:=aj hf h1;obtain ⟨q1,rows,ex,q2,q3⟩:=h0;rw [e] at q1 q3;exact ⟨q1,rows,ex,_,q2,q3,fm z hf _ _ h2⟩
   ·exact hrest h
  | _=>exact hrest h
theorem qG3{w:V}{fa:List Fact}(z:w.i 0=0)(hf:∀f,f∈fa→FOK w f){s:Nat}{i:Lin}{R:List Ty}:∀{l:List Fact},(∀f,f∈l→FOK w f)→kQ fa s i R l=true→FOK w (.pre s i R):=by
 intro l
 induction l with
 | nil=>intro _ h; cases h
 | cons f r ih =>
  intro hl h;have hrest:=ih (fun f hm=>hl f (mC _ hm));have h0:=hl f (mS);cases f with
  | pre s' i' R' =>
   simp only [kQ,bU,aT,aZ] at h;rcases h with ⟨⟨rfl,h1⟩,h2⟩ | h
   ·simp only [FOK] at h0 ⊢;intro rows ex hr j r hn hj;rcases h2 with h2 | ⟨h2,h3⟩
    ·have e:=aj hf h2;exact eQ hf _ _ h1 r (h0 rows ex hr j r hn (by omega))
    ·have e:=aE hf h2;by_cases hlt:(j:Int) < i'.ev w
     ·exact eQ hf _ _ h1 r (h0 rows ex hr j r hn hlt)
     ·obtain ⟨q1,rows',ex',r',q2,q3,q4⟩:=tE z hf hf h3;rw [hr] at q2; cases q2;have hj':j=(i'.ev w).toNat:=by omega
      rw [hj',q3,sI] at hn; subst hn;exact q4
   ·exact hrest h
  | _=>exact hrest h
theorem ye{w:V}{fa:List Fact}(z:w.i 0=0)(hf:∀f,f∈fa→FOK w f){s:Nat}{i:Lin}{cs:List AV}:∀{l:List Fact},(∀f,f∈l→FOK w f)→mj fa s i cs l=true→FOK w (.row s i cs):=by
 intro l
 induction l with
 | nil=>intro _ h; cases h
 | cons f r ih =>
  intro hl h;have hrest:=ih (fun f hm=>hl f (mC _ hm));have h0:=hl f (mS);cases f with
  | row s' i' ds =>
   simp only [mj,bU,aT,aZ] at h;rcases h with ⟨⟨rfl,h1⟩,h2⟩ | h
   ·have e:=aj hf h1;have e2:=j8 z hf _ _ h2;obtain ⟨q1,rows,ex,q2,q3⟩:=h0;rw [e] at q1 q3;exact ⟨q1,rows,ex,q2,by rw [q3,e2]⟩
   ·exact hrest h
  | _=>exact hrest h
theorem oE{w:V}{fa:List Fact}(hf:∀f,f∈fa→FOK w f):∀{as bs:List Lin},l8 fa as bs=true→fG w as=fG w bs
 | [],[],_=>rfl
 | [],_::_,h=>by cases h
 | _::_,[],h=>by cases h
 | a::as,b::bs,h=>by
  simp only [l8,aT] at h;simp only [fG,aj hf h.1,oE hf h.2]
theorem qG2{w:V}{fa:List Fact}(hf:∀f,f∈fa→FOK w f){t:Lin}{up dn:List Lin}:∀{l:List Fact},(∀f,f∈l→FOK w f)→rA fa t up dn l=true→t.ev w=fG w up - fG w dn:=by
 intro l
 induction l with
 | nil=>intro _ h; cases h
 | cons f r ih =>
  intro hl h;have hrest:=ih (fun f hm=>hl f (mC _ hm));have h0:=hl f mS;cases f with
  | csum t' up' dn' =>
   simp only [rA,bU,aT] at h;rcases h with ⟨⟨h1,h2⟩,h3⟩ | h
   ·have e:=aj hf h1;have e2:=oE hf h2;have e3:=oE hf h3;simp only [FOK] at h0;simp only [Lin.ev] at e ⊢;omega
   ·exact hrest h
  | _=>exact hrest h
theorem qO(w:V)(θ:Sub):∀(ls:List Lin),fG w (ls.map (dH θ))=fG (w.comp θ) ls
 | []=>rfl
 | l::ls=>by simp only [gM,fG,bG,qO w θ ls]
theorem qY9{w:V}{fa:List Fact}(z:w.i 0=0)(hf:∀f,f∈fa→FOK w f){θ:Sub}{f:Fact}(h:ww fa θ f=true):FOK (w.comp θ) f:=by
 cases f with
 | dc x y c=>exact aE hf h
 | ty s T =>
  simp only [ww] at h;simp only [FOK];simp only [bU] at h;rcases h with h | h
  ·exact (jS w θ T _).1 (gp z hf _ _ h)
  ·exact (jS w θ T _).1 (qNF z hf h)
 | len s t =>
  simp only [ww] at h;simp only [FOK,V.comp];split at h<;>(try (cases h; done))
  ·rename_i s' he;split at h
   ·rename_i t' ht;obtain ⟨n,hn,hi⟩:=eo hf ht;have e:=aj hf h;simp only [Lin.ev] at e ⊢;exact ⟨n,by rw [he]; exact hn,by omega⟩
   ·cases h
  ·rename_i he;have e:=aj hf h;simp only [Lin.ev,z] at e ⊢;exact ⟨0,by rw [he]; rfl,by omega⟩
  ·rename_i rows ex he;have e:=aj hf h;simp only [Lin.ev,z] at e ⊢;exact ⟨rows.length,by rw [he]; simp only [den,cV,gC,lK],by omega⟩
 | row s i cs =>
  simp only [ww] at h;split at h
  ·rename_i s' he;obtain ⟨q1,rows,ex,q2,q3⟩:=ye z hf hf h;rw [bG] at q1 q3;rw [dr] at q3;exact ⟨q1,rows,ex,by show den w (θ.cA s)=_; rw [he]; exact q2,q3⟩
  ·cases h
 | ixd fw bw=>cases h
 | sum a b t c=>cases h
 | prm xs ys=>cases h
 | cnd a0 c0 b0 lo hi=>cases h
 | pimp s i k1 c k2 lo hi =>
  simp only [ww] at h;split at h<;>(try (cases h; done))
  ·rename_i s' he;have hc:(w.comp θ).c s=w.c s':=by simp only [V.comp,he,den]
   have:=qLZ z hf h;simp only [FOK] at this ⊢;rw [hc,←bG,←bG,←bG];exact this
  ·rename_i he;simp only [FOK,V.comp,he,den];intro rows ex hr;cases hr
 | lc s0 e0 p0 a0 b0=>cases h
 | csum t up dn =>
  have:=qG2 hf hf h;simp only [FOK,V.comp];rw [this,qO,qO];rfl
 | ln x y z0 k c =>
  simp only [ww,bU,aT] at h
  show (θ.iL x).ev w≤(θ.iL y).ev w+(k:Int)*(θ.iL z0).ev w+c
  rcases h with ⟨h1,h2⟩ | h
  ·have e1:=nQ h1;have e2:=aE hf h2;have e3:(θ.iL z0).ev w=(θ.iL z0).c:=by simp only [Lin.ev,e1,z]; omega
   rw [e3];omega
  ·exact qM1 hf hf h
 | pre s i R =>
  simp only [ww] at h;split at h<;>(try (cases h; done))
  ·rename_i s' he;simp only [bU] at h;have hc:(w.comp θ).c s=w.c s':=by simp only [V.comp,he,den]
   simp only [FOK];rcases h with (h | h) | h
   rotate_right
   ·simp only [aT] at h;have e:=aE hf h.1;rw [bG] at e;simp only [Lin.ev,z] at e;obtain ⟨_,rows',ex',r',q2,q3,q4⟩:=tE z hf hf h.2;intro rows ex hr j r hn hj;rw [hc,q2] at hr;cases hr;have hj':j=0:=by simp only [Lin.ev] at hj; omega
    subst hj';have e0:(Lin.ev w ⟨0,0⟩).toNat=0:=by simp only [Lin.ev,z]; rfl
    rw [e0,hn,sI] at q3;subst q3;exact (gq w θ R r).1 q4
   ·have e:=aE hf h;rw [bG] at e;simp only [Lin.ev,z] at e;intro rows ex _ j r _ hj;simp only [Lin.ev] at hj; omega
   ·have:=qG3 z hf hf h;simp only [FOK] at this;rw [hc];intro rows ex hr j r hn hj;rw [←bG] at hj;exact (gq w θ R r).1 (this rows ex hr j r hn hj)
  ·rename_i he;simp only [FOK,V.comp,he,den];intro rows ex hr; cases hr
def qC3(fa:List Fact)(θ:Sub):List Fact→Bool
 | []=>true
 | f::r=>ww fa θ f&&qC3 fa θ r
theorem qM2{w:V}{fa:List Fact}(z:w.i 0=0)(hf:∀f,f∈fa→FOK w f){θ:Sub}:∀{l:List Fact},qC3 fa θ l=true→∀f,f∈l→FOK (w.comp θ) f:=by
 intro l
 induction l with
 | nil=>intro _ f h; cases h
 | cons x r ih =>
  intro h f hm;simp only [qC3,aT] at h;rcases aS.1 hm with rfl | hm
  ·exact qY9 z hf h.1
  ·exact ih h.2 f hm
def jU(fa:List Fact)(k:Nat)(R:List Ty)(n:Lin):Ct→Bool
 | .rows k' R' n'=>k'==k&&(jT fa R' R || jT (.dc 0 n'.s (n'.c - 1)::fa) R' R)&&be fa n' n
 | .cells l=>decide (0 < k)&&R.length==k&&decide ((l.length / k)*k=l.length)&&be fa n ⟨0,(l.length / k:Nat)⟩&&oj fa R (fP k (l.length / k) l)
theorem lQ{w:V}{fa:List Fact}(z:w.i 0=0)(hf:∀f,f∈fa→FOK w f){k:Nat}{R:List Ty}{n:Lin}{ct:Ct}{cs:List CV}(h:jU fa k R n ct=true)(hc:cR w cs ct):cR w cs (.rows k R n):=by
 cases ct with
 | rows k' R' n' =>
  simp only [jU,aT,aZ] at h;obtain ⟨⟨rfl,h1⟩,h2⟩:=h;obtain ⟨q1,q2,q3,q4⟩:=hc;have e:=aj hf h2;have hst:(n'.ev w).toNat=0∨∀c,a8 w R' c→a8 w R c:=by
   rcases (bU _ _).mp h1 with h1 | h1
   ·exact .inr (fun c=>eQ hf _ _ h1 c)
   ·by_cases h0:n'.ev w≤0
    ·left; omega
    ·right
     refine fun c=>eQ (fa:=.dc 0 n'.s (n'.c - 1)::fa) (fun f hm=>?_) _ _ h1 c
     rcases aS.1 hm with rfl | hm
     ·show w.i 0 - w.i n'.s≤n'.c - 1
      simp only [Lin.ev] at h0; omega
     ·exact hf f hm
  have go:∀(m:Nat) (cs:List CV),m=(n'.ev w).toNat∨(∀c,a8 w R' c→a8 w R c)→aQ w k' R' cs m→aQ w k' R cs m:=by
   intro m
   induction m with
   | zero=>intro cs _ h; exact h
   | succ m ih =>
    intro cs hm h;have hT:∀c,a8 w R' c→a8 w R c:=by
     rcases hst with h0 | h0
     ·rcases hm with hm | hm
      ·omega
      ·exact hm
     ·exact h0
    exact ⟨h.1,hT _ h.2.1,ih _ (.inr hT) h.2.2⟩
  have hl:R.length=R'.length:=by
   have:∀{fa:List Fact} {A B:List Ty},jT fa A B=true→B.length=A.length:=by
    intro fa;intro A
    induction A with
    | nil=>intro B hs; cases B with
     | nil=>rfl
     | cons b B=>cases hs
    | cons a A ih=>intro B hs; cases B with
     | nil=>cases hs
     | cons b B=>simp only [jT,aT] at hs; simp only [eZ,ih hs.2]
   rcases (bU _ _).mp h1 with h1 | h1<;>exact this h1
  exact ⟨q1,by omega,by omega,by rw [←e]; exact go _ _ (.inl rfl) q4⟩
 | cells l =>
  simp only [jU,aT,aZ,dT] at h;obtain ⟨⟨⟨⟨h1,h2⟩,h3⟩,h4⟩,h5⟩:=h;simp only [cR] at hc; subst hc;have e:=aj hf h4;have e':n.ev w=((l.length / k:Nat):Int):=by rw [e]; simp only [Lin.ev,z]; omega
  exact ⟨h1,h2,by rw [e']; exact Int.natCast_nonneg _,by rw [e',fS]; exact gX z hf h3.symm h5⟩
def qM4(fa:List Fact)(θ:Sub)(p q:BE):Bool :=
 match p,q with
 | .blk b (.cells l) ro,.blk b' (.cells l') ro'=>b'==θ.bN b&&ro==ro'&&qk fa l' (jt θ l)
 | .blk b (.rows k R n) ro,.blk b' ct ro'=>b'==θ.bN b&&ro==ro'&&jU fa k (fx θ R) (dH θ n) ct
 | .vec b k R len ro,.blk b' ct ro'=>b'==θ.bN b&&ro==ro'&&jU fa k (fx θ R) (dH θ len) ct&&leL fa ⟨0,1⟩ (dH θ len) 0
 | .vec b k R len ro,.vec b' k' R' len' ro'=>b'==θ.bN b&&ro==ro'&&jU fa k (fx θ R) (dH θ len) (.rows k' R' len')
 | .map b ag ks T none,.map b' ag' ks' T' _=>b'==θ.bN b&&ag==ag'&&decide (ks=ks')&&sty fa T' (ol θ T)
 | .map b _ _ _ none,.emap b'=>b'==θ.bN b
 | .emap b,.emap b'=>b'==θ.bN b
 | .loop b t s J,.loop b' t' s' J'=>b'==θ.bN b&&t==t'&&s'==θ.nu s&&decide (J=J')
 | _,_=>false
theorem qM3{w:V}{fa:List Fact}{h:H}(z:w.i 0=0)(hf:∀f,f∈fa→FOK w f){θ:Sub}{p q:BE}(hc:qM4 fa θ p q=true)(hq:BOK w h q):BOK (w.comp θ) h p∧adr (w.comp θ) p=adr w q:=by
 unfold qM4 at hc;split at hc<;>(try (cases hc; done))
 ·rename_i b l ro b' l' ro';simp only [aT,aZ] at hc;obtain ⟨⟨rfl,rfl⟩,h1⟩:=hc;obtain ⟨cs,h2,h3⟩:=hq;refine ⟨⟨cs,h2,?_⟩,rfl⟩;simp only [cR] at h3 ⊢;rw [h3,j8 z hf _ _ h1,dr]
 ·rename_i b k R n ro b' ct ro';simp only [aT,aZ] at hc;obtain ⟨⟨rfl,rfl⟩,h1⟩:=hc;obtain ⟨cs,h2,h3⟩:=hq;have:=lQ z hf h1 h3;exact ⟨⟨cs,h2,(ju w θ cs (.rows k R n)).1 this⟩,rfl⟩
 ·rename_i b k R len ro b' ct ro';simp only [aT,aZ] at hc;obtain ⟨⟨⟨rfl,rfl⟩,h1⟩,h2⟩:=hc;obtain ⟨cs,h3,h4⟩:=hq;have:=lQ z hf h1 h4;have e:=aE hf h2;rw [bG] at e;have ne:len.ev (w.comp θ)≠0:=by simp only [Lin.ev,z] at e ⊢; omega
  exact ⟨.inr ⟨cs,h3,(ju w θ cs (.rows k R len)).1 this⟩,by simp only [adr,aC ne]; rfl⟩
 ·rename_i b k R len ro b' k' R' len' ro';simp only [aT,aZ] at hc;obtain ⟨⟨rfl,rfl⟩,h1⟩:=hc;have h1':=h1;simp only [jU,aT] at h1';have e:=aj hf h1'.2;rw [bG] at e;refine ⟨?_,by simp only [adr,e]; rfl⟩;rcases hq with hq | ⟨cs,h3,h4⟩
  ·exact .inl (by rw [←e]; exact hq)
  ·exact .inr ⟨cs,h3,(ju w θ cs (.rows k R len)).1 (lQ z hf h1 h4)⟩
 ·rename_i b ag ks T b' ag' ks' T' m;simp only [aT,aZ,dT] at hc;obtain ⟨⟨⟨rfl,rfl⟩,rfl⟩,h1⟩:=hc;obtain ⟨es,cl,h2,h3,_⟩:=hq;exact ⟨⟨es,cl,h2,fun e he=>⟨(h3 e he).1,(jS w θ T _).1 (il hf _ _ h1 _ (h3 e he).2)⟩,trivial⟩,rfl⟩
 ·rename_i b ag ks T b';simp only [aZ] at hc; subst hc;obtain ⟨cl,h2⟩:=hq;exact ⟨⟨[],cl,h2,(fun e he=>by cases he),trivial⟩,rfl⟩
 ·rename_i b b';simp only [aZ] at hc; subst hc;exact ⟨hq,rfl⟩
 ·rename_i b t s J b' t' s' J';simp only [aT,aZ,dT] at hc;obtain ⟨⟨⟨rfl,rfl⟩,rfl⟩,rfl⟩:=hc;exact ⟨hq,rfl⟩
def zAC(fa:List Fact)(θ:Sub):BE→Bool
 | .vec _ _ _ len _=>be fa (dH θ len) ⟨0,0⟩
 | _=>false
def ru(fa:List Fact)(θ:Sub):List BE→List BE→Option (List BE)
 | [],rest=>some rest
 | p::ps,rest=>if zAC fa θ p then ru fa θ ps rest else match ai (θ.bN (dF p)) rest with
  | some q=>if qM4 fa θ p q then ru fa θ ps (dS (θ.bN (dF p)) [] rest) else none
  | none=>none
theorem qGL{w:V}{fa:List Fact}{h:H}(z:w.i 0=0)(hf:∀f,f∈fa→FOK w f){θ:Sub}:∀{ps rest rest':List BE},ru fa θ ps rest=some rest'→(∀q,q∈rest→BOK w h q)→(rest.flatMap (adr w)).Nodup →
  (∀p,p∈ps→BOK (w.comp θ) h p)∧(ps.flatMap (adr (w.comp θ))++rest'.flatMap (adr w)).Nodup∧(∀q,q∈rest'→q∈rest)∧∀a,a∈ps.flatMap (adr (w.comp θ))→a∈rest.flatMap (adr w):=by
 intro ps
 induction ps with
 | nil =>
  intro rest rest' h hB hn;simp only [ru,sI] at h; subst h;exact ⟨(fun p hp=>by cases hp),by simpa using hn,fun q hq=>hq,(fun a ha=>by simp at ha)⟩
 | cons p ps ih =>
  intro rest rest' h hB hn;simp only [ru] at h;split at h
  ·rename_i hno;obtain ⟨h1,h2,h3,h4⟩:=ih h hB hn;cases p<;>simp only [zAC] at hno<;>(try (cases hno; done));rename_i b k R len ro;have e:=aj hf hno;rw [bG] at e;have e0:len.ev (w.comp θ)=0:=by rw [e]; simp only [Lin.ev,z]; omega
   have ea:adr (w.comp θ) (.vec b k R len ro)=[]:=by simp only [adr,aH e0]
   refine ⟨fun q hq=>?_,by simpa [ea] using h2,h3,fun a ha=>h4 a (by simpa [ea] using ha)⟩;rcases aS.1 hq with rfl | hq
   ·exact .inl e0
   ·exact h1 q hq
  ·split at h
   ·rename_i q hq;split at h
    ·rename_i hc;obtain ⟨_,l1,l2,hl,hm⟩:=dx hq;rw [hm] at h;have hqm:q∈rest:=(lookB_mem hq).1;obtain ⟨hbp,hap⟩:=qM3 z hf hc (hB q hqm);rw [hl] at hn;simp only [lN,i9,og,fR] at hn;obtain ⟨hn12,hnl2,hd2⟩:=cD.1 hn;obtain ⟨hnl1,hnq,hd1⟩:=cD.1 hn12;have hn':((l1++[]++l2).flatMap (adr w)).Nodup:=by
      simp only [fR,lN];exact cD.2 ⟨hnl1,hnl2,fun x hx=>hd2 x (by simp [hx])⟩
     obtain ⟨h1,h2,h3,h4⟩:=ih h (fun x hx=>hB x (by rw [hl]; simp only [fR,bP] at hx ⊢; exact hx.elim (fun h=>.inl (.inl h)) .inr)) hn';have hdis:∀a,a∈adr w q→a∉(l1++[]++l2).flatMap (adr w):=fun a ha hx=>by
      simp only [fR,lN,bP] at hx;rcases hx with hx | hx
      ·exact hd1 a hx ha
      ·exact hd2 a (by simp [ha]) hx
     refine ⟨fun x hx=>?_,?_,fun x hx=>?_,fun a ha=>?_⟩
     ·rcases aS.1 hx with rfl | hx
      ·exact hbp
      ·exact h1 x hx
     ·simp only [i9,nH];rw [hap];refine cD.2 ⟨hnq,h2,fun a ha hx=>?_⟩;rcases bP.1 hx with hx | hx
      ·exact hdis a ha (h4 a hx)
      ·obtain ⟨y,hy,hay⟩:=eg.1 hx;exact hdis a ha (eg.2 ⟨y,h3 y hy,hay⟩)
     ·have:=h3 x hx;rw [hl]; simp only [fR,bP] at this ⊢;exact this.elim (fun h=>.inl (.inl h)) .inr
     ·rw [hl];simp only [i9,bP] at ha;simp only [lN,i9,og,fR,bP];rcases ha with ha | ha
      ·rw [hap] at ha; exact .inl (.inr ha)
      ·have:=h4 a ha;simp only [fR,lN,bP] at this;exact this.elim (fun h=>.inl (.inl h)) .inr
    ·cases h
   ·cases h
def eqW(fa:List Fact)(θ:Sub):List AV→List AV→List (Nat × AV)→Nat→Bool
 | [],[],_,_=>true
 | a::as,.sym s::ps,(s',a')::cs,m=>match Nat.beq s' s&&Nat.ble m s with
  | true=>eqA fa a a'&&eqW fa θ as ps cs (s+1)
  | false=>eqA fa a (θ.cA s)&&eqW fa θ as ps ((s',a')::cs) m
 | a::as,p::ps,cs,m=>eqA fa a (iy θ p)&&eqW fa θ as ps cs m
 | _,_,_,_=>false
theorem vw{α:Type}{s:Nat}{a:α}{r:List (Nat × α)}:∀{l:List (Nat × α)},(∀x,x∈l→x.1 < s)→ir (l++(s,a)::r) s=some a
 | [],_=>by rw [eX,kv,aH rfl]
 | (k,b)::l,h=>by
  have:=h (k,b) mS;rw [eI,kv,aC (by simp only at this; omega)];exact vw fun x hx=>h x (mC _ hx)
theorem eqW_ok{w:V}{fa:List Fact}(z:w.i 0=0)(hf:∀f,f∈fa→FOK w f){θ:Sub}:∀(as ps:List AV) (cs:List (Nat × AV)) (m:Nat) (d:List (Nat × AV)),θ.c=d++cs→(∀x,x∈d→x.1 < m)→θ.lo≤m→eqW fa θ as ps cs m=true→aF w as=aF w (jt θ ps):=by
 intro as ps cs m
 fun_induction eqW fa θ as ps cs m with
 | case1 cs m=>intro d _ _ _ _; rfl
 | case2 a as s ps s' a' cs m hc ih =>
  intro d hd hm hl h;simp only [aT] at h hc;have e1:s'=s:=nQ hc.1;have e2:m≤s:=el hc.2;subst e1;have hk:θ.cA s'=a':=by
   simp only [Sub.cA,zC0 (show θ.lo≤s' by omega),hd];rw [vw (fun x hx=>by have:=hm x hx; omega)]
  have:=ih (d++[(s',a')]) (by rw [hd,nH]; rfl) (fun x hx=>by
   rcases bP.1 hx with hx | hx
   ·have:=hm x hx; omega
   ·simp only [cM] at hx; subst hx; show s' < s'+1; omega) (by omega) h.2
  simp only [aF,jt,iy,hk,j9 z hf _ _ h.1,this]
 | case3 a as s ps s' a' cs m hc ih =>
  intro d hd hm hl h;simp only [aT] at h;simp only [aF,jt,iy,j9 z hf _ _ h.1,ih d hd hm hl h.2]
 | case4 a as p ps cs m hx ih =>
  intro d hd hm hl h;simp only [aT] at h;simp only [aF,jt,j9 z hf _ _ h.1,ih d hd hm hl h.2]
 | case5=>intro d hd hm hl h; cases h
def nb(st:St)(θ:Sub)(as:List AV)(pre:St):Option (List BE) :=
 if eqW st.fa θ as pre.env θ.c θ.lo&&qC3 st.fa θ pre.fa then ru st.fa θ pre.bl st.bl else none
structure Mtch (w:V) (st:St) (θ:Sub) (as:List AV) (pre:St) (rest:List BE) (h:H):Prop where
 env:aF (w.comp θ) pre.env=aF w as
 fa:∀f,f∈pre.fa→FOK (w.comp θ) f
 bl:∀p,p∈pre.bl→BOK (w.comp θ) h p
 nd:(pre.bl.flatMap (adr (w.comp θ))++rest.flatMap (adr w)).Nodup
 rest:∀q,q∈rest→q∈st.bl
 sub:∀a,a∈pre.bl.flatMap (adr (w.comp θ))→a∈st.bl.flatMap (adr w)
theorem pJ{X:Cx}{w:V}{st:St}{env:List CV}{h:H}(sw:Sat0 X w st env h){θ:Sub}{as:List AV}{pre:St}{rest:List BE}(hm:nb st θ as pre=some rest):Mtch w st θ as pre rest h:=by
 unfold nb at hm;split at hm
 ·rename_i hc;simp only [aT] at hc;obtain ⟨h1,h2,h3,h4⟩:=qGL sw.z sw.fa hm sw.bl sw.nd;exact ⟨by rw [←dr,eqW_ok sw.z sw.fa as pre.env θ.c θ.lo [] rfl (fun x hx=>by cases hx) (aV _) hc.1],qM2 sw.z sw.fa hc.2,h1,h2,h3,h4⟩
 ·cases hm
def qY6(n:Nat):List Fact→Bool
 | []=>true
 | f::r=>clF n f&&qY6 n r
def qG0(n:Nat):List BE→Bool
 | []=>true
 | f::r=>clB n f&&qG0 n r
def kO(P:St):Bool:=clL P.n P.env&&qY6 P.n P.fa&&qG0 P.n P.bl
theorem qY5{n:Nat}{l:List Fact}(h:qY6 n l=true):∀f,f∈l→clF n f=true:=by
 induction l with
 | nil=>intro f hf; cases hf
 | cons x r ih =>
  simp only [qY6,aT] at h;intro f hf;rcases aS.1 hf with rfl | hf
  ·exact h.1
  ·exact ih h.2 f hf
theorem qC0{n:Nat}{l:List BE}(h:qG0 n l=true):∀f,f∈l→clB n f=true:=by
 induction l with
 | nil=>intro f hf; cases hf
 | cons x r ih =>
  simp only [qG0,aT] at h;intro f hf;rcases aS.1 hf with rfl | hf
  ·exact h.1
  ·exact ih h.2 f hf
theorem Sat.ofClosed{X:Cx}{v:V}{P:St}{env:List CV}{h:H}{fs:List Fact}(hc:kO P=true)(hp:0 < P.n)(s:Sat0 X v P env h)(hfs:∀w,Agr P.n v w→∀f,f∈fs→FOK w f):Sat X v { P with fa:=P.fa++fs } env h:=by
 simp only [kO,aT] at hc;refine ⟨hp,fun w hw=>?_⟩;have ea:∀p,p∈P.bl→adr v p=adr w p:=fun p hpm=>qC1 hw (qC0 hc.2 p hpm)
 have eb:P.bl.flatMap (adr w)=P.bl.flatMap (adr v):=by
  have:∀l:List BE,(∀p,p∈l→adr v p=adr w p)→l.flatMap (adr w)=l.flatMap (adr v):=by
   intro l
   induction l with
   | nil=>intro _; rfl
   | cons p l ih=>intro hl; simp only [i9,hl p mS,ih (fun p hp=>hl p (mC _ hp))]
  exact this _ ea
 refine ⟨by rw [←(hw 0 hp).1]; exact s.z,by rw [←fh hw _ hc.1.1]; exact s.env,fun f hf=>?_,fun p hpm=>(clB_ok hw (qC0 hc.2 p hpm) h).1 (s.bl p hpm),by rw [eb]; exact s.nd,fun p hpm a ha=>s.lt p hpm a (by rw [ea p hpm]; exact ha),s.hn,s.fr⟩;rcases bP.1 hf with hf | hf
 ·exact clF_ok hw (qY5 hc.1.2 f hf) (s.fa f hf)
 ·exact hfs w hw f hf
end
end Ce.S
namespace Ce.S
noncomputable section
open Go
def jp{α:Type}(f:AV→AV→α→α):List AV→List AV→α→α
 | p::ps,a::as,r=>f p a (jp f ps as r)
 | _,_,r=>r
def lU(lo:Nat)(p a:Lin)(r:List (Nat × Lin)):List (Nat × Lin):=match Nat.ble lo p.s with
 | true=>(p.s,⟨a.s,a.c - p.c⟩)::r
 | false=>r
def qD2(lo p a:Nat)(r:List (Nat × Nat)):List (Nat × Nat):=match Nat.ble lo p with
 | true=>(p,a)::r
 | false=>r
def qAM(lo:Nat):AV→AV→List (Nat × Lin)→List (Nat × Lin)
 | .int _ s c,.int _ s' c',r=>lU lo ⟨s,c⟩ ⟨s',c'⟩ r
 | .iptr _ _ _ i,.iptr _ _ _ i',r=>lU lo i i' r
 | .slc _ _ _ i n c,.slc _ _ _ i' n' c',r=>lU lo i i' (lU lo n n' (lU lo c c' r))
 | .vec _ _ n,.vec _ _ n',r=>lU lo n n' r
 | .vec _ _ n,.nils,r=>lU lo n ⟨0,0⟩ r
 | _,_,r=>r
def qJI(lo:Nat):AV→AV→List (Nat × Nat)→List (Nat × Nat)
 | .ptr b _,.ptr b' _,r=>qD2 lo b b' r
 | .iptr b _ _ _,.iptr b' _ _ _,r=>qD2 lo b b' r
 | .slc _ b _ _ _ _,.slc _ b' _ _ _ _,r=>qD2 lo b b' r
 | .vec _ b _,.vec _ b' _,r=>qD2 lo b b' r
 | .map b,.map b',r=>qD2 lo b b' r
 | .yld b,.yld b',r=>qD2 lo b b' r
 | _,_,r=>r
def qAN(lo:Nat):AV→AV→List (Nat × AV)→List (Nat × AV)
 | .sym s,a,r=>(match Nat.ble lo s with
  | true=>(s,a)::r
  | false=>r)
 | _,_,r=>r
def qBL{α:Type}(g f:AV→AV→α→α)(p a:AV)(r:α):α:=match p with
 | .agg l=>(match a with | .agg l'=>jp f l l' r | _=>r)
 | .tup l=>(match a with | .tup l'=>jp f l l' r | _=>r)
 | .rptr l=>(match a with | .rptr l'=>jp f l l' r | _=>r)
 | .clo _ x y=>(match a with | .clo _ x' y'=>jp f x x' (jp f y y' r) | _=>r)
 | p=>g p a r
def kN{α:Type}(g:AV→AV→α→α):AV→AV→α→α:=qBL g (qBL g (qBL g (qBL g g)))
def w0(lo:Nat):List AV→Nat→Nat
 | [],m=>m
 | .sym s::ps,m=>(match Nat.beq s m with
  | true=>m - 1
  | false=>(match Nat.ble lo s with
   | true=>w0 lo ps (s+1)
   | false=>w0 lo ps m))
 | _::ps,m=>w0 lo ps m
def wz:List AV→List AV→Nat→List (Nat × AV)→List (Nat × AV)
 | .sym s::ps,a::as,m,r=>(match Nat.beq s m with
  | true=>(s,a)::wz ps as (m+1) r
  | false=>wz ps as m r)
 | _::ps,_::as,m,r=>wz ps as m r
 | _,_,_,r=>r
def wo:List AV→List AV→Nat→List AV × List AV
 | .sym s::ps,a::as,m=>(match Nat.beq s m with
  | true=>wo ps as (m+1)
  | false=>(match wo ps as m with
   | (x,y)=>(.sym s::x,a::y)))
 | p::ps,a::as,m=>(match wo ps as m with
  | (x,y)=>(p::x,a::y))
 | _,_,_=>([],[])
def bnB(lo:Nat)(tb:List (Nat × Nat))(b:Nat):Nat:=match Nat.blt b lo with
 | true=>b
 | false=>(match ir tb b with
  | some c=>c
  | none=>0)
def qMG(lo:Nat)(tb:List (Nat × Nat))(bl:List BE):List BE→List (Nat × Nat)→List (Nat × Nat)
 | [],r=>r
 | .blk b (.cells l) _::ps,r=>(match ai (bnB lo tb b) bl with
  | some (.blk _ (.cells l') _)=>jp (kN (qJI lo)) l l' (qMG lo tb bl ps r)
  | _=>qMG lo tb bl ps r)
 | _::ps,r=>qMG lo tb bl ps r
def qMF(lo:Nat)(tb:List (Nat × Nat))(bl:List BE):List BE→List (Nat × AV)→List (Nat × AV)
 | [],r=>r
 | .blk b (.cells l) _::ps,r=>(match ai (bnB lo tb b) bl with
  | some (.blk _ (.cells l') _)=>jp (kN (qAN lo)) l l' (qMF lo tb bl ps r)
  | _=>qMF lo tb bl ps r)
 | _::ps,r=>qMF lo tb bl ps r
def rF(lo:Nat)(tb:List (Nat × Nat))(bl:List BE):List BE→List (Nat × Lin)→List (Nat × Lin)
 | [],r=>r
 | .blk b (.cells l) _::ps,r=>(match ai (bnB lo tb b) bl with
  | some (.blk _ (.cells l') _)=>jp (kN (qAM lo)) l l' (rF lo tb bl ps r)
  | _=>rF lo tb bl ps r)
 | .blk b (.rows _ _ n) _::ps,r=>(match ai (bnB lo tb b) bl with
  | some (.blk _ (.rows _ _ n') _)=>lU lo n n' (rF lo tb bl ps r)
  | some (.vec _ _ _ n' _)=>lU lo n n' (rF lo tb bl ps r)
  | _=>rF lo tb bl ps r)
 | .vec b _ _ n _::ps,r=>(match ai (bnB lo tb b) bl with
  | some (.blk _ (.rows _ _ n') _)=>lU lo n n' (rF lo tb bl ps r)
  | some (.vec _ _ _ n' _)=>lU lo n n' (rF lo tb bl ps r)
  | _=>rF lo tb bl ps r)
 | _::ps,r=>rF lo tb bl ps r
def vn:List Fact→List Fact
 | []=>[]
 | .dc _ _ _::r=>vn r
 | .ty _ _::r=>vn r
 | f::r=>f::vn r
def uU(fa:List Fact)(up dn:List Lin):List Fact→Option Nat
 | []=>none
 | .csum t up' dn'::r=>if l8 fa up' up&&l8 fa dn' dn then some t else uU fa up dn r
 | _::r=>uU fa up dn r
def uf(lo:Nat)(fa:List Fact)(s:Nat)(i:Lin)(cs:List AV)(θ:Sub):List Fact→Sub
 | []=>θ
 | .row s' i' ds::r=>if s'==s&&be fa i' i then { θ with i:=θ.i++jp (kN (qAM lo)) cs ds [],c:=θ.c++jp (kN (qAN lo)) cs ds [],b:=θ.b++jp (kN (qJI lo)) cs ds [] } else uf lo fa s i cs θ r
 | _::r=>uf lo fa s i cs θ r
def oJ(lo:Nat)(fa:List Fact):List Fact→Sub→Sub
 | [],θ=>θ
 | .len s t::r,θ =>
  let θ:=match θ.cA s with
   | .sym s'=>match iQ s' fa with
    | some t'=>{ θ with i:=lU lo ⟨t,0⟩ ⟨t',0⟩ θ.i }
    | none=>θ
   | .nils=>{ θ with i:=lU lo ⟨t,0⟩ ⟨0,0⟩ θ.i }
   | .lrows rows _=>{ θ with i:=lU lo ⟨t,0⟩ ⟨0,rows.length⟩ θ.i }
   | _=>θ
  oJ lo fa r θ
 | .row s i cs::r,θ =>
  let θ:=match θ.cA s with
   | .sym s'=>uf lo fa s' (dH θ i) cs θ fa
   | _=>θ
  oJ lo fa r θ
 | .csum t up dn::r,θ =>
  let θ:=match uU fa (up.map (dH θ)) (dn.map (dH θ)) fa with
   | some t'=>{ θ with i:=lU lo ⟨t,0⟩ ⟨t',0⟩ θ.i }
   | none=>θ
  oJ lo fa r θ
 | _::r,θ=>oJ lo fa r θ
def fH(lo base sh:Nat)(st:St)(as:List AV)(P:St):Sub :=
 match w0 lo P.env 0 with
 | m=>match wo P.env as m with
  | (ps,qs)=>match jp (kN (qJI lo)) ps qs [] with
   | b0=>match qMG lo b0 st.bl P.bl [] with
    | []=>oJ lo st.fa (vn P.fa) ⟨jp (kN (qAM lo)) ps qs (rF lo b0 st.bl P.bl []),wz P.env as m (jp (kN (qAN lo)) ps qs (qMF lo b0 st.bl P.bl [])),b0,lo,base,sh⟩
    | x::xs=>match b0++(x::xs) with
     | b1=>match b0++qMG lo b1 st.bl P.bl [] with
      | b2=>oJ lo st.fa (vn P.fa) ⟨jp (kN (qAM lo)) ps qs (rF lo b2 st.bl P.bl []),wz P.env as m (jp (kN (qAN lo)) ps qs (qMF lo b2 st.bl P.bl [])),b2,lo,base,sh⟩
end
end Ce.S
namespace Ce.S
noncomputable section
open Go
structure Con where
 yl:Bool
 tg:Nat
 n0:Nat
 pre:St
 posts:List (AV × St)
 ma:Lin
 mb:Lin
 lim:Option (Lin × Lin)
inductive Tg where
 | fn (f:Nat)
 | yl (b:Nat)
inductive Hint where
 | unroll
 | peel
 | nofk (t:Nat)
 | fkr (t:Nat)
 | fka (t:Nat)
 | spl (s:Nat) (c:Int)
 | inl
 | mkr (R:List Ty)
 | wf (t:Nat)
 | inv (P:St) (ma mb:Lin)
 | csum (b:Nat) (us ds:List Nat)
 | cut (P:St)
 | invs (Fs:List (St × List (Lin × Lin)))
 | rcs (f:Nat) (P:St) (posts:List (AV × St)) (ma mb:Lin)
 | rng (J:List Jump) (P:St) (posts:List (AV × St))
abbrev Hs:=List Hint
def jh(lo hi n:Nat)(θ:Sub):Bool :=
 θ.lo==lo&&θ.base==hi&&xH lo hi (fun l:Lin=>Nat.blt l.s n) θ.i&&xH lo hi (clA n) θ.c&&xH lo hi (fun l:Nat=>Nat.blt l n) θ.b
def uK(fa:List Fact)(ma mb:Lin):Option (Lin × Lin)→Bool
 | none=>true
 | some (a,b)=>leL fa b a (-1)&&((leL fa ma a (-1)&&leL fa b mb 0) || (leL fa ma a 0&&leL fa b mb (-1)))
def qJF(s:Nat):List Fact→Option Nat
 | []=>none
 | .len s' t::r=>match qJF s r with
  | some t'=>some t'
  | none=>if s'=s then some t else none
 | _::r=>qJF s r
def qJH(old:List Fact):Fact→List Fact
 | .len s t=>match qJF s old with
  | some t0=>[.dc t t0 0,.dc t0 t 0]
  | none=>[]
 | _=>[]
def uL(old:List Fact):List Fact→List Fact
 | []=>[]
 | f::r=>qJH old f++uL old r
def qIC(θ:Sub)(st:St)(base:Nat)(rest:List BE)(o:AV × St):AV × St :=
 (iy θ o.1,⟨st.n+(o.2.n - base),st.env,uL st.fa (o.2.fa.filterMap (ix θ))++(o.2.fa.filterMap (ix θ)++st.fa),o.2.bl.map (pc θ)++rest⟩)
def qAL(all old:List Fact):Fact→Bool
 | .len s t=>match iQ s old with
  | some t0=>leL all ⟨t,0⟩ ⟨t0,0⟩ (-1) || leL all ⟨t0,0⟩ ⟨t,0⟩ (-1)
  | none=>false
 | _=>false
def pH(θ:Sub)(st:St)(o:AV × St):Bool :=
 let nf:=o.2.fa.filterMap (ix θ)
 nf.any (qAL (nf++st.fa) st.fa)
def kV(c:Con)(as:List AV)(st:St):Option (List (AV × St)) :=
 let θ:=fH c.n0 c.pre.n st.n st as c.pre
 if jh c.n0 c.pre.n st.n θ&&θ.sh==st.n&&decide (c.n0≤c.pre.n) then match nb st θ as c.pre with
  | some rest=>if uK st.fa (dH θ c.ma) (dH θ c.mb) c.lim then some ((c.posts.filter fun o=>!pH θ st o).map (qIC θ st c.pre.n rest)) else none
  | none=>none
 else none
def fits(lo:Nat)(st:St)(r:AV)(o:AV × St):Bool :=
 let P:St:={ o.2 with env:=[o.1] }
 let θ:=fH lo o.2.n 0 st [r] P
 jh lo o.2.n st.n θ&&kO P&&decide (lo≤o.2.n)&&(nb st θ [r] P).isSome
def gT(lo:Nat)(st:St)(r:AV):List (AV × St)→Bool
 | []=>false
 | o::os=>fits lo st r o || gT lo st r os
def lW{α β:Type}(f:α→Hs→Option (List β × Hs)):List α→Hs→Option (List β × Hs)
 | [],hs=>some ([],hs)
 | a::as,hs=>match f a hs with
  | some (bs,hs)=>match lW f as hs with
   | some (cs,hs)=>some (bs++cs,hs)
   | none=>none
  | none=>none
theorem dU{α β:Type}{f:α→Hs→Option (List β × Hs)}:∀{as:List α} {hs hs':Hs} {bs:List β},lW f as hs=some (bs,hs')→∀a,a∈as→∃h1 h2 cs,f a h1=some (cs,h2)∧∀b,b∈cs→b∈bs
 | [],hs,hs',bs,h,a,ha=>by cases ha
 | x::as,hs,hs',bs,h,a,ha=>by
  simp only [lW] at h;split at h
  ·rename_i cs h1 hx;split at h
   ·rename_i ds h2 hr;simp only [sI,pI] at h;obtain ⟨rfl,rfl⟩:=h;rcases aS.1 ha with rfl | ha
    ·exact ⟨_,_,_,hx,fun b hb=>ig _ hb⟩
    ·obtain ⟨g1,g2,es,he,hm⟩:=dU hr a ha;exact ⟨g1,g2,es,he,fun b hb=>fF _ (hm b hb)⟩
   ·cases h
  ·cases h
def xZ(fa:List Fact)(a b t:Nat)(c:Int):List Fact :=
 (match loC fa ⟨a,0⟩ with | some l=>[.dc b t (c - l)] | none=>[])++((match hiC fa ⟨a,0⟩ with | some u=>[.dc t b (u - c)] | none=>[]) ++
 ((match loC fa ⟨b,0⟩ with | some l=>[.dc a t (c - l)] | none=>[])++(match hiC fa ⟨b,0⟩ with | some u=>[.dc t a (u - c)] | none=>[])))
def nT(fa:List Fact)(x y:Nat):List Fact→List Fact
 | []=>[]
 | .sum a b t c::r=>(if a=x∨a=y∨b=x∨b=y∨t=x∨t=y then xZ fa a b t c else [])++nT fa x y r
 | _::r=>nT fa x y r
def vz(fa:List Fact)(x y:Nat):List Fact→List Fact
 | []=>[]
 | .ln a b z k c::r=>(if z=x∨z=y then (match hiC fa ⟨z,0⟩ with | some u=>[.dc a b ((k:Int)*u+c)] | none=>[]) else [])++vz fa x y r
 | _::r=>vz fa x y r
def gtA(fa:List Fact):List AV→List AV→Bool
 | .int _ s c::l,.int _ s' c'::m=>leL fa ⟨s',c'⟩ ⟨s,c⟩ (-1) || gtA fa l m
 | _::l,_::m=>gtA fa l m
 | _,_=>false
def pt(fa:List Fact)(s:Nat)(i:Lin)(cs:List AV):List Fact→List Fact
 | []=>[]
 | .row s' j ds::r=>(if s'=s∧j.s=0∧i.s≠0∧gtA fa cs ds=true∧leL fa j i 0=true then [.dc 0 i.s (i.c - j.c - 1)] else [])++pt fa s i cs r
 | _::r=>pt fa s i cs r
def pr(fa:List Fact):List Fact→List Fact
 | []=>[]
 | .row s i cs::r=>(if i.s=0 then [] else pt fa s i cs fa)++pr fa r
 | _::r=>pr fa r
def qLM(y:Nat):List Fact→List (Nat × Int)
 | []=>[]
 | .ixd fw _::r=>edg fw y++qLM y r
 | .dc a b c::r=>if a=y then (b,c)::qLM y r else qLM y r
 | _::r=>qLM y r
def qLN(y:Nat):List Fact→List (Nat × Int)
 | []=>[]
 | .ixd _ bw::r=>edg bw y++qLN y r
 | .dc a b c::r=>if b=y then (a,c)::qLN y r else qLN y r
 | _::r=>qLN y r
def qCB(fa:List Fact)(b:Nat)(c:Int):List Lin→Bool
 | []=>true
 | y::ys=>leL fa y ⟨b,0⟩ c&&qCB fa b c ys
def qCC(fa:List Fact)(a:Nat)(c:Int):List Lin→Bool
 | []=>true
 | y::ys=>leL fa ⟨a,0⟩ y c&&qCC fa a c ys
def qQ3(fa:List Fact)(xs ys:List Lin)(d:Int):List (Nat × Int)→List Fact
 | []=>[]
 | (b,c)::r=>(if qCB fa b (c+d) ys then xs.map (fun x=>Fact.dc x.s b (c+d - x.c)) else [])++qQ3 fa xs ys d r
def qQ4(fa:List Fact)(xs ys:List Lin)(d:Int):List (Nat × Int)→List Fact
 | []=>[]
 | (a,c)::r=>(if qCC fa a (c - d) ys then xs.map (fun x=>Fact.dc a x.s (c - d+x.c)) else [])++qQ4 fa xs ys d r
def hasS(x y:Nat):List Lin→Bool
 | []=>false
 | l::ls=>Nat.beq l.s x || (Nat.beq l.s y || hasS x y ls)
def qB(fa:List Fact)(x y:Nat):List Fact→List Fact
 | []=>[]
 | .prm xs ys::r=>(if hasS x y ys then (match ys with
  | y0::_=>qQ3 fa xs ys y0.c (qLM y0.s fa)++qQ4 fa xs ys y0.c (qLN y0.s fa)
  | []=>[]) else [])++qB fa x y r
 | _::r=>qB fa x y r
def qw(fa:List Fact)(x y:Nat):List Fact→List Fact
 | []=>[]
 | .cnd a c b lo hi::r=>(if (a.s=x∨a.s=y)∧leL fa ⟨0,c⟩ a 0=true then [.dc lo.s b.s (b.c - lo.c),.dc b.s hi.s (hi.c - b.c)] else [])++qw fa x y r
 | _::r=>qw fa x y r
def vF(x y:Nat)(st:St):St :=
 let s1:=st.more (nT st.fa x y st.fa)
 let s2:=s1.more (vz s1.fa x y s1.fa)
 let s3:=s2.more (pr s2.fa s2.fa)
 let s4:=s3.more (qB s3.fa x y s3.fa)
 s4.more (qw s4.fa x y s4.fa)
def yc(st:St)(c:AV):Option (List St × List St):=match wa st c with
 | some (T,F)=>match c with
  | .cmp x y _=>some (T.map (vF x y),F.map (vF x y))
  | .eqc _ x y _=>some (T.map (vF x y),F.map (vF x y))
  | _=>some (T,F)
 | none=>none
def qP4(t:Nat)(b:Bool)(st:St):St:={ st with env:=po st.env t (.bool b) }
def qBO(st:St)(t:Nat):Option (List St × List St) :=
 match j6 st.env t with
 | .bool true=>some ([st],[])
 | .bool false=>some ([],[st])
 | c=>match yc st c with
  | some (T,F)=>some (T.map (qP4 t true),F.map (qP4 t false))
  | none=>none
def Tr.upd{α:Type}(f:Option α→α):Nat→Tr α→Nat→Tr α
 | 0,t,_=>t
 | n+1,t,i=>match t with
  | .nil=>if i=0 then .node .nil (some (f none)) .nil else if i % 2=1 then .node (Tr.upd f n .nil (i / 2)) none .nil else .node .nil none (Tr.upd f n .nil (i / 2 - 1))
  | .node l v r=>if i=0 then .node l (some (f v)) r else if i % 2=1 then .node (Tr.upd f n l (i / 2)) v r else .node l v (Tr.upd f n r (i / 2 - 1))
theorem Tr.upd_get{α:Type}(f:Option α→α):∀(n:Nat) (t:Tr α) (i j:Nat),(Tr.upd f n t i).get j=t.get j∨(j=i∧(Tr.upd f n t i).get j=some (f (t.get j)))
 | 0,t,i,j=>.inl rfl
 | n+1,.nil,i,j=>by
  simp only [Tr.upd];by_cases hi:i=0
  ·rw [aH hi];simp only [Tr.get];by_cases hj:j=0
   ·right; subst hi; exact ⟨hj,by rw [aH hj]⟩
   ·left; rw [aC hj]; split<;>rfl
  ·rw [aC hi];by_cases ho:i % 2=1
   ·rw [aH ho];simp only [Tr.get];by_cases hj:j=0
    ·left; rw [aH hj]
    ·rw [aC hj];by_cases hjo:j % 2=1
     ·rw [aH hjo];rcases Tr.upd_get f n .nil (i / 2) (j / 2) with h | ⟨h1,h2⟩
      ·left; rw [h]; rfl
      ·right; refine ⟨by omega,by rw [h2]; rfl⟩
     ·left; rw [aC hjo]
   ·rw [aC ho];simp only [Tr.get];by_cases hj:j=0
    ·left; rw [aH hj]
    ·rw [aC hj];by_cases hjo:j % 2=1
     ·left; rw [aH hjo]
     ·rw [aC hjo];rcases Tr.upd_get f n .nil (i / 2 - 1) (j / 2 - 1) with h | ⟨h1,h2⟩
      ·left; rw [h]; rfl
      ·right; refine ⟨by omega,by rw [h2]; rfl⟩
 | n+1,.node l v r,i,j=>by
  simp only [Tr.upd];by_cases hi:i=0
  ·rw [aH hi];simp only [Tr.get];by_cases hj:j=0
   ·right; subst hi; exact ⟨hj,by rw [aH hj,aH hj]⟩
   ·left; rw [aC hj,aC hj]
  ·rw [aC hi];by_cases ho:i % 2=1
   ·rw [aH ho];simp only [Tr.get];by_cases hj:j=0
    ·left; rw [aH hj,aH hj]
    ·rw [aC hj,aC hj];by_cases hjo:j % 2=1
     ·rw [aH hjo,aH hjo];rcases Tr.upd_get f n l (i / 2) (j / 2) with h | ⟨h1,h2⟩
      ·exact .inl h
      ·exact .inr ⟨by omega,h2⟩
     ·left; rw [aC hjo,aC hjo]
   ·rw [aC ho];simp only [Tr.get];by_cases hj:j=0
    ·left; rw [aH hj,aH hj]
    ·rw [aC hj,aC hj];by_cases hjo:j % 2=1
     ·left; rw [aH hjo,aH hjo]
     ·rw [aC hjo,aC hjo];rcases Tr.upd_get f n r (i / 2 - 1) (j / 2 - 1) with h | ⟨h1,h2⟩
      ·exact .inl h
      ·exact .inr ⟨by omega,h2⟩
def qZP(t:Tr (List (Nat × Int)))(x y:Nat)(c:Int):Tr (List (Nat × Int)):=Tr.upd (fun o=>match o with
 | some l=>(y,c)::l
 | none=>[(y,c)]) 16 t x
theorem xP{t:Tr (List (Nat × Int))}{x y a b:Nat}{c d:Int}(h:(b,d)∈edg (qZP t x y c) a):(b,d)∈edg t a∨(a=x∧b=y∧d=c):=by
 simp only [qZP,edg_eq] at h ⊢;rcases Tr.upd_get (fun o=>match o with
  | some l=>(y,c)::l
  | none=>[(y,c)]) 16 t x a with h1 | ⟨h1,h2⟩
 ·rw [h1] at h; exact .inl h
 ·rw [h2] at h;cases hg:t.get a with
  | none=>rw [hg] at h; simp at h; exact .inr ⟨h1,h⟩
  | some l =>
   rw [hg] at h;simp only [aS,pI] at h;rcases h with h | h
   ·exact .inr ⟨h1,h⟩
   ·exact .inl h
def xQ:List Fact→List Fact × Tr (List (Nat × Int)) × Tr (List (Nat × Int))
 | []=>([],.nil,.nil)
 | .ixd fw bw::r=>(r,fw,bw)
 | .dc x y c::r=>match xQ r with
  | (l,fw,bw)=>(l,qZP fw x y c,qZP bw y x c)
 | f::r=>match xQ r with
  | (l,fw,bw)=>(f::l,fw,bw)
def absF:List Fact→List Fact
 | .ixd fw bw::r=>.ixd fw bw::r
 | fa=>match xQ fa with
  | (l,fw,bw)=>.ixd fw bw::l
theorem qMS{w:V}:∀{fa:List Fact},(∀f,f∈fa→FOK w f)→(∀f,f∈(xQ fa).1→FOK w f)∧FOK w (.ixd (xQ fa).2.1 (xQ fa).2.2)
 | [],_=>⟨(fun f hf=>by cases hf),(fun x y c h=>by cases h),(fun x y c h=>by cases h)⟩
 | f::r,hf=>by
  have h0:=hf f mS;have hr:=fun g hg=>hf g (mC _ hg)
  obtain ⟨h1,h2⟩:=qMS (fa:=r) hr;cases f with
  | ixd fw bw=>exact ⟨hr,h0⟩
  | dc x y c =>
   simp only [xQ];refine ⟨h1,fun a b d h=>?_,fun a b d h=>?_⟩
   ·rcases xP h with h | ⟨rfl,rfl,rfl⟩
    ·exact h2.1 a b d h
    ·exact h0
   ·rcases xP h with h | ⟨rfl,rfl,rfl⟩
    ·exact h2.2 a b d h
    ·exact h0
  | _ =>
   simp only [xQ];refine ⟨fun g hg=>?_,h2⟩;rcases aS.1 hg with rfl | hg
   ·exact h0
   ·exact h1 g hg
theorem qZQ{w:V}{fa:List Fact}(hf:∀f,f∈fa→FOK w f):∀f,f∈absF fa→FOK w f:=by
 intro f hm;unfold absF at hm;split at hm
 ·exact hf f hm
 ·obtain ⟨h1,h2⟩:=qMS hf;rcases aS.1 hm with rfl | hm
  ·exact h2
  ·exact h1 f hm
abbrev iN:=Tg→List AV→St→Hs→Option (List (AV × St) × Hs)
def zBX(d:Nat):List IOp→Bool
 | []=>false
 | o::os=>(match o.op with | .ckl _ (.t t) _=>t==d | _=>false) || zBX d os
def zBT(o:IOp)(os:List IOp):Bool:=match o.op,o.dst with
 | .iaA ..,some d=>zBX d os
 | _,_=>false
def zAB(o:Ins)(hs:Hs):Option (Sp × Hs):=match o,hs with
 | .iaA _ _ _ (.t t),.nofk t'::hs=>if t'=t then some (.fk,hs) else none
 | .iaA _ _ _ (.t t),.fka t'::hs=>if t'=t then some (.fa,hs) else none
 | .iaS _ _ (.t t),.fkr t'::hs=>if t'=t then some (.fr,hs) else none
 | .mksl _ _ _ _ _,.mkr R::hs=>some (.mk R,hs)
 | .bin _ (.t t) _,.wf t'::hs=>if t'=t then some (.wf,hs) else none
 | _,_=>none
def qH5(call:iN)(fk:Bool)(o:Ins)(st:St)(hs:Hs):Option (List (AV × St) × Hs) :=
 match o with
 | .callF f as=>match qG st.env as with
  | some as=>call (.fn f) as st hs
  | none=>none
 | .callV f as=>match opA st.env f,qG st.env as with
  | some (.clo f a b),some as=>call (.fn f) (a++as++b) st hs
  | some (.yld b),some as=>call (.yl b) as st hs
  | _,_=>none
 | o=>match zAB o hs with
  | some (R,hs)=>(qPG o R st).map fun outs=>(outs,hs)
  | none=>(sOw o st).map fun outs=>(if fk then outs.flatMap (iB 7 1) else outs,hs)
def pm(d:Option Nat)(x:AV × St):St:={ x.2 with env:=putA x.2.env d x.1,fa:=absF x.2.fa }
def zAL:AV→Bool
 | .tup []=>true
 | _=>false
def tn(call:iN):List IOp→St→Hs→Option (List St × Hs)
 | [],st,hs=>some ([st],hs)
 | o::os,st,hs =>
  match o.guard with
  | none=>match qH5 call (zBT o os) o.op st hs with
   | some (outs,hs)=>lW (fun x hs=>tn call os (pm o.dst x) hs) outs hs
   | none=>none
  | some (t,b)=>if zAL (j6 st.env t) then tn call os (pm o.dst (dE,st)) hs else match qBO st t with
   | some (T,F)=>match lW (fun st hs=>match qH5 call (zBT o os) o.op st hs with
     | some (outs,hs)=>lW (fun x hs=>tn call os (pm o.dst x) hs) outs hs
     | none=>none) (if b then T else F) hs with
    | some (r1,hs)=>match lW (fun st hs=>tn call os (pm o.dst (dE,st)) hs) (if b then F else T) hs with
     | some (r2,hs)=>some (r1++r2,hs)
     | none=>none
    | none=>none
   | none=>none
def upg1(fa:List Fact)(s:Nat)(i:Lin)(R:List Ty):List Fact :=
 match iQ s fa with
 | some t=>if leL fa ⟨t,0⟩ i 0&&!(fL fa s (fun T=>match T with | .lst R' _ _=>jT fa R' R | _=>false) fa) then [.ty s (.lst R ⟨t,0⟩ ⟨t,0⟩)] else []
 | none=>[]
def upgP(fa:List Fact):Fact→List Fact
 | .pre s i R=>upg1 fa s i R
 | _=>[]
def qNE(fa:List Fact):List Fact→List Fact
 | []=>[]
 | f::r=>upgP fa f++qNE fa r
def upg(st:St):St:={ st with fa:=qNE st.fa st.fa++st.fa }
abbrev bV:=List (Ex × St)
def ov(body:St→Hs→Option (bV × Hs)):Nat→St→Hs→Option (bV × Hs)
 | 0,_,_=>none
 | n+1,st,hs=>match body st hs with
  | some (outs,hs)=>lW (fun x hs=>match x with
   | (.nor,st)=>ov body n st hs
   | (.jmp j,st)=>some ([(.jmp j,st)],hs)) outs hs
  | none=>none
def yj(lo:Nat)(P:St)(ma mb:Lin)(st:St):Bool :=
 let θ:=fH lo P.n 0 st st.env P
 jh lo P.n st.n θ&&(nb st θ st.env P).isSome&&uK st.fa (dH θ ma) (dH θ mb) (some (ma,mb))
def le1(fa:List Fact)(n o:Lin × Lin):Bool:=leL fa n.1 n.2 0 || (leL fa n.1 o.1 0&&leL fa o.2 n.2 0)
def lt1(fa:List Fact)(n o:Lin × Lin):Bool:=leL fa o.2 o.1 (-1)&&(leL fa n.1 n.2 0 || ((leL fa n.1 o.1 (-1)&&leL fa o.2 n.2 0) || (leL fa n.1 o.1 0&&leL fa o.2 n.2 (-1))))
def sZ(fa:List Fact):List (Lin × Lin)→List (Lin × Lin)→Bool
 | [],[]=>true
 | n::ns,o::os=>le1 fa n o&&sZ fa ns os
 | _,_=>false
def sS(fa:List Fact):List (Lin × Lin)→List (Lin × Lin)→Bool
 | n::ns,o::os=>lt1 fa n o || sS fa ns os
 | _,_=>false
def limM(fa:List Fact)(ns os:List (Lin × Lin)):Bool:=sS fa ns os&&sZ fa ns os
def qNI(θ:Sub)(m:Lin × Lin):Lin × Lin:=(dH θ m.1,dH θ m.2)
def mu(lo:Nat)(os:List (Lin × Lin))(st:St):List (St × List (Lin × Lin))→Bool
 | []=>false
 | (P,ns)::r =>
  let θ:=fH lo P.n 0 st st.env P
  (jh lo P.n st.n θ&&(nb st θ st.env P).isSome&&limM st.fa (ns.map (qNI θ)) os) || mu lo os st r
def jc(lo:Nat)(Fs:List (St × List (Lin × Lin)))(os:List (Lin × Lin)):bV→Option bV
 | []=>some []
 | (.nor,st)::r=>if mu lo os st Fs then jc lo Fs os r else none
 | (.jmp j,st)::r=>match jc lo Fs os r with
  | some l=>some ((.jmp j,upg st)::l)
  | none=>none
def clM(n:Nat)(ms:List (Lin × Lin)):Bool:=ms.all fun m=>decide (m.1.s < n)&&decide (m.2.s < n)
def pP(lo:Nat):List (St × List (Lin × Lin))→Bool
 | []=>true
 | (P,ms)::r=>kO P&&decide (lo≤P.n)&&clM P.n ms&&pP lo r
def uX(lo:Nat)(st:St):List (St × List (Lin × Lin))→Bool
 | []=>false
 | (P,_)::r =>
  let θ:=fH lo P.n 0 st st.env P
  (jh lo P.n st.n θ&&(nb st θ st.env P).isSome) || uX lo st r
def mt(lo:Nat)(P:St)(ma mb:Lin):bV→Option bV
 | []=>some []
 | (.nor,st)::r=>if yj lo P ma mb st then mt lo P ma mb r else none
 | (.jmp j,st)::r=>match mt lo P ma mb r with
  | some l=>some ((.jmp j,upg st)::l)
  | none=>none
def jv:List AV→List Nat→List AV→Option (List AV)
 | env,[],[]=>some env
 | env,p::ps,v::vs=>jv (po env p v) ps vs
 | _,_,_=>none
def co(b t:Nat)(bl:List BE):Option (Nat × List Jump):=match ai b bl with
 | some (.loop _ t' s J)=>if t'=t then some (s,J) else none
 | _=>none
def lD(b t s:Nat)(J:List Jump)(st:St):St:={ st with bl:=dS b [.loop b t s J] st.bl }
def iC(b:Nat)(st:St):St:={ st with bl:=dS b [] st.bl }
def km(lb ls:Nat)(J:List Jump)(lo:Nat)(posts:List (AV × St)):bV→Bool
 | []=>true
 | (.nor,st)::r=>(co lb 2 st.bl==some (ls,J))&&gT lo (lD lb 0 ls J st) (.bool true) posts&&km lb ls J lo posts r
 | (.jmp j,st)::r=>(co lb 2 st.bl==some (ls,J))&&J.contains j&&gT lo (lD lb 1 ls J st) (.bool false) posts&&km lb ls J lo posts r
def pD(lb ls:Nat)(J:List Jump)(env:List AV):List (AV × St)→Option bV
 | []=>some []
 | (_,st)::r=>match pD lb ls J env r with
  | none=>none
  | some l=>if co lb 0 st.bl==some (ls,J) then some ((.nor,{ iC lb st with env:=env })::l)
   else if co lb 1 st.bl==some (ls,J) then some (J.map (fun j=>(Ex.jmp j,{ iC lb st with env:=env }))++l) else none
def pM(ls:Nat)(env:List AV):List (AV × St)→Option bV
 | []=>some []
 | (_,st)::r=>match pM ls env r with
  | none=>none
  | some l=>match ai ls st.bl with
   | some (.loop _ 0 s _)=>if s=ls then some ((.nor,{ iC ls st with env:=env })::l) else none
   | some (.loop _ 1 s J)=>if s=ls then some (J.map (fun j=>(Ex.jmp j,{ iC ls st with env:=env }))++l) else none
   | _=>none
def lcF(s:Nat):List Fact→Option (List AV × List Nat × IC × IC)
 | []=>none
 | .lc s' env ps a b::r=>if s'=s then some (env,ps,a,b) else lcF s r
 | _::r=>lcF s r
def pN(lb ls:Nat)(env:List AV):bV→Option (List (AV × St))
 | []=>some []
 | (ex,st)::r=>match pN lb ls env r,ai lb st.bl with
  | some l,some (.loop _ 2 s J)=>if s=ls then (match ex with
   | .nor=>some ((AV.bool true,{ lD lb 0 ls J st with env:=env })::l)
   | .jmp j=>some ((AV.bool false,{ lD lb 1 ls [j] st with env:=env })::l)) else none
  | _,_=>none
def inlB(sb:St→Hs→Option (bV × Hs))(lb ls:Nat)(x:Ex × St)(hs:Hs):Option (bV × Hs):=match x.1,ai lb x.2.bl with
 | .nor,some (.loop _ 0 s J)=>if s=ls then sb (lD lb 2 ls J x.2) hs else none
 | _,_=>none
def qCG(n:Nat)(P:St)(posts:List (AV × St)):Con:=⟨true,n,n+1,P,posts,⟨0,0⟩,⟨0,0⟩,none⟩
def qAG(body:St→Hs→Option (bV × Hs))(n:Nat)(st:St)(hs:Hs):Option (bV × Hs):=match hs with
  | .unroll::hs=>ov body n st hs
  | .inv P ma mb::hs =>
   let θ:=fH st.n P.n 0 st st.env P
   if jh st.n P.n st.n θ&&kO P&&decide (st.n≤P.n)&&(nb st θ st.env P).isSome&&decide (ma.s < P.n)&&decide (mb.s < P.n) then
    match body { P with fa:=P.fa++st.fa } hs with
    | some (outs,hs)=>match mt st.n P ma mb outs with
     | some r=>some (r,hs)
     | none=>none
    | none=>none
   else none
  | .invs Fs::hs=>if pP st.n Fs&&uX st.n st Fs then
    lW (fun (F:St × List (Lin × Lin)) hs=>match body { F.1 with fa:=F.1.fa++st.fa } hs with
     | some (outs,hs)=>match jc st.n Fs F.2 outs with
      | some r=>some (r,hs)
      | none=>none
     | none=>none) Fs hs
   else none
  | _=>none
def yP(l:List AV):List Nat→Option (List Lin)
 | []=>some []
 | i::is=>match j6 l i,yP l is with
  | .int .i64 s c,some r=>some (⟨s,c⟩::r)
  | _,_=>none
def qCW(fa:List Fact):List Lin→List Lin→Option Int
 | [],[]=>some 0
 | x::xs,y::ys=>match qCW fa xs ys with
  | some k=>if leL fa y x (-1) then some (k+1) else if leL fa y x 0 then some k else none
  | none=>none
 | _,_=>none
def qZX(fa:List Fact)(t:Nat)(U D:List Lin):Fact→List Fact
 | .csum t0 U0 D0=>match qCW fa U U0,qCW fa D0 D with
  | some a,some b=>[.dc t0 t (-(a+b))]
  | _,_=>[]
 | _=>[]
def inI(fa:List Fact)(l:Lin):Bool:=leL fa ⟨0,-9223372036854775808⟩ l 0&&leL fa l ⟨0,9223372036854775808⟩ 0
def qJU(fa:List Fact):List Lin→Bool
 | []=>true
 | l::ls=>inI fa l&&qJU fa ls
def th(fa:List Fact)(t:Nat)(U D:List Lin):List Fact→List Fact
 | []=>[]
 | f::r=>qZX fa t U D f++th fa t U D r
def xO(b:Nat)(us ds:List Nat)(st:St):St:=match ai b st.bl with
 | some (.blk _ (.cells l) _)=>match yP l us,yP l ds with
  | some U,some D=>if qJU st.fa U&&qJU st.fa D&&clN st.n U&&clN st.n D then
    { st with n:=st.n+1,fa:=(.csum st.n U D::.dc st.n 0 ((U.length+D.length:Nat)*9223372036854775808)::th st.fa st.n U D st.fa)++st.fa }
   else st
  | _,_=>st
 | _=>st
def addO(b:Nat)(us ds:List Nat):Ex × St→Ex × St
 | (.nor,st)=>(.nor,xO b us ds st)
 | x=>x
def qAF(body:St→Hs→Option (bV × Hs))(n:Nat)(st:St)(hs:Hs):Option (bV × Hs):=match hs with
 | .csum b us ds::hs=>qAG (fun st hs=>match body st hs with
  | some (outs,hs)=>some (outs.map (addO b us ds),hs)
  | none=>none) n (xO b us ds st) hs
 | hs=>qAG body n st hs
def qJ8(body:St→Hs→Option (bV × Hs))(n:Nat)(st:St)(hs:Hs):Option (bV × Hs):=match hs with
 | .peel::hs=>match body st hs with
  | some (outs,hs)=>lW (fun x hs=>match x with
   | (.nor,st)=>qAF body n st hs
   | (.jmp j,st)=>some ([(.jmp j,st)],hs)) outs hs
  | none=>none
 | hs=>qAF body n st hs
def uZ(lo:Nat)(P:St):bV→Option bV
 | []=>some []
 | (.nor,st)::r =>
  let θ:=fH lo P.n 0 st st.env P
  if jh lo P.n st.n θ&&(nb st θ st.env P).isSome then uZ lo P r else none
 | (.jmp j,st)::r=>match uZ lo P r with
  | some l=>some ((.jmp j,st)::l)
  | none=>none
def nors2(outs:bV):Bool:=Nat.ble 2 (outs.filter fun x=>match x.1 with | .nor=>true | _=>false).length
def cutS(body:St→Hs→Option (bV × Hs))(st:St)(outs:bV)(hs:Hs):Option (bV × Hs):=match nors2 outs,hs with
 | true,.cut P::hs=>if kO P&&decide (st.n≤P.n) then match uZ st.n P outs with
   | some js=>match body { P with fa:=P.fa++st.fa } hs with
    | some (o2,hs)=>some (js++o2,hs)
    | none=>none
   | none=>none
  else none
 | _,hs=>lW (fun x hs=>match x with
  | (.nor,st)=>body st hs
  | (.jmp j,st)=>some ([(.jmp j,st)],hs)) outs hs
def sC(callG:List Con→iN)(n:Nat):IC→List Con→St→Hs→Option (bV × Hs)
 | .skip,_,st,hs=>some ([(.nor,st)],hs)
 | .ops l,Γ,st,hs=>match tn (callG Γ) l st hs with
  | some (outs,hs)=>some (outs.map fun s=>(.nor,s),hs)
  | none=>none
 | .seq a b,Γ,st,hs=>match sC callG n a Γ st hs with
  | some (outs,hs)=>cutS (fun st hs=>sC callG n b Γ st hs) st outs hs
  | none=>none
 | .cond x a b,Γ,st,hs=>match x with
  | .t t=>match qBO st t with
   | some (T,F)=>match lW (fun st hs=>sC callG n a Γ st hs) T hs with
    | some (r1,hs)=>match lW (fun st hs=>sC callG n b Γ st hs) F hs with
     | some (r2,hs)=>some (r1++r2,hs)
     | none=>none
    | none=>none
   | none=>none
  | .c (.bool true)=>sC callG n a Γ st hs
  | .c (.bool false)=>sC callG n b Γ st hs
  | _=>none
 | .block id c,Γ,st,hs=>match sC callG n c Γ st hs with
  | some (outs,hs)=>some (outs.map fun x=>match x with
   | (.jmp (.exit i),st)=>if i=id then (.nor,st) else (.jmp (.exit i),st)
   | x=>x,hs)
  | none=>none
 | .loop c,Γ,st,hs=>qJ8 (fun st hs=>sC callG n c Γ st hs) n st hs
 | .rangeF f ps a b,Γ,st,hs=>match opA st.env f,hs with
  | some (.clo fn x y),.rng J P posts::hs =>
   let st1:St:={ st with n:=st.n+1,bl:=.loop st.n 0 st.n J::st.bl }
   if kO P&&decide (st.n+1≤P.n)&&(co st.n 0 P.bl==some (st.n,J)) then
    match jv st.env ps P.env with
    | some e=>match sC callG n a Γ { P with env:=e,fa:=P.fa++st.fa } hs with
     | some (outsA,hs)=>match lW (fun x hs=>match x with
       | (.nor,st2)=>if co st.n 0 st2.bl==some (st.n,J) then sC callG n b Γ (lD st.n 2 st.n J st2) hs else none
       | _=>none) outsA hs with
      | some (outsB,hs)=>if km st.n st.n J P.n posts outsB then
        match callG (qCG st.n P posts::Γ) (.fn fn) (x++[.yld st.n]++y) st1 hs with
        | some (outs,hs)=>match pD st.n st.n J st.env outs with
         | some r=>some (r,hs)
         | none=>none
        | none=>none
       else none
      | none=>none
     | none=>none
    | none=>none
   else none
  | some (.clo fn x y),.inl::hs=>match callG Γ (.fn fn) (x++[.yld st.n]++y) { st with n:=st.n+1,fa:=.lc st.n st.env ps a b::st.fa,bl:=.loop st.n 0 st.n []::st.bl } hs with
   | some (outs,hs)=>match pM st.n st.env outs with
    | some r=>some (r,hs)
    | none=>none
   | none=>none
  | _,_=>none
 | .exit id,_,st,hs=>some ([(.jmp (.exit id),st)],hs)
 | .ret,_,st,hs=>some ([(.jmp .ret,st)],hs)
def r7(as:List AV)(st:St):List Con→Tg→Option (List (AV × St))
 | [],_=>none
 | c::r,.fn f=>if c.yl=false∧c.tg=f then (match kV c as st with
  | some x=>some x
  | none=>r7 as st r (.fn f)) else r7 as st r (.fn f)
 | c::r,.yl b=>if c.yl=true∧c.tg=b then (match kV c as st with
  | some x=>some x
  | none=>r7 as st r (.yl b)) else r7 as st r (.yl b)
def qBG:List (Nat × List Ty × Ty)→Nat→Option (List Ty × Ty)
 | [],_=>none
 | (f,x)::r,g=>if f=g then some x else qBG r g
def vP(st:St):List IRes→Option (List AV)
 | []=>some []
 | .tmp t::r=>(vP st r).map fun l=>j6 st.env t::l
 | .cell t g::r=>match ldD st g (j6 st.env t),vP st r with
  | some x,some l=>some (x::l)
  | _,_=>none
def qQ9:List AV→AV
 | [a]=>a
 | l=>.tup l
def qBK(F:IF)(env:List AV):bV→Option (List (AV × St))
 | []=>some []
 | (ex,st)::r=>match ex with
  | .jmp (.exit _)=>none
  | _=>match vP st F.res,qBK F env r with
   | some l,some t=>some ((qQ9 l,{ st with env:=env })::t)
   | _,_=>none
def qBE:List (AV × St)→Option (List (AV × St))
 | []=>some []
 | (a,st)::r=>match frA a { st with env:=[a] },qBE r with
  | some x,some l=>some ((x.1,{ x.2 with env:=st.env })::l)
  | _,_=>none
def cl1(fa:List Fact):AV→Bool
 | .bool _ | .cmp _ _ _ | .eqc _ _ _ _ | .int _ _ _ | .str _ | .nilp | .nils | .nilm | .nilf | .nili=>true
 | .sym s=>fL fa s rk fa
 | _=>false
def qY8(fa:List Fact):List AV→Bool
 | []=>true
 | a::l=>cl1 fa a&&qY8 fa l
def qLV(fa:List Fact):AV→Bool
 | .agg l=>qY8 fa l
 | a=>cl1 fa a
def uc(fa:List Fact):List AV→Bool
 | []=>true
 | a::l=>qLV fa a&&uc fa l
def sc1(fa:List Fact):AV→Bool
 | .bool _ | .cmp _ _ _ | .eqc _ _ _ _ | .int _ _ _ | .str _ | .nilp | .nils | .nilm | .nilf | .nili=>true
 | .sym s=>fL fa s (fun T=>sty fa T .bool || sty fa T .str) fa
 | _=>false
def qP6(fa:List Fact):List AV→Bool
 | []=>true
 | a::l=>sc1 fa a&&qP6 fa l
def sc2(fa:List Fact):AV→Bool
 | .agg l=>qP6 fa l
 | a=>sc1 fa a
def qP5(fa:List Fact):List AV→Bool
 | []=>true
 | a::l=>sc2 fa a&&qP5 fa l
def z8(fa:List Fact):AV→Bool
 | .tup l=>qP5 fa l
 | a=>sc2 fa a
def pU(st:St):List (AV × St)→Option (List (AV × St))
 | []=>some []
 | (a,s)::r=>if z8 s.fa a then (pU st r).map fun l=>(a,⟨s.n,st.env,s.fa,st.bl⟩)::l else none
def vS(f n0:Nat)(P:St)(posts:List (AV × St))(ma mb:Lin)(lim:Option (Lin × Lin)):Con:=⟨false,f,n0,P,posts,ma,mb,lim⟩
def oC(lo:Nat)(posts:List (AV × St)):List (AV × St)→Bool
 | []=>true
 | (a,s)::r=>gT lo s a posts&&oC lo posts r
def lF(callG:List Con→iN)(n:Nat)(F:IF)(Γ:List Con)(as:List AV)(st:St)(hs:Hs):Option (List (AV × St) × Hs) :=
 match sC callG n F.body Γ { st with env:=as++qHV (F.ntmps - as.length) } hs with
 | some (outs,hs)=>match qBK F st.env outs with
  | some r=>some (r,hs)
  | none=>none
 | none=>none
def xd(b:Nat)(len:Lin)(st:St):Bool:=match ai b st.bl with
 | some (.vec b' k [.int .i64 _ _] len' false)=>decide (b'=b)&&decide (k=1)&&be st.fa len len'&&leL st.fa len ⟨0,1099511627776⟩ 0&&leL st.fa ⟨0,0⟩ len 0
 | _=>false
def s6:List AV→Option (List Lin)
 | []=>some []
 | .int .i64 s c::l=>match s6 l with
  | some r=>some (⟨s,c⟩::r)
  | none=>none
 | _=>none
def qIU(n:Nat):Nat→List Lin
 | 0=>[]
 | k+1=>⟨n,0⟩::qIU (n+1) k
def vi(n:Nat):Nat→List AV
 | 0=>[]
 | k+1=>.int .i64 n 0::vi (n+1) k
def xC(lo hi:Int)(n:Nat):Nat→List Fact
 | 0=>[]
 | k+1=>.dc 0 n (-lo)::.dc n 0 hi::xC lo hi (n+1) k
def srtX(b:Nat)(xs:List Lin)(lo hi:Int)(st:St):AV × St :=
 (AV.tup [],{ st with n:=st.n+xs.length,fa:=.prm xs (qIU st.n xs.length)::(xC lo hi st.n xs.length++st.fa),bl:=dS b [.blk b (.cells (vi st.n xs.length)) false] st.bl })
def srtS(body:List AV→St→Hs→Option (List (AV × St) × Hs))(m:Nat)(as:List AV)(st:St)(hs:Hs):Option (List (AV × St) × Hs) :=
 if m=3 then match as with
  | [.vec k b len]=>if k=1∧len.s < st.n∧b < st.n then match ai b st.bl with
   | some (.blk b' (.cells l) false)=>if b'=b∧len.s=0∧len.c=(l.length:Int)∧1≤l.length∧l.length≤1000 then match s6 l with
    | some xs=>match vy st.fa xs,wI st.fa xs with
     | some lo,some hi=>some ([srtX b xs lo hi st],hs)
     | _,_=>none
    | none=>none
    else none
   | _=>if xd b len st then
     if leL st.fa len ⟨0,0⟩ 0 then body [.nils] st hs
     else if leL st.fa ⟨0,1⟩ len 0 then some ([(AV.tup [],st)],hs)
     else if xd b len { st with fa:=.dc 0 len.s (len.c - 1)::st.fa } then match body [.nils] { st with fa:=.dc len.s 0 (0 - len.c)::st.fa } hs with
      | some (r,hs)=>some ((AV.tup [],{ st with fa:=.dc 0 len.s (len.c - 1)::st.fa })::r,hs)
      | none=>none
     else none
    else none
   else none
  | [.nils]=>body [.nils] st hs
  | _=>none
 else none
def takeR(f:Nat):Hs→Option (St × List (AV × St) × Lin × Lin × Hs)
 | .rcs g P posts ma mb::hs=>if g=f then some (P,posts,ma,mb,hs) else none
 | _=>none
def yInl(rec:List Con→iN)(n:Nat)(Γ:List Con)(lb:Nat)(as:List AV)(st:St)(hs:Hs):Option (List (AV × St) × Hs):=match ai lb st.bl with
 | some (.loop _ 0 ls _)=>if ls < st.n∧lb < st.n then match lcF ls st.fa with
  | some (env,ps,a,b)=>match jv env ps as with
   | some e=>match sC rec n a Γ { st with env:=e } hs with
    | some (outsA,hs)=>match lW (inlB (fun st hs=>sC rec n b Γ st hs) lb ls) outsA hs with
     | some (outsB,hs)=>match pN lb ls st.env outsB with
      | some r=>some (r,hs)
      | none=>none
     | none=>none
    | none=>none
   | none=>none
  | none=>none
  else none
 | _=>none
def splN(s:Nat)(st:St):Option (Nat × St):=match iQ s st.fa with
 | some t=>if t < st.n then some (t,st) else none
 | none=>match kD s st.fa with
  | some (_,lo,hi)=>if s < st.n then some (st.n,{ st with n:=st.n+1,fa:=[.len s st.n,.dc 0 st.n 0,.dc lo.s st.n (-lo.c),.dc st.n hi.s hi.c]++st.fa }) else none
  | none=>none
def sF1(tbl:Nat→Option IF)(E:List (Nat × List Ty × Ty))(rec:List Con→iN)(n:Nat)(Γ:List Con):iN:=fun tg as st hs =>
  match r7 as st Γ tg with
  | some r=>some (r,hs)
  | none=>match tg with
   | .yl lb=>yInl rec n Γ lb as st hs
   | .fn f=>match qBG E f with
    | some (Ts,T)=>if p7 st.fa Ts as then some ([fresh st T],hs) else none
    | none=>match tbl f with
     | none=>none
     | some F=>match takeR f hs with
      | some (P,posts,ma,mb,hs)=>if F.mode=0∧kO P=true∧st.n≤P.n∧ma.s < P.n∧mb.s < P.n then
        match lF rec n F (vS f st.n P posts ma mb (some (ma,mb))::Γ) P.env { P with fa:=P.fa++st.fa } hs with
        | some (outs,hs)=>if oC P.n posts outs then (kV (vS f st.n P posts ma mb none) as st).map fun r=>(r,hs) else none
        | none=>none
       else none
      | none=>match F.mode with
       | 0=>lF rec n F Γ as st hs
       | 1=>match lF rec n F Γ as st hs with
        | some (outs,hs)=>match qBE outs with
         | some r=>some (r,hs)
         | none=>none
        | none=>none
       | _=>if F.mode=2∧uc st.fa as=true then match lF rec n F Γ as ⟨st.n,[],st.fa,[]⟩ hs with
        | some (outs,hs)=>match pU st outs with
         | some r=>some (r,hs)
         | none=>none
        | none=>none
        else srtS (fun as st hs=>lF rec n F Γ as st hs) F.mode as st hs
def splC(body:St→Hs→Option (List (AV × St) × Hs))(s:Nat)(c:Int)(st:St)(hs:Hs):Option (List (AV × St) × Hs):=match splN s st with
 | some (t,st2)=>match body { st2 with fa:=.dc t 0 c::st2.fa } hs with
  | some (r1,hs)=>match body { st2 with fa:=.dc 0 t (-(c+1))::st2.fa } hs with
   | some (r2,hs)=>some (r1++r2,hs)
   | none=>none
  | none=>none
 | none=>none
def sF(tbl:Nat→Option IF)(E:List (Nat × List Ty × Ty)):Nat→List Con→iN
 | 0,_,_,_,_,_=>none
 | n+1,Γ,tg,as,st,hs=>match hs with
  | .spl s c::hs=>splC (fun st hs=>sF1 tbl E (sF tbl E n) n Γ tg as st hs) s c st hs
  | hs=>sF1 tbl E (sF tbl E n) n Γ tg as st hs
end
end Ce.S
namespace Ce.S
noncomputable section
open Go
def tgt(v:V)(c:Con):Tgt:=if c.yl then .yl (v.b c.tg) else .fn c.tg
def FrX(v:V)(P:St)(h:H):Cx:=⟨h,P.bl.flatMap (adr v)⟩
def zC3(v:V)(c:Con)(h:H)(r:CV)(h':H):Prop:=∃o,o∈c.posts∧∃u,Agr c.pre.n v u∧c.pre.n≤o.2.n∧Sat (FrX v c.pre h) u { o.2 with env:=[] } [] h'∧∀w,Agr o.2.n u w→den w o.1=r
def ConOK(tbl:Nat→Option IF)(v:V)(c:Con):Prop:=∀(W:V) (args:List CV) (h:H),Agr c.n0 v W→Sat0 (FrX W c.pre h) W c.pre args h→(∀a b,c.lim=some (a,b)→c.ma.ev W - c.mb.ev W < a.ev v - b.ev v∧0 < a.ev v - b.ev v)→Wf tbl (tgt v c) args h (zC3 W c h)
structure GOK1 (tbl:Nat→Option IF) (v:V) (n:Nat) (c:Con):Prop where
 pos:0 < c.n0
 n0:c.n0≤n
 tg:c.yl=true→c.tg < c.n0
 cl:kO c.pre=true
 lim:∀a b,c.lim=some (a,b)→a.s < n∧b.s < n
 ok:ConOK tbl v c
def GOK(tbl:Nat→Option IF)(v:V)(n:Nat)(Γ:List Con):Prop:=∀c,c∈Γ→GOK1 tbl v n c
theorem GOK.mono{tbl:Nat→Option IF}{v w:V}{n m:Nat}{Γ:List Con}(g:GOK tbl v n Γ)(hw:Agr n v w)(hm:n≤m):GOK tbl w m Γ:=fun c hc=>by
 have g1:=g c hc;refine ⟨g1.pos,cz g1.n0 hm,g1.tg,g1.cl,fun a b h=>⟨dD (g1.lim a b h).1 hm,dD (g1.lim a b h).2 hm⟩,?_⟩;intro W args h hW hs hl;have ht:tgt w c=tgt v c:=by
  unfold tgt;split
  ·rename_i hy;have:=(hw c.tg (dD (g1.tg hy) g1.n0)).2.2.1;rw [this]
  ·rfl
 rw [ht];refine g1.ok W args h ((hw.mono g1.n0).trans hW (aV _)) hs (fun a b hab=>?_);have:=hl a b hab;obtain ⟨h1,h2⟩:=g1.lim a b hab;rw [←Lin.agr hw h1,←Lin.agr hw h2] at this;exact this
theorem GOK.nil{tbl:Nat→Option IF}{v:V}{n:Nat}:GOK tbl v n []:=fun c hc=>by cases hc
theorem GOK.cons{tbl:Nat→Option IF}{v:V}{n:Nat}{c:Con}{Γ:List Con}(h1:GOK1 tbl v n c)(g:GOK tbl v n Γ):GOK tbl v n (c::Γ):=fun d hd=>by
 rcases aS.1 hd with rfl | hd
 ·exact h1
 ·exact g d hd
theorem ni{α:Type}{l:List (Nat × α)}{lo hi:Nat}{p:α→Bool}(h:xH lo hi p l=true){s:Nat}(hs:s < lo∨hi≤s):ir l s=none:=by
 induction l with
 | nil=>rfl
 | cons x l ih =>
  obtain ⟨k,a⟩:=x;obtain ⟨h1,h2⟩:=tQ h;simp only at h1;rw [kv,aC (by omega)];exact ih h2
theorem nh{α:Type}{l:List (Nat × α)}{lo hi:Nat}{p:α→Bool}(h:xH lo hi p l=true){s:Nat}{a:α}(hs:ir l s=some a):p a=true:=by
 induction l with
 | nil=>cases hs
 | cons x l ih =>
  obtain ⟨k,b⟩:=x;obtain ⟨h1,h2⟩:=tQ h;rw [kv] at hs;split at hs
  ·simp only [sI] at hs; subst hs; exact h1.2.2
  ·exact ih h2 hs
structure SubOK (lo hi n:Nat) (θ:Sub):Prop where
 elo:θ.lo=lo
 ebase:θ.base=hi
 i:∀s,s < lo∨hi≤s→ir θ.i s=none
 c:∀s,s < lo∨hi≤s→ir θ.c s=none
 b:∀s,s < lo∨hi≤s→ir θ.b s=none
 i':∀s l,ir θ.i s=some l→l.s < n
 c':∀s l,ir θ.c s=some l→clA n l=true
 b':∀s l,ir θ.b s=some l→l < n
theorem gr{lo hi n:Nat}{θ:Sub}(h:jh lo hi n θ=true):SubOK lo hi n θ:=by
 simp only [jh,aT,aZ] at h;obtain ⟨⟨⟨⟨h1,h2⟩,h3⟩,h4⟩,h5⟩:=h;exact ⟨h1,h2,fun s hs=>ni (p:=fun l:Lin=>Nat.blt l.s n) h3 hs,fun s hs=>ni (p:=clA n) h4 hs,fun s hs=>ni (p:=fun l:Nat=>Nat.blt l n) h5 hs,fun s l hl=>el (nh (p:=fun l:Lin=>Nat.blt l.s n) h3 hl),fun s l hl=>nh (p:=clA n) h4 hl,fun s l hl=>el (nh (p:=fun l:Nat=>Nat.blt l n) h5 hl)⟩
theorem SubOK.agr{lo hi n:Nat}{θ:Sub}(h:SubOK lo hi n θ)(v:V):Agr lo v (v.comp θ):=fun s hs=>by
 have hb:Nat.blt s θ.lo=true:=zBZ (by rw [h.elo]; exact hs);have hn:θ.nu s=s:=by simp only [Sub.nu,h.elo,aH hs]
 simp only [V.comp,Sub.iL,Sub.cA,Sub.bN,hb,hn,Lin.ev,den,eV,and_self]
theorem SubOK.stable{lo hi n:Nat}{θ:Sub}(h:SubOK lo hi n θ)(hlo:lo≤n)(hn0:0 < n){v w:V}(hw:Agr n v w):Agr hi (v.comp θ) (w.comp θ):=fun s hs=>by
 have hnu:θ.nu s < n:=by
  simp only [Sub.nu,h.elo,h.ebase];split
  ·omega
  ·first | exact hn0 | (rw [aH hs]; exact hn0)
 cases hb:Nat.blt s θ.lo with
 | true =>
  have hb':Nat.ble (s+1) θ.lo=true:=hb;have hlt:=el hb';rw [h.elo] at hlt;obtain ⟨q1,q2,q3,q4⟩:=hw s (by omega);have hn:θ.nu s=s:=by simp only [Sub.nu,h.elo,aH (show s < lo by omega)]
  simp only [V.comp,Sub.iL,Sub.cA,Sub.bN,hb,hn,Lin.ev,den,eV];exact ⟨q1,q2,q3,q4⟩
 | false =>
 refine ⟨?_,?_,?_,?_⟩
 ·simp only [V.comp,Sub.iL,hb];cases hl:ir θ.i s with
  | some l=>exact Lin.agr hw (h.i' s l hl)
  | none=>exact Lin.agr hw hnu
 ·simp only [V.comp,Sub.cA,hb];cases hl:ir θ.c s with
  | some l=>exact qLW hw l (h.c' s l hl)
  | none=>simp only [den]; exact (hw _ hnu).2.1
 ·simp only [V.comp,Sub.bN,hb];cases hl:ir θ.b s with
  | some l=>exact (hw _ (h.b' s l hl)).2.2.1
  | none=>exact (hw _ hnu).2.2.1
 ·simp only [V.comp]; exact (hw _ hnu).2.2.2
theorem sX{w:V}{fa:List Fact}(hf:∀f,f∈fa→FOK w f){ma mb:Lin}{lim:Option (Lin × Lin)}(h:uK fa ma mb lim=true):∀a b,lim=some (a,b)→ma.ev w - mb.ev w < a.ev w - b.ev w∧0 < a.ev w - b.ev w:=by
 intro a b hl;subst hl;simp only [uK,aT,bU] at h;obtain ⟨h1,h2⟩:=h;have h1:=aE hf h1;rcases h2 with h2 | h2<;>(have h3:=aE hf h2.1; have h4:=aE hf h2.2; omega)
def mX(v:V):List (Lin × Lin)→Nat
 | []=>0
 | m::ms=>(m.1.ev v - m.2.ev v).toNat+mX v ms
theorem wD{w:V}{fa:List Fact}(hf:∀f,f∈fa→FOK w f):∀{ns os:List (Lin × Lin)},sZ fa ns os=true→mX w ns≤mX w os
 | [],[],_=>aV _
 | [],_::_,h=>by cases h
 | _::_,[],h=>by cases h
 | n::ns,o::os,h=>by
  simp only [sZ,le1,aT,bU] at h;have:=wD hf h.2;simp only [mX];rcases h.1 with h1 | ⟨h1,h2⟩
  ·have:=aE hf h1; omega
  ·have:=aE hf h1; have:=aE hf h2; omega
theorem qAK{w:V}{fa:List Fact}(hf:∀f,f∈fa→FOK w f):∀{ns os:List (Lin × Lin)},sS fa ns os=true→sZ fa ns os=true→mX w ns < mX w os
 | [],_,h,_=>by simp [sS] at h
 | _::_,[],h,_=>by simp [sS] at h
 | n::ns,o::os,h,h'=>by
  simp only [sZ,le1,aT,bU] at h';simp only [sS,lt1,aT,bU] at h;simp only [mX];rcases h with ⟨h0,h⟩ | h
  ·have:=aE hf h0;have:=wD hf h'.2;rcases h with h | ⟨h1,h2⟩ | ⟨h1,h2⟩
   ·have:=aE hf h; omega
   ·have:=aE hf h1; have:=aE hf h2; omega
   ·have:=aE hf h1; have:=aE hf h2; omega
  ·have:=qAK hf h h'.2;rcases h'.1 with h1 | ⟨h1,h2⟩
   ·have:=aE hf h1; omega
   ·have:=aE hf h1; have:=aE hf h2; omega
theorem vm{n:Nat}{v w:V}(h:Agr n v w):∀{ms:List (Lin × Lin)},clM n ms=true→mX v ms=mX w ms
 | [],_=>rfl
 | m::ms,hc=>by
  simp only [clM,List.all_cons,aT,dT] at hc;simp only [mX,Lin.agr h hc.1.1,Lin.agr h hc.1.2,vm h (ms:=ms) hc.2]
theorem vl(w:V)(θ:Sub):∀(ms:List (Lin × Lin)),mX w (ms.map (qNI θ))=mX (w.comp θ) ms
 | []=>rfl
 | m::ms=>by
  simp only [gM,mX,qNI,bG,vl w θ ms]
theorem qQQ{v:V}{s t:Nat}:∀{fa:List Fact},(∀f,f∈fa→FOK v f)→qJF s fa=some t→∃n,cV (v.c s)=some n∧v.i t=n:=by
 intro fa
 induction fa generalizing t with
 | nil=>intro _ h; cases h
 | cons f r ih =>
  intro hf h;have h0:=hf f (mS);cases f with
  | len s' t' =>
   simp only [qJF] at h;split at h
   ·rename_i t1 e;simp only [sI] at h; subst h;exact ih (fun f hm=>hf f (mC _ hm)) e
   ·split at h
    ·rename_i he; subst he; simp only [sI] at h; subst h; exact h0
    ·cases h
  | _=>exact ih (fun f hm=>hf f (mC _ hm)) h
theorem sY{w:V}{old:List Fact}(ho:∀f,f∈old→FOK w f):∀{l:List Fact},(∀f,f∈l→FOK w f)→∀f,f∈uL old l→FOK w f
 | [],_,f,hm=>by cases hm
 | g::l,hl,f,hm=>by
  simp only [uL,bP] at hm;rcases hm with hm | hm
  ·have h0:=hl g mS;cases g<;>simp only [qJH] at hm<;>(try (cases hm; done));split at hm
   ·rename_i s t t0 ht;obtain ⟨n,hn,hi⟩:=qQQ ho ht;obtain ⟨m,hm',hj⟩:=h0;rw [hn,sI] at hm'; subst hm';simp only [aS,bz,br] at hm;rcases hm with rfl | rfl<;>simp only [FOK]<;>omega
   ·cases hm
  ·exact sY ho (fun f hf=>hl f (mC _ hf)) f hm
section
variable {X:Cx} {v:V} {st:St} {env:List CV} {h:H} {tbl:Nat→Option IF}
def kh(X:Cx)(v:V)(st:St)(env:List CV)(outs:List (AV × St))(r:CV)(h':H):Prop:=∃o,o∈outs∧∃w,Agr st.n v w∧st.n≤o.2.n∧o.2.env=st.env∧Sat X w o.2 env h'∧∀u,Agr o.2.n w u→den u o.1=r
theorem qMH{n:Nat}{v w:V}(hw:Agr n v w):∀{l:List BE},qG0 n l=true→l.flatMap (adr w)=l.flatMap (adr v)
 | [],_=>rfl
 | p::l,hc=>by
  simp only [qG0,aT] at hc;simp only [i9,qC1 hw hc.1,qMH hw hc.2]
theorem Mtch.sat0(s0:Sat0 X v st env h){θ:Sub}{as:List AV}{pre:St}{rest:List BE}(m:Mtch v st θ as pre rest h)(hz:0 < θ.lo)(hi:ir θ.i 0=none):Sat0 X (v.comp θ) pre (aF v as) h where
 z:=by simp only [V.comp,Sub.iL,zBZ hz,Lin.ev,s0.z]; rfl
 env:=m.env.symm
 fa:=m.fa
 bl:=m.bl
 nd:=(cD.1 m.nd).1
 lt:=fun p hp a ha=>by
  have:=m.sub a (eg.2 ⟨p,hp,ha⟩);obtain ⟨q,hq,haq⟩:=eg.1 this;exact s0.lt q hq a haq
 hn:=s0.hn
 fr:=s0.fr
theorem Mtch.satF(s0:Sat0 X v st env h){θ:Sub}{as:List AV}{pre:St}{rest:List BE}(m:Mtch v st θ as pre rest h)(hz:0 < θ.lo)(hi:ir θ.i 0=none):Sat0 (FrX (v.comp θ) pre h) (v.comp θ) pre (aF v as) h :=
 let a:=m.sat0 s0 hz hi
 ⟨a.z,a.env,a.fa,a.bl,a.nd,fun p hp x hx=>⟨(a.lt p hp x hx).1,.inl (eg.2 ⟨p,hp,hx⟩)⟩,aV _,fun _ _ _=>rfl⟩
def tgT(v:V):Tg→Tgt
 | .fn f=>.fn f
 | .yl b=>.yl (v.b b)
theorem tM(s:Sat X v st env h){c:Con}(g:GOK1 tbl v st.n c)(hpos:0 < c.n0){as:List AV}{outs:List (AV × St)}(ha:kV c as st=some outs):Wf tbl (tgt v c) (aF v as) h (kh X v st env outs):=by
 have s0:=s.now;unfold kV at ha
 dsimp only at ha
 generalize hθ:fH c.n0 c.pre.n st.n st as c.pre=θ at ha;split at ha
 ·rename_i hc;simp only [aT,aZ,dT] at hc;obtain ⟨⟨c1,c2⟩,c3⟩:=hc;have so:=gr c1;split at ha
  ·rename_i rest hm;split at ha
   ·rename_i hl;simp only [sI] at ha; subst ha;have hz:0 < θ.lo:=by rw [so.elo]; exact hpos
    have hi0:=so.i 0 (.inl hpos);have m:=pJ s0 hm;have hW:=m.satF s0 hz hi0;have hlim:∀a b,c.lim=some (a,b)→c.ma.ev (v.comp θ) - c.mb.ev (v.comp θ) < a.ev v - b.ev v∧0 < a.ev v - b.ev v:=fun a b hab=>by
     have:=sX s0.fa hl a b hab;rw [bG,bG] at this;exact this
    refine (g.ok (v.comp θ) (aF v as) h (so.agr v) hW hlim).mono ?_;rintro r h' ⟨o,ho,u,hu,hon,hsat,hden⟩;have hpos':0 < st.n:=s.pos
    let w:V:=⟨fun s=>if s < st.n then v.i s else u.i (c.pre.n+(s - st.n)),fun s=>if s < st.n then v.c s else u.c (c.pre.n+(s - st.n)),fun s=>if s < st.n then v.b s else u.b (c.pre.n+(s - st.n)),fun s=>if s < st.n then v.l s else u.l (c.pre.n+(s - st.n))⟩
    have hvw:Agr st.n v w:=fun s hs=>⟨by simp only [w,aH hs],by simp only [w,aH hs],by simp only [w,aH hs],by simp only [w,aH hs]⟩
    have key:∀x,Agr (st.n+(o.2.n - c.pre.n)) w x→Agr o.2.n u (x.comp θ):=by
     intro x hx s hs;have hvx:Agr st.n v x:=hvw.trans hx (rQ _ _);by_cases hlt:s < c.pre.n
     ·obtain ⟨a1,a2,a3,a4⟩:=hu s hlt;obtain ⟨b1,b2,b3,b4⟩:=so.stable g.n0 hpos' hvx s hlt;exact ⟨a1.symm.trans b1,a2.symm.trans b2,a3.symm.trans b3,a4.symm.trans b4⟩
     ·have e1:=so.i s (.inr (by omega)); have e2:=so.c s (.inr (by omega)); have e3:=so.b s (.inr (by omega));have hnu:θ.nu s=st.n+(s - c.pre.n):=by
       simp only [Sub.nu,so.elo,so.ebase,c2];rw [aC (by omega),aC hlt]
      obtain ⟨x1,x2,x3,x4⟩:=hx (st.n+(s - c.pre.n)) (by omega);simp only [w] at x1 x2 x3 x4;rw [aC (by omega),show c.pre.n+(st.n+(s - c.pre.n) - st.n)=s by omega] at x1 x2 x3 x4;have hb:Nat.blt s θ.lo=false:=zC0 (by rw [so.elo]; omega);simp only [V.comp,Sub.iL,Sub.cA,Sub.bN,hb,e1,e2,e3,hnu,Lin.ev,den,eV];exact ⟨x1,x2,x3,x4⟩
    have hnb:pH θ st o=false:=by
     cases hb:pH θ st o with
     | false=>rfl
     | true =>
      have ow:=hsat.all (w.comp θ) (key w (Agr.refl _ _));have sw:=s.all w hvw;have hnew:∀f,f∈o.2.fa.filterMap (ix θ)→FOK w f:=fun f hf=>by
       obtain ⟨f0,hf0,hff⟩:=List.mem_filterMap.1 hf;exact zY hff (ow.fa f0 hf0)
      have hall:∀f,f∈o.2.fa.filterMap (ix θ)++st.fa→FOK w f:=fun f hf=>(bP.1 hf).elim (hnew f) (sw.fa f)
      unfold pH at hb;obtain ⟨f,hf,hbf⟩:=List.any_eq_true.1 hb;cases f<;>try (cases hbf; done)
      rename_i s t;simp only [qAL] at hbf;split at hbf
      ·rename_i t0 h0;obtain ⟨n1,a1,a2⟩:=eo sw.fa h0;obtain ⟨n2,b1,b2⟩:=hnew _ hf;rw [a1] at b1; injection b1 with b1; subst b1
       rcases bU _ _ ▸ hbf with h1 | h1<;>(have:=aE hall h1; simp only [Lin.ev,a2,b2] at this; omega)
      ·cases hbf
    refine ⟨qIC θ st c.pre.n rest o,cI.2 ⟨o,nD.2 ⟨ho,by rw [hnb]; rfl⟩,rfl⟩,w,hvw,rQ _ _,rfl,⟨dD s.pos (rQ _ _),fun x hx=>?_⟩,fun x hx=>?_⟩
    ·have hvx:Agr st.n v x:=hvw.trans hx (rQ _ _);have sx:=s.all x hvx;have ox:=hsat.all (x.comp θ) (key x hx);have mx:=pJ sx hm;have hcl:=g.cl;simp only [kO,aT] at hcl;have hF:c.pre.bl.flatMap (adr (x.comp θ))=c.pre.bl.flatMap (adr (v.comp θ)):=qMH (so.stable g.n0 s.pos hvx) hcl.2;have hFst:∀a,a∈c.pre.bl.flatMap (adr (v.comp θ))→a < h.n∧(a∈X.F∨X.h0.n≤a):=fun a ha=>by
      obtain ⟨q,hq,haq⟩:=eg.1 (m.sub a ha);exact s0.lt q hq a haq
     have hrest:∀q,q∈rest→∀a,a∈adr x q→a < h.n∧a∉c.pre.bl.flatMap (adr (v.comp θ)):=fun q hq a ha=>by
      refine ⟨(sx.lt q (mx.rest q hq) a ha).1,fun hp=>?_⟩;rw [←hF] at hp;exact (cD.1 mx.nd).2.2 a hp (eg.2 ⟨q,hq,ha⟩)
     have hfr:∀j,j < h.n→j∉c.pre.bl.flatMap (adr (v.comp θ))→h'.get j=h.get j:=fun j hj hjF=>ox.fr j hj hjF
     have hblx:(o.2.bl.map (pc θ)).flatMap (adr x)=o.2.bl.flatMap (adr (x.comp θ)):=by
      have:∀l:List BE,(l.map (pc θ)).flatMap (adr x)=l.flatMap (adr (x.comp θ)):=by
       intro l
       induction l with
       | nil=>rfl
       | cons p l ih=>simp only [gM,i9,uu,ih]
      exact this _
     have hnn:h.n≤h'.n:=ox.hn;refine ⟨sx.z,sx.env,fun f hf=>?_,fun p hp=>?_,?_,fun p hp a ha=>?_,cz sx.hn hnn,fun j hj hjF=>?_⟩
     ·have hnew:∀f,f∈o.2.fa.filterMap (ix θ)→FOK x f:=fun f hf=>by
       obtain ⟨f0,hf0,hff⟩:=List.mem_filterMap.1 hf;exact zY hff (ox.fa f0 hf0)
      rcases bP.1 hf with hf | hf
      ·exact sY sx.fa hnew f hf
      ·rcases bP.1 hf with hf | hf
       ·exact hnew f hf
       ·exact sx.fa f hf
     ·rcases bP.1 hp with hp | hp
      ·obtain ⟨p0,hp0,rfl⟩:=cI.1 hp;exact (qNK x θ h' p0).2 (ox.bl p0 hp0)
      ·refine oN (fun a ha=>?_) (sx.bl p (mx.rest p hp));obtain ⟨e1,e2⟩:=hrest p hp a ha;exact hfr a e1 e2
     ·show ((o.2.bl.map (pc θ)++rest).flatMap (adr x)).Nodup
      rw [lN,hblx];refine cD.2 ⟨ox.nd,(cD.1 mx.nd).2.1,fun a ha hb=>?_⟩;obtain ⟨q,hq,haq⟩:=eg.1 hb;obtain ⟨e1,e2⟩:=hrest q hq a haq;obtain ⟨p,hp,hap⟩:=eg.1 ha;rcases (ox.lt p hp a hap).2 with e3 | e3
      ·exact e2 e3
      ·have:h.n≤a:=e3;omega
     ·rcases bP.1 hp with hp | hp
      ·obtain ⟨p0,hp0,rfl⟩:=cI.1 hp;rw [uu] at ha;obtain ⟨e1,e2⟩:=ox.lt p0 hp0 a ha;refine ⟨e1,?_⟩;rcases e2 with e2 | e2
       ·exact (hFst a e2).2
       ·have:h.n≤a:=e2;have:=sx.hn;exact .inr (by omega)
      ·have:=sx.lt p (mx.rest p hp) a ha;exact ⟨by omega,this.2⟩
     ·have hjn:j < h.n:=by have:=sx.hn; omega
      rw [hfr j hjn ?_,sx.fr j hj hjF];intro hp;rcases (hFst j hp).2 with e | e
      ·exact hjF e
      ·omega
    ·have:=hden (x.comp θ) (key x hx);simp only [qIC,pd];exact this
   ·cases ha
  ·cases ha
 ·cases ha
theorem qXS{n0:Nat}(s:Sat X v st env h)(hn:n0≤st.n)(hn0:0 < n0){a:AV}{o:AV × St}(hf:fits n0 st a o=true):∃u,Agr n0 v u∧n0≤o.2.n∧Sat X u { o.2 with env:=[] } [] h∧∀w,Agr o.2.n u w→den w o.1=den v a:=by
 have s0:=s.now;unfold fits at hf
 dsimp only at hf
 generalize hθ:fH n0 o.2.n 0 st [a] { o.2 with env:=[o.1] }=θ at hf;simp only [aT,dT,kZ] at hf;obtain ⟨⟨⟨c1,c2⟩,c3⟩,rest,hm⟩:=hf;have so:=gr c1;have hz:0 < θ.lo:=by rw [so.elo]; exact hn0
 have m:=pJ s0 hm;have hP:=m.sat0 s0 hz (so.i 0 (.inl hn0));have hS:=Sat.ofClosed (fs:=[]) c2 (show 0 < o.2.n by omega) hP (fun _ _ f hf=>by cases hf);refine ⟨v.comp θ,so.agr v,c3,⟨by show 0 < o.2.n; omega,fun w hw=>?_⟩,fun w hw=>?_⟩
 ·have:=hS.all w hw;exact ⟨this.z,rfl,fun f hf=>this.fa f (ig _ hf),this.bl,this.nd,this.lt,this.hn,this.fr⟩
 ·have:=(hS.all w hw).env;simp only [aF,iJ,cZ] at this;exact this.symm
theorem ff{n0:Nat}(s:Sat X v st env h)(hn:n0≤st.n)(hn0:0 < n0){a:AV}:∀{posts:List (AV × St)},gT n0 st a posts=true→∃o,o∈posts∧∃u,Agr n0 v u∧n0≤o.2.n∧Sat X u { o.2 with env:=[] } [] h∧∀w,Agr o.2.n u w→den w o.1=den v a
 | [],hf=>by cases hf
 | o::os,hf=>by
  simp only [gT,bU] at hf;rcases hf with hf | hf
  ·exact ⟨o,mS,qXS s hn hn0 hf⟩
  ·obtain ⟨o',h1,h2⟩:=ff s hn hn0 hf;exact ⟨o',mC _ h1,h2⟩
end
end
end Ce.S
namespace Ce.S
noncomputable section
open Go
section
variable {X:Cx} {v:V} {st:St} {env:List CV} {h:H} {tbl:Nat→Option IF}
def CallOK(tbl:Nat→Option IF)(Γ:List Con)(call:iN):Prop:=∀(tg:Tg) (as:List AV) (st:St) (hs:Hs) (outs:List (AV × St)) (hs':Hs),call tg as st hs=some (outs,hs')→∀(X:Cx) (v:V) (env:List CV) (h:H),Sat X v st env h→GOK tbl v st.n Γ→(∀u,Agr st.n v u→aF u as=aF v as∧tgT u tg=tgT v tg)→Wf tbl (tgT v tg) (aF v as) h (kh X v st env outs)
theorem mF{w:V}{o:AV × St}{c:CV}(s:Sat X w o.2 env h)(hd:∀u,Agr o.2.n w u→den u o.1=c)(d:Option Nat):Sat X w (pm d o) (put? env d c) h:=by
 refine ⟨s.pos,fun u hu=>?_⟩;have s0:=s.all u hu;exact ⟨s0.z,by rw [s0.env,←hd u hu,qIA]; rfl,qZQ s0.fa,s0.bl,s0.nd,s0.lt,s0.hn,s0.fr⟩
def OpsQ(X:Cx)(v:V)(st:St)(outs:List St)(env':List CV)(h':H):Prop:=∃st',st'∈outs∧∃w,Agr st.n v w∧st.n≤st'.n∧Sat X w st' env' h'
theorem qGM{w:V}{fa:List Fact}(z:w.i 0=0)(hf:∀f,f∈fa→FOK w f){a b t:Nat}{c:Int}(h0:FOK w (.sum a b t c)):∀f,f∈xZ fa a b t c→FOK w f:=by
 intro f hm;simp only [FOK] at h0;have lo:∀{l:Lin} {k:Int},loC fa l=some k→k≤l.ev w:=fun h=>lY z hf h
 have hi:∀{l:Lin} {k:Int},hiC fa l=some k→l.ev w≤k:=fun h=>eF z hf h
 unfold xZ at hm;simp only [bP] at hm;rcases hm with hm | hm | hm | hm
 ·split at hm
  ·rename_i k hk;have:=lo hk;simp only [Lin.ev] at this;simp only [cM] at hm; subst hm;simp only [FOK]; omega
  ·cases hm
 ·split at hm
  ·rename_i k hk;have:=hi hk;simp only [Lin.ev] at this;simp only [cM] at hm; subst hm;simp only [FOK]; omega
  ·cases hm
 ·split at hm
  ·rename_i k hk;have:=lo hk;simp only [Lin.ev] at this;simp only [cM] at hm; subst hm;simp only [FOK]; omega
  ·cases hm
 ·split at hm
  ·rename_i k hk;have:=hi hk;simp only [Lin.ev] at this;simp only [cM] at hm; subst hm;simp only [FOK]; omega
  ·cases hm
theorem qCK{w:V}{fa:List Fact}(z:w.i 0=0)(hf:∀f,f∈fa→FOK w f){x y:Nat}:∀{l:List Fact},(∀f,f∈l→FOK w f)→∀f,f∈nT fa x y l→FOK w f:=by
 intro l
 induction l with
 | nil=>intro _ f h; cases h
 | cons g r ih =>
  intro hl f hm;have hr:=ih (fun f hm=>hl f (mC _ hm));have h0:=hl g mS;cases g<;>simp only [nT] at hm<;>(try (exact hr f hm));rename_i a b t c;rcases bP.1 hm with hq | hq
  ·clear hm;by_cases hc:a=x∨a=y∨b=x∨b=y∨t=x∨t=y
   ·rw [aH hc] at hq; exact qGM z hf h0 f hq
   ·rw [aC hc] at hq; cases hq
  ·exact hr f hq
theorem qJA{w:V}{fa:List Fact}(z:w.i 0=0)(hf:∀f,f∈fa→FOK w f){x y:Nat}:∀{l:List Fact},(∀f,f∈l→FOK w f)→∀f,f∈vz fa x y l→FOK w f:=by
 intro l
 induction l with
 | nil=>intro _ f h; cases h
 | cons g r ih =>
  intro hl f hm;have hr:=ih (fun f hm=>hl f (mC _ hm));have h0:=hl g mS;cases g<;>simp only [vz] at hm<;>(try (exact hr f hm));rename_i a b t k c;rcases bP.1 hm with hq | hq
  ·split at hq
   ·split at hq
    ·rename_i u hu;have hup:=eF z hf hu;simp only [cM] at hq; subst hq;simp only [FOK,Lin.ev] at h0 hup ⊢;have:=Int.mul_le_mul_of_nonneg_left (show w.i t≤u by omega) (show (0:Int)≤(k:Int) by omega);omega
    ·cases hq
   ·cases hq
  ·exact hr f hq
theorem qL0{w:V}{fa:List Fact}(hf:∀f,f∈fa→FOK w f):∀{cs ds:List AV},gtA fa cs ds=true→aF w cs≠aF w ds
 | [],[],h=>by simp [gtA] at h
 | [],_::_,h=>by simp [gtA] at h
 | a::l,[],h=>by cases a<;>simp [gtA] at h
 | a::l,b::m,h=>by
  have tl:gtA fa l m=true→aF w (a::l)≠aF w (b::m):=fun h e=>by
   simp only [aF,iJ] at e;exact qL0 hf h e.2
  cases a<;>try (exact tl h)
  rename_i k s c;cases b<;>try (exact tl h)
  rename_i k' s' c';simp only [gtA,bU] at h;rcases h with h | h
  ·intro e;simp only [aF,den,iJ,CV.int.injEq] at e;have:=aE hf h;simp only [Lin.ev] at this;omega
  ·exact tl h
theorem qHR{w:V}{fa:List Fact}(z:w.i 0=0)(hf:∀f,f∈fa→FOK w f){s:Nat}{i:Lin}{cs:List AV}(h0:FOK w (.row s i cs)):∀{l:List Fact},(∀f,f∈l→FOK w f)→∀f,f∈pt fa s i cs l→FOK w f:=by
 intro l
 induction l with
 | nil=>intro _ f h; cases h
 | cons g r ih =>
  intro hl f hm;have hr:=ih (fun f hm=>hl f (mC _ hm));have h1:=hl g mS;cases g<;>simp only [pt] at hm<;>(try (exact hr f hm));rename_i s' j ds;rcases bP.1 hm with hq | hq
  ·clear hm;by_cases hc:s'=s∧j.s=0∧i.s≠0∧gtA fa cs ds=true∧leL fa j i 0=true
   ·rw [aH hc] at hq;obtain ⟨rfl,c1,c2,c3,c4⟩:=hc;simp only [cM] at hq; subst hq;have hle:=aE hf c4;obtain ⟨a1,rows,ex,a2,a3⟩:=h0;obtain ⟨b1,rows',ex',b2,b3⟩:=h1;rw [a2] at b2;cases b2;have hne:i.ev w≠j.ev w:=fun e=>by
     rw [e,b3,sI] at a3;exact qL0 hf c3 a3.symm
    simp only [FOK,z];have ej:j.ev w=j.c:=by simp only [Lin.ev,c1,z]; omega
    simp only [Lin.ev] at hle hne ej ⊢;omega
   ·rw [aC hc] at hq; cases hq
  ·exact hr f hq
theorem qCV{w:V}{fa:List Fact}(z:w.i 0=0)(hf:∀f,f∈fa→FOK w f):∀{l:List Fact},(∀f,f∈l→FOK w f)→∀f,f∈pr fa l→FOK w f:=by
 intro l
 induction l with
 | nil=>intro _ f h; cases h
 | cons g r ih =>
  intro hl f hm;have hr:=ih (fun f hm=>hl f (mC _ hm));have h0:=hl g mS;cases g<;>simp only [pr] at hm<;>(try (exact hr f hm));rename_i s i cs;rcases bP.1 hm with hq | hq
  ·clear hm;by_cases hc:i.s=0
   ·rw [aH hc] at hq; cases hq
   ·rw [aC hc] at hq; exact qHR z hf h0 hf f hq
  ·exact hr f hq
theorem xF{w:V}{fa:List Fact}(hf:∀f,f∈fa→FOK w f){b:Nat}{c:Int}:∀{ys:List Lin},qCB fa b c ys=true→∀y,y∈ys→y.ev w - w.i b≤c
 | [],_,y,hy=>by cases hy
 | a::ys,h,y,hy=>by
  simp only [qCB,aT] at h;rcases aS.1 hy with rfl | hy
  ·have:=aE hf h.1; simp only [Lin.ev] at this ⊢; omega
  ·exact xF hf h.2 y hy
theorem xG{w:V}{fa:List Fact}(hf:∀f,f∈fa→FOK w f){b:Nat}{c:Int}:∀{ys:List Lin},qCC fa b c ys=true→∀y,y∈ys→w.i b - y.ev w≤c
 | [],_,y,hy=>by cases hy
 | a::ys,h,y,hy=>by
  simp only [qCC,aT] at h;rcases aS.1 hy with rfl | hy
  ·have:=aE hf h.1; simp only [Lin.ev] at this ⊢; omega
  ·exact xG hf h.2 y hy
theorem zw{w:V}{fa:List Fact}(hf:∀f,f∈fa→FOK w f){xs ys:List Lin}{d:Int}(hp:(xs.map (Lin.ev w)).Perm (ys.map (Lin.ev w))):∀{l:List (Nat × Int)},∀f,f∈qQ3 fa xs ys d l→FOK w f
 | [],f,hm=>by cases hm
 | (b,c)::r,f,hm=>by
  simp only [qQ3] at hm;rcases bP.1 hm with hq | hq
  ·split at hq
   ·rename_i ha;obtain ⟨x,hx,rfl⟩:=cI.1 hq;obtain ⟨y,hy,e⟩:=cI.1 (hp.mem_iff.1 (List.mem_map_of_mem hx));have:=xF hf ha y hy;simp only [FOK];have e2:x.ev w=w.i x.s+x.c:=rfl;omega
   ·cases hq
  ·exact zw hf hp f hq
theorem zx{w:V}{fa:List Fact}(hf:∀f,f∈fa→FOK w f){xs ys:List Lin}{d:Int}(hp:(xs.map (Lin.ev w)).Perm (ys.map (Lin.ev w))):∀{l:List (Nat × Int)},∀f,f∈qQ4 fa xs ys d l→FOK w f
 | [],f,hm=>by cases hm
 | (b,c)::r,f,hm=>by
  simp only [qQ4] at hm;rcases bP.1 hm with hq | hq
  ·split at hq
   ·rename_i ha;obtain ⟨x,hx,rfl⟩:=cI.1 hq;obtain ⟨y,hy,e⟩:=cI.1 (hp.mem_iff.1 (List.mem_map_of_mem hx));have:=xG hf ha y hy;simp only [FOK];have e2:x.ev w=w.i x.s+x.c:=rfl;omega
   ·cases hq
  ·exact zx hf hp f hq
theorem qD3{w:V}{fa:List Fact}(hf:∀f,f∈fa→FOK w f){x y:Nat}:∀{l:List Fact},(∀f,f∈l→FOK w f)→∀f,f∈qB fa x y l→FOK w f:=by
 intro l
 induction l with
 | nil=>intro _ f h; cases h
 | cons g r ih =>
  intro hl f hm;have hr:=ih (fun f hm=>hl f (mC _ hm));have h0:=hl g mS;cases g<;>simp only [qB] at hm<;>(try (exact hr f hm));rename_i xs ys;rcases bP.1 hm with hq | hq
  ·split at hq
   ·split at hq
    ·rcases bP.1 hq with hq | hq
     ·exact zw hf h0 f hq
     ·exact zx hf h0 f hq
    ·cases hq
   ·cases hq
  ·exact hr f hq
theorem qFW{w:V}{fa:List Fact}(z:w.i 0=0)(hf:∀f,f∈fa→FOK w f){x y:Nat}:∀{l:List Fact},(∀f,f∈l→FOK w f)→∀f,f∈qw fa x y l→FOK w f:=by
 intro l
 induction l with
 | nil=>intro _ f h; cases h
 | cons g r ih =>
  intro hl f hm;have hr:=ih (fun f hm=>hl f (mC _ hm));have h0:=hl g mS;cases g<;>simp only [qw] at hm<;>(try (exact hr f hm));rename_i a c b lo hi;rcases bP.1 hm with hq | hq
  ·split at hq
   ·rename_i hc;have h1:=aE hf hc.2;simp only [FOK,Lin.ev,z] at h0 h1;have h2:=h0 (by omega);simp only [aS,bz,br] at hq;rcases hq with rfl | rfl<;>simp only [FOK]<;>omega
   ·cases hq
  ·exact hr f hq
theorem qP7(s:Sat X v st env h)(x y:Nat):Sat X v (vF x y st) env h:=by
 have s1:Sat X v (st.more (nT st.fa x y st.fa)) env h:=s.fact (fun u su f hf=>qCK su.z su.fa su.fa f hf);have s2:=s1.fact (fun u su f hf=>qJA (x:=x) (y:=y) su.z su.fa su.fa f hf);have s3:=s2.fact (fun u su f hf=>qCV su.z su.fa su.fa f hf);have s4:=s3.fact (fun u su f hf=>qD3 (x:=x) (y:=y) su.fa su.fa f hf);exact s4.fact (fun u su f hf=>qFW (x:=x) (y:=y) su.z su.fa su.fa f hf)
theorem qFV(s:Sat X v st env h){c:AV}{T F:List St}(hc:yc st c=some (T,F)){cv:CV}(hx:∀u,Sat0 X u st env h→cv=den u c):∃b,cv=.bool b∧∃st',st'∈(if b then T else F)∧Sat X v st' env h∧st'.n=st.n∧st'.env=st.env:=by
 unfold yc at hc;split at hc
 ·rename_i T0 F0 h0;obtain ⟨b,hb,st',hm,s',hn,he⟩:=qv s h0 hx;have up:∀x y,T=T0.map (vF x y)→F=F0.map (vF x y)→∃b,cv=.bool b∧∃st',st'∈(if b then T else F)∧Sat X v st' env h∧st'.n=st.n∧st'.env=st.env:=fun x y e1 e2=>by
   refine ⟨b,hb,vF x y st',?_,qP7 s' x y,hn,he⟩;subst e1; subst e2;cases b
   ·exact cI.2 ⟨st',hm,rfl⟩
   ·exact cI.2 ⟨st',hm,rfl⟩
  split at hc
  ·simp only [sI,pI] at hc;exact up _ _ hc.1.symm hc.2.symm
  ·simp only [sI,pI] at hc;exact up _ _ hc.1.symm hc.2.symm
  ·simp only [sI,pI] at hc;obtain ⟨rfl,rfl⟩:=hc;exact ⟨b,hb,st',hm,s',hn,he⟩
 ·cases hc
theorem w9(s:Sat X v st env h){t:Nat}{T F:List St}(hc:qBO st t=some (T,F)):∃b,aR env t=.bool b∧∃st',st'∈(if b then T else F)∧Sat X v st' env h∧st'.n=st.n:=by
 have gl:∀u,Sat0 X u st env h→aR env t=den u (j6 st.env t):=fun u su=>by rw [su.env]; exact gB u st.env t
 have put:∀(b:Bool) (st':St),aR env t=.bool b→Sat X v st' env h→Sat X v (qP4 t b st') env h:=fun b st' hb s'=>by
  refine ⟨s'.pos,fun u hu=>?_⟩;have s0:=s'.all u hu;refine ⟨s0.z,?_,s0.fa,s0.bl,s0.nd,s0.lt,s0.hn,s0.fr⟩;have e1:=jw u st'.env t (.bool b);rw [←s0.env] at e1
  show env=aF u (po st'.env t (.bool b))
  rw [←e1];have:den u (AV.bool b)=aR env t:=hb.symm;rw [this]; exact (oz env t).symm
 unfold qBO at hc;split at hc
 ·rename_i hg;simp only [sI,pI] at hc;obtain ⟨rfl,rfl⟩:=hc;exact ⟨true,by rw [gl v s.now,hg]; rfl,st,by simp,s,rfl⟩
 ·rename_i hg;simp only [sI,pI] at hc;obtain ⟨rfl,rfl⟩:=hc;exact ⟨false,by rw [gl v s.now,hg]; rfl,st,by simp,s,rfl⟩
 ·split at hc
  ·rename_i T' F' hc';simp only [sI,pI] at hc;obtain ⟨rfl,rfl⟩:=hc;obtain ⟨b,hb,st',hm,s',hn,_⟩:=qFV s hc' gl;refine ⟨b,hb,qP4 t b st',?_,put b st' hb s',hn⟩;cases b with
   | true=>simp only [ac] at hm ⊢; exact cI.2 ⟨st',hm,rfl⟩
   | false=>simp only [bj,bX] at hm ⊢; exact cI.2 ⟨st',hm,rfl⟩
  ·cases hc
theorem vG{Γ:List Con}{call:iN}{fk:Bool}(hcall:CallOK tbl Γ call){o:IOp}{os:List IOp}{hs hs':Hs}{outs:List (AV × St)}(hg:grd o.guard env=true)(ho:qH5 call fk o.op st hs=some (outs,hs'))(s:Sat X v st env h)(g:GOK tbl v st.n Γ){Q:List CV→H→Prop}
  (next:∀x,x∈outs→∀w c h',Agr st.n v w→st.n≤x.2.n→Sat X w (pm o.dst x) (put? env o.dst c) h'→Wo tbl os (put? env o.dst c) h' Q):Wo tbl (o::os) env h Q:=by
 have s0:=s.now;have viaCall:∀(tg:Tg) (as:List AV) (hs1 hs2:Hs),call tg as st hs1=some (outs,hs2)→(∀u,Agr st.n v u→aF u as=aF v as∧tgT u tg=tgT v tg)→(∀c:cS,stepO c o.op env h=c (tgT v tg) (aF v as) h)→Wo tbl (o::os) env h Q:=by
  intro tg as hs1 hs2 hc hrob hst;have:=hcall tg as st hs1 outs hs2 hc X v env h s g hrob;refine dB (d:=o.dst) (g:=o.guard) (o:=o.op) (tgT v tg) (aF v as) hg hst (this.mono ?_);rintro r h' ⟨x,hx,w,hw,hn,he,sx,hd⟩;exact next x hx w r h' hw hn (mF sx hd o.dst)
 have viaOp:(match zAB o.op hs with
  | some (R,hs)=>(qPG o.op R st).map fun outs=>(outs,hs)
  | none=>(sOw o.op st).map fun outs=>(if fk then outs.flatMap (iB 7 1) else outs,hs))=some (outs,hs')→isCall o.op=false→Wo tbl (o::os) env h Q:=by
  intro hso _;split at hso
  ·simp only [ez,pI] at hso;obtain ⟨outs',h1,rfl,_⟩:=hso;obtain ⟨x,hx,w,hw,hn,he,c,h',hr,sx,hd⟩:=qPF s h1;exact aB hg hr (next x hx w c h' hw hn (mF sx hd o.dst))
  simp only [ez,pI] at hso;obtain ⟨outs',h1,rfl,_⟩:=hso;have hp:ae X v st env (if fk then outs'.flatMap (iB 7 1) else outs') (stepO noC o.op env h):=by
   split
   ·exact iV (qH4 s h1)
   ·exact qH4 s h1
  obtain ⟨x,hx,w,hw,hn,he,c,h',hr,sx,hd⟩:=hp;exact aB hg hr (next x hx w c h' hw hn (mF sx hd o.dst))
 obtain ⟨dst,op,guard⟩:=o;cases op with
 | callF f as =>
  simp only [qH5] at ho;split at ho
  ·rename_i as' has;exact viaCall (.fn f) as' hs hs' ho (fun u hu=>⟨by rw [←(s.all u hu).ops has,s0.ops has],rfl⟩) (fun c=>by simp only [stepO,tgT,s0.ops has])
  ·cases ho
 | callV f as =>
  simp only [qH5] at ho;split at ho<;>(try (cases ho; done))
  ·rename_i fn a b as' hf has;refine viaCall (.fn fn) (a++as'++b) hs hs' ho (fun u hu=>⟨?_,rfl⟩) (fun c=>?_)
   ·have e1:=(s.all u hu).op hf;rw [s0.op hf] at e1;simp only [den,CV.clo.injEq,cQ] at e1;simp only [cX,e1.1,e1.2,←(s.all u hu).ops has,s0.ops has]
   ·exact (fun (c:cS)=>by simp only [stepO,tgT,s0.ops has,s0.op hf,den,cX]) c
  ·rename_i b as' hf has;exact viaCall (.yl b) as' hs hs' ho (fun u hu=>⟨by rw [←(s.all u hu).ops has,s0.ops has],by
    have e1:=(s.all u hu).op hf;rw [s0.op hf] at e1;simp only [den,CV.yld.injEq] at e1;simp only [tgT,e1]⟩) (fun c=>by simp only [stepO,tgT,s0.ops has,s0.op hf,den])
 | _=>exact viaOp ho rfl
theorem qPB{Γ:List Con}{call:iN}(hcall:CallOK tbl Γ call):∀(l:List IOp) (st:St) (hs hs':Hs) (outs:List St),tn call l st hs=some (outs,hs')→∀(v:V) (env:List CV) (h:H),Sat X v st env h→GOK tbl v st.n Γ→Wo tbl l env h (OpsQ X v st outs):=by
 intro l
 induction l with
 | nil =>
  intro st hs hs' outs ho v env h s g;simp only [tn,sI,pI] at ho;obtain ⟨rfl,_⟩:=ho;exact ay ⟨st,mS,v,Agr.refl _ _,aV _,s⟩
 | cons o os ih =>
  intro st hs hs' outs ho v env h s g;have rest:∀(st0:St),st0.n=st.n→∀(x:AV × St) (h1 h2:Hs) (r:List St),(∀y,y∈r→y∈outs)→tn call os (pm o.dst x) h1=some (r,h2)→∀w c h',Agr st0.n v w→st0.n≤x.2.n→Sat X w (pm o.dst x) (put? env o.dst c) h'→Wo tbl os (put? env o.dst c) h' (OpsQ X v st outs):=by
   intro st0 hn0 x h1 h2 r hsub hx w c h' hw hn sx;rw [hn0] at hw hn;have:=ih (pm o.dst x) h1 h2 r hx w _ h' sx (g.mono hw hn);obtain ⟨n,e,h3,hr,st',hm,u,hu,hnn,sat⟩:=this;exact ⟨n,e,h3,hr,st',hsub st' hm,u,hw.trans hu hn,cz hn hnn,sat⟩
  simp only [tn] at ho;split at ho
  ·rename_i hgd;split at ho
   ·rename_i outs1 hs1 h1;refine vG hcall (by rw [hgd]; rfl) h1 s g (fun x hx w c h' hw hn sx=>?_);obtain ⟨k1,k2,r,hr,hsub⟩:=dU ho x hx;exact rest st rfl x k1 k2 r hsub hr w c h' hw hn sx
   ·cases ho
  ·rename_i t b hgd;split at ho
   ·rename_i hu;have hund:aR env t=undef:=by
     rw [s.now.env,gB]
     revert hu
     cases j6 st.env t<;>simp only [zAL]<;>(try (intro h; cases h; done));rename_i l;cases l with
     | nil=>intro _; rfl
     | cons a l=>intro h; cases h
    refine qMU (by rw [hgd]; simp only [grd,hund,undef,eL]) ?_;have sD:Sat X v (pm o.dst (dE,st)) (put? env o.dst undef) h:=mF (o:=(dE,st)) s (fun u hu=>rfl) o.dst;exact rest st rfl (dE,st) _ _ outs (fun y hy=>hy) ho v undef h (Agr.refl _ _) (aV _) sD
   split at ho
   ·rename_i T F hc;split at ho
    ·rename_i r1 hs1 hm1;split at ho
     ·rename_i r2 hs2 hm2;simp only [sI,pI] at ho;obtain ⟨rfl,_⟩:=ho;obtain ⟨bb,hbb,st',hst',s',hn'⟩:=w9 s hc;by_cases he:bb=b
      ·subst he;obtain ⟨k1,k2,r,hr,hsub⟩:=dU hm1 st' hst';split at hr
       ·rename_i outs1 hs3 ho1;have g':GOK tbl v st'.n Γ:=by rw [hn']; exact g
        refine vG hcall (by rw [hgd]; simp only [grd,hbb,eL,lM]) ho1 s' g' (fun x hx w c h' hw hn sx=>?_);obtain ⟨k3,k4,r',hr',hsub'⟩:=dU hr x hx;exact rest st' hn' x k3 k4 r' (fun y hy=>ig _ (hsub y (hsub' y hy))) hr' w c h' hw hn sx
       ·cases hr
      ·have hst2:st'∈(if b then F else T):=by
        cases bb<;>cases b<;>first | (exact absurd rfl he) | (simpa using hst')
       obtain ⟨k1,k2,r,hr,hsub⟩:=dU hm2 st' hst2;refine qMU (by rw [hgd]; simp only [grd,hbb,eL]; cases bb<;>cases b<;>first | rfl | exact absurd rfl he) ?_;have sD:Sat X v (pm o.dst (dE,st')) (put? env o.dst undef) h:=mF (o:=(dE,st')) s' (fun u hu=>rfl) o.dst;exact rest st' hn' (dE,st') k1 k2 r (fun y hy=>fF _ (hsub y hy)) hr v undef h (Agr.refl _ _) (aV _) sD
     ·cases ho
    ·cases ho
   ·cases ho
def CQ(X:Cx)(v:V)(st:St)(outs:bV)(ex:Ex)(env':List CV)(h':H):Prop:=∃st',(ex,st')∈outs∧∃w,Agr st.n v w∧st.n≤st'.n∧Sat X w st' env' h'
theorem CQ.up{st1:St}{w:V}{outs1 outs:bV}{ex:Ex}{e:List CV}{h':H}(q:CQ X w st1 outs1 ex e h')(hw:Agr st.n v w)(hn:st.n≤st1.n)(hs:∀x,x∈outs1→x∈outs):CQ X v st outs ex e h':=by
 obtain ⟨st',hm,u,hu,hnn,sat⟩:=q;exact ⟨st',hs _ hm,u,hw.trans hu hn,cz hn hnn,sat⟩
theorem upg1ok{w:V}{fa:List Fact}(hf:∀f,f∈fa→FOK w f){s:Nat}{i:Lin}{R:List Ty}(h0:FOK w (.pre s i R)):∀f,f∈upg1 fa s i R→FOK w f:=by
 intro f hm;unfold upg1 at hm;split at hm
 ·rename_i t ht;split at hm
  ·rename_i hc;simp only [aT] at hc;simp only [cM] at hm; subst hm;obtain ⟨n,hn,hti⟩:=eo hf ht;have hle:=aE hf hc.1;simp only [FOK,av];simp only [FOK] at h0;cases hcv:w.c s with
   | nils =>
    rw [hcv] at hn; simp only [cV,sI] at hn; subst hn;exact .inl ⟨rfl,by simp only [Lin.ev]; omega,by simp only [Lin.ev]; omega⟩
   | lst rows ex =>
    rw [hcv] at hn; simp only [cV,sI] at hn; subst hn;refine .inr ⟨rows,ex,rfl,by simp only [Lin.ev]; omega,by simp only [Lin.ev]; omega,fun r hr=>?_⟩;obtain ⟨j,hj,hjr⟩:=List.getElem_of_mem hr;refine h0 rows ex hcv j r (by rw [nth?_eq,ed hj,hjr]) ?_;simp only [Lin.ev] at hle ⊢; omega
   | _=>rw [hcv] at hn; cases hn
  ·cases hm
 ·cases hm
theorem qND{w:V}{fa:List Fact}(hf:∀f,f∈fa→FOK w f):∀{l:List Fact},(∀f,f∈l→FOK w f)→∀f,f∈qNE fa l→FOK w f:=by
 intro l
 induction l with
 | nil=>intro _ f h; cases h
 | cons x r ih =>
  intro hl f hm;have hrest:=ih (fun f hm=>hl f (mC _ hm));have h0:=hl x mS;simp only [qNE,bP] at hm;rcases hm with hm | hm
  ·cases x<;>simp only [upgP] at hm<;>(try (cases hm; done));exact upg1ok hf h0 f hm
  ·exact hrest f hm
theorem qGG(s:Sat X v st env h):Sat X v (upg st) env h:=s.fact (fun u su f hf=>qND su.fa su.fa f hf)
theorem oK{lo:Nat}{P:St}{ma mb:Lin}:∀{outs r:bV},mt lo P ma mb outs=some r→∀st',(Ex.nor,st')∈outs→yj lo P ma mb st'=true
 | [],r,h,st',hm=>by cases hm
 | (.nor,s1)::outs,r,h,st',hm=>by
  simp only [mt] at h;split at h
  ·rename_i hb;rcases aS.1 hm with hm | hm
   ·cases hm; exact hb
   ·exact oK h st' hm
  ·cases h
 | (.jmp j,s1)::outs,r,h,st',hm=>by
  simp only [mt] at h;split at h
  ·rename_i l hl;rcases aS.1 hm with hm | hm
   ·cases hm
   ·exact oK hl st' hm
  ·cases h
theorem oL{lo:Nat}{P:St}{ma mb:Lin}{j:Jump}:∀{outs r:bV},mt lo P ma mb outs=some r→∀st',(Ex.jmp j,st')∈outs→(Ex.jmp j,upg st')∈r
 | [],r,h,st',hm=>by cases hm
 | (.nor,s1)::outs,r,h,st',hm=>by
  simp only [mt] at h;split at h
  ·rcases aS.1 hm with hm | hm
   ·cases hm
   ·exact oL h st' hm
  ·cases h
 | (.jmp j',s1)::outs,r,h,st',hm=>by
  simp only [mt] at h;split at h
  ·rename_i l hl;simp only [sI] at h; subst h;rcases aS.1 hm with hm | hm
   ·cases hm; exact mS
   ·exact mC _ (oL hl st' hm)
  ·cases h
theorem lk{lo:Nat}{Fs:List (St × List (Lin × Lin))}{os0:List (Lin × Lin)}:∀{outs r:bV},jc lo Fs os0 outs=some r→∀st',(Ex.nor,st')∈outs→mu lo os0 st' Fs=true
 | [],r,h,st',hm=>by cases hm
 | (.nor,s1)::outs,r,h,st',hm=>by
  simp only [jc] at h;split at h
  ·rename_i hb;rcases aS.1 hm with hm | hm
   ·cases hm; exact hb
   ·exact lk h st' hm
  ·cases h
 | (.jmp j,s1)::outs,r,h,st',hm=>by
  simp only [jc] at h;split at h
  ·rename_i l hl;rcases aS.1 hm with hm | hm
   ·cases hm
   ·exact lk hl st' hm
  ·cases h
theorem lm{lo:Nat}{Fs:List (St × List (Lin × Lin))}{os0:List (Lin × Lin)}{j:Jump}:∀{outs r:bV},jc lo Fs os0 outs=some r→∀st',(Ex.jmp j,st')∈outs→(Ex.jmp j,upg st')∈r
 | [],r,h,st',hm=>by cases hm
 | (.nor,s1)::outs,r,h,st',hm=>by
  simp only [jc] at h;split at h
  ·rcases aS.1 hm with hm | hm
   ·cases hm
   ·exact lm h st' hm
  ·cases h
 | (.jmp j',s1)::outs,r,h,st',hm=>by
  simp only [jc] at h;split at h
  ·rename_i l hl;simp only [sI] at h; subst h;rcases aS.1 hm with hm | hm
   ·cases hm; exact mS
   ·exact mC _ (lm hl st' hm)
  ·cases h
theorem rH{lo:Nat}{os:List (Lin × Lin)}{st:St}:∀{Fs:List (St × List (Lin × Lin))},mu lo os st Fs=true→∃F,F∈Fs∧jh lo F.1.n st.n (fH lo F.1.n 0 st st.env F.1)=true∧(∃rest,nb st (fH lo F.1.n 0 st st.env F.1) st.env F.1=some rest)∧limM st.fa (F.2.map (qNI (fH lo F.1.n 0 st st.env F.1))) os=true
 | [],h=>by cases h
 | (P,ns)::r,h=>by
  simp only [mu,bU,aT,kZ] at h;rcases h with ⟨⟨h1,h2⟩,h3⟩ | h
  ·exact ⟨(P,ns),mS,h1,h2,h3⟩
  ·obtain ⟨F,hF,h'⟩:=rH h;exact ⟨F,mC _ hF,h'⟩
theorem tB{lo:Nat}{st:St}:∀{Fs:List (St × List (Lin × Lin))},uX lo st Fs=true→∃F,F∈Fs∧jh lo F.1.n st.n (fH lo F.1.n 0 st st.env F.1)=true∧∃rest,nb st (fH lo F.1.n 0 st st.env F.1) st.env F.1=some rest
 | [],h=>by cases h
 | (P,ns)::r,h=>by
  simp only [uX,bU,aT,kZ] at h;rcases h with ⟨h1,h2⟩ | h
  ·exact ⟨(P,ns),mS,h1,h2⟩
  ·obtain ⟨F,hF,h'⟩:=tB h;exact ⟨F,mC _ hF,h'⟩
theorem qe{lo:Nat}:∀{Fs:List (St × List (Lin × Lin))},pP lo Fs=true→∀F,F∈Fs→kO F.1=true∧lo≤F.1.n∧clM F.1.n F.2=true
 | [],h,F,hF=>by cases hF
 | (P,ns)::r,h,F,hF=>by
  simp only [pP,aT,dT] at h;rcases aS.1 hF with rfl | hF
  ·exact ⟨h.1.1.1,h.1.1.2,h.1.2⟩
  ·exact qe h.2 F hF
theorem qa(s:Sat X v st env h){lo:Nat}{P:St}{θ:Sub}{as:List AV}{rest:List BE}(so:SubOK lo P.n st.n θ)(hlo:0 < lo)(hP:0 < P.n)(hm:nb st θ as P=some rest)(hc:kO P=true){fs:List Fact}(hfs:∀w,Agr lo v w→∀f,f∈fs→FOK w f)(hl:lo≤P.n) :
  Agr lo v (v.comp θ)∧Sat X (v.comp θ) { P with fa:=P.fa++fs } (aF v as) h:=by
 have s0:=s.now;have m:=pJ s0 hm;have hz:0 < θ.lo:=by rw [so.elo]; exact hlo
 have s1:=m.sat0 s0 hz (so.i 0 (.inl hlo));exact ⟨so.agr v,Sat.ofClosed hc hP s1 (fun w hw f hf=>hfs w ((so.agr v).trans hw hl) f hf)⟩
end
end
end Ce.S
namespace Ce.S
noncomputable section
open Go
section
variable {tbl:Nat→Option IF} {X:Cx} {v:V} {st:St} {env:List CV} {h:H}
theorem gu(w:V):∀(ps:List Nat) (env vs e:List AV),jv env ps vs=some e→gv (aF w env) ps (aF w vs)=some (aF w e)
 | [],env,[],e,h=>by simp only [jv,sI] at h; subst h; rfl
 | p::ps,env,a::vs,e,h=>by
  simp only [jv] at h;have:=gu w ps (po env p a) vs e h;rw [←jw] at this;simp only [aF,gv];exact this
 | [],env,a::vs,e,h=>by simp [jv] at h
 | p::ps,env,[],e,h=>by simp [jv] at h
theorem qZ{b t:Nat}{bl:List BE}{s:Nat}{J:List Jump}(hr:co b t bl=some (s,J)):ai b bl=some (.loop b t s J):=by
 unfold co at hr;split at hr
 ·rename_i b' t' s' J' hl;split at hr
  ·rename_i ht; subst ht;simp only [sI,pI] at hr;obtain ⟨rfl,rfl⟩:=hr;have:=(lookB_mem hl).2;simp only [dF] at this; subst this;exact hl
  ·cases hr
 ·cases hr
theorem fp(s:Sat X v st env h){l t ls:Nat}{J:List Jump}(hr:co l t st.bl=some (ls,J))(hl:l < st.n)(hls:ls < st.n):∃pend,h.get (v.b l)=some (.loop (lst? t) pend (v.l ls).env (v.l ls).ps (v.l ls).a (v.l ls).b)∧(t=0→pend=none)∧(t=1→pend≠none)∧(∀j,pend=some j→j∈J) ∧
  ∀(t':Nat) (pend':Option Jump),(t'=0→pend'=none)→(t'=1→pend'≠none)→(∀j,pend'=some j→j∈J)→Sat X v (lD l t' ls J st) env (h.put (v.b l) (.loop (lst? t') pend' (v.l ls).env (v.l ls).ps (v.l ls).a (v.l ls).b)):=by
 have hb:=qZ hr;obtain ⟨pend,hg,p1,p2,p3⟩:=(s.now.blk hb).1;refine ⟨pend,hg,p1,p2,p3,fun t' pend' q1 q2 q3=>⟨s.pos,fun u hu=>?_⟩⟩;have su:=s.all u hu;have e1:=(hu l hl).2.2.1;have e2:=(hu ls hls).2.2.2;have:=su.put hb (q:=.loop l t' ls J) (blk:=.loop (lst? t') pend' (v.l ls).env (v.l ls).ps (v.l ls).a (v.l ls).b) rfl rfl ⟨pend',by rw [get_put,aH rfl,e2],q1,q2,q3⟩;rw [←e1] at this;exact this
theorem w5(s:Sat X v st env h){l t ls:Nat}{J:List Jump}(hr:co l t st.bl=some (ls,J))(hl:l < st.n)(blk:Blk):Sat X v (iC l st) env (h.put (v.b l) blk):=by
 have hb:=qZ hr;refine ⟨s.pos,fun u hu=>?_⟩;have su:=s.all u hu;have e1:=(hu l hl).2.2.1;obtain ⟨_,l1,l2,hbl,hm⟩:=dx hb;have:=su.upd (l1:=l1) (P:=[.loop l t ls J]) (P':=[]) (l2:=l2) (h':=h.put (v.b l) blk) hbl (aV _) (fun j _ hj=>by
  rw [get_put,aC];rintro rfl;exact hj (by simp [adr,e1])) (fun q hq=>by cases hq) (by simp) (fun a ha=>by simp at ha)
 rw [←hm] at this;exact this
theorem lS{lb ls:Nat}{J:List Jump}{lo:Nat}{posts:List (AV × St)}:∀{outs:bV},km lb ls J lo posts outs=true→∀ex s,(ex,s)∈outs→co lb 2 s.bl=some (ls,J)∧(match ex with
  | .nor=>gT lo (lD lb 0 ls J s) (.bool true) posts=true
  | .jmp j=>j∈J∧gT lo (lD lb 1 ls J s) (.bool false) posts=true)
 | [],_,ex,s,hm=>by cases hm
 | (.nor,s1)::r,h,ex,s,hm=>by
  simp only [km,aT,aZ] at h;rcases aS.1 hm with hm | hm
  ·cases hm; exact ⟨h.1.1,h.1.2⟩
  ·exact lS h.2 ex s hm
 | (.jmp j,s1)::r,h,ex,s,hm=>by
  simp only [km,aT,aZ,List.contains_iff_mem] at h;rcases aS.1 hm with hm | hm
  ·cases hm; exact ⟨h.1.1.1,h.1.1.2,h.1.2⟩
  ·exact lS h.2 ex s hm
theorem lR{lb ls:Nat}{J:List Jump}{env:List AV}:∀{outs:List (AV × St)} {r:bV},pD lb ls J env outs=some r→∀o,o∈outs→(co lb 0 o.2.bl=some (ls,J)∧(Ex.nor,{ iC lb o.2 with env:=env })∈r)∨(co lb 1 o.2.bl=some (ls,J)∧∀j,j∈J→(Ex.jmp j,{ iC lb o.2 with env:=env })∈r)
 | [],r,h,o,ho=>by cases ho
 | (a,s)::outs,r,h,o,ho=>by
  simp only [pD] at h;split at h
  ·cases h
  ·rename_i l hl;split at h
   ·rename_i h0;simp only [sI] at h; subst h;rcases aS.1 ho with rfl | ho
    ·exact .inl ⟨by simpa using h0,mS⟩
    ·rcases lR hl o ho with ⟨h1,h2⟩ | ⟨h1,h2⟩
     ·exact .inl ⟨h1,mC _ h2⟩
     ·exact .inr ⟨h1,fun j hj=>mC _ (h2 j hj)⟩
   ·split at h
    ·rename_i h1;simp only [sI] at h; subst h;rcases aS.1 ho with rfl | ho
     ·exact .inr ⟨by simpa using h1,fun j hj=>ig _ (cI.2 ⟨j,hj,rfl⟩)⟩
     ·rcases lR hl o ho with ⟨h1,h2⟩ | ⟨h1,h2⟩
      ·exact .inl ⟨h1,fF _ h2⟩
      ·exact .inr ⟨h1,fun j hj=>fF _ (h2 j hj)⟩
    ·cases h
theorem q8{ls:Nat}{env:List AV}:∀{outs:List (AV × St)} {r:bV},pM ls env outs=some r→∀o,o∈outs→(∃J,co ls 0 o.2.bl=some (ls,J)∧(Ex.nor,({ iC ls o.2 with env:=env }:St))∈r)∨(∃J,co ls 1 o.2.bl=some (ls,J)∧∀j,j∈J→(Ex.jmp j,({ iC ls o.2 with env:=env }:St))∈r)
 | [],r,_,o,ho=>by cases ho
 | (a,st)::outs,r,h,o,ho=>by
  simp only [pM] at h;split at h<;>(try (cases h; done));rename_i l hl;have rest:∀o,o∈outs→(∃J,co ls 0 o.2.bl=some (ls,J)∧(Ex.nor,({ iC ls o.2 with env:=env }:St))∈l)∨(∃J,co ls 1 o.2.bl=some (ls,J)∧∀j,j∈J→(Ex.jmp j,({ iC ls o.2 with env:=env }:St))∈l):=fun o ho=>q8 hl o ho
  have up:∀{q:bV},(∀x,x∈l→x∈q)→∀o,o∈outs→(∃J,co ls 0 o.2.bl=some (ls,J)∧(Ex.nor,({ iC ls o.2 with env:=env }:St))∈q)∨(∃J,co ls 1 o.2.bl=some (ls,J)∧∀j,j∈J→(Ex.jmp j,({ iC ls o.2 with env:=env }:St))∈q):=fun hq o ho=>by
   rcases rest o ho with ⟨J,h1,h2⟩ | ⟨J,h1,h2⟩
   ·exact .inl ⟨J,h1,hq _ h2⟩
   ·exact .inr ⟨J,h1,fun j hj=>hq _ (h2 j hj)⟩
  split at h<;>(try (cases h; done))
  ·rename_i b s J hlk;split at h<;>(try (cases h; done));rename_i hs;subst hs;simp only [sI] at h; subst h;rcases aS.1 ho with rfl | ho
   ·exact .inl ⟨J,by simp only [co,hlk,ac],mS⟩
   ·exact up (fun x hx=>mC _ hx) o ho
  ·rename_i b s J hlk;split at h<;>(try (cases h; done));rename_i hs;subst hs;simp only [sI] at h; subst h;rcases aS.1 ho with rfl | ho
   ·exact .inr ⟨J,by simp only [co,hlk,ac],fun j hj=>ig _ (cI.2 ⟨j,hj,rfl⟩)⟩
   ·exact up (fun x hx=>fF _ hx) o ho
theorem vD(s:Sat X v st env h){l t ls:Nat}{J:List Jump}(hr:co l t st.bl=some (ls,J))(hl:l < st.n)(hls:ls < st.n)(t':Nat)(pend':Option Jump)(J':List Jump)(q1:t'=0→pend'=none)(q2:t'=1→pend'≠none)(q3:∀j,pend'=some j→j∈J') :
  Sat X v (lD l t' ls J' st) env (h.put (v.b l) (.loop (lst? t') pend' (v.l ls).env (v.l ls).ps (v.l ls).a (v.l ls).b)):=by
 have hb:=qZ hr;refine ⟨s.pos,fun u hu=>?_⟩;have su:=s.all u hu;have e1:=(hu l hl).2.2.1;have e2:=(hu ls hls).2.2.2;have:=su.put hb (q:=.loop l t' ls J') (blk:=.loop (lst? t') pend' (v.l ls).env (v.l ls).ps (v.l ls).a (v.l ls).b) rfl rfl ⟨pend',by rw [get_put,aH rfl,e2],q1,q2,q3⟩;rw [←e1] at this;exact this
theorem qCI{c:IC}{Γ:List Con}{body:St→Hs→Option (bV × Hs)}(hb:∀(st:St) (hs hs':Hs) (outs:bV),body st hs=some (outs,hs')→∀(v:V) (env:List CV) (h:H),Sat X v st env h→GOK tbl v st.n Γ→Wc tbl c env h (CQ X v st outs)) :
  ∀(n:Nat) (st:St) (hs hs':Hs) (outs:bV),ov body n st hs=some (outs,hs')→∀(v:V) (env:List CV) (h:H),Sat X v st env h→GOK tbl v st.n Γ→Wc tbl (.loop c) env h (CQ X v st outs):=by
 intro n
 induction n with
 | zero=>intro st hs hs' outs ho; cases ho
 | succ n ih =>
  intro st hs hs' outs ho v env h s g;simp only [ov] at ho;split at ho
  ·rename_i outs1 hs1 h1;refine xR ((hb st hs hs1 outs1 h1 v env h s g).mono ?_);rintro ex e h' ⟨st',hm,w,hw,hn,sat⟩;obtain ⟨k1,k2,r,hr,hsub⟩:=dU ho (ex,st') hm;cases ex with
   | nor =>
    have:=ih st' k1 k2 r hr w e h' sat (g.mono hw hn);exact this.mono (fun x e h'' q=>q.up hw hn hsub)
   | jmp j =>
    simp only [sI,pI] at hr;obtain ⟨rfl,_⟩:=hr;exact ⟨st',hsub _ mS,w,hw,hn,sat⟩
  ·cases ho
theorem eR{w:V}{st':St}{e env':List CV}(s:Sat X w st' e h){as:List AV}(he:∀u,Agr st'.n w u→env'=aF u as):Sat X w { st' with env:=as } env' h :=
 ⟨s.pos,fun u hu=>let a:=s.all u hu; ⟨a.z,he u hu,a.fa,a.bl,a.nd,a.lt,a.hn,a.fr⟩⟩
theorem vu{c:IC}{Γ:List Con}{body:St→Hs→Option (bV × Hs)}(hb:∀(st:St) (hs hs':Hs) (outs:bV),body st hs=some (outs,hs')→∀(v:V) (env:List CV) (h:H),Sat X v st env h→GOK tbl v st.n Γ→Wc tbl c env h (CQ X v st outs)) :
  ∀(n:Nat) (st:St) (hs hs':Hs) (outs:bV),qAG body n st hs=some (outs,hs')→∀(v:V) (env:List CV) (h:H),Sat X v st env h→GOK tbl v st.n Γ→Wc tbl (.loop c) env h (CQ X v st outs):=by
 intro n st hs hs' outs ho v env h s g;unfold qAG at ho
 dsimp (config:={ zeta:=true }) only at ho
 split at ho
 ·exact qCI hb n st _ hs' outs ho v env h s g
 ·rename_i P ma mb hs1;split at ho
  ·rename_i hc;simp only [aT,dT,kZ] at hc;obtain ⟨⟨⟨⟨⟨c1,c2⟩,c3⟩,rest,c4⟩,c5⟩,c6⟩:=hc;split at ho
   ·rename_i outs1 hs2 hbody;split at ho
    ·rename_i r hbk;simp only [sI,pI] at ho;obtain ⟨rfl,_⟩:=ho;have hPn:0 < P.n:=dD s.pos c3;have so:=gr c1;have hfs:∀(w:V),Agr st.n v w→∀f,f∈st.fa→FOK w f:=fun w hw f hf=>(s.all w hw).fa f hf
     obtain ⟨ag0,s1⟩:=qa s so s.pos hPn c4 c2 hfs c3;rw [←s.now.env] at s1;refine jf (I:=fun m e h'=>∃W,Agr st.n v W∧Sat X W { P with fa:=P.fa++st.fa } e h'∧(ma.ev W - mb.ev W).toNat=m) _ ⟨_,ag0,s1,rfl⟩ ?_;rintro m e h' ⟨W,hW,sW,rfl⟩;have gW:GOK tbl W P.n Γ:=g.mono hW c3;refine (hb { P with fa:=P.fa++st.fa } hs1 hs2 outs1 hbody W e h' sW gW).mono ?_;rintro ex e2 h2 ⟨st2,hm2,w2,hw2,hn2,sat2⟩;cases ex with
     | jmp j =>
      exact ⟨upg st2,oL hbk st2 hm2,w2,hW.trans hw2 c3,cz c3 hn2,qGG sat2⟩
     | nor =>
      have hbk2:=oK hbk st2 hm2;unfold yj at hbk2
      dsimp only at hbk2
      generalize hθ:fH st.n P.n 0 st2 st2.env P=θ at hbk2;simp only [aT,kZ] at hbk2;obtain ⟨⟨b1,rest2,b2⟩,b3⟩:=hbk2;have so2:=gr b1;have hfs2:∀(w:V),Agr st.n w2 w→∀f,f∈st.fa→FOK w f:=fun w hw f hf=>(s.all w ((hW.trans hw2 c3).trans hw (aV _))).fa f hf
      obtain ⟨ag2,s2⟩:=qa sat2 so2 s.pos hPn b2 c2 hfs2 c3;rw [←sat2.now.env] at s2;have hl:=sX sat2.now.fa b3 ma mb rfl;rw [bG,bG] at hl;have e1:ma.ev w2=ma.ev W:=(Lin.agr hw2 c5).symm;have e3:mb.ev w2=mb.ev W:=(Lin.agr hw2 c6).symm;exact ⟨_,by omega,w2.comp θ,(hW.trans hw2 c3).trans ag2 (aV _),s2,rfl⟩
    ·cases ho
   ·cases ho
  ·cases ho
 ·rename_i Fs hs1;split at ho
  ·rename_i hc;simp only [aT] at hc;have hfo:=qe hc.1;obtain ⟨F0,hF0,c1,rest,c4⟩:=tB hc.2;have hfs:∀(w:V),Agr st.n v w→∀f,f∈st.fa→FOK w f:=fun w hw f hf=>(s.all w hw).fa f hf
   have hpos:∀F,F∈Fs→0 < F.1.n:=fun F hF=>dD s.pos (hfo F hF).2.1
   have so:=gr c1;obtain ⟨ag0,s1⟩:=qa s so s.pos (hpos F0 hF0) c4 (hfo F0 hF0).1 hfs (hfo F0 hF0).2.1;rw [←s.now.env] at s1;refine jf (I:=fun m e h'=>∃F,F∈Fs∧∃W,Agr st.n v W∧Sat X W { F.1 with fa:=F.1.fa++st.fa } e h'∧mX W F.2=m) _ ⟨F0,hF0,_,ag0,s1,rfl⟩ ?_;rintro m e h' ⟨F,hF,W,hW,sW,rfl⟩;obtain ⟨f1,f2,f3⟩:=hfo F hF;have gW:GOK tbl W F.1.n Γ:=g.mono hW f2;obtain ⟨k1,k2,r,hr,hsub⟩:=dU ho F hF;split at hr
   ·rename_i outs1 hs2 hbody;split at hr
    ·rename_i r' hbk;simp only [sI,pI] at hr;obtain ⟨rfl,_⟩:=hr;refine (hb { F.1 with fa:=F.1.fa++st.fa } k1 hs2 outs1 hbody W e h' sW gW).mono ?_;rintro ex e2 h2 ⟨st2,hm2,w2,hw2,hn2,sat2⟩;have hw2':Agr F.1.n W w2:=hw2;have hn2':F.1.n≤st2.n:=hn2;cases ex with
     | jmp j =>
      exact ⟨upg st2,hsub _ (lm hbk st2 hm2),w2,hW.trans hw2' f2,cz f2 hn2',qGG sat2⟩
     | nor =>
      obtain ⟨G,hG,b1,⟨rest2,b2⟩,b3⟩:=rH (lk hbk st2 hm2);generalize hθ:fH st.n G.1.n 0 st2 st2.env G.1=θ at b1 b2 b3;obtain ⟨g1,g2,g3⟩:=hfo G hG;have so2:=gr b1;have hfs2:∀(w:V),Agr st.n w2 w→∀f,f∈st.fa→FOK w f:=fun w hw f hf=>(s.all w ((hW.trans hw2' f2).trans hw (aV _))).fa f hf
      obtain ⟨ag2,s2⟩:=qa sat2 so2 s.pos (hpos G hG) b2 g1 hfs2 g2;rw [←sat2.now.env] at s2;simp only [limM,aT] at b3;have hl:=qAK sat2.now.fa b3.1 b3.2;rw [vl,←vm hw2' f3] at hl;exact ⟨_,hl,G,hG,w2.comp θ,(hW.trans hw2' f2).trans ag2 (aV _),s2,rfl⟩
    ·cases hr
   ·cases hr
  ·cases ho
 ·cases ho
theorem tt{w:V}{fa:List Fact}(hf:∀f,f∈fa→FOK w f):∀{xs ys:List Lin} {k:Int},qCW fa xs ys=some k→fG w ys+k≤fG w xs
 | [],[],k,h=>by
  simp only [qCW,sI] at h; subst h; exact Int.le_refl _
 | [],_::_,k,h=>by cases h
 | _::_,[],k,h=>by cases h
 | x::xs,y::ys,k,h=>by
  simp only [qCW] at h;split at h
  ·rename_i k0 hk;have h0:=tt hf hk;split at h
   ·rename_i hl;simp only [sI] at h; subst h;have:=aE hf hl;simp only [fG]; omega
   ·split at h
    ·rename_i hl;simp only [sI] at h; subst h;have:=aE hf hl;simp only [fG]; omega
    ·cases h
  ·cases h
theorem rx{w:V}{fa:List Fact}(hf:∀f,f∈fa→FOK w f){t:Nat}{U D:List Lin}(ht:w.i t=fG w U - fG w D):∀{l:List Fact},(∀f,f∈l→FOK w f)→∀f,f∈th fa t U D l→FOK w f
 | [],_,f,h=>by cases h
 | g::l,hl,f,h=>by
  simp only [th,bP] at h;rcases h with h | h
  ·have h0:=hl g mS;cases g<;>simp only [qZX] at h<;>(try (cases h; done));rename_i t0 U0 D0;split at h
   ·rename_i a b ha hb;simp only [cM] at h; subst h;have h1:=tt hf ha;have h2:=tt hf hb;simp only [FOK] at h0 ⊢;omega
   ·cases h
  ·exact rx hf ht (fun f hm=>hl f (mC _ hm)) f h
theorem uO{w:V}(z:w.i 0=0){fa:List Fact}(hf:∀f,f∈fa→FOK w f):∀{ls:List Lin},qJU fa ls=true→fG w ls≤ls.length*9223372036854775808∧-(ls.length*9223372036854775808)≤fG w ls
 | [],_=>by simp [fG]
 | l::ls,h=>by
  simp only [qJU,inI,aT] at h;have h1:=aE hf h.1.1;have h2:=aE hf h.1.2;have h3:=uO z hf h.2;simp only [Lin.ev,z] at h1 h2;simp only [fG,Lin.ev,eZ];omega
theorem xN(s:Sat X v st env h)(b:Nat)(us ds:List Nat):∃w,Agr st.n v w∧st.n≤(xO b us ds st).n∧Sat X w (xO b us ds st) env h:=by
 have triv:∃w,Agr st.n v w∧st.n≤st.n∧Sat X w st env h:=⟨v,Agr.refl _ _,aV _,s⟩;unfold xO;split
 ·split
  ·rename_i U D hU hD;split
   ·rename_i hc;simp only [aT] at hc;obtain ⟨⟨⟨c1,c2⟩,c3⟩,c4⟩:=hc;refine ⟨upI v st.n (fG v U - fG v D),bg _ _ _ _ _ _,dZ _,?_⟩;refine s.ext (w:=upI v st.n (fG v U - fG v D)) (n':=st.n+1) (dZ _) (bg _ _ _ _ _ _) (fun u hu f hm=>?_);obtain ⟨ha,hi,_⟩:=bQ hu;have su:=s.all u ha;have e1:=qx ha c3;have e2:=qx ha c4;have ht:u.i st.n=fG u U - fG u D:=by rw [hi,e1,e2]
    have b1:=uO su.z su.fa c1;have b2:=uO su.z su.fa c2;simp only [aS] at hm;rcases hm with rfl | rfl | hm
    ·exact ht
    ·simp only [FOK,su.z,ht];omega
    ·exact rx su.fa ht su.fa f hm
   ·exact triv
  ·exact triv
 ·exact triv
theorem vt{c:IC}{Γ:List Con}{body:St→Hs→Option (bV × Hs)}(hb:∀(st:St) (hs hs':Hs) (outs:bV),body st hs=some (outs,hs')→∀(v:V) (env:List CV) (h:H),Sat X v st env h→GOK tbl v st.n Γ→Wc tbl c env h (CQ X v st outs)) :
  ∀(n:Nat) (st:St) (hs hs':Hs) (outs:bV),qAF body n st hs=some (outs,hs')→∀(v:V) (env:List CV) (h:H),Sat X v st env h→GOK tbl v st.n Γ→Wc tbl (.loop c) env h (CQ X v st outs):=by
 intro n st hs hs' outs ho v env h s g;unfold qAF at ho;split at ho
 ·rename_i b us ds hs1;obtain ⟨w,hw,hn,sw⟩:=xN s b us ds;refine (vu (Γ:=Γ) (fun st1 k1 k2 o1 h1 v1 e1 m1 s1 g1=>?_) n _ hs1 hs' outs ho w env h sw (g.mono hw hn)).mono (fun ex e h' q=>q.up hw hn (fun x hx=>hx));split at h1
  ·rename_i o2 k3 h2;simp only [sI,pI] at h1;obtain ⟨rfl,_⟩:=h1;refine (hb st1 k1 k3 o2 h2 v1 e1 m1 s1 g1).mono ?_;rintro ex e2 h3 ⟨st2,hm2,w2,hw2,hn2,sat2⟩;cases ex with
   | jmp j=>exact ⟨st2,cI.2 ⟨_,hm2,rfl⟩,w2,hw2,hn2,sat2⟩
   | nor =>
    obtain ⟨w3,hw3,hn3,sat3⟩:=xN sat2 b us ds;exact ⟨_,cI.2 ⟨_,hm2,rfl⟩,w3,hw2.trans hw3 hn2,cz hn2 hn3,sat3⟩
  ·cases h1
 ·exact vu hb n st hs hs' outs ho v env h s g
theorem qJ7{c:IC}{Γ:List Con}{body:St→Hs→Option (bV × Hs)}(hb:∀(st:St) (hs hs':Hs) (outs:bV),body st hs=some (outs,hs')→∀(v:V) (env:List CV) (h:H),Sat X v st env h→GOK tbl v st.n Γ→Wc tbl c env h (CQ X v st outs)) :
  ∀(n:Nat) (st:St) (hs hs':Hs) (outs:bV),qJ8 body n st hs=some (outs,hs')→∀(v:V) (env:List CV) (h:H),Sat X v st env h→GOK tbl v st.n Γ→Wc tbl (.loop c) env h (CQ X v st outs):=by
 intro n st hs hs' outs ho v env h s g;unfold qJ8 at ho;split at ho
 ·rename_i hs0;split at ho
  ·rename_i outs1 hs1 h1;refine xR ((hb st hs0 hs1 outs1 h1 v env h s g).mono ?_);rintro ex e h' ⟨st',hm,w,hw,hn,sat⟩;obtain ⟨k1,k2,r,hr,hsub⟩:=dU ho (ex,st') hm;cases ex with
   | nor =>
    have:=vt hb n st' k1 k2 r hr w e h' sat (g.mono hw hn);exact this.mono (fun x e h'' q=>q.up hw hn hsub)
   | jmp j =>
    simp only [sI,pI] at hr;obtain ⟨rfl,_⟩:=hr;exact ⟨st',hsub _ mS,w,hw,hn,sat⟩
  ·cases ho
 ·exact vt hb n st hs hs' outs ho v env h s g
theorem qp{lo:Nat}{P:St}:∀{outs r:bV},uZ lo P outs=some r→∀st',(Ex.nor,st')∈outs→jh lo P.n st'.n (fH lo P.n 0 st' st'.env P)=true∧∃rest,nb st' (fH lo P.n 0 st' st'.env P) st'.env P=some rest
 | [],r,h,st',hm=>by cases hm
 | (.nor,s1)::outs,r,h,st',hm=>by
  simp only [uZ] at h;split at h
  ·rename_i hc;simp only [aT,kZ] at hc;rcases aS.1 hm with hm | hm
   ·cases hm; exact hc
   ·exact qp h st' hm
  ·cases h
 | (.jmp j,s1)::outs,r,h,st',hm=>by
  simp only [uZ] at h;split at h
  ·rename_i l hl;rcases aS.1 hm with hm | hm
   ·cases hm
   ·exact qp hl st' hm
  ·cases h
theorem qt{lo:Nat}{P:St}{j:Jump}:∀{outs r:bV},uZ lo P outs=some r→∀st',(Ex.jmp j,st')∈outs→(Ex.jmp j,st')∈r
 | [],r,h,st',hm=>by cases hm
 | (.nor,s1)::outs,r,h,st',hm=>by
  simp only [uZ] at h;split at h
  ·rcases aS.1 hm with hm | hm
   ·cases hm
   ·exact qt h st' hm
  ·cases h
 | (.jmp j',s1)::outs,r,h,st',hm=>by
  simp only [uZ] at h;split at h
  ·rename_i l hl;simp only [sI] at h; subst h;rcases aS.1 hm with hm | hm
   ·cases hm; exact mS
   ·exact mC _ (qt hl st' hm)
  ·cases h
theorem qY0{c:IC}{Γ:List Con}{body:St→Hs→Option (bV × Hs)}(hb:∀(st:St) (hs hs':Hs) (outs:bV),body st hs=some (outs,hs')→∀(v:V) (env:List CV) (h:H),Sat X v st env h→GOK tbl v st.n Γ→Wc tbl c env h (CQ X v st outs))
  (s:Sat X v st env h) (g:GOK tbl v st.n Γ) {outs1 outs:bV} {hs hs':Hs} (ho:cutS body st outs1 hs=some (outs,hs')) {ex:Ex} {e:List CV} {h':H} {st':St} {w:V} (hm:(ex,st')∈outs1) (hw:Agr st.n v w) (hn:st.n≤st'.n) (sat:Sat X w st' e h') :
  bn (CQ X v st outs) (fun e h=>Wc tbl c e h (CQ X v st outs)) ex e h':=by
 unfold cutS at ho;split at ho
 ·rename_i P hs1 _;split at ho
  ·rename_i hc;simp only [aT,dT] at hc;split at ho
   ·rename_i js hjs;split at ho
    ·rename_i o2 hs2 hbody;simp only [sI,pI] at ho;obtain ⟨rfl,_⟩:=ho;cases ex with
     | jmp j=>exact ⟨st',ig _ (qt hjs st' hm),w,hw,hn,sat⟩
     | nor =>
      obtain ⟨b1,rest,b2⟩:=qp hjs st' hm;have so:=gr b1;have hPn:0 < P.n:=dD s.pos hc.2;have hfs:∀(u:V),Agr st.n w u→∀f,f∈st.fa→FOK u f:=fun u hu f hf=>(s.all u (hw.trans hu (aV _))).fa f hf
      obtain ⟨ag,s2⟩:=qa sat so s.pos hPn b2 hc.1 hfs hc.2;rw [←sat.now.env] at s2;have hv:Agr st.n v (w.comp (fH st.n P.n 0 st' st'.env P)):=hw.trans ag (aV _);exact (hb { P with fa:=P.fa++st.fa } hs1 hs2 o2 hbody _ e h' s2 (g.mono hv hc.2)).mono (fun x e h'' q=>q.up hv hc.2 (fun y hy=>fF _ hy))
    ·cases ho
   ·cases ho
  ·cases ho
 ·obtain ⟨k1,k2,r,hr,hsub⟩:=dU ho (ex,st') hm;cases ex with
  | nor =>
   have:=hb st' k1 k2 r hr w e h' sat (g.mono hw hn);exact this.mono (fun x e h'' q=>q.up hw hn hsub)
  | jmp j =>
   simp only [sI,pI] at hr;obtain ⟨rfl,_⟩:=hr;exact ⟨st',hsub _ mS,w,hw,hn,sat⟩
theorem ze{callG:List Con→iN}(hcall:∀Γ,CallOK tbl Γ (callG Γ))(n:Nat):∀(c:IC) (X:Cx) (Γ:List Con) (st:St) (hs hs':Hs) (outs:bV),sC callG n c Γ st hs=some (outs,hs')→∀(v:V) (env:List CV) (h:H),Sat X v st env h→GOK tbl v st.n Γ→Wc tbl c env h (CQ X v st outs):=by
 intro c
 induction c with
 | skip =>
  intro X Γ st hs hs' outs ho v env h s g;simp only [sC,sI,pI] at ho;obtain ⟨rfl,_⟩:=ho;exact fT ⟨st,mS,v,Agr.refl _ _,aV _,s⟩
 | exit id =>
  intro X Γ st hs hs' outs ho v env h s g;simp only [sC,sI,pI] at ho;obtain ⟨rfl,_⟩:=ho;exact lB ⟨st,mS,v,Agr.refl _ _,aV _,s⟩
 | ret =>
  intro X Γ st hs hs' outs ho v env h s g;simp only [sC,sI,pI] at ho;obtain ⟨rfl,_⟩:=ho;exact rX ⟨st,mS,v,Agr.refl _ _,aV _,s⟩
 | ops l =>
  intro X Γ st hs hs' outs ho v env h s g;simp only [sC] at ho;split at ho
  ·rename_i outs1 hs1 h1;simp only [sI,pI] at ho;obtain ⟨rfl,_⟩:=ho;obtain ⟨k,e,h',hr,st',hm,w,hw,hn,sat⟩:=qPB (hcall Γ) l st hs hs1 outs1 h1 v env h s g;exact bE ⟨k,e,h',hr,st',cI.2 ⟨st',hm,rfl⟩,w,hw,hn,sat⟩
  ·cases ho
 | seq a b iha ihb =>
  intro X Γ st hs hs' outs ho v env h s g;simp only [sC] at ho;split at ho
  ·rename_i outs1 hs1 h1;refine am ((iha X Γ st hs hs1 outs1 h1 v env h s g).mono ?_);rintro ex e h' ⟨st',hm,w,hw,hn,sat⟩;exact qY0 (fun st hs hs' outs ho v env h s g=>ihb X Γ st hs hs' outs ho v env h s g) s g ho hm hw hn sat
  ·cases ho
 | cond x a b iha ihb =>
  intro X Γ st hs hs' outs ho v env h s g;simp only [sC] at ho;split at ho
  ·rename_i t;split at ho
   ·rename_i T F hc;split at ho
    ·rename_i r1 hs1 hm1;split at ho
     ·rename_i r2 hs2 hm2;simp only [sI,pI] at ho;obtain ⟨rfl,_⟩:=ho;obtain ⟨bb,hbb,st',hst',s',hn'⟩:=w9 s hc;have g':GOK tbl v st'.n Γ:=by rw [hn']; exact g
      refine eu bb hbb (fun hb=>?_) (fun hb=>?_)
      ·subst hb;obtain ⟨k1,k2,r,hr,hsub⟩:=dU hm1 st' (by simpa using hst');exact (iha X Γ st' k1 k2 r hr v env h s' g').mono (fun x e h'' q=>q.up (Agr.refl _ _) (by omega) (fun y hy=>ig _ (hsub y hy)))
      ·subst hb;obtain ⟨k1,k2,r,hr,hsub⟩:=dU hm2 st' (by simpa using hst');exact (ihb X Γ st' k1 k2 r hr v env h s' g').mono (fun x e h'' q=>q.up (Agr.refl _ _) (by omega) (fun y hy=>fF _ (hsub y hy)))
     ·cases ho
    ·cases ho
   ·cases ho
  ·exact eu true rfl (fun _=>iha X Γ st hs hs' outs ho v env h s g) (fun hb=>by cases hb)
  ·exact eu false rfl (fun hb=>by cases hb) (fun _=>ihb X Γ st hs hs' outs ho v env h s g)
  ·cases ho
 | block id c ih =>
  intro X Γ st hs hs' outs ho v env h s g;simp only [sC] at ho;split at ho
  ·rename_i outs1 hs1 h1;simp only [sI,pI] at ho;obtain ⟨rfl,_⟩:=ho;refine eP ((ih X Γ st hs hs1 outs1 h1 v env h s g).mono ?_);rintro ex e h' ⟨st',hm,w,hw,hn,sat⟩;have hmap:=List.mem_map_of_mem (f:=fun x:Ex × St=>match x with
    | (.jmp (.exit i),st)=>if i=id then (Ex.nor,st) else (.jmp (.exit i),st)
    | x=>x) hm
   match ex,hmap with
   | .nor,hmap=>exact ⟨st',hmap,w,hw,hn,sat⟩
   | .jmp .ret,hmap=>exact ⟨st',hmap,w,hw,hn,sat⟩
   | .jmp (.exit i),hmap =>
    simp only [iw]
    dsimp only at hmap
    by_cases hi:i=id
    ·rw [aH hi] at hmap ⊢; exact ⟨st',hmap,w,hw,hn,sat⟩
    ·rw [aC hi] at hmap ⊢; exact ⟨st',hmap,w,hw,hn,sat⟩
  ·cases ho
 | loop c ih =>
  intro X Γ st hs hs' outs ho v env h s g;simp only [sC] at ho;exact qJ7 (fun st hs hs' outs hb v env h s g=>ih X Γ st hs hs' outs hb v env h s g) n st hs hs' outs ho v env h s g
 | rangeF f ps a b iha ihb =>
  intro X Γ st hs hs' outs ho v env h s g;simp only [sC] at ho;split at ho<;>(try (cases ho; done))
  rotate_left
  ·rename_i fn x y hs1 hf;split at ho
   ·rename_i outs1 hs2 hF;split at ho
    ·rename_i r hr;simp only [sI,pI] at ho;obtain ⟨rfl,_⟩:=ho;have s0:=s.now
     let v1:V:=v.up st.n (v.i st.n) (v.c st.n) h.n ⟨env,ps,a,b⟩
     have hv1:Agr st.n v v1:=bg _ _ _ _ _ _;have at1:∀u,Agr (st.n+1) v1 u→Agr st.n v u∧u.b st.n=h.n∧u.l st.n=⟨env,ps,a,b⟩:=fun u hu=>by
      obtain ⟨x1,_,_,x4,x5⟩:=bQ hu;exact ⟨x1,x4,x5⟩
     have s1:Sat X v1 { st with n:=st.n+1,fa:=.lc st.n st.env ps a b::st.fa,bl:=.loop st.n 0 st.n []::st.bl } env (h.push (.loop .ready none env ps a b)):=by
      refine ⟨Nat.succ_pos _,fun u hu=>?_⟩;obtain ⟨x1,x2,x3⟩:=at1 u hu;have:=((s.all u x1).wk (st.n+1) [.lc st.n st.env ps a b] (fun f hf=>by
       simp only [cM] at hf; subst hf;simp only [FOK];rw [x3,←(s.all u x1).env])).push (q:=.loop st.n 0 st.n []) (blk:=.loop .ready none env ps a b) (by simp only [adr,x2]) ⟨none,by rw [x2,x3,eM,aH rfl]; rfl,fun _=>rfl,(fun h=>by cases h),(fun j h=>by cases h)⟩
      exact this
     have hclo:∀u,Agr (st.n+1) v1 u→f.ev env=.clo fn (aF u x) (aF u y):=fun u hu=>(s.all u (at1 u hu).1).op hf
     have hrob:∀u,Agr (st.n+1) v1 u→aF u (x++[.yld st.n]++y)=aF v1 (x++[.yld st.n]++y)∧tgT u (.fn fn)=tgT v1 (.fn fn):=fun u hu=>by
      have e1:=hclo u hu;rw [hclo v1 (Agr.refl _ _)] at e1;simp only [CV.clo.injEq,cQ] at e1;refine ⟨?_,rfl⟩;simp only [cX,e1.1,e1.2,aF,den,(at1 u hu).2.1,(at1 v1 (Agr.refl _ _)).2.1]
     have hw:=hcall Γ (.fn fn) (x++[.yld st.n]++y) _ _ outs1 hs2 hF X v1 env _ s1 (g.mono hv1 (dZ _)) hrob;refine tW (hclo v1 (Agr.refl _ _)) ?_;have hargs:aF v1 (x++[.yld st.n]++y)=aF v1 x++[CV.yld h.n]++aF v1 y:=by
      simp only [cX,aF,den,(at1 v1 (Agr.refl _ _)).2.1]
     rw [hargs] at hw;refine hw.mono ?_;rintro rv h1 ⟨o,ho,w,hw1,hn1,henv,sat,_⟩
     dsimp only at hn1 henv
     have hln:st.n < o.2.n:=by omega
     have bw:w.b st.n=h.n:=by rw [←(hw1 st.n (gO _)).2.2.1]; exact (at1 v1 (Agr.refl _ _)).2.1
     have hvw:Agr st.n v w:=hv1.trans hw1 (dZ _);have fin:∀(t:Nat) (J:List Jump) (blk:Blk),co st.n t o.2.bl=some (st.n,J)→Sat X w { iC st.n o.2 with env:=st.env } env (h1.put h.n blk):=fun t J blk hrd=>by
      have:=w5 sat hrd hln blk;rw [bw] at this;exact eR this (fun u hu=>(s.all u (hvw.trans hu (by show st.n≤o.2.n; omega))).env)
     rcases q8 hr o ho with ⟨J,rd,hm⟩ | ⟨J,rd,hm⟩
     ·obtain ⟨pend,hg,p1,_,_,_⟩:=fp (ls:=st.n) sat rd hln hln;have hp:=p1 rfl;subst hp;rw [bw] at hg;exact ⟨_,none,_,_,_,_,hg,(fun h=>by cases h),_,hm,w,hvw,by show st.n≤o.2.n; omega,fin 0 J _ rd⟩
     ·obtain ⟨pend,hg,_,p2,p3,_⟩:=fp (ls:=st.n) sat rd hln hln;rw [bw] at hg;cases pend with
      | none=>exact absurd rfl (p2 rfl)
      | some j=>exact ⟨_,some j,_,_,_,_,hg,(fun h=>by cases h),_,hm j (p3 j rfl),w,hvw,by show st.n≤o.2.n; omega,fin 1 J _ rd⟩
    ·cases ho
   ·cases ho
  rename_i fn x y J P posts hs1 hf;split at ho
  ·rename_i hc;simp only [aT,dT,aZ] at hc;obtain ⟨⟨c1,c2⟩,c3⟩:=hc;split at ho
   ·rename_i e he;split at ho
    ·rename_i outsA hsA hA;split at ho
     ·rename_i outsB hsB hB;split at ho
      ·rename_i hends;split at ho
       ·rename_i outs1 hs2 hF;split at ho
        ·rename_i r hr;simp only [sI,pI] at ho;obtain ⟨rfl,_⟩:=ho;have s0:=s.now
         let v1:V:=v.up st.n (v.i st.n) (v.c st.n) h.n ⟨env,ps,a,b⟩
         have hv1:Agr st.n v v1:=bg _ _ _ _ _ _;have at1:∀u,Agr (st.n+1) v1 u→Agr st.n v u∧u.b st.n=h.n∧u.l st.n=⟨env,ps,a,b⟩:=fun u hu=>by
          obtain ⟨x1,_,_,x4,x5⟩:=bQ hu;exact ⟨x1,x4,x5⟩
         have s1:Sat X v1 { st with n:=st.n+1,bl:=.loop st.n 0 st.n J::st.bl } env (h.push (.loop .ready none env ps a b)):=by
          refine ⟨Nat.succ_pos _,fun u hu=>?_⟩;obtain ⟨x1,x2,x3⟩:=at1 u hu;have:=((s.all u x1).wk' (st.n+1)).push (q:=.loop st.n 0 st.n J) (blk:=.loop .ready none env ps a b) (by simp only [adr,x2]) ⟨none,by rw [x2,x3,eM,aH rfl]; rfl,fun _=>rfl,(fun h=>by cases h),(fun j h=>by cases h)⟩;exact this
         have hY:GOK1 tbl v1 (st.n+1) (qCG st.n P posts):=by
          refine ⟨Nat.succ_pos _,aV _,fun _=>gO _,c1,(fun a b h=>by cases h),?_⟩;intro W args h1 hW sP _;obtain ⟨x1,x2,x3⟩:=at1 W hW;have hPn:0 < P.n:=by omega
          have sC1:Sat (FrX W P h1) W { P with fa:=P.fa++st.fa } args h1:=Sat.ofClosed c1 hPn sP (fun w hw f hf=>(s.all w (x1.trans hw (by omega))).fa f hf);have envs:∀u,Agr P.n W u→gv env ps args=some (aF u e):=fun u hu=>by
           have e1:=gu u ps st.env P.env e he;rw [←(s.all u (x1.trans hu (by omega))).env,←(sC1.all u hu).env] at e1;exact e1
          have eW:=envs W (Agr.refl _ _);have sE:Sat (FrX W P h1) W { P with env:=e,fa:=P.fa++st.fa } (aF W e) h1:=eR sC1 (fun u hu=>by have:=envs u hu; rw [eW,sI] at this; exact this);have hlP:st.n < P.n:=by omega
          obtain ⟨pend,hg,p1,_,_,_⟩:=fp (ls:=st.n) sE c3 hlP hlP;rw [x2,x3] at hg;have htg:tgt v1 (qCG st.n P posts)=.yl h.n:=by
           have:=(at1 v1 (Agr.refl _ _)).2.1;simp only [tgt,qCG,ac,this]
          rw [htg];refine zC1 hg eW ?_;have gW:GOK tbl W P.n Γ:=g.mono x1 (by omega);refine (iha (FrX W P h1) Γ { P with env:=e,fa:=P.fa++st.fa } hs1 hsA outsA hA W (aF W e) h1 sE gW).mono ?_;rintro ex e1 h2 ⟨st2,hm2,w2,hw2,hn2,sat2⟩;obtain ⟨k1,k2,rr,hrr,hsub⟩:=dU hB (ex,st2) hm2;cases ex with
          | jmp j=>cases hrr
          | nor =>
           dsimp only at hrr hn2
           split at hrr
           ·rename_i hrdy;simp only [aZ] at hrdy;have hl2:st.n < st2.n:=by omega
            obtain ⟨pend2,hg2,q1,_,_,put2⟩:=fp (ls:=st.n) sat2 hrdy hl2 hl2;have b2:w2.b st.n=h.n:=by rw [←(hw2 st.n hlP).2.2.1,x2]
            have l2:w2.l st.n=⟨env,ps,a,b⟩:=by rw [←(hw2 st.n hlP).2.2.2,x3]
            have hp2:pend2=none:=q1 rfl;subst hp2;have sB:=put2 2 none (fun h=>by cases h) (fun h=>by cases h) (fun j h=>by cases h);rw [b2,l2] at hg2 sB;refine ⟨rfl,none,env,ps,a,b,hg2,?_⟩;have g2:GOK tbl w2 st2.n Γ:=gW.mono hw2 hn2;refine (ihb (FrX W P h1) Γ (lD st.n 2 st.n J st2) k1 k2 rr hrr w2 e1 _ sB g2).mono ?_;rintro ex3 e3 h3 ⟨st3,hm3,w3,hw3,hn3,sat3⟩;obtain ⟨rd3,fit3⟩:=lS hends ex3 st3 (hsub _ hm3);have hn3':st2.n≤st3.n:=hn3;have hw3':Agr st2.n w2 w3:=hw3;have hl3:st.n < st3.n:=by omega
            obtain ⟨pend3,hg3,_,_,_,put3⟩:=fp (ls:=st.n) sat3 rd3 hl3 hl3;have b3:w3.b st.n=h.n:=by rw [←(hw3' st.n hl2).2.2.1,b2]
            have l3:w3.l st.n=⟨env,ps,a,b⟩:=by rw [←(hw3' st.n hl2).2.2.2,l2]
            rw [b3,l3] at hg3;refine ⟨_,_,_,_,_,_,hg3,?_⟩;have hWw3:Agr P.n W w3:=hw2.trans hw3' hn2;cases ex3 with
            | nor =>
             dsimp only at fit3 ⊢
             have sF:=put3 0 none (fun _=>rfl) (fun h=>by cases h) (fun j h=>by cases h);rw [b3,l3] at sF;obtain ⟨o,ho,u,hu,hon,hsat,hden⟩:=ff sF (show P.n≤_ from by show P.n≤st3.n; omega) hPn fit3;exact ⟨o,ho,u,hWw3.trans hu (aV _),hon,hsat,hden⟩
            | jmp j =>
             dsimp only at fit3 ⊢
             have sF:=put3 1 (some j) (fun h=>by cases h) (fun _ h=>by cases h) (fun j' h=>by cases h; exact fit3.1);rw [b3,l3] at sF;obtain ⟨o,ho,u,hu,hon,hsat,hden⟩:=ff sF (show P.n≤_ from by show P.n≤st3.n; omega) hPn fit3.2;exact ⟨o,ho,u,hWw3.trans hu (aV _),hon,hsat,hden⟩
           ·cases hrr
         have g1:GOK tbl v1 (st.n+1) (qCG st.n P posts::Γ):=GOK.cons hY (g.mono hv1 (dZ _));have hclo:∀u,Agr (st.n+1) v1 u→f.ev env=.clo fn (aF u x) (aF u y):=fun u hu=>(s.all u (at1 u hu).1).op hf
         have hrob:∀u,Agr (st.n+1) v1 u→aF u (x++[.yld st.n]++y)=aF v1 (x++[.yld st.n]++y)∧tgT u (.fn fn)=tgT v1 (.fn fn):=fun u hu=>by
          have e1:=hclo u hu;rw [hclo v1 (Agr.refl _ _)] at e1;simp only [CV.clo.injEq,cQ] at e1;refine ⟨?_,rfl⟩;simp only [cX,e1.1,e1.2,aF,den,(at1 u hu).2.1,(at1 v1 (Agr.refl _ _)).2.1]
         have hw:=hcall (qCG st.n P posts::Γ) (.fn fn) (x++[.yld st.n]++y) _ _ outs1 hs2 hF X v1 env _ s1 g1 hrob;refine tW (hclo v1 (Agr.refl _ _)) ?_;have hargs:aF v1 (x++[.yld st.n]++y)=aF v1 x++[CV.yld h.n]++aF v1 y:=by
          simp only [cX,aF,den,(at1 v1 (Agr.refl _ _)).2.1]
         rw [hargs] at hw;refine hw.mono ?_;rintro rv h1 ⟨o,ho,w,hw1,hn1,henv,sat,_⟩
         dsimp only at hn1 henv
         have hln:st.n < o.2.n:=by omega
         have bw:w.b st.n=h.n:=by rw [←(hw1 st.n (gO _)).2.2.1]; exact (at1 v1 (Agr.refl _ _)).2.1
         have hvw:Agr st.n v w:=hv1.trans hw1 (dZ _);have fin:∀(t:Nat) (blk:Blk),co st.n t o.2.bl=some (st.n,J)→Sat X w { iC st.n o.2 with env:=st.env } env (h1.put h.n blk):=fun t blk hrd=>by
          have:=w5 sat hrd hln blk;rw [bw] at this;exact eR this (fun u hu=>(s.all u (hvw.trans hu (by show st.n≤o.2.n; omega))).env)
         rcases lR hr o ho with ⟨rd,hm⟩ | ⟨rd,hm⟩
         ·obtain ⟨pend,hg,p1,_,_,_⟩:=fp (ls:=st.n) sat rd hln hln;have hp:=p1 rfl;subst hp;rw [bw] at hg;exact ⟨_,none,_,_,_,_,hg,(fun h=>by cases h),_,hm,w,hvw,by show st.n≤o.2.n; omega,fin 0 _ rd⟩
         ·obtain ⟨pend,hg,_,p2,p3,_⟩:=fp (ls:=st.n) sat rd hln hln;rw [bw] at hg;cases pend with
          | none=>exact absurd rfl (p2 rfl)
          | some j=>exact ⟨_,some j,_,_,_,_,hg,(fun h=>by cases h),_,hm j (p3 j rfl),w,hvw,by show st.n≤o.2.n; omega,fin 1 _ rd⟩
        ·cases ho
       ·cases ho
      ·cases ho
     ·cases ho
    ·cases ho
   ·cases ho
  ·cases ho
end
end
end Ce.S
namespace Ce.S
noncomputable section
open Go
variable {tbl:Nat→Option IF} {X:Cx} {v:V} {st:St} {env:List CV} {h:H}
theorem ui{f:Nat}{F:IF}{args:List CV}{Q:CV→H→Prop}(hF:tbl f=some F)(hm:F.mode=3)(hb:big args=false)(w:Wb tbl F args h Q):Wf tbl (.fn f) args h Q:=by
 obtain ⟨n,v,h',r,q⟩:=w;refine ⟨n+1,v,h',?_,q⟩;simp only [run,hF,hm,hb,r,Bool.and_false];rfl
theorem qCD{f:Nat}{F:IF}{args:List CV}{Q:CV→H→Prop}{h':H}(hF:tbl f=some F)(hm:F.mode=3)(hb:big args=true)(hs:srtV args h=some h')(q:Q (.tup []) h'):Wf tbl (.fn f) args h Q:=by
 refine ⟨1,.tup [],h',?_,q⟩;simp only [run,hF,hm,hb,hs,Bool.and_true];rfl
theorem bH:∀(l:List Int),(ax l).length=l.length
 | []=>rfl
 | z::l=>by simp [ax,bH l]
theorem fb:∀(l:List Int),hZ (ax l)=some l
 | []=>rfl
 | z::l=>by simp [ax,hZ,fb l]
theorem vK{v:V}{lo hi:Lin}:∀(n:Nat) (cs:List CV),aQ v 1 [.int .i64 lo hi] cs n→∃zs:List Int,cs=ax zs∧zs.length=n∧∀z,z∈zs→lo.ev v≤z∧z≤hi.ev v
 | 0,cs,h=>⟨[],h,rfl,fun z hz=>by cases hz⟩
 | n+1,cs,⟨h1,h2,h3⟩=>by
  obtain ⟨zs,e,hl,hz⟩:=vK n _ h3
  match cs,h1 with
  | x::cs,_ =>
   obtain ⟨c,cs',e1,⟨m,rfl,h4,h5⟩,h6⟩:=h2;simp only [List.take_succ_cons,List.take_zero,iJ] at e1;obtain ⟨rfl,_⟩:=e1;simp only [List.drop_succ_cons,kX] at e;subst e;refine ⟨m::zs,rfl,by simp [hl],fun z hz'=>?_⟩;rcases aS.1 hz' with rfl | hz'
   ·exact ⟨h4,h5⟩
   ·exact hz z hz'
theorem wH{v:V}{lo hi:Lin}:∀(zs:List Int),(∀z,z∈zs→lo.ev v≤z∧z≤hi.ev v)→aQ v 1 [.int .i64 lo hi] (ax zs) zs.length
 | [],_=>rfl
 | z::zs,h=>⟨by simp [ax],⟨_,[],rfl,⟨z,rfl,h z (by simp)⟩,rfl⟩,wH zs fun z' hz'=>h z' (by simp [hz'])⟩
theorem qNL(s:Sat X v st env h){b:Nat}{len:Lin}(hB:xd b len st=true)(hl:0 < len.ev v)(hrob:∀u,Agr st.n v u→len.ev u=len.ev v∧u.b b=v.b b) :
  ∃h',big [den v (.vec 1 b len)]=true∧srtV [den v (.vec 1 b len)] h=some h'∧Sat X v st env h':=by
 unfold xd at hB;split at hB
 ·rename_i b' k lo hi len' hlk;simp only [aT,dT] at hB;obtain ⟨⟨⟨⟨rfl,rfl⟩,h1⟩,h2⟩,_⟩:=hB;have key:∀u,Sat0 X u st env h→len.ev u=len.ev v→u.b b'=v.b b'→∃zs:List Int,h.get (v.b b')=some (.cells (ax zs) false)∧(zs.length:Int)=len.ev v∧(∀z,z∈zs→lo.ev u≤z∧z≤hi.ev u)∧len'.ev u=len.ev v:=by
   intro u su e1 e2;have h3:=aj su.fa h1;obtain ⟨hbl,_⟩:=su.blk hlk;simp only [BOK] at hbl;rcases hbl with h0 | ⟨cs,hg,hct⟩
   ·omega
   ·obtain ⟨_,_,_,hr⟩:=hct;obtain ⟨zs,rfl,hzl,hz⟩:=vK _ _ hr;refine ⟨zs,by rw [←e2]; exact hg,by rw [hzl]; omega,hz,by omega⟩
  have s0:=s.now;obtain ⟨zs,hg,hzl,_,_⟩:=key v s0 rfl rfl;have h40:=aE s0.fa h2;simp only [Lin.ev,s0.z] at h40;have hden:den v (.vec 1 b' len)=.slc 1 (v.b b') 0 zs.length none:=by
   simp only [den]; rw [aC (by omega)];have:(len.ev v).toNat=zs.length:=by omega
   rw [this]
  have h40':zs.length≤1099511627776:=by
   have:len.ev v=v.i len.s+len.c:=rfl;omega
  refine ⟨h.put (v.b b') (.cells (splice (ax zs) 0 (ax (dO zs))) false),?_,?_,⟨s.pos,fun u hu=>?_⟩⟩
  ·rw [hden];simp only [big,aT];refine ⟨rfl,?_⟩;have:0 < zs.length:=by omega
   exact tT this
  ·rw [hden];have hcut:cut? (ax zs) 0 zs.length=some (ax zs):=by
    unfold cut?;rw [aH (by rw [bH]; omega),kX,xI (by rw [bH]; omega)]
   have hble:Nat.ble zs.length 1099511627776=true:=tT h40';simp only [srtV,hg,hcut,fb,hble]
  ·have su:=s.all u hu;obtain ⟨e1,e2⟩:=hrob u hu;obtain ⟨zs',hg',hzl',hz',hl'⟩:=key u su e1 e2;rw [hg] at hg';simp only [sI,Blk.cells.injEq,cZ] at hg';have:zs'=zs:=by
    have h3:=congrArg hZ hg';rw [fb,fb] at h3;exact (lu h3).symm
   subst this;have hms:(dO zs').length=zs'.length:=j4 _;have hsp:splice (ax zs') 0 (ax (dO zs'))=ax (dO zs'):=by
    rw [eC _ _ _ (by rw [bH,bH,hms]; omega)];simp only [List.take_zero,eX,dg,bH,hms];rw [tU (by rw [bH]; omega),fR]
   have hadr:adr u (.vec b' 1 [.int .i64 lo hi] len' false)=[u.b b']:=by
    simp only [adr]; rw [aC (by omega)]
   have:=su.put hlk (q:=.vec b' 1 [.int .i64 lo hi] len' false) (blk:=.cells (ax (dO zs')) false) hadr hadr (.inr ⟨_,by rw [get_put,aH rfl],by
    refine ⟨by omega,rfl,by omega,?_⟩;have hrr:=wH (v:=u) (lo:=lo) (hi:=hi) (dO zs') fun z hz=>hz' z ((f9 _).mem_iff.1 hz)
    rw [hms] at hrr;have:(len'.ev u).toNat=zs'.length:=by omega
    rw [this]; exact hrr⟩)
   rw [nc hlk,e2] at this;rw [hsp];exact this
 ·cases hB
def qGH(v:V)(n:Nat)(zs:List Int):V:={ v with i:=fun s=>if s < n then v.i s else match zs[s - n]? with
 | some z=>z
 | none=>v.i s }
theorem uo(v:V)(n:Nat)(zs:List Int):Agr n v (qGH v n zs):=fun s hs=>⟨by simp only [qGH,aH hs],rfl,rfl,rfl⟩
theorem qA7{u:V}:∀(k n:Nat) (zs:List Int),zs.length=k→(∀j z,zs[j]?=some z→u.i (n+j)=z)→(qIU n k).map (Lin.ev u)=zs∧aF u (vi n k)=ax zs
 | 0,n,zs,hl,_=>by
  have:zs=[]:=jQ hl;subst this; exact ⟨rfl,rfl⟩
 | k+1,n,z::zs,hl,h=>by
  obtain ⟨h1,h2⟩:=qA7 k (n+1) zs (by simpa using hl) (fun j z' hj=>by
   have:=h (j+1) z' (by simpa using hj);rw [←this]; congr 1; omega)
  have h0:=h 0 z rfl;simp only [d8] at h0;refine ⟨?_,?_⟩
  ·simp only [qIU,gM,h1,Lin.ev,h0,eV]
  ·simp only [vi,aF,h2,den,h0,eV,ax]
theorem nx{u:V}:∀{l:List AV} {xs:List Lin},s6 l=some xs→aF u l=ax (xs.map (Lin.ev u))∧xs.length=l.length
 | [],xs,h=>by simp only [s6,sI] at h; subst h; exact ⟨rfl,rfl⟩
 | a::l,xs,h=>by
  unfold s6 at h;split at h<;>(try (cases h; done))
  ·rename_i e; cases e
  ·rename_i s c l' e;simp only [iJ] at e;obtain ⟨rfl,rfl⟩:=e;split at h<;>(try (cases h; done));rename_i r hr;simp only [sI] at h; subst h;obtain ⟨h1,h2⟩:=nx (u:=u) hr;exact ⟨by simp only [aF,h1,den,gM,ax,Lin.ev],by simp [h2]⟩
theorem xB{u:V}(z:u.i 0=0){lo hi:Int}:∀(k n:Nat),(∀j,j < k→lo≤u.i (n+j)∧u.i (n+j)≤hi)→∀f,f∈xC lo hi n k→FOK u f
 | 0,n,_,f,hf=>by cases hf
 | k+1,n,h,f,hf=>by
  have h0:=h 0 (by omega);simp only [d8] at h0;simp only [xC,aS] at hf;rcases hf with rfl | rfl | hf
  ·simp only [FOK,z]; omega
  ·simp only [FOK,z]; omega
  ·exact xB z k (n+1) (fun j hj=>by
    have:=h (j+1) (by omega);have e:n+(j+1)=n+1+j:=by omega
    rw [e] at this; exact this) f hf
theorem yI{a b:List Int}(h:ax a=ax b):a=b:=by
 have h3:=congrArg hZ h;rw [fb,fb] at h3;exact lu h3
theorem qNM(s:Sat X v st env h){b:Nat}{l:List AV}{xs:List Lin}{lo hi:Int}(hb:b < st.n)(hl:ai b st.bl=some (.blk b (.cells l) false))(hx:s6 l=some xs)(h1:1≤l.length)(h9:l.length≤1000)(hlo:vy st.fa xs=some lo)(hhi:wI st.fa xs=some hi) :
  ∃h',srtV [.slc 1 (v.b b) 0 l.length none] h=some h'∧∃w,Agr st.n v w∧Sat X w (srtX b xs lo hi st).2 env h':=by
 have s0:=s.now;have blk:∀u,Sat0 X u st env h→h.get (u.b b)=some (.cells (ax (xs.map (Lin.ev u))) false):=fun u su=>by
  obtain ⟨hbl,_⟩:=su.blk hl;simp only [BOK] at hbl;obtain ⟨cs,hg,hct⟩:=hbl;have:cs=aF u l:=hct;rw [hg,this,(nx (u:=u) hx).1]
 have hxl:xs.length=l.length:=(nx (u:=v) hx).2;have hg:=blk v s0;have hzl:(xs.map (Lin.ev v)).length=l.length:=by rw [lK,hxl]
 have hsl:(dO (xs.map (Lin.ev v))).length=l.length:=by rw [j4,hzl]
 have hsp:splice (ax (xs.map (Lin.ev v))) 0 (ax (dO (xs.map (Lin.ev v))))=ax (dO (xs.map (Lin.ev v))):=by
  rw [eC _ _ _ (by rw [bH,bH,hsl,hzl]; omega)];simp only [List.take_zero,eX,dg,bH,hsl];rw [tU (by rw [bH,hzl]; omega),fR]
 refine ⟨h.put (v.b b) (.cells (ax (dO (xs.map (Lin.ev v)))) false),?_,qGH v st.n (dO (xs.map (Lin.ev v))),uo _ _ _,⟨dD s.pos (rQ _ _),fun u hu=>?_⟩⟩
 ·have hcut:cut? (ax (xs.map (Lin.ev v))) 0 l.length=some (ax (xs.map (Lin.ev v))):=by
   unfold cut?;rw [aH (by rw [bH,hzl]; omega),kX,xI (by rw [bH,hzl]; omega)]
  have hble:Nat.ble (xs.map (Lin.ev v)).length 1099511627776=true:=tT (by rw [hzl]; omega);simp only [srtV,hg,hcut,fb,hble,hsp]
 ·have hu':Agr (st.n+xs.length) (qGH v st.n (dO (xs.map (Lin.ev v)))) u:=hu;have hvu:Agr st.n v u:=(uo v st.n _).trans (hu'.mono (rQ _ _)) (aV _);have su:=s.all u hvu;have hub:u.b b=v.b b:=((hvu b hb).2.2.1).symm;have hgu:=blk u su;rw [hub,hg,sI,Blk.cells.injEq] at hgu;have hzz:=yI hgu.1;have hny:∀j z,(dO (xs.map (Lin.ev v)))[j]?=some z→u.i (st.n+j)=z:=fun j z hj=>by
   have hjl:j < (dO (xs.map (Lin.ev v))).length:=(fU.1 hj).1;rw [←(hu' (st.n+j) (by omega)).1];simp only [qGH];rw [aC (by omega),show st.n+j - st.n=j by omega,hj]
  obtain ⟨e1,e2⟩:=qA7 (u:=u) xs.length st.n _ (by rw [hsl,hxl]) hny;have base:=su.put hl (q:=.blk b (.cells (vi st.n xs.length)) false) (blk:=.cells (ax (dO (xs.map (Lin.ev v)))) false) (by simp only [adr]) (by simp only [adr]) ⟨_,by rw [get_put,aH rfl],by simp only [cR]; exact e2.symm⟩;rw [hub] at base;have fin:=base.wk (st.n+xs.length) (.prm xs (qIU st.n xs.length)::xC lo hi st.n xs.length) (fun f hf=>by
   rcases aS.1 hf with rfl | hf
   ·simp only [FOK]; rw [e1,←hzz]; exact (f9 _).symm
   ·refine xB su.z _ _ (fun j hj=>?_) f hf;have hj':j < (dO (xs.map (Lin.ev v))).length:=by omega
    have hjg:(dO (xs.map (Lin.ev v)))[j]?=some (dO (xs.map (Lin.ev v)))[j]:=ed hj';rw [hny j _ hjg];have hm:(dO (xs.map (Lin.ev v)))[j]∈xs.map (Lin.ev v):=(f9 _).mem_iff.1 (List.getElem_mem hj');obtain ⟨x,hx1,hx2⟩:=cI.1 hm;rw [←hx2];exact ⟨qAH s0.z s0.fa hlo x hx1,qAR s0.z s0.fa hhi x hx1⟩)
  exact fin
theorem qNO{st:St}{b:Nat}{len:Lin}(hB:xd b len st=true):leL st.fa ⟨0,0⟩ len 0=true:=by
 unfold xd at hB;split at hB
 ·simp only [aT] at hB;exact hB.2
 ·cases hB
theorem qNN{f:Nat}{F:IF}{Γ:List Con}{as:List AV}{body:List AV→St→Hs→Option (List (AV × St) × Hs)}(hF:tbl f=some F)
  (hb:∀as st hs outs hs',body as st hs=some (outs,hs')→∀v env h,Sat X v st env h→GOK tbl v st.n Γ→(∀u,Agr st.n v u→aF u as=aF v as)→Wb tbl F (aF v as) h (kh X v st env outs))
  {hs hs':Hs} {outs:List (AV × St)} (ho:srtS body F.mode as st hs=some (outs,hs')) (s:Sat X v st env h) (g:GOK tbl v st.n Γ) (hrob:∀u,Agr st.n v u→aF u as=aF v as):Wf tbl (.fn f) (aF v as) h (kh X v st env outs):=by
 unfold srtS at ho;split at ho
 ·rename_i hm;split at ho
  ·rename_i k b len;split at ho
   ·rename_i hc;obtain ⟨rfl,hls,hbs⟩:=hc;have hz:=s.now.z;have hz':∀u,Agr st.n v u→u.i 0=0:=fun u hu=>(s.all u hu).z
    have hle:∀u,Agr st.n v u→len.ev u=len.ev v∧u.b b=v.b b:=fun u hu=>⟨by
     have:=(hu _ hls).1;simp only [Lin.ev,this],((hu _ hbs).2.2.1).symm⟩
    split at ho
    ·rename_i b' l hlk;split at ho
     ·rename_i hc2;obtain ⟨rfl,c1,c2,c3,c4⟩:=hc2;split at ho
      ·rename_i xs hxs;split at ho
       ·rename_i lo hi hlo hhi;simp only [sI,pI] at ho;obtain ⟨rfl,_⟩:=ho;obtain ⟨h',e1,w,hw,sat⟩:=qNM s hbs hlk hxs c3 c4 hlo hhi;have hlev:len.ev v=(l.length:Int):=by simp only [Lin.ev,c1,c2,hz]; omega
        have hden:aF v [.vec 1 b' len]=[.slc 1 (v.b b') 0 l.length none]:=by
         simp only [aF,den];rw [aC (by omega),hlev,fS]
        rw [hden];refine qCD hF hm ?_ e1 ⟨_,mS,w,hw,rQ _ _,rfl,sat,fun u hu=>rfl⟩;simp only [big,aT];exact ⟨rfl,tT c3⟩
       ·cases ho
      ·cases ho
     ·cases ho
    ·split at ho
     ·rename_i hB;have hB0:leL st.fa ⟨0,0⟩ len 0=true:=qNO hB;have nil0:len.ev v=0→aF v [.vec 1 b len]=aF v [.nils]:=fun h0=>by
       simp only [aF,den]; rw [aH h0]
      have great:0 < len.ev v→∀(st2:St),Sat X v st2 env h→xd b len st2=true→st2.n=st.n→st2.env=st.env→Wf tbl (.fn f) (aF v [.vec 1 b len]) h (kh X v st env [(AV.tup [],st2)]):=by
       intro hl st2 s2 hB2 hn2 he2;obtain ⟨h',e1,e2,sat⟩:=qNL s2 hB2 hl (fun u hu=>hle u (by rw [←hn2]; exact hu));exact qCD hF hm e1 e2 ⟨_,mS,v,Agr.refl _ _,by rw [hn2]; exact aV _,he2,sat,fun u hu=>rfl⟩
      split at ho
      ·rename_i h12;have:=aE s.now.fa h12;simp only [Lin.ev,hz] at this;have h0:len.ev v=0:=by
        have:=aE s.now.fa hB0;simp only [Lin.ev,hz] at this ⊢;omega
       rw [nil0 h0];exact ui hF hm rfl (hb [.nils] _ _ _ _ ho v env h s g (fun u hu=>rfl))
      ·split at ho
       ·rename_i h13;have:=aE s.now.fa h13;simp only [Lin.ev,hz] at this;simp only [sI,pI] at ho;obtain ⟨rfl,_⟩:=ho;exact great (by simp only [Lin.ev]; omega) st s hB rfl rfl
       ·split at ho
        ·rename_i hB2;split at ho
         ·rename_i r hs1 hr;simp only [sI,pI] at ho;obtain ⟨rfl,_⟩:=ho;rcases Int.lt_or_le 0 (len.ev v) with hl | hl
          ·have s2:Sat X v { st with fa:=.dc 0 len.s (len.c - 1)::st.fa } env h:=⟨s.pos,fun u hu=>by
            have su:=s.all u hu;refine ⟨su.z,su.env,fun f hf=>?_,su.bl,su.nd,su.lt,su.hn,su.fr⟩;rcases aS.1 hf with rfl | hf
            ·have:=(hle u hu).1;simp only [FOK,su.z];simp only [Lin.ev] at this hl;omega
            ·exact su.fa f hf⟩
           refine (great hl _ s2 hB2 rfl rfl).mono ?_;rintro rv h2 ⟨o,ho,q⟩;simp only [cM] at ho;subst ho;exact ⟨_,mS,q⟩
          ·have s2:Sat X v { st with fa:=.dc len.s 0 (0 - len.c)::st.fa } env h:=⟨s.pos,fun u hu=>by
            have su:=s.all u hu;refine ⟨su.z,su.env,fun f hf=>?_,su.bl,su.nd,su.lt,su.hn,su.fr⟩;rcases aS.1 hf with rfl | hf
            ·have:=(hle u hu).1;simp only [FOK,su.z];simp only [Lin.ev] at this hl;omega
            ·exact su.fa f hf⟩
           have h0:len.ev v=0:=by
            have:=aE s.now.fa hB0;simp only [Lin.ev,hz] at this ⊢;simp only [Lin.ev] at hl;omega
           rw [nil0 h0];obtain ⟨k,rv,h2,hrun,o,ho,q⟩:=hb [.nils] _ _ _ _ hr v env h s2 g (fun u hu=>rfl);exact ui hF hm rfl ⟨k,rv,h2,hrun,o,mC _ ho,q⟩
         ·cases ho
        ·cases ho
     ·cases ho
   ·cases ho
  ·rename_i hnils;have hbg:big (aF v [.nils])=false:=rfl;exact ui hF hm hbg (hb [.nils] _ _ _ _ ho v env h s g (fun u hu=>rfl))
  ·cases ho
 ·cases ho
end
end Ce.S
namespace Ce.S
noncomputable section
open Go
section
variable {tbl:Nat→Option IF} {X:Cx} {v:V} {st:St} {env:List CV} {h:H}
theorem mM{w:V}(sw:Sat0 X w st env h):∀{rs:List IRes} {l:List AV},vP st rs=some l→resV rs env h=some (aF w l)
 | [],l,hr=>by simp only [vP,sI] at hr; subst hr; rfl
 | .tmp t::rs,l,hr=>by
  simp only [vP,ez] at hr;obtain ⟨l',h1,rfl⟩:=hr;simp only [resV,mM sw h1,aF];rw [sw.env,gB]
 | .cell t g::rs,l,hr=>by
  simp only [vP] at hr;split at hr
  ·rename_i x l' h1 h2;simp only [sI] at hr; subst hr;have e:=yN sw h1;simp only [resV,mM sw h2,aF];rw [show aR env t=den w (j6 st.env t) by rw [sw.env,gB],e]
  ·cases hr
theorem qIN(w:V):∀l:List AV,one? (aF w l)=den w (qQ9 l)
 | []=>rfl
 | [_]=>rfl
 | _::_::_=>rfl
theorem wZ{F:IF}{env0:List AV}:∀{outs:bV} {r:List (AV × St)},qBK F env0 outs=some r→∀ex s,(ex,s)∈outs→(ex=.nor∨ex=.jmp .ret)∧∃l,vP s F.res=some l∧(qQ9 l,{ s with env:=env0 })∈r
 | [],r,h,ex,s,hm=>by cases hm
 | (ex1,s1)::outs,r,h,ex,s,hm=>by
  simp only [qBK] at h;split at h
  ·cases h
  ·rename_i hne;split at h
   ·rename_i l t h1 h2;simp only [sI] at h; subst h;rcases aS.1 hm with hm | hm
    ·cases hm;refine ⟨?_,l,h1,mS⟩
     match ex1,hne with
     | .nor,_=>exact .inl rfl
     | .jmp .ret,_=>exact .inr rfl
     | .jmp (.exit i),hne=>exact absurd rfl (hne i)
    ·obtain ⟨h3,l',h4,h5⟩:=wZ h2 ex s hm;exact ⟨h3,l',h4,mC _ h5⟩
   ·cases h
theorem fy{callG:List Con→iN}(hcall:∀Γ,CallOK tbl Γ (callG Γ)){n:Nat}{F:IF}{Γ:List Con}{as:List AV}{hs hs':Hs}{outs:List (AV × St)}(ho:lF callG n F Γ as st hs=some (outs,hs'))(s:Sat X v st env h)(g:GOK tbl v st.n Γ)(hrob:∀u,Agr st.n v u→aF u as=aF v as) :
  Wb tbl F (aF v as) h (kh X v st env outs):=by
 unfold lF at ho;split at ho
 ·rename_i outs1 hs1 hC;split at ho
  ·rename_i r hr;simp only [sI,pI] at ho;obtain ⟨rfl,_⟩:=ho;have sE:Sat X v { st with env:=as++qHV (F.ntmps - as.length) } (aF v as++cB (F.ntmps - (aF v as).length)) h:=eR s (fun u hu=>by
    rw [cX,hrob u hu,qHU,aq])
   refine qMY ((ze hcall n F.body X Γ _ hs hs1 outs1 hC v _ h sE g).mono ?_);rintro ex e h' ⟨st',hm,w,hw,hn,sat⟩
   dsimp only at hw hn
   obtain ⟨hex,l,hl,hmem⟩:=wZ hr ex st' hm;have res:∃vs,resV F.res e h'=some vs∧kh X v st env r (one? vs) h':=by
    refine ⟨aF w l,mM sat.now hl,(qQ9 l,{ st' with env:=st.env }),hmem,w,hw,hn,rfl,eR sat (fun u hu=>(s.all u (hw.trans hu hn)).env),fun u hu=>?_⟩;have e1:=mM (sat.all u hu) hl;rw [mM sat.now hl,sI] at e1;rw [←qIN,e1]
   rcases hex with rfl | rfl
   ·exact res
   ·exact res
  ·cases ho
 ·cases ho
theorem tf{as:List AV}{st:St}{r:List (AV × St)}:∀{Γ:List Con} {tg:Tg},r7 as st Γ tg=some r→∃c,c∈Γ∧(∀w:V,tgt w c=tgT w tg)∧kV c as st=some r
 | [],tg,h=>by cases tg<;>cases h
 | d::Γ,.fn f,h=>by
  have tl:r7 as st Γ (.fn f)=some r→∃c,c∈d::Γ∧(∀w:V,tgt w c=tgT w (.fn f))∧kV c as st=some r:=fun h=>by
   obtain ⟨c,h1,h2⟩:=tf h;exact ⟨c,mC _ h1,h2⟩
  simp only [r7] at h;split at h
  ·rename_i hc;split at h
   ·rename_i x hx;simp only [sI] at h; subst h;exact ⟨d,mS,fun w=>by simp only [tgt,hc.1,bj,bX,hc.2,tgT],hx⟩
   ·exact tl h
  ·exact tl h
 | d::Γ,.yl b,h=>by
  have tl:r7 as st Γ (.yl b)=some r→∃c,c∈d::Γ∧(∀w:V,tgt w c=tgT w (.yl b))∧kV c as st=some r:=fun h=>by
   obtain ⟨c,h1,h2⟩:=tf h;exact ⟨c,mC _ h1,h2⟩
  simp only [r7] at h;split at h
  ·rename_i hc;split at h
   ·rename_i x hx;simp only [sI] at h; subst h;exact ⟨d,mS,fun w=>by simp only [tgt,hc.1,ac,hc.2,tgT],hx⟩
   ·exact tl h
  ·exact tl h
theorem wM:∀{outs r:List (AV × St)},qBE outs=some r→∀o,o∈outs→∃x,frA o.1 { o.2 with env:=[o.1] }=some x∧(x.1,{ x.2 with env:=o.2.env })∈r
 | [],r,h,o,ho=>by cases ho
 | (a,s)::outs,r,h,o,ho=>by
  simp only [qBE] at h;split at h
  ·rename_i x l h1 h2;simp only [sI] at h; subst h;rcases aS.1 ho with rfl | ho
   ·exact ⟨x,h1,mS⟩
   ·obtain ⟨y,h3,h4⟩:=wM h2 o ho;exact ⟨y,h3,mC _ h4⟩
  ·cases h
theorem te{w:V}:∀(T:Ty) (c:CV),av w T c→cln c=true
 | .int k lo hi,c,h=>by obtain ⟨n,rfl,_⟩:=h; rfl
 | .bool,c,h=>by obtain ⟨n,rfl⟩:=h; rfl
 | .str,c,h=>by obtain ⟨n,rfl⟩:=h; rfl
 | .lst R lo hi,c,h=>by
  simp only [av] at h;rcases h with ⟨rfl,_⟩ | ⟨rows,ex,rfl,_,_,hr⟩
  ·rfl
  ·have:∀l:List (List CV),(∀r,r∈l→a8 w R r)→qFY l=true:=by
    intro l
    induction l with
    | nil=>intro _; rfl
    | cons r l ih =>
     intro hl;have key:∀(R:List Ty) (cs:List CV),a8 w R cs→(∀T,T∈R→∀c,av w T c→cln c=true)→iD cs=true:=by
      intro R
      induction R with
      | nil=>intro cs h _; simp only [a8] at h; subst h; rfl
      | cons T Ts ihT =>
       intro cs h hT;obtain ⟨c,cs',rfl,h1,h2⟩:=h;simp only [iD,hT T mS c h1,ihT cs' h2 (fun T hm=>hT T (mC _ hm)),eA]
     simp only [qFY,key R r (hl r mS) (fun T hT c hc=>te T c hc),ih (fun r h=>hl r (mC _ h)),eA]
   simp only [cln,this rows hr]
 | .agg l,c,h=>by
  obtain ⟨cs,rfl,hc⟩:=h;have key:∀(R:List Ty) (cs:List CV),a8 w R cs→(∀T,T∈R→∀c,av w T c→cln c=true)→iD cs=true:=by
   intro R
   induction R with
   | nil=>intro cs h _; simp only [a8] at h; subst h; rfl
   | cons T Ts ihT =>
    intro cs h hT;obtain ⟨c,cs',rfl,h1,h2⟩:=h;simp only [iD,hT T mS c h1,ihT cs' h2 (fun T hm=>hT T (mC _ hm)),eA]
  simp only [cln,key l cs hc (fun T hT c hc=>te T c hc)]
theorem zBW{w:V}{fa:List Fact}(hf:∀f,f∈fa→FOK w f){a:AV}(hc:cl1 fa a=true):cln (den w a)=true∧∀(k:Nat) (h:H),frz (k+1) (den w a) h=some (den w a,h):=by
 cases a<;>simp only [cl1] at hc<;>(try (cases hc; done))<;>(try exact ⟨rfl,fun _ _=>rfl⟩);rename_i s;obtain ⟨T,h1,h2⟩:=dV hf hc;exact ⟨te T _ h2,fun k h=>rY h2 h1 k h⟩
theorem qC2{w:V}{fa:List Fact}(hf:∀f,f∈fa→FOK w f):∀{l:List AV},qY8 fa l=true→iD (aF w l)=true∧∀(k:Nat) (h:H),frzL (frz (k+1)) (aF w l) h=some (aF w l,h)
 | [],_=>⟨rfl,fun _ _=>rfl⟩
 | a::l,hc=>by
  simp only [qY8,aT] at hc;obtain ⟨h1,h2⟩:=zBW hf hc.1;obtain ⟨h3,h4⟩:=qC2 hf hc.2;exact ⟨by simp only [aF,iD,h1,h3,eA],fun k h=>by simp only [aF,frzL,h2,h4]⟩
theorem qLU{w:V}{fa:List Fact}(hf:∀f,f∈fa→FOK w f){a:AV}(hc:qLV fa a=true):cln (den w a)=true∧∀(k:Nat) (h:H),frz (k+2) (den w a) h=some (den w a,h):=by
 cases a<;>simp only [qLV] at hc
 case agg l =>
  obtain ⟨h1,h2⟩:=qC2 hf hc;exact ⟨by simp only [den,cln,h1],fun k h=>by simp only [den]; unfold frz; simp only [h2]⟩
 all_goals (have:=zBW hf hc; exact ⟨this.1,fun k h=>this.2 (k+1) h⟩)
theorem tC{w:V}{fa:List Fact}(hf:∀f,f∈fa→FOK w f):∀{l:List AV},uc fa l=true→iD (aF w l)=true∧∀(k:Nat) (h:H),frzL (frz (k+2)) (aF w l) h=some (aF w l,h)
 | [],_=>⟨rfl,fun _ _=>rfl⟩
 | a::l,hc=>by
  simp only [uc,aT] at hc;obtain ⟨h1,h2⟩:=qLU hf hc.1;obtain ⟨h3,h4⟩:=tC hf hc.2;exact ⟨by simp only [aF,iD,h1,h3,eA],fun k h=>by simp only [aF,frzL,h2,h4]⟩
theorem zA1{w:V}{fa:List Fact}(hf:∀f,f∈fa→FOK w f){a:AV}(hc:sc1 fa a=true)(k:Nat)(p:H × H):xp (k+1) (den w a) p=some (den w a,p):=by
 cases a<;>simp only [sc1] at hc<;>(try (cases hc; done))<;>(try rfl);rename_i s;obtain ⟨T,h1,h2⟩:=dV hf hc;simp only [bU] at h1;rcases h1 with h1 | h1
 ·obtain ⟨b,hb⟩:=il hf _ _ h1 _ h2;simp only [den,hb]; rfl
 ·obtain ⟨b,hb⟩:=il hf _ _ h1 _ h2;simp only [den,hb]; rfl
theorem za{w:V}{fa:List Fact}(hf:∀f,f∈fa→FOK w f):∀{l:List AV},qP6 fa l=true→∀(k:Nat) (p:H × H),xpL (xp (k+1)) (aF w l) p=some (aF w l,p)
 | [],_,_,_=>rfl
 | a::l,hc,k,p=>by
  simp only [qP6,aT] at hc;simp only [aF,xpL,zA1 hf hc.1,za hf hc.2]
theorem zA0{w:V}{fa:List Fact}(hf:∀f,f∈fa→FOK w f){a:AV}(hc:sc2 fa a=true)(k:Nat)(p:H × H):xp (k+2) (den w a) p=some (den w a,p):=by
 cases a<;>simp only [sc2] at hc
 case agg l=>simp only [den]; unfold xp; simp only [za hf hc]
 all_goals exact zA1 hf hc (k+1) p
theorem z9{w:V}{fa:List Fact}(hf:∀f,f∈fa→FOK w f):∀{l:List AV},qP5 fa l=true→∀(k:Nat) (p:H × H),xpL (xp (k+2)) (aF w l) p=some (aF w l,p)
 | [],_,_,_=>rfl
 | a::l,hc,k,p=>by
  simp only [qP5,aT] at hc;simp only [aF,xpL,zA0 hf hc.1,z9 hf hc.2]
theorem qH1{w:V}{fa:List Fact}(hf:∀f,f∈fa→FOK w f){a:AV}(hc:z8 fa a=true)(k:Nat)(p:H × H):xp (k+3) (den w a) p=some (den w a,p):=by
 cases a<;>simp only [z8] at hc
 case tup l=>simp only [den]; unfold xp; simp only [z9 hf hc]
 all_goals exact zA0 hf hc (k+1) p
theorem rI{st0:St}:∀{outs r:List (AV × St)},pU st0 outs=some r→∀o,o∈outs→z8 o.2.fa o.1=true∧(o.1,(⟨o.2.n,st0.env,o.2.fa,st0.bl⟩:St))∈r
 | [],r,h,o,ho=>by cases ho
 | (a,s)::outs,r,h,o,ho=>by
  simp only [pU] at h;split at h
  ·rename_i hs;simp only [ez] at h;obtain ⟨l,h1,rfl⟩:=h;rcases aS.1 ho with rfl | ho
   ·exact ⟨hs,mS⟩
   ·obtain ⟨h2,h3⟩:=rI h1 o ho;exact ⟨h2,mC _ h3⟩
  ·cases h
theorem kw{lo:Nat}{posts:List (AV × St)}:∀{outs:List (AV × St)},oC lo posts outs=true→∀o,o∈outs→gT lo o.2 o.1 posts=true
 | [],_,o,ho=>by cases ho
 | (a,s)::outs,h,o,ho=>by
  simp only [oC,aT] at h;rcases aS.1 ho with rfl | ho
  ·exact h.1
  ·exact kw h.2 o ho
def EOK(tbl:Nat→Option IF)(E:List (Nat × List Ty × Ty)):Prop:=∀f Ts T,qBG E f=some (Ts,T)→∀(v:V) (args:List CV) (h:H),v.i 0=0→a8 v Ts args→Wf tbl (.fn f) args h fun r h'=>h'=h∧∀w:V,w.i 0=0→av w T r
theorem ae.toF{outs:List (AV × St)}{c:CV}{h':H}(p:ae X v st env outs (some (c,h'))):kh X v st env outs c h':=by
 obtain ⟨o,ho,w,hw,hn,he,c',h2,hr,sat,hd⟩:=p;simp only [sI,pI] at hr;obtain ⟨rfl,rfl⟩:=hr;exact ⟨o,ho,w,hw,hn,he,sat,hd⟩
theorem qJM{w:V}{s:Nat}{env:List AV}{ps:List Nat}{a b:IC}:∀{fa:List Fact},(∀f,f∈fa→FOK w f)→lcF s fa=some (env,ps,a,b)→w.l s=⟨aF w env,ps,a,b⟩:=by
 intro fa
 induction fa with
 | nil=>intro _ h; cases h
 | cons f r ih =>
  intro hf h;have hrest:=ih (fun f hm=>hf f (mC _ hm));have h0:=hf f mS;cases f<;>simp only [lcF] at h<;>(try (exact hrest h));split at h
  ·rename_i hs;subst hs;simp only [sI,pI] at h;obtain ⟨rfl,rfl,rfl,rfl⟩:=h;exact h0
  ·exact hrest h
theorem q9{lb ls:Nat}{env:List AV}:∀{outs:bV} {r:List (AV × St)},pN lb ls env outs=some r→∀ex st,(ex,st)∈outs→∃J,co lb 2 st.bl=some (ls,J)∧(match ex with
  | .nor=>(AV.bool true,({ lD lb 0 ls J st with env:=env }:St))∈r
  | .jmp j=>(AV.bool false,({ lD lb 1 ls [j] st with env:=env }:St))∈r)
 | [],r,_,ex,st,ho=>by cases ho
 | (ex0,st0)::outs,r,h,ex,st,ho=>by
  simp only [pN] at h;split at h<;>(try (cases h; done));rename_i l b s J hl hlk;split at h<;>(try (cases h; done));rename_i hs;subst hs;have rest:=fun ex st ho=>q9 hl ex st ho
  cases ex0 with
  | nor =>
   simp only [sI] at h; subst h;rcases aS.1 ho with e | ho
   ·cases e;exact ⟨J,by simp only [co,hlk,ac],mS⟩
   ·obtain ⟨J',h1,h2⟩:=rest ex st ho;refine ⟨J',h1,?_⟩;cases ex<;>exact mC _ h2
  | jmp j =>
   simp only [sI] at h; subst h;rcases aS.1 ho with e | ho
   ·cases e;exact ⟨J,by simp only [co,hlk,ac],mS⟩
   ·obtain ⟨J',h1,h2⟩:=rest ex st ho;refine ⟨J',h1,?_⟩;cases ex<;>exact mC _ h2
theorem qN9{rec:List Con→iN}(ih:∀Γ,CallOK tbl Γ (rec Γ))(n:Nat){Γ:List Con}{lb:Nat}{as:List AV}{hs hs':Hs}{outs:List (AV × St)}(ho:yInl rec n Γ lb as st hs=some (outs,hs'))(s:Sat X v st env h)(g:GOK tbl v st.n Γ)(hrob:∀u,Agr st.n v u→aF u as=aF v as) :
  Wf tbl (tgT v (.yl lb)) (aF v as) h (kh X v st env outs):=by
 have s0:=s.now;unfold yInl at ho;split at ho<;>(try (cases ho; done));rename_i b0 ls J hlk;split at ho<;>(try (cases ho; done));rename_i hc;obtain ⟨c1,c2⟩:=hc;split at ho<;>(try (cases ho; done));rename_i e0 ps a b hlc;split at ho<;>(try (cases ho; done));rename_i e he;split at ho<;>(try (cases ho; done));rename_i outsA hsA hA;split at ho<;>(try (cases ho; done));rename_i outsB hsB hB;split at ho<;>(try (cases ho; done));rename_i r hr;simp only [sI,pI] at ho;obtain ⟨rfl,_⟩:=ho;have hrdy:co lb 0 st.bl=some (ls,J):=by simp only [co,hlk,ac]
 obtain ⟨pend,hg,p1,_,_,_⟩:=fp s hrdy c2 c1;have hp:=p1 rfl;subst hp;have hl0:=qJM s0.fa hlc;have envs:∀u,Agr st.n v u→aF u e=aF v e:=fun u hu=>by
  have e1:=gu u ps e0 as e he;have e2:=gu v ps e0 as e he;have h1:=qJM (s.all u hu).fa hlc;rw [←(hu ls c1).2.2.2,hl0,LC.mk.injEq] at h1;rw [hrob u hu,←h1.1,e2,sI] at e1;exact e1.symm
 have eW:=gu v ps e0 as e he;rw [hl0] at hg;have sE:Sat X v { st with env:=e } (aF v e) h:=eR s (fun u hu=>(envs u hu).symm)
 show Wf tbl (.yl (v.b lb)) (aF v as) h _
 refine zC1 hg eW ?_;refine (ze ih n a X Γ { st with env:=e } hs hsA outsA hA v (aF v e) h sE g).mono ?_;rintro ex e1 h2 ⟨st2,hm2,w2,hw2,hn2,sat2⟩
 dsimp only at hw2 hn2
 obtain ⟨k1,k2,rr,hrr,hsub⟩:=dU hB (ex,st2) hm2;unfold inlB at hrr;split at hrr<;>(try (cases hrr; done));rename_i b1 s1 J1 hex hlk2
 dsimp only at hex hlk2
 subst hex;split at hrr<;>(try (cases hrr; done));rename_i hs1;subst hs1;have hrd2:co lb 0 st2.bl=some (s1,J1):=by simp only [co,hlk2,ac]
 have hl2:lb < st2.n:=by omega
 have hls2:s1 < st2.n:=by omega
 obtain ⟨pend2,hg2,q1,_,_,put2⟩:=fp sat2 hrd2 hl2 hls2;have hp2:pend2=none:=q1 rfl;subst hp2;have b2:w2.b lb=v.b lb:=((hw2 lb c2).2.2.1).symm;have l2:w2.l s1=v.l s1:=((hw2 s1 c1).2.2.2).symm;have sB:=put2 2 none (fun h=>by cases h) (fun h=>by cases h) (fun j h=>by cases h);rw [b2,l2,hl0] at hg2 sB;refine ⟨rfl,none,_,_,_,_,hg2,?_⟩;have g2:GOK tbl w2 st2.n Γ:=g.mono hw2 hn2;refine (ze ih n b X Γ (lD lb 2 s1 J1 st2) k1 k2 rr hrr w2 e1 _ sB g2).mono ?_;rintro ex3 e3 h3 ⟨st3,hm3,w3,hw3,hn3,sat3⟩;have hn3':st2.n≤st3.n:=hn3;have hw3':Agr st2.n w2 w3:=hw3;obtain ⟨J3,rd3,mem3⟩:=q9 hr ex3 st3 (hsub _ hm3);have hl3:lb < st3.n:=by omega
 have hls3:s1 < st3.n:=by omega
 obtain ⟨pend3,hg3,_,_,_,_⟩:=fp sat3 rd3 hl3 hls3;have b3:w3.b lb=v.b lb:=by rw [←(hw3' lb hl2).2.2.1,b2]
 have l3:w3.l s1=v.l s1:=by rw [←(hw3' s1 hls2).2.2.2,l2]
 rw [b3,l3,hl0] at hg3;refine ⟨_,_,_,_,_,_,hg3,?_⟩;have hvw3:Agr st.n v w3:=hw2.trans hw3' hn2;have envB:∀(st4:St) (h4:H),st4.n=st3.n→Sat X w3 st4 e3 h4→Sat X w3 { st4 with env:=st.env } env h4:=fun st4 h4 hn4 s4=>eR s4 (fun u hu=>(s.all u (hvw3.trans hu (by omega))).env)
 cases ex3 with
 | nor =>
  dsimp only at mem3 ⊢
  have sF:=vD sat3 rd3 hl3 hls3 0 none J3 (fun _=>rfl) (fun h=>by cases h) (fun j h=>by cases h);rw [b3,l3,hl0] at sF;exact ⟨_,mem3,w3,hvw3,by show st.n≤st3.n; omega,rfl,envB (lD lb 0 s1 J3 st3) _ rfl sF,fun u hu=>rfl⟩
 | jmp j =>
  dsimp only at mem3 ⊢
  have sF:=vD sat3 rd3 hl3 hls3 1 (some j) [j] (fun h=>by cases h) (fun _ h=>by cases h) (fun j' h=>by cases h; exact cM.2 rfl);rw [b3,l3,hl0] at sF;exact ⟨_,mem3,w3,hvw3,by show st.n≤st3.n; omega,rfl,envB (lD lb 1 s1 [j] st3) _ rfl sF,fun u hu=>rfl⟩
theorem sF1ok{E:List (Nat × List Ty × Ty)}(hE:EOK tbl E){rec:List Con→iN}(n:Nat)(ih:∀Γ,CallOK tbl Γ (rec Γ))(Γ:List Con):CallOK tbl Γ (sF1 tbl E rec n Γ):=by
  intro tg as st hs outs hs' ho X v env h s g hrob;have s0:=s.now;simp only [sF1] at ho;split at ho
  ·rename_i r hc;simp only [sI,pI] at ho;obtain ⟨rfl,_⟩:=ho;obtain ⟨c,hm,htg,hr⟩:=tf hc;rw [←htg v];exact tM s (g c hm) (g c hm).pos hr
  ·split at ho
   ·exact qN9 ih n ho s g (fun u hu=>(hrob u hu).1)
   ·rename_i f s8;split at ho
    ·rename_i Ts T hfe;split at ho
     ·rename_i hty;simp only [sI,pI] at ho;obtain ⟨rfl,_⟩:=ho;refine (hE f Ts T hfe v (aF v as) h s0.z (fm s0.z s0.fa _ _ hty)).mono ?_;rintro r h' ⟨rfl,hT⟩;exact (dN s (r:=some (r,h')) (c:=r) rfl (fun w sw=>hT w sw.z)).toF
     ·cases ho
    ·split at ho
     ·cases ho
     ·rename_i F hF;split at ho
      ·rename_i P posts ma mb hs1 _;split at ho
       ·rename_i hc;obtain ⟨c2,c3,c4,c5,c6⟩:=hc;split at ho
        ·rename_i outs1 hs2 hB;split at ho
         ·rename_i hfit;simp only [ez,pI] at ho;obtain ⟨r,hr,rfl,_⟩:=ho;have hPn:0 < P.n:=dD s.pos c4;have hall:∀(m:Nat) (W:V) (args:List CV) (h1:H),Agr st.n v W→Sat0 (FrX W P h1) W P args h1→(ma.ev W - mb.ev W).toNat≤m→Wf tbl (.fn f) args h1 (zC3 W (vS f st.n P posts ma mb none) h1):=by
           intro m
           induction m with
           | zero =>
            intro W args h1 hW sP hm;have sC1:Sat (FrX W P h1) W { P with fa:=P.fa++st.fa } args h1:=Sat.ofClosed c3 hPn sP (fun w hw f hf=>(s.all w (hW.trans hw c4)).fa f hf);have gW:GOK tbl W P.n (vS f st.n P posts ma mb (some (ma,mb))::Γ):=GOK.cons ⟨s.pos,c4,(fun h=>by cases h),c3,(fun a b hab=>by cases hab; exact ⟨c5,c6⟩),fun W' args' h' _ _ hl=>by
             have:=hl ma mb rfl; omega⟩ (g.mono hW c4)
            have:=fy (ih) hB sC1 gW (fun u hu=>by
             simp only [kO,aT] at c3;exact (fh hu _ c3.1.1).symm)
            rw [←sP.env] at this;refine yr hF c2 ?_;obtain ⟨k,rv,h2,hrun,o,ho,w,hw,hn,_,sat,hd⟩:=this;refine ⟨k,rv,h2,hrun,?_⟩;obtain ⟨p,hp,u,hu,hpn,hsat,hden⟩:=ff sat hn hPn (kw hfit o ho);exact ⟨p,hp,u,hw.trans hu (aV _),hpn,hsat,fun x hx=>by rw [hden x hx]; exact hd w (Agr.refl _ _)⟩
           | succ m ihm =>
            intro W args h1 hW sP hm;have sC1:Sat (FrX W P h1) W { P with fa:=P.fa++st.fa } args h1:=Sat.ofClosed c3 hPn sP (fun w hw f hf=>(s.all w (hW.trans hw c4)).fa f hf);have gW:GOK tbl W P.n (vS f st.n P posts ma mb (some (ma,mb))::Γ):=GOK.cons ⟨s.pos,c4,(fun h=>by cases h),c3,(fun a b hab=>by cases hab; exact ⟨c5,c6⟩),fun W' args' h' hW' sP' hl=>by
             have hl:=hl ma mb rfl;exact ihm W' args' h' (hW.trans hW' (aV _)) sP' (by
              have:(vS f st.n P posts ma mb (some (ma,mb))).ma.ev W' - (vS f st.n P posts ma mb (some (ma,mb))).mb.ev W'=ma.ev W' - mb.ev W':=rfl;omega)⟩ (g.mono hW c4)
            have:=fy (ih) hB sC1 gW (fun u hu=>by
             simp only [kO,aT] at c3;exact (fh hu _ c3.1.1).symm)
            rw [←sP.env] at this;refine yr hF c2 ?_;obtain ⟨k,rv,h2,hrun,o,ho,w,hw,hn,_,sat,hd⟩:=this;refine ⟨k,rv,h2,hrun,?_⟩;obtain ⟨p,hp,u,hu,hpn,hsat,hden⟩:=ff sat hn hPn (kw hfit o ho);exact ⟨p,hp,u,hw.trans hu (aV _),hpn,hsat,fun x hx=>by rw [hden x hx]; exact hd w (Agr.refl _ _)⟩
          have g0K:GOK1 tbl v st.n (vS f st.n P posts ma mb none):=⟨s.pos,aV _,(fun h=>by cases h),c3,(fun a b h=>by cases h),fun W args h1 hW sP _=>hall _ W args h1 hW sP (aV _)⟩;exact tM s g0K s.pos hr
         ·cases ho
        ·cases ho
       ·cases ho
      ·split at ho
       ·rename_i hm;exact yr hF hm (fy ih ho s g (fun u hu=>(hrob u hu).1))
       ·rename_i hm;split at ho
        ·rename_i outs1 hs1 hB;split at ho
         ·rename_i r hr;simp only [sI,pI] at ho;obtain ⟨rfl,_⟩:=ho;refine Wf_fn1 hF hm ?_;obtain ⟨k,rv,h2,hrun,o,ho,w,hw,hn,he,sat,hd⟩:=fy ih hB s g (fun u hu=>(hrob u hu).1);refine ⟨k,rv,h2,hrun,?_⟩;obtain ⟨x,hx,hxr⟩:=wM hr o ho;have sat1:Sat X w { o.2 with env:=[o.1] } [rv] h2:=eR sat (fun u hu=>by simp only [aF,hd u hu]);obtain ⟨o2,ho2,w2,hw2,hn2,he2,c2,h3,hz,sat2,hd2⟩:=yV sat1 (a:=o.1) (a':=x.1) (st':=x.2) hx (c:=rv) (fun u su=>by
           have:=su.env;simp only [aF,iJ,cZ] at this;exact this) 18
          simp only [cM] at ho2; subst ho2;have hn2':o.2.n≤x.2.n:=hn2;have hw2':Agr o.2.n w w2:=hw2;exact ⟨c2,h3,hz,_,hxr,w2,hw.trans hw2' hn,cz hn hn2',he,eR sat2 (fun u hu=>(sat.all u (hw2'.trans hu hn2')).env),hd2⟩
         ·cases ho
        ·cases ho
       ·rename_i hm0 hm1;split at ho
        ·rename_i hc;obtain ⟨c1,c2⟩:=hc;split at ho
         ·rename_i outs1 hs1 hB;split at ho
          ·rename_i r hr;simp only [sI,pI] at ho;obtain ⟨rfl,_⟩:=ho;obtain ⟨k1,k2⟩:=tC s0.fa c2;refine rW hF c1 (k2 18 h) k1 ?_;have sN:Sat ⟨H.empty,[]⟩ v ⟨st.n,[],st.fa,[]⟩ [] H.empty:=⟨s.pos,fun u hu=>⟨(s.all u hu).z,rfl,(s.all u hu).fa,(fun p hp=>by cases hp),by simp,(fun p hp=>by cases hp),aV _,fun _ _ _=>rfl⟩⟩;obtain ⟨k,rv,h2,hrun,o,ho,w,hw,hn,he,sat,hd⟩:=fy ih hB sN g (fun u hu=>(hrob u hu).1);refine ⟨k,rv,h2,hrun,?_⟩;obtain ⟨b1,b2⟩:=rI hr o ho;have e1:=hd w (Agr.refl _ _);have e2:=qH1 sat.now.fa b1 17 (h2,h);rw [e1] at e2;refine ⟨rv,h2,h,e2,_,b2,w,hw,hn,rfl,⟨sat.pos,fun u hu=>?_⟩,hd⟩;have su:=s.all u (hw.trans hu hn);exact ⟨su.z,su.env,(sat.all u hu).fa,su.bl,su.nd,su.lt,su.hn,su.fr⟩
          ·cases ho
         ·cases ho
        ·exact qNN hF (fun as st hs outs hs' hB v env h s g hrob=>fy ih hB s g hrob) ho s g (fun u hu=>(hrob u hu).1)
theorem qNP(s:Sat X v st env h){q:Nat}{t:Nat}{st2:St}(hs:splN q st=some (t,st2)):∃w,Agr st.n v w∧st.n≤st2.n∧t < st2.n∧st2.env=st.env∧Sat X w st2 env h:=by
 have s0:=s.now;unfold splN at hs;split at hs
 ·split at hs<;>(try (cases hs; done));rename_i hlt;simp only [sI,pI] at hs;obtain ⟨rfl,rfl⟩:=hs;exact ⟨v,Agr.refl _ _,aV _,hlt,rfl,s⟩
 ·split at hs<;>(try (cases hs; done));rename_i R lo hi hl;split at hs<;>(try (cases hs; done));rename_i hq;simp only [sI,pI] at hs;obtain ⟨rfl,rfl⟩:=hs;obtain ⟨n,hn⟩:=sT (dw s0.fa hl);refine ⟨upI v st.n n,bg _ _ _ _ _ _,dZ _,gO _,rfl,?_⟩;refine s.ext (w:=upI v st.n n) (n':=st.n+1) (fs:=[.len q st.n,.dc 0 st.n 0,.dc lo.s st.n (-lo.c),.dc st.n hi.s hi.c]) (dZ _) (bg _ _ _ _ _ _) (fun u hu f hf=>?_);obtain ⟨ha,hin,_⟩:=bQ hu;have su:=s.all u ha;have hT:=dw su.fa hl;have hnu:cV (u.c q)=some n:=by rw [←(ha q hq).2.1]; exact hn
  have hz:=su.z;simp only [aS,bz,br] at hf;have bnd:lo.ev u≤n∧(n:Int)≤hi.ev u:=by
   simp only [av] at hT;rcases hT with ⟨hT,h1,h2⟩ | ⟨rows,ex,hT,h1,h2,_⟩
   ·rw [hT] at hnu; simp only [cV,sI] at hnu; subst hnu; exact ⟨by omega,by omega⟩
   ·rw [hT] at hnu; simp only [cV,sI] at hnu; subst hnu; exact ⟨h1,h2⟩
  simp only [Lin.ev] at bnd;rcases hf with rfl | rfl | rfl | rfl
  ·exact ⟨n,hnu,hin⟩
  ·simp only [FOK,hin,hz]; omega
  ·simp only [FOK,hin]; omega
  ·simp only [FOK,hin]; omega
theorem zc{E:List (Nat × List Ty × Ty)}(hE:EOK tbl E):∀(n:Nat) (Γ:List Con),CallOK tbl Γ (sF tbl E n Γ):=by
 intro n
 induction n with
 | zero=>intro Γ tg as st hs outs hs' ho; cases ho
 | succ n ih =>
  intro Γ tg as st hs outs hs' ho X v env h s g hrob;have ok:=sF1ok hE n ih Γ;simp only [sF] at ho;split at ho
  ·rename_i q c hs1;unfold splC at ho;split at ho<;>(try (cases ho; done));rename_i t st2 hsp;split at ho<;>(try (cases ho; done));rename_i r1 hs2 h1;split at ho<;>(try (cases ho; done));rename_i r2 hs3 h2;simp only [sI,pI] at ho;obtain ⟨rfl,_⟩:=ho;obtain ⟨w,hw,hn,ht,henv,s2⟩:=qNP s hsp;have g2:GOK tbl w st2.n Γ:=g.mono hw hn;have add:∀f:Fact,(∀u,Agr st2.n w u→u.i 0=0→FOK u f)→Sat X w { st2 with fa:=f::st2.fa } env h:=fun f hf=>⟨s2.pos,fun u hu=>by
    have su:=s2.all u hu;refine ⟨su.z,su.env,fun f' hf'=>?_,su.bl,su.nd,su.lt,su.hn,su.fr⟩;rcases aS.1 hf' with rfl | hf'
    ·exact hf u hu su.z
    ·exact su.fa f' hf'⟩
   have rob:∀u,Agr st2.n w u→aF u as=aF w as∧tgT u tg=tgT w tg:=fun u hu=>by
    obtain ⟨a1,a2⟩:=hrob u (hw.trans hu hn);obtain ⟨b1,b2⟩:=hrob w hw;exact ⟨a1.trans b1.symm,a2.trans b2.symm⟩
   have back:∀{r:List (AV × St)},Wf tbl (tgT w tg) (aF w as) h (kh X w st2 env r)→(∀o,o∈r→o∈r1++r2)→Wf tbl (tgT v tg) (aF v as) h (kh X v st env (r1++r2)):=fun hW hsub=>by
    obtain ⟨b1,b2⟩:=hrob w hw;rw [b1,b2] at hW;refine hW.mono ?_;rintro rv h' ⟨o,ho,w2,hw2,hn2,he2,sat,hd⟩;exact ⟨o,hsub o ho,w2,hw.trans hw2 hn,cz hn hn2,he2.trans henv,sat,hd⟩
   rcases Int.lt_or_le c (w.i t) with hc | hc
   ·refine back (r:=r2) ?_ (fun o ho=>fF _ ho);have:=ok tg as _ hs2 r2 hs3 h2 X w env h (add (.dc 0 t (-(c+1))) (fun u hu hz=>by
     have e:=(hu t ht).1;simp only [FOK,hz]; omega)) g2 rob
    exact this
   ·refine back (r:=r1) ?_ (fun o ho=>ig _ ho);have:=ok tg as _ hs1 r1 hs2 h1 X w env h (add (.dc t 0 c) (fun u hu hz=>by
     have e:=(hu t ht).1;simp only [FOK,hz]; omega)) g2 rob
    exact this
  ·exact ok tg as st _ outs hs' ho X v env h s g hrob
end
end
end Ce.S
namespace Ce.S
noncomputable section
open Go
section
variable {tbl:Nat→Option IF}
theorem con_ok{E:List (Nat × List Ty × Ty)}(hE:EOK tbl E){n:Nat}{c:Con}{Γ:List Con}{hs hs':Hs}{outs:List (AV × St)}(h1:c.yl=false)(h0:c.n0=1)(hcl:kO c.pre=true)(hn:1≤c.pre.n)(hl:c.lim=none)
  (hrun:sF tbl E n Γ (.fn c.tg) c.pre.env c.pre hs=some (outs,hs')) (hfit:oC c.pre.n c.posts outs=true) (hΓ:∀v:V,v.i 0=0→GOK tbl v 1 Γ):∀v:V,v.i 0=0→GOK1 tbl v 1 c:=by
 intro v hv;refine ⟨by omega,by omega,fun h=>by (rw [h1] at h; cases h),hcl,fun a b h=>by (rw [hl] at h; cases h),?_⟩;intro W args h hW sP _;have hPn:0 < c.pre.n:=by omega
 have hz:W.i 0=0:=by rw [←(hW 0 (by omega)).1]; exact hv
 have sC1:Sat (FrX W c.pre h) W c.pre args h:=by
  have:=Sat.ofClosed (fs:=[]) hcl hPn sP (fun _ _ f hf=>by cases hf)
  simpa using this
 have hcl':=hcl;simp only [kO,aT] at hcl';have:=zc hE n Γ (.fn c.tg) c.pre.env c.pre hs outs hs' hrun (FrX W c.pre h) W args h sC1 ((hΓ W hz).mono (Agr.refl _ _) hn) (fun u hu=>⟨(fh hu _ hcl'.1.1).symm,rfl⟩);rw [←sP.env] at this;have ht:tgt v c=tgT W (.fn c.tg):=by simp only [tgt,h1,bj,bX,tgT]
 rw [ht];refine this.mono ?_;rintro r h' ⟨o,ho,w,hw,hnn,_,sat,hd⟩;obtain ⟨p,hp,u,hu,hpn,hsat,hden⟩:=ff sat hnn hPn (kw hfit o ho);exact ⟨p,hp,u,hw.trans hu (aV _),hpn,hsat,fun x hx=>by rw [hden x hx]; exact hd w (Agr.refl _ _)⟩
theorem qAV:∀v:V,v.i 0=0→GOK tbl v 1 []:=fun _ _=>GOK.nil
theorem bC{c:Con}{Γ:List Con}(h:∀v:V,v.i 0=0→GOK1 tbl v 1 c)(hΓ:∀v:V,v.i 0=0→GOK tbl v 1 Γ):∀v:V,v.i 0=0→GOK tbl v 1 (c::Γ):=fun v hv=>GOK.cons (h v hv) (hΓ v hv)
def v0:V:=⟨fun _=>0,fun _=>undef,fun _=>0,fun _=>⟨[],[],.skip,.skip⟩⟩
theorem api_ok{E:List (Nat × List Ty × Ty)}(hE:EOK tbl E){n:Nat}{F:IF}{Γ:List Con}(hΓ:∀v:V,v.i 0=0→GOK tbl v 1 Γ){Ts:List Ty}{hs hs':Hs}{outs:List (AV × St)}
  (hrun:lF (sF tbl E n) n F Γ (bS 1 Ts).1 ⟨(bS 1 Ts).2.2,[],(bS 1 Ts).2.1,[]⟩ hs=some (outs,hs')) {args:List CV} (hT:∀v:V,v.i 0=0→a8 v Ts args) :
  Wb tbl F args H.empty fun r h'=>∃o,o∈outs∧∃w,Sat ⟨H.empty,[]⟩ w o.2 [] h'∧∀u,Agr o.2.n w u→den u o.1=r:=by
 have hz:∀u:V,Agr 1 v0 u→u.i 0=0:=fun u hu=>(hu 0 (by omega)).1.symm
 obtain ⟨hle,w,hw,hall⟩:=i4 Ts 1 v0 args (fun u hu=>hT u (hz u hu));have sat:Sat ⟨H.empty,[]⟩ w ⟨(bS 1 Ts).2.2,[],(bS 1 Ts).2.1,[]⟩ [] H.empty:=⟨by show 0 < (bS 1 Ts).2.2; omega,fun u hu=>⟨hz u (hw.trans hu hle),rfl,(hall u hu).2,(fun p hp=>by cases hp),by simp,(fun p hp=>by cases hp),aV _,fun _ _ _=>rfl⟩⟩;have hd:∀u,Agr (bS 1 Ts).2.2 w u→aF u (bS 1 Ts).1=args:=fun u hu=>(hall u hu).1
 have g:GOK tbl w (bS 1 Ts).2.2 Γ:=(hΓ w (hz w hw)).mono (Agr.refl _ _) hle;have:=fy (zc hE n) hrun sat g (fun u hu=>by rw [hd u hu,hd w (Agr.refl _ _)]);rw [hd w (Agr.refl _ _)] at this;obtain ⟨k,r,h',hr,o,ho,w2,hw2,hn2,_,s2,hden⟩:=this;refine ⟨k,r,h',hr,o,ho,w2,s2.agr (Agr.refl _ _) |> fun s=>?_,hden⟩;exact ⟨s.pos,fun u hu=>let a:=s.all u hu; ⟨a.z,a.env,a.fa,a.bl,a.nd,a.lt,a.hn,a.fr⟩⟩
theorem qBJ:EOK tbl []:=fun f Ts T h=>by cases h
end
end
end Ce.S
