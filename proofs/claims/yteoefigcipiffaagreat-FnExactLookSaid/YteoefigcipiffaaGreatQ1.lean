/- Texts of this law, joined. -/
import Derived.Test.YteoefigcipiffaaGreatVd
import Derived.Test.YteoefigcipiffaaGreatF
import Derived.Test.YteoefigcipiffaaGreatVc
set_option linter.unusedSimpArgs false
set_option linter.unusedVariables false
namespace Vg.Tryz
open Go Vg
set_option linter.unusedVariables false
set_option linter.unusedSectionVars false
set_option linter.unusedSimpArgs false
section
variable {k:Nat} (hk:9223372036854775808≤k)
include hk
theorem NV {x:List ByteArray} {left:Int} (hx:Fits (.sl .str) x) (h0:0≤left) (h1:left≤1048576):nj k (x,left,())=some (bG (ag (.sl .str) x) left,()):=
 Ur hk hx h0 h1
theorem jj (x:cg):ag bC x=ag (.sl .str) x.2.2.2.2.2:=by
 obtain⟨x0,x1,x2,x3,x4,x5⟩:=x
 simp only[ag]
 try omega
theorem Q8 {x:cg} {left:Int} (hx:Fits bC x) (h0:0≤left) (h1:left≤1048576):mK k (x,left,())=some (bG (ag bC x) left,()):=by
 rw[jj hk]
 simp only[mK]
 rw[NV hk hx.2.2.2.2.2 h0 h1,Option.bind_some]
 by_cases h2:bG (ag (.sl .str) x.2.2.2.2.2) left<0
 ·rw[if_pos (by simpa using h2)];exact congrArg (fun z=>some (z,())) (cn h2 (by omega)).symm
 rw[if_neg (by simpa using h2)]
theorem nM (x:ai):ag af x=x.1.size+x.2.size:=by
 obtain⟨x0,x1⟩:=x
 simp only[ag]
 try omega
theorem QE {x:ai} {left:Int} (hx:Fits af x) (h0:0≤left) (h1:left≤1048576):iw k (x,left,())=some (bG (ag af x) left,()):=by
 rw[nM hk]
 simp only[iw]
 try simp only
 rw[AM hx.1 h0 h1]
 by_cases h2:bG (x.1.size) left<0
 ·rw[if_pos (by simpa using h2)];exact congrArg (fun z=>some (z,())) (cn h2 (by omega)).symm
 rw[if_neg (by simpa using h2)]
 rw[xF hx.1 h0 h1 h2]
 try simp only
 rw[AM hx.2 (cC h2).1 (by have:=dU (t:=x.1.size) h0;omega)]
 rw[cW h2]
 by_cases h3:bG (x.1.size+x.2.size) left<0
 ·rw[if_pos (by simpa using h3)];exact congrArg (fun z=>some (z,())) (cn h3 (by omega)).symm
 rw[if_neg (by simpa using h3)]
 rw[xF hx.2 (cC h2).1 (by have:=dU (t:=x.1.size) h0;omega) (by rw[cW h2];exact h3),cW h2]
theorem kh {x:List ai} {left:Int} (hx:Fits (.sl af) x) (h0:0≤left) (h1:left≤1048576):dX k (x,left,())=some (bG (ag (.sl af) x) left,()):=
 nS (d:=af.aa) (S:=iw k) hk hx.1 h0 h1 (fun e he l a b=>QE hk (hx.2 e he) a b)
theorem ch (x:al):ag ab x=ag (.sl af) x.1+x.2.2.2.size:=by
 obtain⟨x0,x1,x2,x3⟩:=x
 simp only[ag]
 try omega
theorem xJ {x:al} {left:Int} (hx:Fits ab x) (h0:0≤left) (h1:left≤1048576):eV k (x,left,())=some (bG (ag ab x) left,()):=by
 rw[ch hk]
 simp only[eV]
 rw[kh hk hx.1 h0 h1,Option.bind_some]
 by_cases h2:bG (ag (.sl af) x.1) left<0
 ·rw[if_pos (by simpa using h2)];exact congrArg (fun z=>some (z,())) (cn h2 (by omega)).symm
 rw[if_neg (by simpa using h2)]
 try simp only
 rw[AM hx.2.2.2 (cC h2).1 (by have:=dU (t:=ag (.sl af) x.1) h0;omega)]
 rw[cW h2]
 by_cases h3:bG (ag (.sl af) x.1+x.2.2.2.size) left<0
 ·rw[if_pos (by simpa using h3)];exact congrArg (fun z=>some (z,())) (cn h3 (by omega)).symm
 rw[if_neg (by simpa using h3)]
 rw[xF hx.2.2.2 (cC h2).1 (by have:=dU (t:=ag (.sl af) x.1) h0;omega) (by rw[cW h2];exact h3),cW h2]
theorem fS {x:List al} {left:Int} (hx:Fits (.sl ab) x) (h0:0≤left) (h1:left≤1048576):de k (x,left,())=some (bG (ag (.sl ab) x) left,()):=
 nS (d:=ab.aa) (S:=eV k) hk hx.1 h0 h1 (fun e he l a b=>xJ hk (hx.2 e he) a b)
theorem ew (x:aZ):ag ay x=ag (.sl ab) x.2:=by
 obtain⟨x0,x1⟩:=x
 simp only[ag]
 try omega
theorem Qz {x:aZ} {left:Int} (hx:Fits ay x) (h0:0≤left) (h1:left≤1048576):iJ k (x,left,())=some (bG (ag ay x) left,()):=by
 rw[ew hk]
 simp only[iJ]
 rw[fS hk hx.2 h0 h1,Option.bind_some]
 by_cases h2:bG (ag (.sl ab) x.2) left<0
 ·rw[if_pos (by simpa using h2)];exact congrArg (fun z=>some (z,())) (cn h2 (by omega)).symm
 rw[if_neg (by simpa using h2)]
theorem OR {x:List aZ} {left:Int} (hx:Fits (.sl ay) x) (h0:0≤left) (h1:left≤1048576):oD k (x,left,())=some (bG (ag (.sl ay) x) left,()):=
 nS (d:=ay.aa) (S:=iJ k) hk hx.1 h0 h1 (fun e he l a b=>Qz hk (hx.2 e he) a b)
theorem dF (x:aG):ag ak x=ag (.sl ay) x.2.2:=by
 obtain⟨x0,x1,x2⟩:=x
 simp only[ag]
 try omega
theorem RF {x:aG} {left:Int} (hx:Fits ak x) (h0:0≤left) (h1:left≤1048576):jN k (x,left,())=some (bG (ag ak x) left,()):=by
 rw[dF hk]
 simp only[jN]
 rw[OR hk hx.2.2 h0 h1,Option.bind_some]
 by_cases h2:bG (ag (.sl ay) x.2.2) left<0
 ·rw[if_pos (by simpa using h2)];exact congrArg (fun z=>some (z,())) (cn h2 (by omega)).symm
 rw[if_neg (by simpa using h2)]
theorem PX {x:List aG} {left:Int} (hx:Fits (.sl ak) x) (h0:0≤left) (h1:left≤1048576):pw k (x,left,())=some (bG (ag (.sl ak) x) left,()):=
 nS (d:=ak.aa) (S:=jN k) hk hx.1 h0 h1 (fun e he l a b=>RF hk (hx.2 e he) a b)
theorem nH (x:bF):ag aU x=ag (.sl ab) x.1:=by
 obtain⟨x0,x1⟩:=x
 simp only[ag]
 try omega
theorem SG {x:bF} {left:Int} (hx:Fits aU x) (h0:0≤left) (h1:left≤1048576):k9 k (x,left,())=some (bG (ag aU x) left,()):=by
 rw[nH hk]
 simp only[k9]
 rw[fS hk hx.1 h0 h1,Option.bind_some]
 by_cases h2:bG (ag (.sl ab) x.1) left<0
 ·rw[if_pos (by simpa using h2)];exact congrArg (fun z=>some (z,())) (cn h2 (by omega)).symm
 rw[if_neg (by simpa using h2)]
theorem RO {x:List bF} {left:Int} (hx:Fits (.sl aU) x) (h0:0≤left) (h1:left≤1048576):qC k (x,left,())=some (bG (ag (.sl aU) x) left,()):=
 nS (d:=aU.aa) (S:=k9 k) hk hx.1 h0 h1 (fun e he l a b=>SG hk (hx.2 e he) a b)
theorem gF (x:aJ):ag aj x=ag (.sl af) x.2.1+ag (.sl ab) x.2.2.2.2:=by
 obtain⟨x0,x1,x2,x3,x4⟩:=x
 simp only[ag]
 try omega
theorem PF {x:aJ} {left:Int} (hx:Fits aj x) (h0:0≤left) (h1:left≤1048576):iN k (x,left,())=some (bG (ag aj x) left,()):=by
 rw[gF hk]
 simp only[iN]
 rw[kh hk hx.2.1 h0 h1,Option.bind_some]
 by_cases h2:bG (ag (.sl af) x.2.1) left<0
 ·rw[if_pos (by simpa using h2)];exact congrArg (fun z=>some (z,())) (cn h2 (by omega)).symm
 rw[if_neg (by simpa using h2)]
 rw[fS hk hx.2.2.2.2 (cC h2).1 (by have:=dU (t:=ag (.sl af) x.2.1) h0;omega),Option.bind_some]
 rw[cW h2]
 by_cases h3:bG (ag (.sl af) x.2.1+ag (.sl ab) x.2.2.2.2) left<0
 ·rw[if_pos (by simpa using h3)];exact congrArg (fun z=>some (z,())) (cn h3 (by omega)).symm
 rw[if_neg (by simpa using h3)]
theorem N0 {x:List aJ} {left:Int} (hx:Fits (.sl aj) x) (h0:0≤left) (h1:left≤1048576):oE k (x,left,())=some (bG (ag (.sl aj) x) left,()):=
 nS (d:=aj.aa) (S:=iN k) hk hx.1 h0 h1 (fun e he l a b=>PF hk (hx.2 e he) a b)
theorem OQ {x:List bl} {left:Int} (hx:Fits (.sl aC) x) (h0:0≤left) (h1:left≤1048576):kB k (x,left,())=some (bG (ag (.sl aC) x) left,()):=
 RM (e:=aC) (F:=kB) (k:=k) (fun _=>rfl) (by rfl) hx h0 h1
theorem nO (x:bz):ag aN x=ag (.sl af) x.2.1+ag (.sl ab) x.2.2.2:=by
 obtain⟨x0,x1,x2,x3⟩:=x
 simp only[ag]
 try omega
theorem Qb {x:bz} {left:Int} (hx:Fits aN x) (h0:0≤left) (h1:left≤1048576):iE k (x,left,())=some (bG (ag aN x) left,()):=by
 rw[nO hk]
 simp only[iE]
 rw[kh hk hx.2.1 h0 h1,Option.bind_some]
 by_cases h2:bG (ag (.sl af) x.2.1) left<0
 ·rw[if_pos (by simpa using h2)];exact congrArg (fun z=>some (z,())) (cn h2 (by omega)).symm
 rw[if_neg (by simpa using h2)]
 rw[fS hk hx.2.2.2 (cC h2).1 (by have:=dU (t:=ag (.sl af) x.2.1) h0;omega),Option.bind_some]
 rw[cW h2]
 by_cases h3:bG (ag (.sl af) x.2.1+ag (.sl ab) x.2.2.2) left<0
 ·rw[if_pos (by simpa using h3)];exact congrArg (fun z=>some (z,())) (cn h3 (by omega)).symm
 rw[if_neg (by simpa using h3)]
theorem Oj {x:List bz} {left:Int} (hx:Fits (.sl aN) x) (h0:0≤left) (h1:left≤1048576):oH k (x,left,())=some (bG (ag (.sl aN) x) left,()):=
 nS (d:=aN.aa) (S:=iE k) hk hx.1 h0 h1 (fun e he l a b=>Qb hk (hx.2 e he) a b)
theorem Rr {x:List Int} {left:Int} (hx:Fits (.sl (.int .i64)) x) (h0:0≤left) (h1:left≤1048576):mY k (x,left,())=some (bG (ag (.sl (.int .i64)) x) left,()):=
 RM (e:=(.int .i64)) (F:=mY) (k:=k) (fun _=>rfl) (by rfl) hx h0 h1
theorem dH (x:aL):ag ah x=ag ab x.2.2.1+ag (.sl af) x.2.2.2.1+ag (.sl (.int .i64)) x.2.2.2.2.2.1+ag (.sl ab) x.2.2.2.2.2.2.1:=by
 obtain⟨x0,x1,x2,x3,x4,x5,x6,x7,x8⟩:=x
 simp only[ag]
 try omega
theorem Q1 {x:aL} {left:Int} (hx:Fits ah x) (h0:0≤left) (h1:left≤1048576):jM k (x,left,())=some (bG (ag ah x) left,()):=by
 rw[dH hk]
 simp only[jM]
 rw[xJ hk hx.2.2.1 h0 h1,Option.bind_some]
 by_cases h2:bG (ag ab x.2.2.1) left<0
 ·rw[if_pos (by simpa using h2)];exact congrArg (fun z=>some (z,())) (cn h2 (by omega)).symm
 rw[if_neg (by simpa using h2)]
 rw[kh hk hx.2.2.2.1 (cC h2).1 (by have:=dU (t:=ag ab x.2.2.1) h0;omega),Option.bind_some]
 rw[cW h2]
 by_cases h3:bG (ag ab x.2.2.1+ag (.sl af) x.2.2.2.1) left<0
 ·rw[if_pos (by simpa using h3)];exact congrArg (fun z=>some (z,())) (cn h3 (by omega)).symm
 rw[if_neg (by simpa using h3)]
 rw[Rr hk hx.2.2.2.2.2.1 (cC h3).1 (by have:=dU (t:=ag ab x.2.2.1+ag (.sl af) x.2.2.2.1) h0;omega),Option.bind_some]
 rw[cW h3]
 by_cases h4:bG (ag ab x.2.2.1+ag (.sl af) x.2.2.2.1+ag (.sl (.int .i64)) x.2.2.2.2.2.1) left<0
 ·rw[if_pos (by simpa using h4)];exact congrArg (fun z=>some (z,())) (cn h4 (by omega)).symm
 rw[if_neg (by simpa using h4)]
 rw[fS hk hx.2.2.2.2.2.2.1 (cC h4).1 (by have:=dU (t:=ag ab x.2.2.1+ag (.sl af) x.2.2.2.1+ag (.sl (.int .i64)) x.2.2.2.2.2.1) h0;omega),Option.bind_some]
 rw[cW h4]
 by_cases h5:bG (ag ab x.2.2.1+ag (.sl af) x.2.2.2.1+ag (.sl (.int .i64)) x.2.2.2.2.2.1+ag (.sl ab) x.2.2.2.2.2.2.1) left<0
 ·rw[if_pos (by simpa using h5)];exact congrArg (fun z=>some (z,())) (cn h5 (by omega)).symm
 rw[if_neg (by simpa using h5)]
theorem PT {x:List aL} {left:Int} (hx:Fits (.sl ah) x) (h0:0≤left) (h1:left≤1048576):pB k (x,left,())=some (bG (ag (.sl ah) x) left,()):=
 nS (d:=ah.aa) (S:=jM k) hk hx.1 h0 h1 (fun e he l a b=>Q1 hk (hx.2 e he) a b)
theorem kN (x:bg):ag aq x=ag ab x.2.2.1+ag (.sl af) x.2.2.2.1+ag (.sl ab) x.2.2.2.2.2.2.2.1:=by
 obtain⟨x0,x1,x2,x3,x4,x5,x6,x7,x8,x9,x10,x11⟩:=x
 simp only[ag]
 try omega
theorem QL {x:bg} {left:Int} (hx:Fits aq x) (h0:0≤left) (h1:left≤1048576):jJ k (x,left,())=some (bG (ag aq x) left,()):=by
 rw[kN hk]
 simp only[jJ]
 rw[xJ hk hx.2.2.1 h0 h1,Option.bind_some]
 by_cases h2:bG (ag ab x.2.2.1) left<0
 ·rw[if_pos (by simpa using h2)];exact congrArg (fun z=>some (z,())) (cn h2 (by omega)).symm
 rw[if_neg (by simpa using h2)]
 rw[kh hk hx.2.2.2.1 (cC h2).1 (by have:=dU (t:=ag ab x.2.2.1) h0;omega),Option.bind_some]
 rw[cW h2]
 by_cases h3:bG (ag ab x.2.2.1+ag (.sl af) x.2.2.2.1) left<0
 ·rw[if_pos (by simpa using h3)];exact congrArg (fun z=>some (z,())) (cn h3 (by omega)).symm
 rw[if_neg (by simpa using h3)]
 rw[fS hk hx.2.2.2.2.2.2.2.1 (cC h3).1 (by have:=dU (t:=ag ab x.2.2.1+ag (.sl af) x.2.2.2.1) h0;omega),Option.bind_some]
 rw[cW h3]
 by_cases h4:bG (ag ab x.2.2.1+ag (.sl af) x.2.2.2.1+ag (.sl ab) x.2.2.2.2.2.2.2.1) left<0
 ·rw[if_pos (by simpa using h4)];exact congrArg (fun z=>some (z,())) (cn h4 (by omega)).symm
 rw[if_neg (by simpa using h4)]
theorem Qv {x:List bg} {left:Int} (hx:Fits (.sl aq) x) (h0:0≤left) (h1:left≤1048576):pv k (x,left,())=some (bG (ag (.sl aq) x) left,()):=
 nS (d:=aq.aa) (S:=jJ k) hk hx.1 h0 h1 (fun e he l a b=>QL hk (hx.2 e he) a b)
theorem gK (x:ar):ag aE x=ag bC x.1+ag (.sl ak) x.2.2.2.1+ag (.sl aU) x.2.2.2.2.1+ag (.sl ab) x.2.2.2.2.2.1+ag (.sl aj) x.2.2.2.2.2.2.2.1+ag (.sl aC) x.2.2.2.2.2.2.2.2.2.1+ag (.sl aN) x.2.2.2.2.2.2.2.2.2.2.1+ag (.sl ab) x.2.2.2.2.2.2.2.2.2.2.2.1+ag (.sl ah) x.2.2.2.2.2.2.2.2.2.2.2.2.1+ag (.sl aq) x.2.2.2.2.2.2.2.2.2.2.2.2.2:=by
 obtain⟨x0,x1,x2,x3,x4,x5,x6,x7,x8,x9,x10,x11,x12,x13⟩:=x
 simp only[ag]
 try omega
theorem PD {x:ar} {left:Int} (hx:Fits aE x) (h0:0≤left) (h1:left≤1048576):lR k (x,left,())=some (bG (ag aE x) left,()):=by
 rw[gK hk]
 simp only[lR]
 rw[Q8 hk hx.1 h0 h1,Option.bind_some]
 by_cases h2:bG (ag bC x.1) left<0
 ·rw[if_pos (by simpa using h2)];exact congrArg (fun z=>some (z,())) (cn h2 (by omega)).symm
 rw[if_neg (by simpa using h2)]
 rw[PX hk hx.2.2.2.1 (cC h2).1 (by have:=dU (t:=ag bC x.1) h0;omega),Option.bind_some]
 rw[cW h2]
 by_cases h3:bG (ag bC x.1+ag (.sl ak) x.2.2.2.1) left<0
 ·rw[if_pos (by simpa using h3)];exact congrArg (fun z=>some (z,())) (cn h3 (by omega)).symm
 rw[if_neg (by simpa using h3)]
 rw[RO hk hx.2.2.2.2.1 (cC h3).1 (by have:=dU (t:=ag bC x.1+ag (.sl ak) x.2.2.2.1) h0;omega),Option.bind_some]
 rw[cW h3]
 by_cases h4:bG (ag bC x.1+ag (.sl ak) x.2.2.2.1+ag (.sl aU) x.2.2.2.2.1) left<0
 ·rw[if_pos (by simpa using h4)];exact congrArg (fun z=>some (z,())) (cn h4 (by omega)).symm
 rw[if_neg (by simpa using h4)]
 rw[fS hk hx.2.2.2.2.2.1 (cC h4).1 (by have:=dU (t:=ag bC x.1+ag (.sl ak) x.2.2.2.1+ag (.sl aU) x.2.2.2.2.1) h0;omega),Option.bind_some]
 rw[cW h4]
 by_cases h5:bG (ag bC x.1+ag (.sl ak) x.2.2.2.1+ag (.sl aU) x.2.2.2.2.1+ag (.sl ab) x.2.2.2.2.2.1) left<0
 ·rw[if_pos (by simpa using h5)];exact congrArg (fun z=>some (z,())) (cn h5 (by omega)).symm
 rw[if_neg (by simpa using h5)]
 rw[N0 hk hx.2.2.2.2.2.2.2.1 (cC h5).1 (by have:=dU (t:=ag bC x.1+ag (.sl ak) x.2.2.2.1+ag (.sl aU) x.2.2.2.2.1+ag (.sl ab) x.2.2.2.2.2.1) h0;omega),Option.bind_some]
 rw[cW h5]
 by_cases h6:bG (ag bC x.1+ag (.sl ak) x.2.2.2.1+ag (.sl aU) x.2.2.2.2.1+ag (.sl ab) x.2.2.2.2.2.1+ag (.sl aj) x.2.2.2.2.2.2.2.1) left<0
 ·rw[if_pos (by simpa using h6)];exact congrArg (fun z=>some (z,())) (cn h6 (by omega)).symm
 rw[if_neg (by simpa using h6)]
 rw[OQ hk hx.2.2.2.2.2.2.2.2.2.1 (cC h6).1 (by have:=dU (t:=ag bC x.1+ag (.sl ak) x.2.2.2.1+ag (.sl aU) x.2.2.2.2.1+ag (.sl ab) x.2.2.2.2.2.1+ag (.sl aj) x.2.2.2.2.2.2.2.1) h0;omega),Option.bind_some]
 rw[cW h6]
 by_cases h7:bG (ag bC x.1+ag (.sl ak) x.2.2.2.1+ag (.sl aU) x.2.2.2.2.1+ag (.sl ab) x.2.2.2.2.2.1+ag (.sl aj) x.2.2.2.2.2.2.2.1+ag (.sl aC) x.2.2.2.2.2.2.2.2.2.1) left<0
 ·rw[if_pos (by simpa using h7)];exact congrArg (fun z=>some (z,())) (cn h7 (by omega)).symm
 rw[if_neg (by simpa using h7)]
 rw[Oj hk hx.2.2.2.2.2.2.2.2.2.2.1 (cC h7).1 (by have:=dU (t:=ag bC x.1+ag (.sl ak) x.2.2.2.1+ag (.sl aU) x.2.2.2.2.1+ag (.sl ab) x.2.2.2.2.2.1+ag (.sl aj) x.2.2.2.2.2.2.2.1+ag (.sl aC) x.2.2.2.2.2.2.2.2.2.1) h0;omega),Option.bind_some]
 rw[cW h7]
 by_cases h8:bG (ag bC x.1+ag (.sl ak) x.2.2.2.1+ag (.sl aU) x.2.2.2.2.1+ag (.sl ab) x.2.2.2.2.2.1+ag (.sl aj) x.2.2.2.2.2.2.2.1+ag (.sl aC) x.2.2.2.2.2.2.2.2.2.1+ag (.sl aN) x.2.2.2.2.2.2.2.2.2.2.1) left<0
 ·rw[if_pos (by simpa using h8)];exact congrArg (fun z=>some (z,())) (cn h8 (by omega)).symm
 rw[if_neg (by simpa using h8)]
 rw[fS hk hx.2.2.2.2.2.2.2.2.2.2.2.1 (cC h8).1 (by have:=dU (t:=ag bC x.1+ag (.sl ak) x.2.2.2.1+ag (.sl aU) x.2.2.2.2.1+ag (.sl ab) x.2.2.2.2.2.1+ag (.sl aj) x.2.2.2.2.2.2.2.1+ag (.sl aC) x.2.2.2.2.2.2.2.2.2.1+ag (.sl aN) x.2.2.2.2.2.2.2.2.2.2.1) h0;omega),Option.bind_some]
 rw[cW h8]
 by_cases h9:bG (ag bC x.1+ag (.sl ak) x.2.2.2.1+ag (.sl aU) x.2.2.2.2.1+ag (.sl ab) x.2.2.2.2.2.1+ag (.sl aj) x.2.2.2.2.2.2.2.1+ag (.sl aC) x.2.2.2.2.2.2.2.2.2.1+ag (.sl aN) x.2.2.2.2.2.2.2.2.2.2.1+ag (.sl ab) x.2.2.2.2.2.2.2.2.2.2.2.1) left<0
 ·rw[if_pos (by simpa using h9)];exact congrArg (fun z=>some (z,())) (cn h9 (by omega)).symm
 rw[if_neg (by simpa using h9)]
 rw[PT hk hx.2.2.2.2.2.2.2.2.2.2.2.2.1 (cC h9).1 (by have:=dU (t:=ag bC x.1+ag (.sl ak) x.2.2.2.1+ag (.sl aU) x.2.2.2.2.1+ag (.sl ab) x.2.2.2.2.2.1+ag (.sl aj) x.2.2.2.2.2.2.2.1+ag (.sl aC) x.2.2.2.2.2.2.2.2.2.1+ag (.sl aN) x.2.2.2.2.2.2.2.2.2.2.1+ag (.sl ab) x.2.2.2.2.2.2.2.2.2.2.2.1) h0;omega),Option.bind_some]
 rw[cW h9]
 by_cases h10:bG (ag bC x.1+ag (.sl ak) x.2.2.2.1+ag (.sl aU) x.2.2.2.2.1+ag (.sl ab) x.2.2.2.2.2.1+ag (.sl aj) x.2.2.2.2.2.2.2.1+ag (.sl aC) x.2.2.2.2.2.2.2.2.2.1+ag (.sl aN) x.2.2.2.2.2.2.2.2.2.2.1+ag (.sl ab) x.2.2.2.2.2.2.2.2.2.2.2.1+ag (.sl ah) x.2.2.2.2.2.2.2.2.2.2.2.2.1) left<0
 ·rw[if_pos (by simpa using h10)];exact congrArg (fun z=>some (z,())) (cn h10 (by omega)).symm
 rw[if_neg (by simpa using h10)]
 rw[Qv hk hx.2.2.2.2.2.2.2.2.2.2.2.2.2 (cC h10).1 (by have:=dU (t:=ag bC x.1+ag (.sl ak) x.2.2.2.1+ag (.sl aU) x.2.2.2.2.1+ag (.sl ab) x.2.2.2.2.2.1+ag (.sl aj) x.2.2.2.2.2.2.2.1+ag (.sl aC) x.2.2.2.2.2.2.2.2.2.1+ag (.sl aN) x.2.2.2.2.2.2.2.2.2.2.1+ag (.sl ab) x.2.2.2.2.2.2.2.2.2.2.2.1+ag (.sl ah) x.2.2.2.2.2.2.2.2.2.2.2.2.1) h0;omega),Option.bind_some]
 rw[cW h10]
 by_cases h11:bG (ag bC x.1+ag (.sl ak) x.2.2.2.1+ag (.sl aU) x.2.2.2.2.1+ag (.sl ab) x.2.2.2.2.2.1+ag (.sl aj) x.2.2.2.2.2.2.2.1+ag (.sl aC) x.2.2.2.2.2.2.2.2.2.1+ag (.sl aN) x.2.2.2.2.2.2.2.2.2.2.1+ag (.sl ab) x.2.2.2.2.2.2.2.2.2.2.2.1+ag (.sl ah) x.2.2.2.2.2.2.2.2.2.2.2.2.1+ag (.sl aq) x.2.2.2.2.2.2.2.2.2.2.2.2.2) left<0
 ·rw[if_pos (by simpa using h11)];exact congrArg (fun z=>some (z,())) (cn h11 (by omega)).symm
 rw[if_neg (by simpa using h11)]
theorem NC {x:List ByteArray} (h:ag (.sl .str) x≤1048576):nD k (x,())=some (x,()):=
 QO (d:=ByteArray.empty) hk (Nat.le_trans (aA (e:= .str)) h)
theorem Rx {x:cg} (h:ag bC x≤1048576):mW k (x,())=some (x,()):=by
 rw[jj hk]at h
 simp only[mW]
 rw[NC hk (by omega)]
 try rfl
theorem PA {x:ai} (h:ag af x≤1048576):iU k (x,())=some (x,()):=by
 rw[nM hk]at h
 simp only[iU]
 try rfl
theorem fg {x:List ai} (h:ag (.sl af) x≤1048576):cO k (x,())=some (x,()):=
 kX (d:=af.aa) (S:=iU k) hk (Nat.le_trans (aA (e:=af)) h) (fun e he=>PA hk (Nat.le_trans (bo (e:=af) he) h))
theorem xk {x:al} (h:ag ab x≤1048576):eR k (x,())=some (x,()):=by
 rw[ch hk]at h
 simp only[eR]
 rw[fg hk (by omega)]
 try rfl
theorem fN {x:List al} (h:ag (.sl ab) x≤1048576):da k (x,())=some (x,()):=
 kX (d:=ab.aa) (S:=eR k) hk (Nat.le_trans (aA (e:=ab)) h) (fun e he=>xk hk (Nat.le_trans (bo (e:=ab) he) h))
theorem QI {x:aZ} (h:ag ay x≤1048576):iX k (x,())=some (x,()):=by
 rw[ew hk]at h
 simp only[iX]
 rw[fN hk (by omega)]
 try rfl
theorem N5 {x:List aZ} (h:ag (.sl ay) x≤1048576):oh k (x,())=some (x,()):=
 kX (d:=ay.aa) (S:=iX k) hk (Nat.le_trans (aA (e:=ay)) h) (fun e he=>QI hk (Nat.le_trans (bo (e:=ay) he) h))
theorem Rl {x:aG} (h:ag ak x≤1048576):jF k (x,())=some (x,()):=by
 rw[dF hk]at h
 simp only[jF]
 rw[N5 hk (by omega)]
 try rfl
theorem PC {x:List aG} (h:ag (.sl ak) x≤1048576):pA k (x,())=some (x,()):=
 kX (d:=ak.aa) (S:=jF k) hk (Nat.le_trans (aA (e:=ak)) h) (fun e he=>Rl hk (Nat.le_trans (bo (e:=ak) he) h))
theorem R4 {x:bF} (h:ag aU x≤1048576):lp k (x,())=some (x,()):=by
 rw[nH hk]at h
 simp only[lp]
 rw[fN hk (by omega)]
 try rfl
theorem Rk {x:List bF} (h:ag (.sl aU) x≤1048576):qA k (x,())=some (x,()):=
 kX (d:=aU.aa) (S:=lp k) hk (Nat.le_trans (aA (e:=aU)) h) (fun e he=>R4 hk (Nat.le_trans (bo (e:=aU) he) h))
theorem P5 {x:aJ} (h:ag aj x≤1048576):iG k (x,())=some (x,()):=by
 rw[gF hk]at h
 simp only[iG]
 rw[fg hk (by omega),fN hk (by omega)]
 try rfl
theorem OI {x:List aJ} (h:ag (.sl aj) x≤1048576):oC k (x,())=some (x,()):=
 kX (d:=aj.aa) (S:=iG k) hk (Nat.le_trans (aA (e:=aj)) h) (fun e he=>P5 hk (Nat.le_trans (bo (e:=aj) he) h))
theorem zC (x:bl):ag aC x=0:=by
 obtain⟨x0,x1⟩:=x
 simp only[ag]
 try omega
theorem Px {x:bl} (h:ag aC x≤1048576):iV k (x,())=some (x,()):=by
 rw[zC hk]at h
 simp only[iV]
 try rfl
theorem OO {x:List bl} (h:ag (.sl aC) x≤1048576):ot k (x,())=some (x,()):=
 kX (d:=aC.aa) (S:=iV k) hk (Nat.le_trans (aA (e:=aC)) h) (fun e he=>Px hk (Nat.le_trans (bo (e:=aC) he) h))
theorem Qg {x:bz} (h:ag aN x≤1048576):iq k (x,())=some (x,()):=by
 rw[nO hk]at h
 simp only[iq]
 rw[fg hk (by omega),fN hk (by omega)]
 try rfl
theorem Ol {x:List bz} (h:ag (.sl aN) x≤1048576):oJ k (x,())=some (x,()):=
 kX (d:=aN.aa) (S:=iq k) hk (Nat.le_trans (aA (e:=aN)) h) (fun e he=>Qg hk (Nat.le_trans (bo (e:=aN) he) h))
theorem Q2 {x:List Int} (h:ag (.sl (.int .i64)) x≤1048576):qz k (x,())=some (x,()):=
 QO (d:=0) hk (Nat.le_trans (aA (e:=(.int .i64))) h)
theorem QN {x:aL} (h:ag ah x≤1048576):jV k (x,())=some (x,()):=by
 rw[dH hk]at h
 simp only[jV]
 rw[xk hk (by omega),fg hk (by omega),Q2 hk (by omega),fN hk (by omega)]
 try rfl
theorem PN {x:List aL} (h:ag (.sl ah) x≤1048576):pJ k (x,())=some (x,()):=
 kX (d:=ah.aa) (S:=jV k) hk (Nat.le_trans (aA (e:=ah)) h) (fun e he=>QN hk (Nat.le_trans (bo (e:=ah) he) h))
theorem Q3 {x:bg} (h:ag aq x≤1048576):jB k (x,())=some (x,()):=by
 rw[kN hk]at h
 simp only[jB]
 rw[xk hk (by omega),fg hk (by omega),fN hk (by omega)]
 try rfl
theorem Qf {x:List bg} (h:ag (.sl aq) x≤1048576):o9 k (x,())=some (x,()):=
 kX (d:=aq.aa) (S:=jB k) hk (Nat.le_trans (aA (e:=aq)) h) (fun e he=>Q3 hk (Nat.le_trans (bo (e:=aq) he) h))
theorem rz {x:ar} (h:ag aE x≤1048576):eP k (x,())=some (x,()):=by
 rw[gK hk]at h
 simp only[eP]
 rw[Rx hk (by omega),PC hk (by omega),Rk hk (by omega),fN hk (by omega),OI hk (by omega),OO hk (by omega),Ol hk (by omega),fN hk (by omega),PN hk (by omega),Qf hk (by omega)]
 try rfl
theorem M8 {x:List ByteArray} (h:ag (.sl .str) x≤1073741824):nu k (x,x,())=some (true,()):=
 Uv hk (Nat.le_trans (Nat.le_trans (aA (e:= .str)) h) (by omega))
theorem QJ {x:cg} (h:ag bC x≤1073741824):nf k (x,x,())=some (true,()):=by
 rw[jj hk]at h
 simp only[nf]
 rw[M8 hk (by omega)]
 simp
theorem P9 {x:ai} (h:ag af x≤1073741824):iC k (x,x,())=some (true,()):=by
 rw[nM hk]at h
 simp only[iC]
 simp
theorem j8 {x:List ai} (h:ag (.sl af) x≤1073741824):dY k (x,x,())=some (true,()):=
 jR (d:=af.aa) (S:=iC k) hk (Nat.le_trans (Nat.le_trans (aA (e:=af)) h) (by omega)) (fun e he=>P9 hk (Nat.le_trans (bo (e:=af) he) h))
theorem xE {x:al} (h:ag ab x≤1073741824):eN k (x,x,())=some (true,()):=by
 rw[ch hk]at h
 simp only[eN]
 rw[j8 hk (by omega)]
 simp
theorem fJ {x:List al} (h:ag (.sl ab) x≤1073741824):db k (x,x,())=some (true,()):=
 jR (d:=ab.aa) (S:=eN k) hk (Nat.le_trans (Nat.le_trans (aA (e:=ab)) h) (by omega)) (fun e he=>xE hk (Nat.le_trans (bo (e:=ab) he) h))
theorem P8 {x:aZ} (h:ag ay x≤1073741824):iv k (x,x,())=some (true,()):=by
 rw[ew hk]at h
 simp only[iv]
 rw[fJ hk (by omega)]
 simp
theorem OM {x:List aZ} (h:ag (.sl ay) x≤1073741824):oU k (x,x,())=some (true,()):=
 jR (d:=ay.aa) (S:=iv k) hk (Nat.le_trans (Nat.le_trans (aA (e:=ay)) h) (by omega)) (fun e he=>P8 hk (Nat.le_trans (bo (e:=ay) he) h))
theorem Q6 {x:aG} (h:ag ak x≤1073741824):jD k (x,x,())=some (true,()):=by
 rw[dF hk]at h
 simp only[jD]
 rw[OM hk (by omega)]
 simp
theorem PS {x:List aG} (h:ag (.sl ak) x≤1073741824):pH k (x,x,())=some (true,()):=
 jR (d:=ak.aa) (S:=jD k) hk (Nat.le_trans (Nat.le_trans (aA (e:=ak)) h) (by omega)) (fun e he=>Q6 hk (Nat.le_trans (bo (e:=ak) he) h))
theorem Su {x:bF} (h:ag aU x≤1073741824):kL k (x,x,())=some (true,()):=by
 rw[nH hk]at h
 simp only[kL]
 rw[fJ hk (by omega)]
 simp
theorem Rp {x:List bF} (h:ag (.sl aU) x≤1073741824):qJ k (x,x,())=some (true,()):=
 jR (d:=aU.aa) (S:=kL k) hk (Nat.le_trans (Nat.le_trans (aA (e:=aU)) h) (by omega)) (fun e he=>Su hk (Nat.le_trans (bo (e:=aU) he) h))
theorem PB {x:aJ} (h:ag aj x≤1073741824):iW k (x,x,())=some (true,()):=by
 rw[gF hk]at h
 simp only[iW]
 rw[j8 hk (by omega),fJ hk (by omega)]
 simp
theorem OE {x:List aJ} (h:ag (.sl aj) x≤1073741824):oe k (x,x,())=some (true,()):=
 jR (d:=aj.aa) (S:=iW k) hk (Nat.le_trans (Nat.le_trans (aA (e:=aj)) h) (by omega)) (fun e he=>PB hk (Nat.le_trans (bo (e:=aj) he) h))
theorem PJ {x:bl} (h:ag aC x≤1073741824):iY k (x,x,())=some (true,()):=by
 rw[zC hk]at h
 simp only[iY]
 simp
theorem ON {x:List bl} (h:ag (.sl aC) x≤1073741824):oP k (x,x,())=some (true,()):=
 jR (d:=aC.aa) (S:=iY k) hk (Nat.le_trans (Nat.le_trans (aA (e:=aC)) h) (by omega)) (fun e he=>PJ hk (Nat.le_trans (bo (e:=aC) he) h))
theorem PM {x:bz} (h:ag aN x≤1073741824):iM k (x,x,())=some (true,()):=by
 rw[nO hk]at h
 simp only[iM]
 rw[j8 hk (by omega),fJ hk (by omega)]
 simp
theorem OD {x:List bz} (h:ag (.sl aN) x≤1073741824):oM k (x,x,())=some (true,()):=
 jR (d:=aN.aa) (S:=iM k) hk (Nat.le_trans (Nat.le_trans (aA (e:=aN)) h) (by omega)) (fun e he=>PM hk (Nat.le_trans (bo (e:=aN) he) h))
theorem RS {x:List Int} (h:ag (.sl (.int .i64)) x≤1073741824):qI k (x,x,())=some (true,()):=
 TO hk (Nat.le_trans (Nat.le_trans (aA (e:=(.int .i64))) h) (by omega))
theorem RW {x:aL} (h:ag ah x≤1073741824):jT k (x,x,())=some (true,()):=by
 rw[dH hk]at h
 simp only[jT]
 rw[xE hk (by omega),j8 hk (by omega),RS hk (by omega),fJ hk (by omega)]
 simp
theorem PZ {x:List aL} (h:ag (.sl ah) x≤1073741824):pM k (x,x,())=some (true,()):=
 jR (d:=ah.aa) (S:=jT k) hk (Nat.le_trans (Nat.le_trans (aA (e:=ah)) h) (by omega)) (fun e he=>RW hk (Nat.le_trans (bo (e:=ah) he) h))
theorem RA {x:bg} (h:ag aq x≤1073741824):jK k (x,x,())=some (true,()):=by
 rw[kN hk]at h
 simp only[jK]
 rw[xE hk (by omega),j8 hk (by omega),fJ hk (by omega)]
 simp
theorem Qq {x:List bg} (h:ag (.sl aq) x≤1073741824):pz k (x,x,())=some (true,()):=
 jR (d:=aq.aa) (S:=jK k) hk (Nat.le_trans (Nat.le_trans (aA (e:=aq)) h) (by omega)) (fun e he=>RA hk (Nat.le_trans (bo (e:=aq) he) h))
theorem rD {x:ar} (h:ag aE x≤1073741824):eY k (x,x,())=some (true,()):=by
 rw[gK hk]at h
 simp only[eY]
 rw[QJ hk (by omega),PS hk (by omega),Rp hk (by omega),fJ hk (by omega),OE hk (by omega),ON hk (by omega),OD hk (by omega),fJ hk (by omega),PZ hk (by omega),Qq hk (by omega)]
 simp
theorem jX {n:Int} (h1:1≤n) (h2:n≤bw):∃s,bS k (n,())=some (s,()):=by
 simp only[bS,aP]
 rw[if_neg (by simp;omega)]
 have red:∀ {o:Option (ByteArray×Unit)},(∃r,o=some r)→∃s,o=some (s,()):=fun⟨⟨s,u⟩,h⟩=>⟨s,h⟩
 refine red (Nd hk ?_ ?_ n h2)
 ·intro G n s hn hs
  simp only
  rw[if_neg (by simp;omega),if_pos (by
   simp only[decide_eq_true_eq]
   show 1+s.size<4294967296
   omega)]
  exact⟨_,rfl⟩
 ·intro G n s hn hn2 hs
  simp only
  unfold bw at hn2
  rw[if_pos (by simpa using hn),if_pos (by simp),if_pos (by
   simp only[decide_eq_true_eq]
   show 1+s.size<4294967296
   omega),if_pos (by simp),wrap64 (by rw[Int.tdiv_eq_ediv_of_nonneg (by omega)];omega) (by rw[Int.tdiv_eq_ediv_of_nonneg (by omega)];omega)]
  refine⟨_,rfl,?_⟩
  rw[ByteArray.size_append]
  show 1+s.size=s.size+1
  omega
theorem Jt:oW (.sl .str) (kS k) (ld k):=by
 refine fA hk ?_ ?_ ?_
 ·intro G l n i hi
  simp only[aw]
  rw[if_neg (by simp;omega)]
 ·intro G l n i hi
  simp only[aw]
  rw[if_neg (by simp;omega)]
 ·intro x n h1 h2
  unfold bw at h2
  obtain⟨s1,e1⟩:=jX hk (n:=n) (by omega) (by unfold bw;omega)
  refine⟨n+1,s1,by omega,by omega,fun G d r hd=> ?_,fun G d r hd=> ?_⟩
  ·simp only[Int.toNat_natCast]
   refine bX.trans ?_
   refine(bind_eq (r:=(s1,())) ?_ _).trans ?_
   ·simp (disch:=omega) only[au,Int.toNat_natCast,wrap64,e1]
   refine aI.trans ?_
   rw[aQ (y:=s1)]
   rotate_left
   ·simp (disch:=omega) only[au,Int.toNat_natCast,wrap64]
   simp (disch:=omega) only[wrap64,cz hd]
  ·simp only[Int.toNat_natCast]
   refine bX.trans ?_
   refine aI.trans ?_
   refine(bind_eq (r:=(s1,())) ?_ _).trans ?_
   ·simp (disch:=omega) only[au,Int.toNat_natCast,wrap64,e1]
   refine(br (vn ?_)).trans ?_
   ·simp (disch:=omega) only[au,Int.toNat_natCast,wrap64]
   simp (disch:=omega) only[wrap64,cz hd]
theorem eI:oW (.sl af) (cI k) (cY k):=by
 refine fA hk ?_ ?_ ?_
 ·intro G l n i hi
  simp only[aw]
  rw[if_neg (by simp;omega)]
 ·intro G l n i hi
  simp only[aw]
  rw[if_neg (by simp;omega)]
 ·intro x n h1 h2
  unfold bw at h2
  have t0:=nM hk x
  obtain⟨s1,e1⟩:=jX hk (n:=n) (by omega) (by unfold bw;omega)
  obtain⟨s2,e2⟩:=jX hk (n:=n+1) (by omega) (by unfold bw;omega)
  refine⟨n+1+1,(s1,s2),by omega,by omega,fun G d r hd=> ?_,fun G d r hd=> ?_⟩
  ·simp only[Int.toNat_natCast]
   refine bX.trans ?_
   refine(bind_eq (r:=(s1,())) ?_ _).trans ?_
   ·simp (disch:=omega) only[au,Int.toNat_natCast,wrap64,e1]
   refine aI.trans ?_
   rw[aQ (y:=(s1,x.2))]
   rotate_left
   ·simp (disch:=omega) only[au,Int.toNat_natCast,wrap64]
   refine(bind_eq (r:=(s2,())) ?_ _).trans ?_
   ·simp (disch:=omega) only[au,Int.toNat_natCast,wrap64,e2]
   refine aI.trans ?_
   rw[aQ (y:=(s1,s2))]
   rotate_left
   ·simp (disch:=omega) only[au,Int.toNat_natCast,wrap64]
   simp (disch:=omega) only[wrap64,cz hd]
  ·simp only[Int.toNat_natCast]
   refine bX.trans ?_
   refine aI.trans ?_
   refine(bind_eq (r:=(s1,())) ?_ _).trans ?_
   ·simp (disch:=omega) only[au,Int.toNat_natCast,wrap64,e1]
   refine(br (vn ?_)).trans ?_
   ·simp (disch:=omega) only[au,Int.toNat_natCast,wrap64]
   refine aI.trans ?_
   refine(bind_eq (r:=(s2,())) ?_ _).trans ?_
   ·simp (disch:=omega) only[au,Int.toNat_natCast,wrap64,e2]
   refine(br (vn ?_)).trans ?_
   ·simp (disch:=omega) only[au,Int.toNat_natCast,wrap64]
   simp (disch:=omega) only[wrap64,cz hd]
theorem eF:oW (.sl ab) (cH k) (cG k):=by
 refine fA hk ?_ ?_ ?_
 ·intro G l n i hi
  simp only[aw]
  rw[if_neg (by simp;omega)]
 ·intro G l n i hi
  simp only[aw]
  rw[if_neg (by simp;omega)]
 ·intro x n h1 h2
  unfold bw at h2
  have t0:=ch hk x
  obtain⟨n1,y1,e1,a1,b1,q1⟩:=eI hk (x.1) (n) (by omega) (by unfold bw;omega)
  have z1:decide (n1<0)=false:=by simp;omega
  obtain⟨s4,e4⟩:=jX hk (n:=n1+1+1) (by omega) (by unfold bw;omega)
  refine⟨n1+1+1+1,(y1,(n1,(n1+1,s4))),by omega,by omega,fun G d r hd=> ?_,fun G d r hd=> ?_⟩
  ·simp only[Int.toNat_natCast]
   refine bX.trans ?_
   refine aI.trans ?_
   refine(bind_eq (r:=(n1,y1)) ?_ _).trans ?_
   ·simp (disch:=omega) only[au,Int.toNat_natCast,wrap64,e1]
   rw[aQ (y:=(y1,x.2))]
   rotate_left
   ·simp (disch:=omega) only[au,Int.toNat_natCast,wrap64]
   refine aI.trans ?_
   rw[aQ (y:=(y1,(n1,x.2.2)))]
   rotate_left
   ·simp (disch:=omega) only[au,Int.toNat_natCast,wrap64]
   refine aI.trans ?_
   rw[aQ (y:=(y1,(n1,(n1+1,x.2.2.2))))]
   rotate_left
   ·simp (disch:=omega) only[au,Int.toNat_natCast,wrap64]
   refine(bind_eq (r:=(s4,())) ?_ _).trans ?_
   ·simp (disch:=omega) only[au,Int.toNat_natCast,wrap64,e4]
   refine aI.trans ?_
   rw[aQ (y:=(y1,(n1,(n1+1,s4))))]
   rotate_left
   ·simp (disch:=omega) only[au,Int.toNat_natCast,wrap64]
   simp (disch:=omega) only[wrap64,cz hd]
  ·simp only[Int.toNat_natCast]
   refine bX.trans ?_
   refine aI.trans ?_
   refine(bind_eq (r:=(n1,())) ?_ _).trans ?_
   ·simp (disch:=omega) only[au,Int.toNat_natCast,wrap64,q1]
   refine(br z1).trans ?_
   refine aI.trans ?_
   refine(br (cE ?_)).trans ?_
   ·simp (disch:=omega) only[au,Int.toNat_natCast,wrap64]
   refine aI.trans ?_
   refine(br (cE ?_)).trans ?_
   ·simp (disch:=omega) only[au,Int.toNat_natCast,wrap64]
   refine aI.trans ?_
   refine(bind_eq (r:=(s4,())) ?_ _).trans ?_
   ·simp (disch:=omega) only[au,Int.toNat_natCast,wrap64,e4]
   refine(br (vn ?_)).trans ?_
   ·simp (disch:=omega) only[au,Int.toNat_natCast,wrap64]
   simp (disch:=omega) only[wrap64,cz hd]
theorem LD:oW (.sl ay) (mo k) (mq k):=by
 refine fA hk ?_ ?_ ?_
 ·intro G l n i hi
  simp only[aw]
  rw[if_neg (by simp;omega)]
 ·intro G l n i hi
  simp only[aw]
  rw[if_neg (by simp;omega)]
 ·intro x n h1 h2
  unfold bw at h2
  have t0:=ew hk x
  obtain⟨n2,y2,e2,a2,b2,q2⟩:=eF hk (x.2) (n+1) (by omega) (by unfold bw;omega)
  have z2:decide (n2<0)=false:=by simp;omega
  refine⟨n2,(n,y2),by omega,by omega,fun G d r hd=> ?_,fun G d r hd=> ?_⟩
  ·simp only[Int.toNat_natCast]
   refine bX.trans ?_
   refine aI.trans ?_
   rw[aQ (y:=(n,x.2))]
   rotate_left
   ·simp (disch:=omega) only[au,Int.toNat_natCast,wrap64]
   refine aI.trans ?_
   refine(bind_eq (r:=(n2,y2)) ?_ _).trans ?_
   ·simp (disch:=omega) only[au,Int.toNat_natCast,wrap64,e2]
   rw[aQ (y:=(n,y2))]
   rotate_left
   ·simp (disch:=omega) only[au,Int.toNat_natCast,wrap64]
   simp (disch:=omega) only[wrap64,cz hd]
  ·simp only[Int.toNat_natCast]
   refine bX.trans ?_
   refine aI.trans ?_
   refine(br (cE ?_)).trans ?_
   ·simp (disch:=omega) only[au,Int.toNat_natCast,wrap64]
   refine aI.trans ?_
   refine(bind_eq (r:=(n2,())) ?_ _).trans ?_
   ·simp (disch:=omega) only[au,Int.toNat_natCast,wrap64,q2]
   refine(br z2).trans ?_
   simp (disch:=omega) only[wrap64,cz hd]
theorem No:oW (.sl ak) (nB k) (nF k):=by
 refine fA hk ?_ ?_ ?_
 ·intro G l n i hi
  simp only[aw]
  rw[if_neg (by simp;omega)]
 ·intro G l n i hi
  simp only[aw]
  rw[if_neg (by simp;omega)]
 ·intro x n h1 h2
  unfold bw at h2
  have t0:=dF hk x
  obtain⟨n3,y3,e3,a3,b3,q3⟩:=LD hk (x.2.2) (n+1+1) (by omega) (by unfold bw;omega)
  have z3:decide (n3<0)=false:=by simp;omega
  refine⟨n3,(n,(n+1,y3)),by omega,by omega,fun G d r hd=> ?_,fun G d r hd=> ?_⟩
  ·simp only[Int.toNat_natCast]
   refine bX.trans ?_
   refine aI.trans ?_
   rw[aQ (y:=(n,x.2))]
   rotate_left
   ·simp (disch:=omega) only[au,Int.toNat_natCast,wrap64]
   refine aI.trans ?_
   rw[aQ (y:=(n,(n+1,x.2.2)))]
   rotate_left
   ·simp (disch:=omega) only[au,Int.toNat_natCast,wrap64]
   refine aI.trans ?_
   refine(bind_eq (r:=(n3,y3)) ?_ _).trans ?_
   ·simp (disch:=omega) only[au,Int.toNat_natCast,wrap64,e3]
   rw[aQ (y:=(n,(n+1,y3)))]
   rotate_left
   ·simp (disch:=omega) only[au,Int.toNat_natCast,wrap64]
   simp (disch:=omega) only[wrap64,cz hd]
  ·simp only[Int.toNat_natCast]
   refine bX.trans ?_
   refine aI.trans ?_
   refine(br (cE ?_)).trans ?_
   ·simp (disch:=omega) only[au,Int.toNat_natCast,wrap64]
   refine aI.trans ?_
   refine(br (cE ?_)).trans ?_
   ·simp (disch:=omega) only[au,Int.toNat_natCast,wrap64]
   refine aI.trans ?_
   refine(bind_eq (r:=(n3,())) ?_ _).trans ?_
   ·simp (disch:=omega) only[au,Int.toNat_natCast,wrap64,q3]
   refine(br z3).trans ?_
   simp (disch:=omega) only[wrap64,cz hd]
theorem Oa:oW (.sl aU) (nV k) (ov k):=by
 refine fA hk ?_ ?_ ?_
 ·intro G l n i hi
  simp only[aw]
  rw[if_neg (by simp;omega)]
 ·intro G l n i hi
  simp only[aw]
  rw[if_neg (by simp;omega)]
 ·intro x n h1 h2
  unfold bw at h2
  have t0:=nH hk x
  obtain⟨n1,y1,e1,a1,b1,q1⟩:=eF hk (x.1) (n) (by omega) (by unfold bw;omega)
  have z1:decide (n1<0)=false:=by simp;omega
  refine⟨n1+1,(y1,((Int.tmod (n1) 3:Int)==0)),by omega,by omega,fun G d r hd=> ?_,fun G d r hd=> ?_⟩
  ·simp only[Int.toNat_natCast]
   refine bX.trans ?_
   refine aI.trans ?_
   refine(bind_eq (r:=(n1,y1)) ?_ _).trans ?_
   ·simp (disch:=omega) only[au,Int.toNat_natCast,wrap64,e1]
   rw[aQ (y:=(y1,x.2))]
   rotate_left
   ·simp (disch:=omega) only[au,Int.toNat_natCast,wrap64]
   refine(if_pos UO).trans ?_
   refine aI.trans ?_
   rw[aQ (y:=(y1,((Int.tmod (n1) 3:Int)==0)))]
   rotate_left
   ·simp (disch:=omega) only[au,Int.toNat_natCast,wrap64]
   simp (disch:=omega) only[wrap64,cz hd]
  ·simp only[Int.toNat_natCast]
   refine bX.trans ?_
   refine aI.trans ?_
   refine(bind_eq (r:=(n1,())) ?_ _).trans ?_
   ·simp (disch:=omega) only[au,Int.toNat_natCast,wrap64,q1]
   refine(br z1).trans ?_
   refine aI.trans ?_
   refine(if_pos UO).trans ?_
   refine(br (TD ?_)).trans ?_
   ·simp (disch:=omega) only[au,Int.toNat_natCast,wrap64]
   simp (disch:=omega) only[wrap64,cz hd]
theorem KL:oW (.sl aj) (mn k) (mf k):=by
 refine fA hk ?_ ?_ ?_
 ·intro G l n i hi
  simp only[aw]
  rw[if_neg (by simp;omega)]
 ·intro G l n i hi
  simp only[aw]
  rw[if_neg (by simp;omega)]
 ·intro x n h1 h2
  unfold bw at h2
  have t0:=gF hk x
  obtain⟨n2,y2,e2,a2,b2,q2⟩:=eI hk (x.2.1) (n+1) (by omega) (by unfold bw;omega)
  have z2:decide (n2<0)=false:=by simp;omega
  obtain⟨n5,y5,e5,a5,b5,q5⟩:=eF hk (x.2.2.2.2) (n2+1+1) (by omega) (by unfold bw;omega)
  have z5:decide (n5<0)=false:=by simp;omega
  refine⟨n5,(n,(y2,(n2,(n2+1,y5)))),by omega,by omega,fun G d r hd=> ?_,fun G d r hd=> ?_⟩
  ·simp only[Int.toNat_natCast]
   refine bX.trans ?_
   refine aI.trans ?_
   rw[aQ (y:=(n,x.2))]
   rotate_left
   ·simp (disch:=omega) only[au,Int.toNat_natCast,wrap64]
   refine aI.trans ?_
   refine(bind_eq (r:=(n2,y2)) ?_ _).trans ?_
   ·simp (disch:=omega) only[au,Int.toNat_natCast,wrap64,e2]
   rw[aQ (y:=(n,(y2,x.2.2)))]
   rotate_left
   ·simp (disch:=omega) only[au,Int.toNat_natCast,wrap64]
   refine aI.trans ?_
   rw[aQ (y:=(n,(y2,(n2,x.2.2.2))))]
   rotate_left
   ·simp (disch:=omega) only[au,Int.toNat_natCast,wrap64]
   refine aI.trans ?_
   rw[aQ (y:=(n,(y2,(n2,(n2+1,x.2.2.2.2)))))]
   rotate_left
   ·simp (disch:=omega) only[au,Int.toNat_natCast,wrap64]
   refine aI.trans ?_
   refine(bind_eq (r:=(n5,y5)) ?_ _).trans ?_
   ·simp (disch:=omega) only[au,Int.toNat_natCast,wrap64,e5]
   rw[aQ (y:=(n,(y2,(n2,(n2+1,y5)))))]
   rotate_left
   ·simp (disch:=omega) only[au,Int.toNat_natCast,wrap64]
   simp (disch:=omega) only[wrap64,cz hd]
  ·simp only[Int.toNat_natCast]
   refine bX.trans ?_
   refine aI.trans ?_
   refine(br (cE ?_)).trans ?_
   ·simp (disch:=omega) only[au,Int.toNat_natCast,wrap64]
   refine aI.trans ?_
   refine(bind_eq (r:=(n2,())) ?_ _).trans ?_
   ·simp (disch:=omega) only[au,Int.toNat_natCast,wrap64,q2]
   refine(br z2).trans ?_
   refine aI.trans ?_
   refine(br (cE ?_)).trans ?_
   ·simp (disch:=omega) only[au,Int.toNat_natCast,wrap64]
   refine aI.trans ?_
   refine(br (cE ?_)).trans ?_
   ·simp (disch:=omega) only[au,Int.toNat_natCast,wrap64]
   refine aI.trans ?_
   refine(bind_eq (r:=(n5,())) ?_ _).trans ?_
   ·simp (disch:=omega) only[au,Int.toNat_natCast,wrap64,q5]
   refine(br z5).trans ?_
   simp (disch:=omega) only[wrap64,cz hd]
theorem KZ:oW (.sl aC) (ml k) (mj k):=by
 refine fA hk ?_ ?_ ?_
 ·intro G l n i hi
  simp only[aw]
  rw[if_neg (by simp;omega)]
 ·intro G l n i hi
  simp only[aw]
  rw[if_neg (by simp;omega)]
 ·intro x n h1 h2
  unfold bw at h2
  have t0:=zC hk x
  refine⟨n+1+1,(n,n+1),by omega,by omega,fun G d r hd=> ?_,fun G d r hd=> ?_⟩
  ·simp only[Int.toNat_natCast]
   refine bX.trans ?_
   refine aI.trans ?_
   rw[aQ (y:=(n,x.2))]
   rotate_left
   ·simp (disch:=omega) only[au,Int.toNat_natCast,wrap64]
   refine aI.trans ?_
   rw[aQ (y:=(n,n+1))]
   rotate_left
   ·simp (disch:=omega) only[au,Int.toNat_natCast,wrap64]
   simp (disch:=omega) only[wrap64,cz hd]
  ·simp only[Int.toNat_natCast]
   refine bX.trans ?_
   refine aI.trans ?_
   refine(br (cE ?_)).trans ?_
   ·simp (disch:=omega) only[au,Int.toNat_natCast,wrap64]
   refine aI.trans ?_
   refine(br (cE ?_)).trans ?_
   ·simp (disch:=omega) only[au,Int.toNat_natCast,wrap64]
   simp (disch:=omega) only[wrap64,cz hd]
theorem Lf:oW (.sl aN) (mc k) (mr k):=by
 refine fA hk ?_ ?_ ?_
 ·intro G l n i hi
  simp only[aw]
  rw[if_neg (by simp;omega)]
 ·intro G l n i hi
  simp only[aw]
  rw[if_neg (by simp;omega)]
 ·intro x n h1 h2
  unfold bw at h2
  have t0:=nO hk x
  obtain⟨n2,y2,e2,a2,b2,q2⟩:=eI hk (x.2.1) (n+1) (by omega) (by unfold bw;omega)
  have z2:decide (n2<0)=false:=by simp;omega
  obtain⟨n4,y4,e4,a4,b4,q4⟩:=eF hk (x.2.2.2) (n2+1) (by omega) (by unfold bw;omega)
  have z4:decide (n4<0)=false:=by simp;omega
  refine⟨n4,(n,(y2,(n2,y4))),by omega,by omega,fun G d r hd=> ?_,fun G d r hd=> ?_⟩
  ·simp only[Int.toNat_natCast]
   refine bX.trans ?_
   refine aI.trans ?_
   rw[aQ (y:=(n,x.2))]
   rotate_left
   ·simp (disch:=omega) only[au,Int.toNat_natCast,wrap64]
   refine aI.trans ?_
   refine(bind_eq (r:=(n2,y2)) ?_ _).trans ?_
   ·simp (disch:=omega) only[au,Int.toNat_natCast,wrap64,e2]
   rw[aQ (y:=(n,(y2,x.2.2)))]
   rotate_left
   ·simp (disch:=omega) only[au,Int.toNat_natCast,wrap64]
   refine aI.trans ?_
   rw[aQ (y:=(n,(y2,(n2,x.2.2.2))))]
   rotate_left
   ·simp (disch:=omega) only[au,Int.toNat_natCast,wrap64]
   refine aI.trans ?_
   refine(bind_eq (r:=(n4,y4)) ?_ _).trans ?_
   ·simp (disch:=omega) only[au,Int.toNat_natCast,wrap64,e4]
   rw[aQ (y:=(n,(y2,(n2,y4))))]
   rotate_left
   ·simp (disch:=omega) only[au,Int.toNat_natCast,wrap64]
   simp (disch:=omega) only[wrap64,cz hd]
  ·simp only[Int.toNat_natCast]
   refine bX.trans ?_
   refine aI.trans ?_
   refine(br (cE ?_)).trans ?_
   ·simp (disch:=omega) only[au,Int.toNat_natCast,wrap64]
   refine aI.trans ?_
   refine(bind_eq (r:=(n2,())) ?_ _).trans ?_
   ·simp (disch:=omega) only[au,Int.toNat_natCast,wrap64,q2]
   refine(br z2).trans ?_
   refine aI.trans ?_
   refine(br (cE ?_)).trans ?_
   ·simp (disch:=omega) only[au,Int.toNat_natCast,wrap64]
   refine aI.trans ?_
   refine(bind_eq (r:=(n4,())) ?_ _).trans ?_
   ·simp (disch:=omega) only[au,Int.toNat_natCast,wrap64,q4]
   refine(br z4).trans ?_
   simp (disch:=omega) only[wrap64,cz hd]
theorem Ow:oW (.sl (.int .i64)) (ox k) (oq k):=by
 refine fA hk ?_ ?_ ?_
 ·intro G l n i hi
  simp only[aw]
  rw[if_neg (by simp;omega)]
 ·intro G l n i hi
  simp only[aw]
  rw[if_neg (by simp;omega)]
 ·intro x n h1 h2
  unfold bw at h2
  refine⟨n+1,n,by omega,by omega,fun G d r hd=> ?_,fun G d r hd=> ?_⟩
  ·simp only[Int.toNat_natCast]
   refine bX.trans ?_
   refine aI.trans ?_
   rw[aQ (y:=n)]
   rotate_left
   ·simp (disch:=omega) only[au,Int.toNat_natCast,wrap64]
   simp (disch:=omega) only[wrap64,cz hd]
  ·simp only[Int.toNat_natCast]
   refine bX.trans ?_
   refine aI.trans ?_
   refine(br (cE ?_)).trans ?_
   ·simp (disch:=omega) only[au,Int.toNat_natCast,wrap64]
   simp (disch:=omega) only[wrap64,cz hd]
set_option maxHeartbeats 4000000 in
theorem NN:oW (.sl ah) (nr k) (nx k):=by
 refine fA hk ?_ ?_ ?_
 ·intro G l n i hi
  simp only[aw]
  rw[if_neg (by simp;omega)]
 ·intro G l n i hi
  simp only[aw]
  rw[if_neg (by simp;omega)]
 ·intro x n h1 h2
  unfold bw at h2
  have t0:=dH hk x
  have t1:=ch hk x.2.2.1
  obtain⟨n3,y3,e3,a3,b3,q3⟩:=eI hk (x.2.2.1.1) (n+1+1) (by omega) (by unfold bw;omega)
  have z3:decide (n3<0)=false:=by simp;omega
  obtain⟨s6,e6⟩:=jX hk (n:=n3+1+1) (by omega) (by unfold bw;omega)
  obtain⟨n7,y7,e7,a7,b7,q7⟩:=eI hk (x.2.2.2.1) (n3+1+1+1) (by omega) (by unfold bw;omega)
  have z7:decide (n7<0)=false:=by simp;omega
  obtain⟨n9,y9,e9,a9,b9,q9⟩:=Ow hk (x.2.2.2.2.2.1) (n7+1) (by omega) (by unfold bw;omega)
  have z9:decide (n9<0)=false:=by simp;omega
  obtain⟨n10,y10,e10,a10,b10,MN⟩:=eF hk (x.2.2.2.2.2.2.1) (n9) (by omega) (by unfold bw;omega)
  have z10:decide (n10<0)=false:=by simp;omega
  refine⟨n10+1+1,(n,(n+1,((y3,(n3,(n3+1,s6))),(y7,(n7,(y9,(y10,(n10,n10+1)))))))),by omega,by omega,fun G d r hd=> ?_,fun G d r hd=> ?_⟩
  ·simp only[Int.toNat_natCast]
   refine bX.trans ?_
   refine aI.trans ?_
   rw[aQ (y:=(n,x.2))]
   rotate_left
   ·simp (disch:=omega) only[au,Int.toNat_natCast,wrap64]
   refine aI.trans ?_
   rw[aQ (y:=(n,(n+1,x.2.2)))]
   rotate_left
   ·simp (disch:=omega) only[au,Int.toNat_natCast,wrap64]
   refine aI.trans ?_
   refine(bind_eq (r:=(n3,y3)) ?_ _).trans ?_
   ·simp (disch:=omega) only[au,Int.toNat_natCast,wrap64,e3]
   rw[aQ (y:=(n,(n+1,((y3,x.2.2.1.2),x.2.2.2))))]
   rotate_left
   ·simp (disch:=omega) only[au,Int.toNat_natCast,wrap64]
   refine aI.trans ?_
   rw[aQ (y:=(n,(n+1,((y3,(n3,x.2.2.1.2.2)),x.2.2.2))))]
   rotate_left
   ·simp (disch:=omega) only[au,Int.toNat_natCast,wrap64]
   refine aI.trans ?_
   rw[aQ (y:=(n,(n+1,((y3,(n3,(n3+1,x.2.2.1.2.2.2))),x.2.2.2))))]
   rotate_left
   ·simp (disch:=omega) only[au,Int.toNat_natCast,wrap64]
   refine(bind_eq (r:=(s6,())) ?_ _).trans ?_
   ·simp (disch:=omega) only[au,Int.toNat_natCast,wrap64,e6]
   refine aI.trans ?_
   rw[aQ (y:=(n,(n+1,((y3,(n3,(n3+1,s6))),x.2.2.2))))]
   rotate_left
   ·simp (disch:=omega) only[au,Int.toNat_natCast,wrap64]
   refine aI.trans ?_
   refine(bind_eq (r:=(n7,y7)) ?_ _).trans ?_
   ·simp (disch:=omega) only[au,Int.toNat_natCast,wrap64,e7]
   rw[aQ (y:=(n,(n+1,((y3,(n3,(n3+1,s6))),(y7,x.2.2.2.2)))))]
   rotate_left
   ·simp (disch:=omega) only[au,Int.toNat_natCast,wrap64]
   refine aI.trans ?_
   rw[aQ (y:=(n,(n+1,((y3,(n3,(n3+1,s6))),(y7,(n7,x.2.2.2.2.2))))))]
   rotate_left
   ·simp (disch:=omega) only[au,Int.toNat_natCast,wrap64]
   refine aI.trans ?_
   refine(bind_eq (r:=(n9,y9)) ?_ _).trans ?_
   ·simp (disch:=omega) only[au,Int.toNat_natCast,wrap64,e9]
   rw[aQ (y:=(n,(n+1,((y3,(n3,(n3+1,s6))),(y7,(n7,(y9,x.2.2.2.2.2.2)))))))]
   rotate_left
   ·simp (disch:=omega) only[au,Int.toNat_natCast,wrap64]
   refine aI.trans ?_
   refine(bind_eq (r:=(n10,y10)) ?_ _).trans ?_
   ·simp (disch:=omega) only[au,Int.toNat_natCast,wrap64,e10]
   rw[aQ (y:=(n,(n+1,((y3,(n3,(n3+1,s6))),(y7,(n7,(y9,(y10,x.2.2.2.2.2.2.2))))))))]
   rotate_left
   ·simp (disch:=omega) only[au,Int.toNat_natCast,wrap64]
   refine aI.trans ?_
   rw[aQ (y:=(n,(n+1,((y3,(n3,(n3+1,s6))),(y7,(n7,(y9,(y10,(n10,x.2.2.2.2.2.2.2.2)))))))))]
   rotate_left
   ·simp (disch:=omega) only[au,Int.toNat_natCast,wrap64]
   refine aI.trans ?_
   rw[aQ (y:=(n,(n+1,((y3,(n3,(n3+1,s6))),(y7,(n7,(y9,(y10,(n10,n10+1)))))))))]
   rotate_left
   ·simp (disch:=omega) only[au,Int.toNat_natCast,wrap64]
   simp (disch:=omega) only[wrap64,cz hd]
  ·simp only[Int.toNat_natCast]
   refine bX.trans ?_
   refine aI.trans ?_
   refine(br (cE ?_)).trans ?_
   ·simp (disch:=omega) only[au,Int.toNat_natCast,wrap64]
   refine aI.trans ?_
   refine(br (cE ?_)).trans ?_
   ·simp (disch:=omega) only[au,Int.toNat_natCast,wrap64]
   refine aI.trans ?_
   refine(bind_eq (r:=(n3,())) ?_ _).trans ?_
   ·simp (disch:=omega) only[au,Int.toNat_natCast,wrap64,q3]
   refine(br z3).trans ?_
   refine aI.trans ?_
   refine(br (cE ?_)).trans ?_
   ·simp (disch:=omega) only[au,Int.toNat_natCast,wrap64]
   refine aI.trans ?_
   refine(br (cE ?_)).trans ?_
   ·simp (disch:=omega) only[au,Int.toNat_natCast,wrap64]
   refine aI.trans ?_
   refine(bind_eq (r:=(s6,())) ?_ _).trans ?_
   ·simp (disch:=omega) only[au,Int.toNat_natCast,wrap64,e6]
   refine(br (vn ?_)).trans ?_
   ·simp (disch:=omega) only[au,Int.toNat_natCast,wrap64]
   refine aI.trans ?_
   refine(bind_eq (r:=(n7,())) ?_ _).trans ?_
   ·simp (disch:=omega) only[au,Int.toNat_natCast,wrap64,q7]
   refine(br z7).trans ?_
   refine aI.trans ?_
   refine(br (cE ?_)).trans ?_
   ·simp (disch:=omega) only[au,Int.toNat_natCast,wrap64]
   refine aI.trans ?_
   refine(bind_eq (r:=(n9,())) ?_ _).trans ?_
   ·simp (disch:=omega) only[au,Int.toNat_natCast,wrap64,q9]
   refine(br z9).trans ?_
   refine aI.trans ?_
   refine(bind_eq (r:=(n10,())) ?_ _).trans ?_
   ·simp (disch:=omega) only[au,Int.toNat_natCast,wrap64,MN]
   refine(br z10).trans ?_
   refine aI.trans ?_
   refine(br (cE ?_)).trans ?_
   ·simp (disch:=omega) only[au,Int.toNat_natCast,wrap64]
   refine aI.trans ?_
   refine(br (cE ?_)).trans ?_
   ·simp (disch:=omega) only[au,Int.toNat_natCast,wrap64]
   simp (disch:=omega) only[wrap64,cz hd]
set_option maxHeartbeats 4000000 in
theorem MB:oW (.sl aq) (ny k) (nk k):=by
 refine fA hk ?_ ?_ ?_
 ·intro G l n i hi
  simp only[aw]
  rw[if_neg (by simp;omega)]
 ·intro G l n i hi
  simp only[aw]
  rw[if_neg (by simp;omega)]
 ·intro x n h1 h2
  unfold bw at h2
  have t0:=kN hk x
  have t1:=ch hk x.2.2.1
  obtain⟨n3,y3,e3,a3,b3,q3⟩:=eI hk (x.2.2.1.1) (n+1+1) (by omega) (by unfold bw;omega)
  have z3:decide (n3<0)=false:=by simp;omega
  obtain⟨s6,e6⟩:=jX hk (n:=n3+1+1) (by omega) (by unfold bw;omega)
  obtain⟨n7,y7,e7,a7,b7,q7⟩:=eI hk (x.2.2.2.1) (n3+1+1+1) (by omega) (by unfold bw;omega)
  have z7:decide (n7<0)=false:=by simp;omega
  obtain⟨n11,y11,e11,a11,b11,UN⟩:=eF hk (x.2.2.2.2.2.2.2.1) (n7+1+1+1) (by omega) (by unfold bw;omega)
  have z11:decide (n11<0)=false:=by simp;omega
  refine⟨n11+1+1+1+1,(n,(n+1,((y3,(n3,(n3+1,s6))),(y7,(n7,(n7+1,(n7+1+1,(y11,(n11,(n11+1,(n11+1+1,n11+1+1+1))))))))))),by omega,by omega,fun G d r hd=> ?_,fun G d r hd=> ?_⟩
  ·simp only[Int.toNat_natCast]
   refine bX.trans ?_
   refine aI.trans ?_
   rw[aQ (y:=(n,x.2))]
   rotate_left
   ·simp (disch:=omega) only[au,Int.toNat_natCast,wrap64]
   refine aI.trans ?_
   rw[aQ (y:=(n,(n+1,x.2.2)))]
   rotate_left
   ·simp (disch:=omega) only[au,Int.toNat_natCast,wrap64]
   refine aI.trans ?_
   refine(bind_eq (r:=(n3,y3)) ?_ _).trans ?_
   ·simp (disch:=omega) only[au,Int.toNat_natCast,wrap64,e3]
   rw[aQ (y:=(n,(n+1,((y3,x.2.2.1.2),x.2.2.2))))]
   rotate_left
   ·simp (disch:=omega) only[au,Int.toNat_natCast,wrap64]
   refine aI.trans ?_
   rw[aQ (y:=(n,(n+1,((y3,(n3,x.2.2.1.2.2)),x.2.2.2))))]
   rotate_left
   ·simp (disch:=omega) only[au,Int.toNat_natCast,wrap64]
   refine aI.trans ?_
   rw[aQ (y:=(n,(n+1,((y3,(n3,(n3+1,x.2.2.1.2.2.2))),x.2.2.2))))]
   rotate_left
   ·simp (disch:=omega) only[au,Int.toNat_natCast,wrap64]
   refine(bind_eq (r:=(s6,())) ?_ _).trans ?_
   ·simp (disch:=omega) only[au,Int.toNat_natCast,wrap64,e6]
   refine aI.trans ?_
   rw[aQ (y:=(n,(n+1,((y3,(n3,(n3+1,s6))),x.2.2.2))))]
   rotate_left
   ·simp (disch:=omega) only[au,Int.toNat_natCast,wrap64]
   refine aI.trans ?_
   refine(bind_eq (r:=(n7,y7)) ?_ _).trans ?_
   ·simp (disch:=omega) only[au,Int.toNat_natCast,wrap64,e7]
   rw[aQ (y:=(n,(n+1,((y3,(n3,(n3+1,s6))),(y7,x.2.2.2.2)))))]
   rotate_left
   ·simp (disch:=omega) only[au,Int.toNat_natCast,wrap64]
   refine aI.trans ?_
   rw[aQ (y:=(n,(n+1,((y3,(n3,(n3+1,s6))),(y7,(n7,x.2.2.2.2.2))))))]
   rotate_left
   ·simp (disch:=omega) only[au,Int.toNat_natCast,wrap64]
   refine aI.trans ?_
   rw[aQ (y:=(n,(n+1,((y3,(n3,(n3+1,s6))),(y7,(n7,(n7+1,x.2.2.2.2.2.2)))))))]
   rotate_left
   ·simp (disch:=omega) only[au,Int.toNat_natCast,wrap64]
   refine aI.trans ?_
   rw[aQ (y:=(n,(n+1,((y3,(n3,(n3+1,s6))),(y7,(n7,(n7+1,(n7+1+1,x.2.2.2.2.2.2.2))))))))]
   rotate_left
   ·simp (disch:=omega) only[au,Int.toNat_natCast,wrap64]
   refine aI.trans ?_
   refine(bind_eq (r:=(n11,y11)) ?_ _).trans ?_
   ·simp (disch:=omega) only[au,Int.toNat_natCast,wrap64,e11]
   rw[aQ (y:=(n,(n+1,((y3,(n3,(n3+1,s6))),(y7,(n7,(n7+1,(n7+1+1,(y11,x.2.2.2.2.2.2.2.2)))))))))]
   rotate_left
   ·simp (disch:=omega) only[au,Int.toNat_natCast,wrap64]
   refine aI.trans ?_
   rw[aQ (y:=(n,(n+1,((y3,(n3,(n3+1,s6))),(y7,(n7,(n7+1,(n7+1+1,(y11,(n11,x.2.2.2.2.2.2.2.2.2))))))))))]
   rotate_left
   ·simp (disch:=omega) only[au,Int.toNat_natCast,wrap64]
   refine aI.trans ?_
   rw[aQ (y:=(n,(n+1,((y3,(n3,(n3+1,s6))),(y7,(n7,(n7+1,(n7+1+1,(y11,(n11,(n11+1,x.2.2.2.2.2.2.2.2.2.2)))))))))))]
   rotate_left
   ·simp (disch:=omega) only[au,Int.toNat_natCast,wrap64]
   refine aI.trans ?_
   rw[aQ (y:=(n,(n+1,((y3,(n3,(n3+1,s6))),(y7,(n7,(n7+1,(n7+1+1,(y11,(n11,(n11+1,(n11+1+1,x.2.2.2.2.2.2.2.2.2.2.2))))))))))))]
   rotate_left
   ·simp (disch:=omega) only[au,Int.toNat_natCast,wrap64]
   refine aI.trans ?_
   rw[aQ (y:=(n,(n+1,((y3,(n3,(n3+1,s6))),(y7,(n7,(n7+1,(n7+1+1,(y11,(n11,(n11+1,(n11+1+1,n11+1+1+1))))))))))))]
   rotate_left
   ·simp (disch:=omega) only[au,Int.toNat_natCast,wrap64]
   simp (disch:=omega) only[wrap64,cz hd]
  ·simp only[Int.toNat_natCast]
   refine bX.trans ?_
   refine aI.trans ?_
   refine(br (cE ?_)).trans ?_
   ·simp (disch:=omega) only[au,Int.toNat_natCast,wrap64]
   refine aI.trans ?_
   refine(br (cE ?_)).trans ?_
   ·simp (disch:=omega) only[au,Int.toNat_natCast,wrap64]
   refine aI.trans ?_
   refine(bind_eq (r:=(n3,())) ?_ _).trans ?_
   ·simp (disch:=omega) only[au,Int.toNat_natCast,wrap64,q3]
   refine(br z3).trans ?_
   refine aI.trans ?_
   refine(br (cE ?_)).trans ?_
   ·simp (disch:=omega) only[au,Int.toNat_natCast,wrap64]
   refine aI.trans ?_
   refine(br (cE ?_)).trans ?_
   ·simp (disch:=omega) only[au,Int.toNat_natCast,wrap64]
   refine aI.trans ?_
   refine(bind_eq (r:=(s6,())) ?_ _).trans ?_
   ·simp (disch:=omega) only[au,Int.toNat_natCast,wrap64,e6]
   refine(br (vn ?_)).trans ?_
   ·simp (disch:=omega) only[au,Int.toNat_natCast,wrap64]
   refine aI.trans ?_
   refine(bind_eq (r:=(n7,())) ?_ _).trans ?_
   ·simp (disch:=omega) only[au,Int.toNat_natCast,wrap64,q7]
   refine(br z7).trans ?_
   refine aI.trans ?_
   refine(br (cE ?_)).trans ?_
   ·simp (disch:=omega) only[au,Int.toNat_natCast,wrap64]
   refine aI.trans ?_
   refine(br (cE ?_)).trans ?_
   ·simp (disch:=omega) only[au,Int.toNat_natCast,wrap64]
   refine aI.trans ?_
   refine(br (cE ?_)).trans ?_
   ·simp (disch:=omega) only[au,Int.toNat_natCast,wrap64]
   refine aI.trans ?_
   refine(bind_eq (r:=(n11,())) ?_ _).trans ?_
   ·simp (disch:=omega) only[au,Int.toNat_natCast,wrap64,UN]
   refine(br z11).trans ?_
   refine aI.trans ?_
   refine(br (cE ?_)).trans ?_
   ·simp (disch:=omega) only[au,Int.toNat_natCast,wrap64]
   refine aI.trans ?_
   refine(br (cE ?_)).trans ?_
   ·simp (disch:=omega) only[au,Int.toNat_natCast,wrap64]
   refine aI.trans ?_
   refine(br (cE ?_)).trans ?_
   ·simp (disch:=omega) only[au,Int.toNat_natCast,wrap64]
   refine aI.trans ?_
   refine(br (cE ?_)).trans ?_
   ·simp (disch:=omega) only[au,Int.toNat_natCast,wrap64]
   simp (disch:=omega) only[wrap64,cz hd]
theorem zy (x:ar) (n:Int) (h1:1≤n) (h2:n+20*(ag aE x:Int)≤bw):∃(n9:Int) (y1:List ByteArray) (y2:List aG) (y3:List bF) (y4:List al) (y5:List aJ) (y6:List bl) (y7:List bz) (y8:List al) (y9:List aL) (y10:List bg),gf k x n=some (n9,(((x.1.1,(x.1.2.1,(x.1.2.2.1,(x.1.2.2.2.1,(x.1.2.2.2.2.1,y1))))),(x.2.1,(x.2.2.1,(y2,(y3,(y4,(x.2.2.2.2.2.2.1,(y5,(x.2.2.2.2.2.2.2.2.1,(y6,(y7,(y8,(y9,y10))))))))))))):ar))∧n≤n9∧n9≤n+20*(ag aE x:Int)∧gb k ((((x.1.1,(x.1.2.1,(x.1.2.2.1,(x.1.2.2.2.1,(x.1.2.2.2.2.1,y1))))),(x.2.1,(x.2.2.1,(y2,(y3,(y4,(x.2.2.2.2.2.2.1,(y5,(x.2.2.2.2.2.2.2.2.1,(y6,(y7,(y8,(y9,y10))))))))))))):ar),n,())=some (n9,()):=by
 unfold bw at h2
 have t0:=gK hk x
 have t1:=jj hk x.1
 obtain⟨n1,y1,e1,a1,b1,q1⟩:=Jt hk (x.1.2.2.2.2.2) (n) (by omega) (by unfold bw;omega)
 have z1:decide (n1<0)=false:=by simp;omega
 obtain⟨n2,y2,e2,a2,b2,q2⟩:=No hk (x.2.2.2.1) (n1) (by omega) (by unfold bw;omega)
 have z2:decide (n2<0)=false:=by simp;omega
 obtain⟨n3,y3,e3,a3,b3,q3⟩:=Oa hk (x.2.2.2.2.1) (n2) (by omega) (by unfold bw;omega)
 have z3:decide (n3<0)=false:=by simp;omega
 obtain⟨n4,y4,e4,a4,b4,q4⟩:=eF hk (x.2.2.2.2.2.1) (n3) (by omega) (by unfold bw;omega)
 have z4:decide (n4<0)=false:=by simp;omega
 obtain⟨n5,y5,e5,a5,b5,q5⟩:=KL hk (x.2.2.2.2.2.2.2.1) (n4) (by omega) (by unfold bw;omega)
 have z5:decide (n5<0)=false:=by simp;omega
 obtain⟨n6,y6,e6,a6,b6,q6⟩:=KZ hk (x.2.2.2.2.2.2.2.2.2.1) (n5) (by omega) (by unfold bw;omega)
 have z6:decide (n6<0)=false:=by simp;omega
 obtain⟨n7,y7,e7,a7,b7,q7⟩:=Lf hk (x.2.2.2.2.2.2.2.2.2.2.1) (n6) (by omega) (by unfold bw;omega)
 have z7:decide (n7<0)=false:=by simp;omega
 obtain⟨n8,y8,e8,a8,b8,q8⟩:=eF hk (x.2.2.2.2.2.2.2.2.2.2.2.1) (n7) (by omega) (by unfold bw;omega)
 have z8:decide (n8<0)=false:=by simp;omega
 obtain⟨n9,y9,e9,a9,b9,q9⟩:=NN hk (x.2.2.2.2.2.2.2.2.2.2.2.2.1) (n8) (by omega) (by unfold bw;omega)
 have z9:decide (n9<0)=false:=by simp;omega
 obtain⟨n10,y10,e10,a10,b10,MN⟩:=MB hk (x.2.2.2.2.2.2.2.2.2.2.2.2.2) (n9) (by omega) (by unfold bw;omega)
 have z10:decide (n10<0)=false:=by simp;omega
 refine⟨n10,y1,y2,y3,y4,y5,y6,y7,y8,y9,y10,?_,by omega,by omega,?_⟩
 ·simp only[gf,nR,e1,e2,e3,e4,e5,e6,e7,e8,e9,e10,Option.bind_some]
 ·simp only[gb,oy,q1,z1,q2,z2,q3,z3,q4,z4,q5,z5,q6,z6,q7,z7,q8,z8,q9,z9,MN,z10,Option.bind_some,Bool.false_eq_true,if_false]
end
end Vg.Tryz
namespace Vg.Tryz
open Go Vg
set_option linter.unusedVariables false
set_option linter.unusedSectionVars false
set_option linter.unusedSimpArgs false
def DN (s:ByteArray) (i:Nat):Bool:=decide (97≤bt s i)&&decide (bt s i≤122)
def eL (s:ByteArray):Bool:=decide (1≤s.size∧s.size≤8)&&bf 0 s.size (DN s)
def sZ (s:ByteArray) (i:Nat):Bool:=decide (32≤bt s i∧bt s i≤126∧bt s i≠34∧bt s i≠92)
def kj (s:ByteArray):Bool:=decide (s.size≤12)&&bf 0 s.size (sZ s)
def fp (x:ai):Bool:=eL x.1&&kj x.2
def DH (l:List ai) (i:Nat):Bool:=i==0||lC (l.getD (i-1) af.aa).1 (l.getD i af.aa).1
def ee (l:List ai):Bool:=decide (l.length≤4)&&bf 0 l.length (fun i=>fp (l.getD i af.aa)&&DH l i)
section
variable {k:Nat} (hk:9223372036854775808≤k)
include hk
theorem wc {s:ByteArray} (hs:s.size≤1048576):jG k (s,())=some (eL s,()):=by
 simp only[jG,aP]
 rw[show((s,(0:Int),()):ByteArray×Int×Unit)=(fun i:Nat=>(s,(i:Int),())) 0 from rfl]
 rw[bN (fun i:Nat=>(s,(i:Int),())) (DN s) s.size (e:=some (decide (1≤s.size∧s.size≤8),())) (no:=some (false,())) ?_ ?_ k 0 (by omega)]
 ·unfold eL
  cases bf 0 s.size (DN s)<;>simp
 ·intro G i hi
  simp only
  rw[aw,decide_eq_true hi,if_pos rfl,if_pos (aK hi),aK hi,Bool.or_true,if_pos rfl,bc (by omega)]
  unfold DN
  by_cases h1:bt s i<97<;>by_cases h2:bt s i>122<;>simp[h1,h2]<;>omega
 ·intro G i hi
  simp only
  rw[aw,decide_eq_false (by omega),if_neg (by simp)]
  simp only[bE,Option.bind_some]
  congr 2
  rw[Bool.eq_iff_iff]
  simp
  omega
theorem vg {s:ByteArray} (hs:s.size≤1048576):jA k (s,())=some (eL s,()):=by
 simp only[jA,bA,Option.bind_some]
 by_cases hb:1≤s.size∧s.size≤8
 ·rw[if_neg (by simp;omega)]
  rw[show((s,(0:Int),()):ByteArray×Int×Unit)=(fun i:Nat=>(s,(i:Int),())) 0 from rfl]
  rw[bN (fun i:Nat=>(s,(i:Int),())) (DN s) s.size (e:=some (true,())) (no:=some (false,())) ?_ ?_ k 0 (by omega)]
  ·unfold eL
   cases bf 0 s.size (DN s)<;>simp[hb]
  ·intro G i hi
   simp only
   rw[aw,decide_eq_true hi,if_pos rfl,if_pos (aK hi),aK hi,Bool.or_true,if_pos rfl,bc (by omega)]
   unfold DN
   by_cases h1:bt s i<97<;>by_cases h2:bt s i>122<;>simp[h1,h2]<;>omega
  ·intro G i hi
   simp only
   rw[aw,decide_eq_false (by omega),if_neg (by simp)]
 ·rw[if_pos (by simp;omega)]
  unfold eL
  simp[hb]
theorem tu {s:ByteArray} (hs:s.size≤1048576):iR k (s,())=some (kj s,()):=by
 simp only[iR,aP]
 rw[show((s,(0:Int),()):ByteArray×Int×Unit)=(fun i:Nat=>(s,(i:Int),())) 0 from rfl]
 rw[bN (fun i:Nat=>(s,(i:Int),())) (sZ s) s.size (e:=some (decide (s.size≤12),())) (no:=some (false,())) ?_ ?_ k 0 (by omega)]
 ·unfold kj
  cases bf 0 s.size (sZ s)<;>simp
 ·intro G i hi
  simp only
  rw[aw,decide_eq_true hi,if_pos rfl,if_pos (aK hi),aK hi,Bool.or_true,if_pos rfl,Bool.or_true,if_pos rfl,Bool.or_true,if_pos rfl,bc (by omega)]
  unfold sZ
  by_cases h1:bt s i<32<;>by_cases h2:bt s i>126<;>by_cases h3:bt s i=34<;>by_cases h4:bt s i=92<;>simp[h1,h2,h3,h4]<;>omega
 ·intro G i hi
  simp only
  rw[aw,decide_eq_false (by omega),if_neg (by simp)]
  congr 2
  rw[Bool.eq_iff_iff]
  simp
  omega
theorem tO {s:ByteArray} (hs:s.size≤1048576):iK k (s,())=some (kj s,()):=by
 simp only[iK]
 by_cases hb:s.size≤12
 ·rw[if_neg (by simp;omega)]
  rw[show((s,(0:Int),()):ByteArray×Int×Unit)=(fun i:Nat=>(s,(i:Int),())) 0 from rfl]
  rw[bN (fun i:Nat=>(s,(i:Int),())) (sZ s) s.size (e:=some (true,())) (no:=some (false,())) ?_ ?_ k 0 (by omega)]
  ·unfold kj
   cases bf 0 s.size (sZ s)<;>simp[hb]
  ·intro G i hi
   simp only
   rw[aw,decide_eq_true hi,if_pos rfl,if_pos (aK hi),bc (by omega)]
   unfold sZ
   by_cases h1:bt s i<32<;>by_cases h2:bt s i>126<;>by_cases h3:bt s i=34<;>by_cases h4:bt s i=92<;>simp[h1,h2,h3,h4]<;>omega
  ·intro G i hi
   simp only
   rw[aw,decide_eq_false (by omega),if_neg (by simp)]
 ·rw[if_pos (by simp;omega)]
  unfold kj
  simp[hb]
theorem Ho {x:ai} (hs:ag af x≤1048576):lX k (x,())=some (fp x,()):=by
 rw[nM hk]at hs
 simp only[lX]
 rw[wc hk (by omega),tu hk (by omega)]
 simp only[bL,Option.bind_some,fp]
 cases eL x.1<;>simp
theorem GX {x:ai} (hs:ag af x≤1048576):lY k (x,())=some (fp x,()):=by
 rw[nM hk]at hs
 simp only[lY]
 rw[vg hk (by omega),tO hk (by omega)]
 simp only[bL,Option.bind_some,fp]
 cases eL x.1<;>simp
theorem jO {l:List ai} (hs:ag (.sl af) l≤1048576):fi k (l,())=some (ee l,()):=by
 have hl:=aA (e:=af) (l:=l)
 simp only[fi,aP]
 rw[show((l,(0:Int),()):List ai×Int×Unit)=(fun i:Nat=>(l,(i:Int),())) 0 from rfl]
 rw[bN (fun i:Nat=>(l,(i:Int),())) (fun i=>fp (l.getD i af.aa)&&DH l i) l.length (e:=some (decide (l.length≤4),())) (no:=some (false,())) ?_ ?_ k 0 (by omega)]
 ·unfold ee
  cases bf 0 l.length (fun i=>fp (l.getD i af.aa)&&DH l i)<;>simp
 ·intro G i hi
  simp only[Int.toNat_natCast]
  have hm:ag af (l.getD i af.aa)≤1048576:=Nat.le_trans (bo (e:=af) (cj hi)) hs
  rw[aw,decide_eq_true hi,if_pos rfl,if_pos (aK hi),Ho hk hm,Option.bind_some,bc (by omega),pP (by omega)]
  simp only
  rw[if_pos (by simp;omega),if_pos (by simp[hi])]
  simp only[fb,bL,Option.bind_some]
  rw[show((i:Int)-1).toNat=i-1 by omega]
  unfold DH lC
  cases fp (l.getD i af.aa)with
  |false=>simp
  |true=>
   by_cases h0:i=0
   ·subst h0;simp
   ·have h0':(0:Int)<(i:Int):=by omega
    have h0n:0<i:=by omega
    cases Op.bytesLess (ByteArray.toList (l.getD (i-1) af.aa).1) (ByteArray.toList (l.getD i af.aa).1)<;>simp[h0,h0',h0n]
 ·intro G i hi
  simp only
  rw[aw,decide_eq_false (by omega),if_neg (by simp)]
  congr 2
  rw[Bool.eq_iff_iff]
  simp
  omega
theorem jC {l:List ai} (hs:ag (.sl af) l≤1048576):fk k (l,())=some (ee l,()):=by
 have hl:=aA (e:=af) (l:=l)
 simp only[fk]
 rw[show((l,l,(l.length:Int),(0:Int),()):List ai×List ai×Int×Int×Unit)=(fun i:Nat=>(l,l,(l.length:Int),(i:Int),())) 0 from rfl]
 rw[bN (fun i:Nat=>(l,l,(l.length:Int),(i:Int),())) (fun i=>decide (i<4)&&(fp (l.getD i af.aa)&&DH l i)) l.length (e:=some (true,())) (no:=some (false,())) ?_ ?_ k 0 (by omega)]
 ·unfold ee
  rw[D6,O8]
  cases bf 0 l.length (fun i=>fp (l.getD i af.aa)&&DH l i)<;>by_cases h:l.length≤4<;>simp[h]
 ·intro G i hi
  simp only[Int.toNat_natCast]
  have hm:ag af (l.getD i af.aa)≤1048576:=Nat.le_trans (bo (e:=af) (cj hi)) hs
  rw[aw,decide_eq_true hi,if_pos rfl,if_pos (aK hi),GX hk hm,bc (by omega),pP (by omega)]
  simp only[bL,Option.bind_some]
  rw[show((i:Int)-1).toNat=i-1 by omega]
  rw[if_pos (by simp;omega)]
  unfold DH lC
  by_cases h4:i<4
  ·have h4':¬(4:Int)≤(i:Int):=by omega
   cases fp (l.getD i af.aa)with
   |false=>simp[h4,h4']
   |true=>
    by_cases h0:i=0
    ·subst h0;simp
    ·have h0':(0:Int)<(i:Int):=by omega
     have h0n:0<i:=by omega
     cases Op.bytesLess (ByteArray.toList (l.getD (i-1) af.aa).1) (ByteArray.toList (l.getD i af.aa).1)<;>simp[h0,h0',h0n,h4,h4']
  ·have h4':(4:Int)≤(i:Int):=by omega
   simp[h4,h4']
 ·intro G i hi
  simp only
  rw[aw,decide_eq_false (by omega),if_neg (by simp)]
end
end Vg.Tryz
namespace Vg.Tryz
open Go Vg
set_option linter.unusedVariables false
set_option linter.unusedSectionVars false
set_option linter.unusedSimpArgs false
def bI (n a b:Int):Bool:=decide (a≤n)&&decide (n≤b)
def rH (l:List ByteArray):Bool:=bf 1 l.length (fun i=>lC (l.getD (i-1) ByteArray.empty) (l.getD i ByteArray.empty))
def Nu (l:List ByteArray):Bool:=bf 0 l.length (fun i=>eL (l.getD i ByteArray.empty))&&(decide (l.length≤2)&&rH l)
def gx (c:cg):Bool:=bI c.1 1 3&&bI c.2.1 1 8&&bI c.2.2.1 1 2&&bI c.2.2.2.1 1 9&&bI c.2.2.2.2.1 1 9&&Nu c.2.2.2.2.2
def bY (a:al):Bool:=ee a.1&&decide (0<a.1.length)&&bI a.2.1 0 99999&&bI a.2.2.1 a.2.1 99999&&kj a.2.2.2
def ck (l:List al):Bool:=bf 0 l.length (fun i=>bY (l.getD i ab.aa))
theorem vJ (a b:Bool):(if a=true then b else false)=(a&&b):=by cases a<;>rfl
section
variable {k:Nat} (hk:9223372036854775808≤k)
include hk
theorem fc (n a b:Int):bE k (n,a,b,())=some (bI n a b,()):=by
 simp only[bE,bI,vJ]
theorem ez (n a b:Int):bA k (n,a,b,())=some (bI n a b,()):=by
 simp only[bA,bI,vJ]
theorem tQ {l:List ByteArray} (hl:l.length≤1048576):fU k (l,())=some (rH l,()):=by
 simp only[fU]
 rw[show((l,(1:Int),()):List ByteArray×Int×Unit)=(fun i:Nat=>(l,((i+1:Nat):Int),())) 0 from rfl]
 rw[bN (fun i:Nat=>(l,((i+1:Nat):Int),())) (fun i=>lC (l.getD i ByteArray.empty) (l.getD (i+1) ByteArray.empty)) (l.length-1) (e:=some (true,())) (no:=some (false,())) ?_ ?_ k 0 (by omega)]
 ·have:rH l=bf 0 (l.length-1) (fun i=>lC (l.getD i ByteArray.empty) (l.getD (i+1) ByteArray.empty)):=by
   unfold rH
   rw[Bool.eq_iff_iff,en,en]
   constructor
   ·intro h i _ h2;have:=h (i+1) (by omega) (by omega);simpa using this
   ·intro h i h1 h2;have:=h (i-1) (by omega) (by omega);rw[show i-1+1=i by omega]at this;exact this
  rw[this]
  cases bf 0 (l.length-1) (fun i=>lC (l.getD i ByteArray.empty) (l.getD (i+1) ByteArray.empty))<;>rfl
 ·intro G i hi
  simp only[Int.toNat_natCast]
  rw[aw,decide_eq_true (by omega),if_pos rfl,pP (by omega),bc (by omega)]
  rw[if_pos (by simp;omega),if_pos (by simp;omega)]
  simp only[fb,Option.bind_some]
  rw[show(((i+1:Nat):Int)-1).toNat=i by omega]
  unfold lC
  cases Op.bytesLess (ByteArray.toList (l.getD i ByteArray.empty)) (ByteArray.toList (l.getD (i+1) ByteArray.empty))<;>simp
 ·intro G i hi
  simp only
  rw[aw,decide_eq_false (by omega),if_neg (by simp)]
theorem Qe (l:List ByteArray):lP k (l,())=fU k (l,()):=by
 simp only[fU,lP,fb,Option.bind_some]
theorem Mq {l:List ByteArray} (hs:ag (.sl .str) l≤1048576):pT k (l,())=some (Nu l,()):=by
 have hl:=aA (e:= .str) (l:=l)
 simp only[pT,aP]
 rw[show((l,(0:Int),()):List ByteArray×Int×Unit)=(fun i:Nat=>(l,(i:Int),())) 0 from rfl]
 rw[bN (fun i:Nat=>(l,(i:Int),())) (fun i=>eL (l.getD i ByteArray.empty)) l.length (e:=some (decide (l.length≤2)&&rH l,())) (no:=some (false,())) ?_ ?_ k 0 (by omega)]
 ·unfold Nu
  cases bf 0 l.length (fun i=>eL (l.getD i ByteArray.empty))<;>simp
 ·intro G i hi
  simp only[Int.toNat_natCast]
  have hm:ag .str (l.getD i ByteArray.empty)≤1048576:=Nat.le_trans (bo (e:= .str) (cj hi)) hs
  rw[aw,decide_eq_true hi,if_pos rfl,if_pos (aK hi),wc hk hm,Option.bind_some,bc (by omega)]
  cases eL (l.getD i ByteArray.empty)<;>simp
 ·intro G i hi
  simp only
  rw[aw,decide_eq_false (by omega),if_neg (by simp),tQ hk (by omega)]
  simp only[bL,Option.bind_some]
  by_cases h:l.length≤2
  ·have h':(l.length:Int)≤2:=by omega
   simp[h,h']
  ·have h':¬(l.length:Int)≤2:=by omega
   simp[h,h']
theorem Mi {l:List ByteArray} (hs:ag (.sl .str) l≤1048576):pW k (l,())=some (Nu l,()):=by
 have hl:=aA (e:= .str) (l:=l)
 simp only[pW,aP]
 rw[show((l,l,(l.length:Int),(0:Int),()):List ByteArray×List ByteArray×Int×Int×Unit)=(fun i:Nat=>(l,l,(l.length:Int),(i:Int),())) 0 from rfl]
 rw[bN (fun i:Nat=>(l,l,(l.length:Int),(i:Int),())) (fun i=>eL (l.getD i ByteArray.empty)) l.length (e:=some (decide (l.length≤2)&&rH l,())) (no:=some (false,())) ?_ ?_ k 0 (by omega)]
 ·unfold Nu
  cases bf 0 l.length (fun i=>eL (l.getD i ByteArray.empty))<;>simp
 ·intro G i hi
  simp only[Int.toNat_natCast]
  have hm:ag .str (l.getD i ByteArray.empty)≤1048576:=Nat.le_trans (bo (e:= .str) (cj hi)) hs
  rw[aw,decide_eq_true hi,if_pos rfl,if_pos (aK hi),vg hk hm,Option.bind_some,bc (by omega)]
  cases eL (l.getD i ByteArray.empty)<;>simp
 ·intro G i hi
  simp only
  rw[aw,decide_eq_false (by omega),if_neg (by simp),Qe hk,tQ hk (by omega)]
  simp only[bL,Option.bind_some]
  by_cases h:l.length≤2
  ·have h':(l.length:Int)≤2:=by omega
   simp[h,h']
  ·have h':¬(l.length:Int)≤2:=by omega
   simp[h,h']
theorem JU {c:cg} (hs:ag bC c≤1048576):nc k (c,())=some (gx c,()):=by
 rw[jj hk]at hs
 simp only[nc,fc hk,Mq hk hs,bL,Option.bind_some,gx]
 generalize bI c.1 1 3=b1
 generalize bI c.2.1 1 8=b2
 generalize bI c.2.2.1 1 2=b3
 generalize bI c.2.2.2.1 1 9=b4
 generalize bI c.2.2.2.2.1 1 9=b5
 cases b1<;>cases b2<;>cases b3<;>cases b4<;>cases b5<;>simp
theorem IJ {c:cg} (hs:ag bC c≤1048576):nh k (c,())=some (gx c,()):=by
 rw[jj hk]at hs
 simp only[nh,ez hk,Mi hk hs,bL,Option.bind_some,gx]
 generalize bI c.1 1 3=b1
 generalize bI c.2.1 1 8=b2
 generalize bI c.2.2.1 1 2=b3
 generalize bI c.2.2.2.1 1 9=b4
 generalize bI c.2.2.2.2.1 1 9=b5
 cases b1<;>cases b2<;>cases b3<;>cases b4<;>cases b5<;>simp
theorem Ps (l:List ai):decide ((l.length:Int)>0)=decide (0<l.length):=by simp
theorem fq {a:al} (hs:ag ab a≤1048576):du k (a,())=some (bY a,()):=by
 rw[ch hk]at hs
 simp only[du,fc hk,jO hk (show ag (.sl af) a.1≤1048576 by omega),tu hk (show a.2.2.2.size≤1048576 by omega),bL,Option.bind_some,bY,Ps hk]
 generalize ee a.1=b1
 generalize decide (0<a.1.length)=b2
 generalize bI a.2.1 0 99999=b3
 generalize bI a.2.2.1 a.2.1 99999=b4
 cases b1<;>cases b2<;>cases b3<;>cases b4<;>simp
theorem gw {a:al} (hs:ag ab a≤1048576):dS k (a,())=some (bY a,()):=by
 rw[ch hk]at hs
 simp only[dS,ez hk,jC hk (show ag (.sl af) a.1≤1048576 by omega),tO hk (show a.2.2.2.size≤1048576 by omega),bL,Option.bind_some,bY,Ps hk]
 generalize ee a.1=b1
 generalize decide (0<a.1.length)=b2
 generalize bI a.2.1 0 99999=b3
 generalize bI a.2.2.1 a.2.1 99999=b4
 cases b1<;>cases b2<;>cases b3<;>cases b4<;>simp
theorem oY {l:List al} (hs:ag (.sl ab) l≤1048576):gq k (l,())=some (ck l,()):=by
 have hl:=aA (e:=ab) (l:=l)
 simp only[gq]
 rw[show((l,(0:Int),()):List al×Int×Unit)=(fun i:Nat=>(l,(i:Int),())) 0 from rfl]
 rw[bN (fun i:Nat=>(l,(i:Int),())) (fun i=>bY (l.getD i ab.aa)) l.length (e:=some (true,())) (no:=some (false,())) ?_ ?_ k 0 (by omega)]
 ·unfold ck
  cases bf 0 l.length (fun i=>bY (l.getD i ab.aa))<;>simp
 ·intro G i hi
  simp only[Int.toNat_natCast]
  have hm:ag ab (l.getD i ab.aa)≤1048576:=Nat.le_trans (bo (e:=ab) (cj hi)) hs
  rw[aw,decide_eq_true hi,if_pos rfl,if_pos (aK hi),fq hk hm,Option.bind_some,bc (by omega)]
  cases bY (l.getD i ab.aa)<;>simp
 ·intro G i hi
  simp only
  rw[aw,decide_eq_false (by omega),if_neg (by simp)]
theorem jo {l:List al} (hs:ag (.sl ab) l≤1048576):ey k (l,())=some (ck l,()):=by
 have hl:=aA (e:=ab) (l:=l)
 simp only[ey]
 rw[show((l,(l.length:Int),(0:Int),()):List al×Int×Int×Unit)=(fun i:Nat=>(l,(l.length:Int),(i:Int),())) 0 from rfl]
 rw[bN (fun i:Nat=>(l,(l.length:Int),(i:Int),())) (fun i=>bY (l.getD i ab.aa)) l.length (e:=some (true,())) (no:=some (false,())) ?_ ?_ k 0 (by omega)]
 ·unfold ck
  cases bf 0 l.length (fun i=>bY (l.getD i ab.aa))<;>simp
 ·intro G i hi
  simp only[Int.toNat_natCast]
  have hm:ag ab (l.getD i ab.aa)≤1048576:=Nat.le_trans (bo (e:=ab) (cj hi)) hs
  rw[aw,decide_eq_true hi,if_pos rfl,if_pos (aK hi),gw hk hm,Option.bind_some,bc (by omega)]
  cases bY (l.getD i ab.aa)<;>simp
 ·intro G i hi
  simp only
  rw[aw,decide_eq_false (by omega),if_neg (by simp)]
end
end Vg.Tryz
namespace Vg.Tryz
open Go Vg
set_option linter.unusedVariables false
set_option linter.unusedSectionVars false
set_option linter.unusedSimpArgs false
def hasB (by_:List ByteArray) (s:ByteArray):Bool:= !bf 0 by_.length (fun i=> !((by_.getD i ByteArray.empty).toList==s.toList))
def keyOf (a:al) (by_:List ByteArray):List ai:=a.1.filter (fun x=>hasB by_ x.1)
def xv (l:List al) (i:Nat):Bool:=i==0||bU (l.getD (i-1) ab.aa).1 (l.getD i ab.aa).1
def wS (l:List al) (key:List ai) (by_:List ByteArray):Bool:=
 bf 0 l.length (fun i=>bY (l.getD i ab.aa)&&(decide (keyOf (l.getD i ab.aa) by_=key)&&xv l i))
def iu (g:aJ) (by_:List ByteArray):Bool:=
 decide (0≤g.1)&&(ee g.2.1&&(bI g.2.2.1 0 99999&&((decide (g.2.2.2.1= -1)||bI g.2.2.2.1 g.2.2.1 99999)&&(decide (0<g.2.2.2.2.length)&&wS g.2.2.2.2 g.2.1 by_))))
def Du (l:List aJ) (i:Nat):Bool:=i==0||decide ((l.getD (i-1) aj.aa).1<(l.getD i aj.aa).1)
def mA (l:List aJ) (i:Nat):Bool:=bf 0 i (fun j=> !decide ((l.getD j aj.aa).2.1=(l.getD i aj.aa).2.1))
def nw (l:List aJ) (by_:List ByteArray):Bool:=
 decide (l.length≤12)&&bf 0 l.length (fun i=>iu (l.getD i aj.aa) by_&&(Du l i&&mA l i))
def pS (s:bF):Bool:=decide (s.1.length≤3)&&((!s.2||decide (s.1.length=0))&&ck s.1)
def jP (a:al):Bool:=bY a&&decide (a.2.2.1≤99899)
section
variable {k:Nat} (hk:9223372036854775808≤k)
include hk
theorem dW {a b:List ai} (ha:a.length≤1048576):cL k (a,b,())=some (decide (a=b),()):=by
 simp only[cL]
 by_cases hl:a.length=b.length
 ·rw[if_neg (by simp[hl])]
  rw[fx (g:=fun(s:List ai×List ai×Int×Unit)=>some (decide (a.drop s.2.2.1.toNat=b.drop s.2.2.1.toNat),())) (m:=fun(s:List ai×List ai×Int×Unit)=>a.length-s.2.2.1.toNat)
   (I:=fun(s:List ai×List ai×Int×Unit)=>s.1=a∧s.2.1=b∧0≤s.2.2.1∧s.2.2.1≤(a.length:Int))]
  ·simp
  ·rintro G ⟨a',b',i,u⟩ ⟨e1,e2,hi0,hi1⟩ hG
   change a'=a at e1
   change b'=b at e2
   subst e1 e2
   simp only at hi0 hi1 hG⊢
   by_cases hi:i<(a'.length:Int)
   ·have h1:i.toNat<a'.length:=by omega
    have h2:i.toNat<b'.length:=by omega
    rw[if_pos (by simpa using hi),if_pos (by simpa using⟨hi0,hi⟩),if_pos (by simpa using⟨hi0,by omega⟩)]
    rw[dw (d:=af.aa) h1,dw (d:=af.aa) h2]
    by_cases he:a'.getD i.toNat af.aa=b'.getD i.toNat af.aa
    ·have hq:eqv af (a'.getD i.toNat af.aa) (b'.getD i.toNat af.aa)=true:=(rF rfl).2 he
     rw[if_neg (by rw[hq];simp),wrap64 (by omega) (by omega),hG (a',b',i+1,()) ⟨rfl,rfl,by simp only;omega,by simp only;omega⟩ (by simp only;omega)]
     simp only[he,List.cons.injEq,true_and]
     rw[show(i+1).toNat=i.toNat+1 by omega]
    ·have hq:eqv af (a'.getD i.toNat af.aa) (b'.getD i.toNat af.aa)=false:=by
      rw[Bool.eq_false_iff];exact fun h=>he ((rF rfl).1 h)
     rw[if_pos (by rw[hq];rfl)]
     simp only[List.cons.injEq,he,false_and,decide_false]
   ·rw[if_neg (by simpa using hi),List.drop_eq_nil_of_le (by omega),List.drop_eq_nil_of_le (by omega)]
    simp
  ·exact⟨rfl,rfl,by simp,by simp⟩
  ·simp only
   omega
 ·rw[if_pos (by simp;omega)]
  have:a≠b:=fun e=>hl (by rw[e])
  simp[this]
theorem eA {a b:List ai} (ha:a.length≤1048576):cM k (a,b,())=some (decide (a=b),()):=by
 simp only[cM]
 by_cases hl:a.length=b.length
 ·rw[if_neg (by simp[hl])]
  rw[fx (g:=fun(s:List ai×List ai×Int×Int×Unit)=>some (decide (a.drop s.2.2.2.1.toNat=b.drop s.2.2.2.1.toNat),())) (m:=fun(s:List ai×List ai×Int×Int×Unit)=>a.length-s.2.2.2.1.toNat)
   (I:=fun(s:List ai×List ai×Int×Int×Unit)=>s.1=a∧s.2.1=b∧s.2.2.1=(a.length:Int)∧0≤s.2.2.2.1∧s.2.2.2.1≤(a.length:Int))]
  ·simp
  ·rintro G ⟨a',b',n,i,u⟩ ⟨e1,e2,e3,hi0,hi1⟩ hG
   change a'=a at e1
   change b'=b at e2
   change n=_ at e3
   subst e1 e2 e3
   simp only at hi0 hi1 hG⊢
   by_cases hi:i<(a'.length:Int)
   ·have h1:i.toNat<a'.length:=by omega
    have h2:i.toNat<b'.length:=by omega
    rw[if_pos (by simpa using hi),if_pos (by simpa using⟨hi0,hi⟩),if_pos (by simpa using⟨hi0,by omega⟩)]
    rw[dw (d:=af.aa) h1,dw (d:=af.aa) h2]
    by_cases he:a'.getD i.toNat af.aa=b'.getD i.toNat af.aa
    ·have hq:eqv af (a'.getD i.toNat af.aa) (b'.getD i.toNat af.aa)=true:=(rF rfl).2 he
     rw[if_neg (by rw[hq];simp),wrap64 (by omega) (by omega),hG (a',b',_,i+1,()) ⟨rfl,rfl,rfl,by simp only;omega,by simp only;omega⟩ (by simp only;omega)]
     simp only[he,List.cons.injEq,true_and]
     rw[show(i+1).toNat=i.toNat+1 by omega]
    ·have hq:eqv af (a'.getD i.toNat af.aa) (b'.getD i.toNat af.aa)=false:=by
      rw[Bool.eq_false_iff];exact fun h=>he ((rF rfl).1 h)
     rw[if_pos (by rw[hq];rfl)]
     simp only[List.cons.injEq,he,false_and,decide_false]
   ·rw[if_neg (by simpa using hi),List.drop_eq_nil_of_le (by omega),List.drop_eq_nil_of_le (by omega)]
    simp
  ·exact⟨rfl,rfl,rfl,by simp,by simp⟩
  ·simp only
   omega
 ·rw[if_pos (by simp;omega)]
  have:a≠b:=fun e=>hl (by rw[e])
  simp[this]
theorem ou {a b:List ai} (ha:a.length≤1048576):iL k (a,b,())=some (bU a b,()):=by
 simp only[iL,aP]
 rw[fx (g:=fun(s:List ai×List ai×Int×Unit)=>some (bU (a.drop s.2.2.1.toNat) (b.drop s.2.2.1.toNat),())) (m:=fun(s:List ai×List ai×Int×Unit)=>a.length-s.2.2.1.toNat)
  (I:=fun(s:List ai×List ai×Int×Unit)=>s.1=a∧s.2.1=b∧0≤s.2.2.1∧s.2.2.1≤(a.length:Int)∧s.2.2.1≤(b.length:Int))]
 ·simp
 ·rintro G ⟨a',b',i,u⟩ ⟨e1,e2,hi0,hi1,hi2⟩ hG
  change a'=a at e1
  change b'=b at e2
  subst e1 e2
  simp only at hi0 hi1 hi2 hG⊢
  by_cases hi:i<(a'.length:Int)∧i<(b'.length:Int)
  ·have h1:i.toNat<a'.length:=by omega
   have h2:i.toNat<b'.length:=by omega
   have ca:decide (0≤i∧i<(a'.length:Int))=true:=by simpa using⟨hi0,hi.1⟩
   have cb:decide (0≤i∧i<(b'.length:Int))=true:=by simpa using⟨hi0,hi.2⟩
   rw[if_pos (by simp[hi.1,hi.2])]
   simp only[ca,cb,if_true]
   rw[dw (d:=af.aa) h1,dw (d:=af.aa) h2]
   simp only[bU,lC]
   rw[wrap64 (by omega) (by omega),hG (a',b',i+1,()) ⟨rfl,rfl,by simp only;omega,by simp only;omega,by simp only;omega⟩ (by simp only;omega)]
   simp only
   rw[show(i+1).toNat=i.toNat+1 by omega]
   cases (ByteArray.toList (a'.getD i.toNat af.aa).1==ByteArray.toList (b'.getD i.toNat af.aa).1)<;>cases (ByteArray.toList (a'.getD i.toNat af.aa).2==ByteArray.toList (b'.getD i.toNat af.aa).2)<;>simp
  ·rw[if_neg (by simp;omega)]
   by_cases ha':i<(a'.length:Int)
   ·have h1:i.toNat<a'.length:=by omega
    rw[dw (d:=af.aa) h1,List.drop_eq_nil_of_le (show b'.length≤i.toNat by omega)]
    simp only[bU]
    congr 2
    simp;omega
   ·rw[List.drop_eq_nil_of_le (show a'.length≤i.toNat by omega)]
    simp only[bU]
    congr 2
    by_cases hb':i<(b'.length:Int)
    ·have h2:i.toNat<b'.length:=by omega
     rw[dw (d:=af.aa) h2]
     simp;omega
    ·rw[List.drop_eq_nil_of_le (show b'.length≤i.toNat by omega)]
     simp;omega
 ·exact⟨rfl,rfl,by simp,by simp,by simp⟩
 ·simp only
  omega
theorem oS {a b:List ai} (ha:a.length≤1048576):iI k (a,b,())=some (bU a b,()):=by
 rw[←ou hk ha]
 simp only[iL,iI,fb,Option.bind_some]
theorem N9 {l:List ByteArray} {s:ByteArray} (hl:l.length≤1048576):nZ k (l,s,())=some (hasB l s,()):=by
 simp only[nZ]
 rw[show((l,s,(0:Int),()):List ByteArray×ByteArray×Int×Unit)=(fun i:Nat=>(l,s,(i:Int),())) 0 from rfl]
 rw[MV (fun i:Nat=>(l,s,(i:Int),())) (fun i=>(l.getD i ByteArray.empty).toList==s.toList) l.length (e:=some (false,())) (yes:=some (true,())) ?_ ?_ k 0 (by omega)]
 ·unfold hasB
  cases bf 0 l.length (fun i=> !((l.getD i ByteArray.empty).toList==s.toList))<;>simp
 ·intro G i hi
  simp only[Int.toNat_natCast]
  rw[aw,decide_eq_true hi,if_pos rfl,if_pos (aK hi),bc (by omega)]
 ·intro G i hi
  simp only
  rw[aw,decide_eq_false (by omega),if_neg (by simp)]
theorem OA {l:List ByteArray} {s:ByteArray} (hl:l.length≤1048576):lO k (l,s,())=some (hasB l s,()):=by
 simp only[lO]
 rw[show((s,l,(l.length:Int),(0:Int),()):ByteArray×List ByteArray×Int×Int×Unit)=(fun i:Nat=>(s,l,(l.length:Int),(i:Int),())) 0 from rfl]
 rw[MV (fun i:Nat=>(s,l,(l.length:Int),(i:Int),())) (fun i=>(l.getD i ByteArray.empty).toList==s.toList) l.length (e:=some (false,())) (yes:=some (true,())) ?_ ?_ k 0 (by omega)]
 ·unfold hasB
  cases bf 0 l.length (fun i=> !((l.getD i ByteArray.empty).toList==s.toList))<;>simp
 ·intro G i hi
  simp only[Int.toNat_natCast]
  rw[aw,decide_eq_true hi,if_pos rfl,if_pos (aK hi),bc (by omega)]
 ·intro G i hi
  simp only
  rw[aw,decide_eq_false (by omega),if_neg (by simp)]
theorem LZ {a:al} {by_:List ByteArray} (ha:ag ab a≤1048576) (hb:by_.length≤1048576):nU k (a,by_,())=some (keyOf a by_,()):=by
 have hl:=aA (e:=af) (l:=a.1)
 rw[ch hk]at ha
 simp only[nU,pC]
 rw[fx (g:=fun(s:List ai×List ByteArray×List ai×Int×Unit)=>some (s.2.2.1++(a.1.drop s.2.2.2.1.toNat).filter (fun x=>hasB by_ x.1),())) (m:=fun(s:List ai×List ByteArray×List ai×Int×Unit)=>a.1.length-s.2.2.2.1.toNat)
  (I:=fun(s:List ai×List ByteArray×List ai×Int×Unit)=>s.1=a.1∧s.2.1=by_∧0≤s.2.2.2.1∧s.2.2.2.1≤(a.1.length:Int)∧s.2.2.1.length≤s.2.2.2.1.toNat)]
 ·simp[keyOf]
 ·rintro G ⟨l',y',o,i,u⟩ ⟨e1,e2,hi0,hi1,ho⟩ hG
  change l'=_ at e1
  change y'=by_ at e2
  subst e1 e2
  simp only at hi0 hi1 ho hG⊢
  by_cases hi:i<(a.1.length:Int)
  ·have h1:i.toNat<a.1.length:=by omega
   rw[if_pos (by simpa using hi),if_pos (by simpa using⟨hi0,hi⟩),N9 hk hb,Option.bind_some,dw (d:=af.aa) h1,wrap64 (by omega) (by omega)]
   cases hh:hasB y' (a.1.getD i.toNat af.aa).1 with
   |true=>
    rw[if_pos rfl,if_pos (by simpa using⟨hi0,hi⟩),if_pos (by simp;omega)]
    rw[hG (a.1,y',o++[a.1.getD i.toNat af.aa],i+1,()) ⟨rfl,rfl,by simp only;omega,by simp only;omega,by simp;omega⟩ (by simp only;omega)]
    simp only
    rw[show(i+1).toNat=i.toNat+1 by omega,List.filter_cons_of_pos (by simpa using hh)]
    simp
   |false=>
    rw[if_neg (by simp)]
    rw[hG (a.1,y',o,i+1,()) ⟨rfl,rfl,by simp only;omega,by simp only;omega,by simp only;omega⟩ (by simp only;omega)]
    simp only
    rw[show(i+1).toNat=i.toNat+1 by omega,List.filter_cons_of_neg (by rw[hh];simp)]
  ·rw[if_neg (by simpa using hi),List.drop_eq_nil_of_le (by omega)]
   simp
 ·exact⟨rfl,rfl,by simp,by simp,by simp⟩
 ·simp only
  omega
theorem Lh {a:al} {by_:List ByteArray} (ha:ag ab a≤1048576) (hb:by_.length≤1048576):oL k (a,by_,())=some (keyOf a by_,()):=by
 have hl:=aA (e:=af) (l:=a.1)
 rw[ch hk]at ha
 simp only[oL,oX]
 rw[fx (g:=fun(s:List ByteArray×List ai×List ai×Int×Int×Unit)=>some (s.2.1++(a.1.drop s.2.2.2.2.1.toNat).filter (fun x=>hasB by_ x.1),())) (m:=fun(s:List ByteArray×List ai×List ai×Int×Int×Unit)=>a.1.length-s.2.2.2.2.1.toNat)
  (I:=fun(s:List ByteArray×List ai×List ai×Int×Int×Unit)=>s.1=by_∧s.2.2.1=a.1∧s.2.2.2.1=(a.1.length:Int)∧0≤s.2.2.2.2.1∧s.2.2.2.2.1≤(a.1.length:Int)∧s.2.1.length≤s.2.2.2.2.1.toNat)]
 ·simp[keyOf]
 ·rintro G ⟨y',o,l',n,i,u⟩ ⟨e2,e1,e3,hi0,hi1,ho⟩ hG
  change l'=_ at e1
  change y'=by_ at e2
  change n=_ at e3
  subst e1 e2 e3
  simp only at hi0 hi1 ho hG⊢
  by_cases hi:i<(a.1.length:Int)
  ·have h1:i.toNat<a.1.length:=by omega
   rw[if_pos (by simpa using hi),if_pos (by simpa using⟨hi0,hi⟩),OA hk hb,Option.bind_some,dw (d:=af.aa) h1,wrap64 (by omega) (by omega)]
   cases hh:hasB y' (a.1.getD i.toNat af.aa).1 with
   |true=>
    rw[if_pos rfl,if_pos (by simp;omega)]
    rw[hG (y',o++[a.1.getD i.toNat af.aa],a.1,_,i+1,()) ⟨rfl,rfl,rfl,by simp only;omega,by simp only;omega,by simp;omega⟩ (by simp only;omega)]
    simp only
    rw[show(i+1).toNat=i.toNat+1 by omega,List.filter_cons_of_pos (by simpa using hh)]
    simp
   |false=>
    rw[if_neg (by simp)]
    rw[hG (y',o,a.1,_,i+1,()) ⟨rfl,rfl,rfl,by simp only;omega,by simp only;omega,by simp only;omega⟩ (by simp only;omega)]
    simp only
    rw[show(i+1).toNat=i.toNat+1 by omega,List.filter_cons_of_neg (by rw[hh];simp)]
  ·rw[if_neg (by simpa using hi),List.drop_eq_nil_of_le (by omega)]
   simp
 ·exact⟨rfl,rfl,rfl,by simp,by simp,by simp⟩
 ·simp only
  omega
theorem KA (a:al) (by_:List ByteArray):(keyOf a by_).length≤a.1.length:=List.length_filter_le ..
end
end Vg.Tryz
namespace Vg.Tryz
open Go Vg
set_option linter.unusedVariables false
set_option linter.unusedSectionVars false
set_option linter.unusedSimpArgs false
section
variable {k:Nat} (hk:9223372036854775808≤k)
include hk
theorem gg {l:List al} {i:Nat} (hs:ag (.sl ab) l≤1048576) (hi:i<l.length):ag ab (l.getD i ab.aa)≤1048576∧(l.getD i ab.aa).1.length≤1048576:=by
 have hm:ag ab (l.getD i ab.aa)≤1048576:=Nat.le_trans (bo (e:=ab) (cj hi)) hs
 refine⟨hm,?_⟩
 rw[ch hk]at hm
 have:=aA (e:=af) (l:=(l.getD i ab.aa).1)
 omega
theorem Hr {l:List al} {key:List ai} {by_:List ByteArray} (hs:ag (.sl ab) l≤1048576) (hb:by_.length≤1048576):lD k (l,key,by_,())=some (wS l key by_,()):=by
 have hl:=aA (e:=ab) (l:=l)
 simp only[lD]
 rw[show((l,key,by_,l,(l.length:Int),(0:Int),()):List al×List ai×List ByteArray×List al×Int×Int×Unit)=(fun i:Nat=>(l,key,by_,l,(l.length:Int),(i:Int),())) 0 from rfl]
 rw[bN (fun i:Nat=>(l,key,by_,l,(l.length:Int),(i:Int),())) (fun i=>bY (l.getD i ab.aa)&&(decide (keyOf (l.getD i ab.aa) by_=key)&&xv l i)) l.length (e:=some (true,())) (no:=some (false,())) ?_ ?_ k 0 (by omega)]
 ·unfold wS
  cases bf 0 l.length (fun i=>bY (l.getD i ab.aa)&&(decide (keyOf (l.getD i ab.aa) by_=key)&&xv l i))<;>simp
 ·intro G i hi
  simp only[Int.toNat_natCast]
  obtain⟨hm,hml⟩:=gg hk hs hi
  have hkl:=KA hk (l.getD i ab.aa) by_
  rw[aw,decide_eq_true hi,if_pos rfl,if_pos (aK hi),gw hk hm,Option.bind_some,Lh hk hm hb,bc (by omega),pP (by omega)]
  simp only[bL,Option.bind_some]
  rw[show((i:Int)-1).toNat=i-1 by omega]
  cases bY (l.getD i ab.aa)with
  |false=>simp
  |true=>
   simp only[Bool.not_true,beq_self_eq_true,if_true]
   rw[eA hk (by omega)]
   simp only[Option.bind_some]
   by_cases hq:keyOf (l.getD i ab.aa) by_=key
   ·by_cases h0:i=0
    ·subst h0
     simp[hq,xv,-List.getD_eq_getElem?_getD]
    ·have h0':(0:Int)<(i:Int):=by omega
     have h0n:0<i:=by omega
     obtain⟨hm1,hml1⟩:=gg hk hs (show i-1<l.length by omega)
     rw[if_pos (by simp;omega),ou hk hml1]
     unfold xv
     cases bU (l.getD (i-1) ab.aa).1 (l.getD i ab.aa).1<;>simp[hq,h0,h0',h0n,-List.getD_eq_getElem?_getD]
   ·simp[hq,-List.getD_eq_getElem?_getD]
 ·intro G i hi
  simp only
  rw[aw,decide_eq_false (by omega),if_neg (by simp)]
theorem Gn {g:aJ} {by_:List ByteArray} (hs:ag aj g≤1048576) (hb:by_.length≤1048576):lW k (g,by_,())=some (iu g by_,()):=by
 rw[gF hk]at hs
 simp only[lW,ez hk,jC hk (show ag (.sl af) g.2.1≤1048576 by omega),Hr hk (show ag (.sl ab) g.2.2.2.2≤1048576 by omega) hb,bL,Option.bind_some,iu]
 have e1:decide (g.1<(0:Int))= !decide (0≤g.1):=by rw[Bool.eq_iff_iff];simp
 have e2:decide ((g.2.2.2.2.length:Int)>(0:Int))=decide (0<g.2.2.2.2.length):=by simp
 have e3:((g.2.2.2.1:Int) != (-1:Int))= !decide (g.2.2.2.1= -1):=by rw[Bool.eq_iff_iff];simp
 rw[e1,e2,e3]
 generalize decide (0≤g.1)=b1
 generalize ee g.2.1=b2
 generalize bI g.2.2.1 0 99999=b3
 generalize decide (g.2.2.2.1= -1)=b4
 generalize bI g.2.2.2.1 g.2.2.1 99999=b5
 generalize decide (0<g.2.2.2.2.length)=b6
 generalize wS g.2.2.2.2 g.2.1 by_=b7
 cases b1<;>cases b2<;>cases b3<;>cases b4<;>cases b5<;>cases b6<;>cases b7<;>simp
theorem FO {g:aJ} {by_:List ByteArray} (hs:ag aj g≤1048576) (hb:by_.length≤1048576):mb k (g,by_,())=some (iu g by_,()):=by
 rw[gF hk]at hs
 have hs2:ag (.sl ab) g.2.2.2.2≤1048576:=by omega
 have hl:=aA (e:=ab) (l:=g.2.2.2.2)
 simp only[mb,aP]
 rw[show((by_,g,(0:Int),()):List ByteArray×aJ×Int×Unit)=(fun i:Nat=>(by_,g,(i:Int),())) 0 from rfl]
 rw[bN (fun i:Nat=>(by_,g,(i:Int),())) (fun i=>bY (g.2.2.2.2.getD i ab.aa)&&(decide (keyOf (g.2.2.2.2.getD i ab.aa) by_=g.2.1)&&xv g.2.2.2.2 i)) g.2.2.2.2.length
  (e:=some (decide (0≤g.1)&&(ee g.2.1&&(bI g.2.2.1 0 99999&&((decide (g.2.2.2.1= -1)||bI g.2.2.2.1 g.2.2.1 99999)&&decide (0<g.2.2.2.2.length)))),())) (no:=some (false,())) ?_ ?_ k 0 (by omega)]
 ·unfold iu wS
  cases bf 0 g.2.2.2.2.length (fun i=>bY (g.2.2.2.2.getD i ab.aa)&&(decide (keyOf (g.2.2.2.2.getD i ab.aa) by_=g.2.1)&&xv g.2.2.2.2 i))<;>simp
 ·intro G i hi
  simp only[Int.toNat_natCast]
  obtain⟨hm,hml⟩:=gg hk hs2 hi
  have hkl:=KA hk (g.2.2.2.2.getD i ab.aa) by_
  rw[aw,decide_eq_true hi,if_pos rfl,if_pos (aK hi),fq hk hm,Option.bind_some,bc (by omega),pP (by omega)]
  rw[show((i:Int)-1).toNat=i-1 by omega]
  simp only[aK hi,Bool.or_true,if_true]
  rw[if_pos (by simp;omega),LZ hk hm hb]
  cases bY (g.2.2.2.2.getD i ab.aa)with
  |false=>simp
  |true=>
   simp only[Bool.not_true,beq_self_eq_true,Bool.true_and]
   by_cases h0:i=0
   ·subst h0
    have hS:=dW hk (a:=keyOf (g.2.2.2.2.getD 0 ab.aa) by_) (b:=g.2.1) (by omega)
    simp[hS,xv,-List.getD_eq_getElem?_getD]
   ·have h0':(0:Int)<(i:Int):=by omega
    have h0n:0<i:=by omega
    obtain⟨hm1,hml1⟩:=gg hk hs2 (show i-1<g.2.2.2.2.length by omega)
    rw[oS hk hml1]
    unfold xv
    cases bU (g.2.2.2.2.getD (i-1) ab.aa).1 (g.2.2.2.2.getD i ab.aa).1 with
    |false=>simp[h0,h0',h0n,-List.getD_eq_getElem?_getD]
    |true=>
     have hS:=dW hk (a:=keyOf (g.2.2.2.2.getD i ab.aa) by_) (b:=g.2.1) (by omega)
     simp[hS,h0,h0',h0n,-List.getD_eq_getElem?_getD]
 ·intro G i hi
  simp only
  rw[aw,decide_eq_false (by omega),if_neg (by simp)]
  simp only[fc hk,jO hk (show ag (.sl af) g.2.1≤1048576 by omega),bL,Option.bind_some]
  have e1:decide (g.1≥(0:Int))=decide (0≤g.1):=rfl
  have e2:decide ((g.2.2.2.2.length:Int)>(0:Int))=decide (0<g.2.2.2.2.length):=by simp
  have e3:((g.2.2.2.1:Int)==(-1:Int))=decide (g.2.2.2.1= -1):=by rw[Bool.eq_iff_iff];simp
  rw[e1,e2,e3]
  generalize decide (0≤g.1)=b1
  generalize ee g.2.1=b2
  generalize bI g.2.2.1 0 99999=b3
  generalize decide (g.2.2.2.1= -1)=b4
  generalize bI g.2.2.2.1 g.2.2.1 99999=b5
  generalize decide (0<g.2.2.2.2.length)=b6
  cases b1<;>cases b2<;>cases b3<;>cases b4<;>cases b5<;>cases b6<;>simp
theorem xz {l:List aJ} {i:Nat} (hs:ag (.sl aj) l≤1048576) (hi:i<l.length):ag aj (l.getD i aj.aa)≤1048576∧(l.getD i aj.aa).2.1.length≤1048576:=by
 have hm:ag aj (l.getD i aj.aa)≤1048576:=Nat.le_trans (bo (e:=aj) (cj hi)) hs
 refine⟨hm,?_⟩
 rw[gF hk]at hm
 have:=aA (e:=af) (l:=(l.getD i aj.aa).2.1)
 omega
theorem Gx {l:List aJ} {key:List ai} (hs:ag (.sl aj) l≤1048576):
 ∃r:Int,l0 k (l,key,())=some (r,())∧(∀i:Nat,i<l.length→(l.getD i aj.aa).2.1=key→(r=(i:Int)↔∀j,j<i→(l.getD j aj.aa).2.1≠key)):=by
 have hl:=aA (e:=aj) (l:=l)
 simp only[l0]
 have main:∀(m a:Nat),l.length-a<m→(∀j,j<a→(l.getD j aj.aa).2.1≠key)→∃r:Int,az m (fun G1 (t2:List ai×List aJ×Int×Int×Unit)=>
  if(decide ((t2.2.2.2.1:Int)<t2.2.2.1))=true then
   if(decide (0≤t2.2.2.2.1∧t2.2.2.2.1<((List.length t2.2.1:Nat):Int)))=true then
    Option.bind (cM k (((List.getD t2.2.1 (Int.toNat t2.2.2.2.1) aj.aa).2).1,t2.1,())) fun(r3:Bool×Unit)=>
    if r3.1=true then
     some (t2.2.2.2.1,())
    else
     G1 (t2.1,t2.2.1,t2.2.2.1,IntKind.i64.wrap (t2.2.2.2.1+(1:Int)),())
   else
    none
  else
   some ((-1:Int),())) (key,l,(l.length:Int),(a:Int),())=some (r,())∧(∀i:Nat,i<l.length→(l.getD i aj.aa).2.1=key→(r=(i:Int)↔∀j,j<i→(l.getD j aj.aa).2.1≠key)):=by
  intro m
  induction m with
  |zero=>intro a h;omega
  |succ m ih=>
   intro a h hno
   simp only[az,Int.toNat_natCast]
   by_cases ha:a<l.length
   ·rw[aw,decide_eq_true ha,if_pos rfl,if_pos (aK ha),eA hk (xz hk hs ha).2,Option.bind_some]
    by_cases hq:(l.getD a aj.aa).2.1=key
    ·rw[if_pos (by simpa using hq)]
     refine⟨_,rfl,fun i hi hik=> ?_⟩
     constructor
     ·intro e j hj
      exact hno j (by omega)
     ·intro hall
      rcases Nat.lt_trichotomy a i with h1|h1|h1
      ·exact absurd hq (hall a h1)
      ·rw[h1]
      ·exact absurd hik (hno i h1)
    ·rw[if_neg (by simpa using hq),bc (by omega)]
     refine ih (a+1) (by omega) (fun j hj=> ?_)
     rcases Nat.lt_or_ge j a with h1|h1
     ·exact hno j h1
     ·rw[show j=a by omega];exact hq
   ·rw[aw,decide_eq_false ha,if_neg (by simp)]
    refine⟨-1,rfl,fun i hi hik=> ?_⟩
    exact absurd hik (hno i (by omega))
 exact main k 0 (by omega) (fun j hj=>by omega)
theorem Qk (l:List aJ) (i:Nat):mA l i=true↔∀j,j<i→(l.getD j aj.aa).2.1≠(l.getD i aj.aa).2.1:=by
 unfold mA
 rw[en]
 simp only[Bool.not_eq_true',decide_eq_false_iff_not]
 exact⟨fun h j hj=>h j (by omega) hj,fun h j _ hj=>h j hj⟩
theorem C4 {l:List aJ} {by_:List ByteArray} (hs:ag (.sl aj) l≤1048576) (hb:by_.length≤1048576):kz k (l,by_,())=some (nw l by_,()):=by
 have hl:=aA (e:=aj) (l:=l)
 simp only[kz]
 rw[show((l,by_,l,(l.length:Int),(0:Int),()):List aJ×List ByteArray×List aJ×Int×Int×Unit)=(fun i:Nat=>(l,by_,l,(l.length:Int),(i:Int),())) 0 from rfl]
 rw[bN (fun i:Nat=>(l,by_,l,(l.length:Int),(i:Int),())) (fun i=>decide (i<12)&&(iu (l.getD i aj.aa) by_&&(Du l i&&mA l i))) l.length (e:=some (true,())) (no:=some (false,())) ?_ ?_ k 0 (by omega)]
 ·unfold nw
  rw[D6,O8]
  cases bf 0 l.length (fun i=>iu (l.getD i aj.aa) by_&&(Du l i&&mA l i))<;>by_cases h:l.length≤12<;>simp[h]
 ·intro G i hi
  simp only[Int.toNat_natCast]
  obtain⟨hm,hml⟩:=xz hk hs hi
  obtain⟨r,hr,hri⟩:=Gx hk (key:=(l.getD i aj.aa).2.1) hs
  have hri:=hri i hi rfl
  rw[←Qk hk]at hri
  rw[aw,decide_eq_true hi,if_pos rfl,if_pos (aK hi),Gn hk hm hb,bc (by omega),pP (by omega)]
  simp only[bL,Option.bind_some]
  rw[show((i:Int)-1).toNat=i-1 by omega,hr,if_pos (by simp;omega)]
  unfold Du
  by_cases h12:i<12
  ·have h12':¬(12:Int)≤(i:Int):=by omega
   cases iu (l.getD i aj.aa) by_ with
   |false=>simp[h12,h12',-List.getD_eq_getElem?_getD]
   |true=>
    by_cases h0:i=0
    ·subst h0
     cases hn:mA l 0 with
     |true=>rw[hn]at hri;have:=hri.2 rfl;simp[this,-List.getD_eq_getElem?_getD]
     |false=>rw[hn]at hri;have:¬r=0:=fun e=>by have:=hri.1 e;cases this
             simp[this,-List.getD_eq_getElem?_getD]
    ·have h0':(0:Int)<(i:Int):=by omega
     have h0n:0<i:=by omega
     by_cases ho:(l.getD (i-1) aj.aa).1<(l.getD i aj.aa).1
     ·have ho':¬(l.getD i aj.aa).1≤(l.getD (i-1) aj.aa).1:=by omega
      cases hn:mA l i with
      |true=>rw[hn]at hri;have:=hri.2 rfl;simp[this,h12,h12',h0,h0',h0n,ho,ho',-List.getD_eq_getElem?_getD]
      |false=>rw[hn]at hri;have:¬r=(i:Int):=fun e=>by have:=hri.1 e;cases this
              simp[this,h12,h12',h0,h0',h0n,ho,ho',-List.getD_eq_getElem?_getD]
     ·have ho':(l.getD i aj.aa).1≤(l.getD (i-1) aj.aa).1:=by omega
      simp[h12,h12',h0,h0',h0n,ho,ho',-List.getD_eq_getElem?_getD]
  ·have h12':(12:Int)≤(i:Int):=by omega
   simp[h12,h12',-List.getD_eq_getElem?_getD]
 ·intro G i hi
  simp only
  rw[aw,decide_eq_false (by omega),if_neg (by simp)]
theorem DK {l:List aJ} {by_:List ByteArray} (hs:ag (.sl aj) l≤1048576) (hb:by_.length≤1048576):ky k (l,by_,())=some (nw l by_,()):=by
 have hl:=aA (e:=aj) (l:=l)
 simp only[ky,aP]
 rw[show((l,by_,(0:Int),()):List aJ×List ByteArray×Int×Unit)=(fun i:Nat=>(l,by_,(i:Int),())) 0 from rfl]
 rw[bN (fun i:Nat=>(l,by_,(i:Int),())) (fun i=>iu (l.getD i aj.aa) by_&&(Du l i&&mA l i)) l.length (e:=some (decide (l.length≤12),())) (no:=some (false,())) ?_ ?_ k 0 (by omega)]
 ·unfold nw
  cases bf 0 l.length (fun i=>iu (l.getD i aj.aa) by_&&(Du l i&&mA l i))<;>simp
 ·intro G i hi
  simp only[Int.toNat_natCast]
  obtain⟨hm,hml⟩:=xz hk hs hi
  rw[aw,decide_eq_true hi,if_pos rfl,if_pos (aK hi),FO hk hm hb,Option.bind_some,pP (by omega)]
  rw[show((i:Int)-1).toNat=i-1 by omega,if_pos (by simp;omega)]
  simp only[aK hi,Bool.or_true,if_true]
  have inner:az k (fun G6 (t7:List aJ×List ByteArray×Int×Int×Unit)=>
   if(decide ((t7.2.2.2.1:Int)<t7.2.2.1))=true then
    if(decide (0≤t7.2.2.2.1∧t7.2.2.2.1<((List.length t7.1:Nat):Int)))=true then
     if(decide (0≤t7.2.2.1∧t7.2.2.1<((List.length t7.1:Nat):Int)))=true then
      Option.bind (cL k (((List.getD t7.1 (Int.toNat t7.2.2.2.1) aj.aa).2).1,((List.getD t7.1 (Int.toNat t7.2.2.1) aj.aa).2).1,())) fun(r8:Bool×Unit)=>
      if r8.1=true then
       some (false,())
      else
       G6 (t7.1,t7.2.1,t7.2.2.1,IntKind.i64.wrap (t7.2.2.2.1+(1:Int)),())
     else
      none
    else
     none
   else
    G (t7.1,t7.2.1,IntKind.i64.wrap (t7.2.2.1+(1:Int)),())) (l,by_,(i:Int),(0:Int),())=if mA l i=true then G (l,by_,((i+1:Nat):Int),())else some (false,()):=by
   rw[show((l,by_,(i:Int),(0:Int),()):List aJ×List ByteArray×Int×Int×Unit)=(fun j:Nat=>(l,by_,(i:Int),(j:Int),())) 0 from rfl]
   rw[bN (fun j:Nat=>(l,by_,(i:Int),(j:Int),())) (fun j=> !decide ((l.getD j aj.aa).2.1=(l.getD i aj.aa).2.1)) i (e:=G (l,by_,((i+1:Nat):Int),())) (no:=some (false,())) ?_ ?_ k 0 (by omega)]
   ·rfl
   ·intro G' j hj
    simp only[Int.toNat_natCast]
    rw[aw,decide_eq_true hj,if_pos rfl,if_pos (aK (by omega)),if_pos (aK hi),dW hk (xz hk hs (show j<l.length by omega)).2,Option.bind_some,bc (by omega)]
    by_cases hq:(l.getD j aj.aa).2.1=(l.getD i aj.aa).2.1<;>simp[hq,-List.getD_eq_getElem?_getD]
   ·intro G' j hj
    simp only
    rw[aw,decide_eq_false (by omega),if_neg (by simp),bc (by omega)]
  rw[inner]
  unfold Du
  cases iu (l.getD i aj.aa) by_ with
  |false=>simp
  |true=>
   by_cases h0:i=0
   ·subst h0;simp
   ·have h0':(0:Int)<(i:Int):=by omega
    have h0n:0<i:=by omega
    by_cases ho:(l.getD (i-1) aj.aa).1<(l.getD i aj.aa).1
    ·have ho':¬(l.getD i aj.aa).1≤(l.getD (i-1) aj.aa).1:=by omega
     simp[h0,h0',h0n,ho,ho',-List.getD_eq_getElem?_getD]
    ·have ho':(l.getD i aj.aa).1≤(l.getD (i-1) aj.aa).1:=by omega
     simp[h0,h0',h0n,ho,ho',-List.getD_eq_getElem?_getD]
 ·intro G i hi
  simp only
  rw[aw,decide_eq_false (by omega),if_neg (by simp)]
  congr 2
  rw[Bool.eq_iff_iff]
  simp
  omega
end
end Vg.Tryz
namespace Vg.Tryz
open Go Vg
set_option linter.unusedVariables false
set_option linter.unusedSectionVars false
set_option linter.unusedSimpArgs false
def qe (l:List bF):Bool:=bf 0 l.length (fun i=>pS (l.getD i aU.aa))
section
variable {k:Nat} (hk:9223372036854775808≤k)
include hk
theorem zo {c:cg} {a:al} (hs:ag ab a≤1048576):mw k (c,a,())=some (jP a,()):=by
 simp only[mw]
 rw[fq hk hs]
 simp only[Option.bind_some,jP,vJ]
theorem Aa {c:cg} {a:al} (hs:ag ab a≤1048576):mz k (c,a,())=some (jP a,()):=by
 simp only[mz]
 rw[gw hk hs]
 simp only[Option.bind_some,jP,vJ]
theorem L2 {s:bF} (hs:ag aU s≤1048576):ow k (s,())=some (pS s,()):=by
 rw[nH hk]at hs
 have hl:=aA (e:=ab) (l:=s.1)
 simp only[ow,aP]
 rw[show((s,(0:Int),()):bF×Int×Unit)=(fun i:Nat=>(s,(i:Int),())) 0 from rfl]
 rw[bN (fun i:Nat=>(s,(i:Int),())) (fun i=>bY (s.1.getD i ab.aa)) s.1.length (e:=some (decide (s.1.length≤3)&&(!s.2||decide (s.1.length=0)),())) (no:=some (false,())) ?_ ?_ k 0 (by omega)]
 ·unfold pS ck
  cases bf 0 s.1.length (fun i=>bY (s.1.getD i ab.aa))<;>simp
 ·intro G i hi
  simp only[Int.toNat_natCast]
  rw[aw,decide_eq_true hi,if_pos rfl,if_pos (aK hi),fq hk (gg hk hs hi).1,Option.bind_some,bc (by omega)]
  cases bY (s.1.getD i ab.aa)<;>simp
 ·intro G i hi
  simp only
  rw[aw,decide_eq_false (by omega),if_neg (by simp)]
  congr 2
  by_cases h:s.1.length≤3
  ·have h':(s.1.length:Int)≤3:=by omega
   by_cases h0:s.1.length=0
   ·cases s.2<;>simp[h0]
   ·have h0':¬(s.1.length:Int)=0:=by omega
    cases s.2<;>simp[h,h',h0]<;>(intro e;rw[e]at h0;exact h0 rfl)
  ·have h':¬(s.1.length:Int)≤3:=by omega
   simp[h,h']
theorem LL {s:bF} (hs:ag aU s≤1048576):og k (s,())=some (pS s,()):=by
 rw[nH hk]at hs
 have hl:=aA (e:=ab) (l:=s.1)
 simp only[og]
 rw[jo hk hs]
 unfold pS
 cases s.2 with
 |true=>
  simp only[if_true]
  congr 2
  by_cases h0:s.1=[]
  ·rw[h0];rfl
  ·have h1:¬s.1.length=0:=fun e=>h0 (List.eq_nil_of_length_eq_zero e)
   simp[h0]
 |false=>
  by_cases h:s.1.length≤3
  ·have h':(s.1.length:Int)≤3:=by omega
   simp[h,h']
  ·have h':¬(s.1.length:Int)≤3:=by omega
   simp[h,h']
theorem Rs {l:List bF} {i:Nat} (hs:ag (.sl aU) l≤1048576) (hi:i<l.length):ag aU (l.getD i aU.aa)≤1048576:=
 Nat.le_trans (bo (e:=aU) (cj hi)) hs
theorem Bl {l:List bF} {c:cg} (hs:ag (.sl aU) l≤1048576):jv k (l,c,())=some (qe l&&decide ((l.length:Int)=c.2.2.1),()):=by
 have hl:=aA (e:=aU) (l:=l)
 simp only[jv,aP]
 rw[show((l,c,l,(l.length:Int),(0:Int),()):List bF×cg×List bF×Int×Int×Unit)=(fun i:Nat=>(l,c,l,(l.length:Int),(i:Int),())) 0 from rfl]
 rw[bN (fun i:Nat=>(l,c,l,(l.length:Int),(i:Int),())) (fun i=>pS (l.getD i aU.aa)) l.length (e:=some (decide ((l.length:Int)=c.2.2.1),())) (no:=some (false,())) ?_ ?_ k 0 (by omega)]
 ·unfold qe
  cases bf 0 l.length (fun i=>pS (l.getD i aU.aa))<;>simp
 ·intro G i hi
  simp only[Int.toNat_natCast]
  rw[aw,decide_eq_true hi,if_pos rfl,if_pos (aK hi),LL hk (Rs hk hs hi),Option.bind_some,bc (by omega)]
  cases pS (l.getD i aU.aa)<;>simp
 ·intro G i hi
  simp only
  rw[aw,decide_eq_false (by omega),if_neg (by simp)]
  congr 2
end
end Vg.Tryz
namespace Vg.Tryz
open Go Vg
set_option linter.unusedVariables false
set_option linter.unusedSectionVars false
set_option linter.unusedSimpArgs false
theorem Je (n:Int):IntKind.u32.wrap n=n%4294967296:=by
 simp[IntKind.wrap,IntKind.signed,IntKind.bits]
theorem UJ {a b:Nat} (ha:a<4294967296) (hb:b<4294967296):bits (fun _=>(·^^^·)) .i64 (a:Int) (b:Int)=((a^^^b:Nat):Int):=by
 have hx:a^^^b<2^32:=Nat.xor_lt_two_pow (by simpa using ha) (by simpa using hb)
 change IntKind.i64.wrap (((BitVec.ofInt 64 (a:Int)^^^BitVec.ofInt 64 (b:Int)).toNat:Nat):Int)=_
 rw[BitVec.toNat_xor,BitVec.toNat_ofInt,BitVec.toNat_ofInt]
 have e1:((a:Int)%((2^64:Nat):Int)).toNat=a:=by omega
 have e2:((b:Int)%((2^64:Nat):Int)).toNat=b:=by omega
 rw[e1,e2,wrap64 (by omega) (by omega)]
theorem UK {a b:Nat} (ha:a<4294967296) (hb:b<4294967296):bits (fun _=>(·^^^·)) .u32 (a:Int) (b:Int)=((a^^^b:Nat):Int):=by
 have hx:a^^^b<2^32:=Nat.xor_lt_two_pow (by simpa using ha) (by simpa using hb)
 change IntKind.u32.wrap (((BitVec.ofInt 32 (a:Int)^^^BitVec.ofInt 32 (b:Int)).toNat:Nat):Int)=_
 rw[BitVec.toNat_xor,BitVec.toNat_ofInt,BitVec.toNat_ofInt]
 have e1:((a:Int)%((2^32:Nat):Int)).toNat=a:=by omega
 have e2:((b:Int)%((2^32:Nat):Int)).toNat=b:=by omega
 rw[e1,e2,Je]
 omega
theorem UF {a:Nat} (ha:a<9223372036854775808):bits (fun _=>(· &&& ·)) .i64 (a:Int) (4294967295:Int)=((a%4294967296:Nat):Int):=by
 change IntKind.i64.wrap (((BitVec.ofInt 64 (a:Int) &&& BitVec.ofInt 64 (4294967295:Int)).toNat:Nat):Int)=_
 rw[BitVec.toNat_and,BitVec.toNat_ofInt,BitVec.toNat_ofInt]
 have e1:((a:Int)%((2^64:Nat):Int)).toNat=a:=by omega
 have e2:((4294967295:Int)%((2^64:Nat):Int)).toNat=2^32-1:=by decide
 rw[e1,e2,Nat.and_two_pow_sub_one_eq_mod,wrap64 (by omega) (by omega)]
theorem UE (s:ByteArray) (i:Int):∃b:Nat,bt s i=(b:Int)∧b<256:=by
 unfold bt
 exact⟨_,rfl,(s.data.toList.getD i.toNat 0).toNat_lt⟩
theorem M7 {n:Nat} (hn:n<4294967296) (s:ByteArray) (i:Int):∃m:Nat,m<4294967296∧
 bits (fun _=>(· &&& ·)) .i64 (IntKind.i64.wrap ((bits (fun _=>(·^^^·)) .i64 (n:Int) (IntKind.i64.wrap (bt s i)))*(16777619:Int))) (4294967295:Int)=(m:Int)∧
 IntKind.u32.wrap ((bits (fun _=>(·^^^·)) .u32 (n:Int) (IntKind.u32.wrap (bt s i)))*(16777619:Int))=(m:Int):=by
 obtain⟨b,hb,hlt⟩:=UE s i
 have hx:n^^^b<2^32:=Nat.xor_lt_two_pow (by simpa using hn) (by omega)
 rw[hb,wrap64 (n:=(b:Int)) (by omega) (by omega),Je (b:Int),show((b:Int)%4294967296)=(b:Int) by omega,UJ hn (by omega),UK hn (by omega)]
 generalize n^^^b=x at hx
 rw[wrap64 (by omega) (by omega),show((x:Int)*16777619)=((x*16777619:Nat):Int) by omega,UF (by omega),Je]
 exact⟨x*16777619%4294967296,by omega,rfl,by omega⟩
section
variable {k:Nat} (hk:9223372036854775808≤k)
include hk
theorem Ux {s:ByteArray} (hs:s.size≤4294967296):∃n:Int,jh k (s,())=some (n,())∧oO k (s,())=some (n,()):=by
 have h1:∃r:Int×Unit,jh k (s,())=some r∧∃n:Nat,r.1=(n:Int)∧n<4294967296:=by
  simp only[jh]
  refine AE (fun(t:ByteArray×Int×Int×Unit)=>s.size-t.2.2.1.toNat) (fun(t:ByteArray×Int×Int×Unit)=>t.1=s∧(∃n:Nat,t.2.1=(n:Int)∧n<4294967296)∧0≤t.2.2.1∧t.2.2.1≤(s.size:Int)) _ ?_ k _ ⟨rfl,⟨2166136261,rfl,by omega⟩,by simp,by simp⟩ (by simp only;omega)
  rintro G ⟨s',n,i,u⟩ ⟨e1,⟨m,e2,hm⟩,hi0,hi1⟩ hG
  change s'=s at e1
  change n=_ at e2
  subst e1 e2
  simp only at hi0 hi1 hG⊢
  by_cases hi:i<(s'.size:Int)
  ·rw[if_pos (by simpa using hi),if_pos (by simpa using⟨hi0,hi⟩)]
   obtain⟨m',hm',q1,_⟩:=M7 hm s' i
   rw[q1,wrap64 (by omega) (by omega)]
   exact hG (s',_,i+1,()) ⟨rfl,⟨m',rfl,hm'⟩,by simp only;omega,by simp only;omega⟩ (by simp only;omega)
  ·rw[if_neg (by simpa using hi)]
   exact⟨_,rfl,m,rfl,hm⟩
 have h2:jh k (s,())=oO k (s,()):=by
  simp only[jh,oO,aP]
  refine MA (fun(t t':ByteArray×Int×Int×Unit)=>t=t'∧∃n:Nat,t.2.1=(n:Int)∧n<4294967296) (fun a b=>a=b) rfl ?_ k _ _ ⟨rfl,2166136261,rfl,by omega⟩
  rintro G G' ⟨s1,n,i,u⟩ t' ⟨rfl,m,e2,hm⟩ hG
  change n=_ at e2
  subst e2
  simp only
  obtain⟨m',hm',q1,q2⟩:=M7 hm s1 i
  split
  ·split
   ·rw[q1,q2]
    exact hG _ _ ⟨rfl,m',rfl,hm'⟩
   ·rfl
  ·rw[wrap64 (by omega) (by omega)]
 obtain⟨⟨n,u⟩,hr,_⟩:=h1
 exact⟨n,hr,h2▸hr⟩
def Py (x:ai):ByteArray:=((x.1++(⟨#[61,34]⟩:ByteArray))++x.2)++(⟨#[34]⟩:ByteArray)
def tx (l:List ai):Nat→ByteArray
 |0=>⟨#[123]⟩
 |i+1=>((((if i=0 then tx l i else tx l i++(⟨#[44,32]⟩:ByteArray))++(l.getD i af.aa).1)++(⟨#[61,34]⟩:ByteArray))++(l.getD i af.aa).2)++(⟨#[34]⟩:ByteArray)
theorem HO {l:List ai} (h:ee l=true):∀i,i≤l.length→(tx l i).size≤1+25*i:=by
 simp only[ee,Bool.and_eq_true,en]at h
 intro i
 induction i with
 |zero=>intro _;simp[tx,ByteArray.size]
 |succ i ih=>
  intro hi
  have:=ih (by omega)
  have h2:=h.2 i (by omega) (by omega)
  simp only[fp,eL,kj,Bool.and_eq_true,decide_eq_true_eq]at h2
  simp only[tx,ByteArray.size_append]
  have e1:(⟨#[61,34]⟩:ByteArray).size=2:=rfl
  have e2:(⟨#[34]⟩:ByteArray).size=1:=rfl
  have e3:(⟨#[44,32]⟩:ByteArray).size=2:=rfl
  split
  ·omega
  ·rw[ByteArray.size_append];omega
theorem EK {l:List ai} (hs:ag (.sl af) l≤1048576):lU k (l,())=some (if ee l=true then tx l l.length++(⟨#[125]⟩:ByteArray)else⟨#[]⟩,()):=by
 have hl:=aA (e:=af) (l:=l)
 simp only[lU,aP]
 rw[jO hk hs,Option.bind_some]
 cases hok:ee l with
 |false=>simp
 |true=>
  have hb:=HO hk hok
  have hok':=hok
  simp only[ee,Bool.and_eq_true,en,decide_eq_true_eq]at hok'
  rw[if_neg (by simp),if_pos rfl]
  rw[show((l,(⟨#[123]⟩:ByteArray),(0:Int),()):List ai×ByteArray×Int×Unit)=(fun i:Nat=>(l,tx l i,(i:Int),())) 0 from rfl]
  have e1:(⟨#[61,34]⟩:ByteArray).size=2:=rfl
  have e2:(⟨#[34]⟩:ByteArray).size=1:=rfl
  have e3:(⟨#[44,32]⟩:ByteArray).size=2:=rfl
  have e4:(⟨#[125]⟩:ByteArray).size=1:=rfl
  refine cB (fun i:Nat=>(l,tx l i,(i:Int),())) l.length ?_ ?_ k 0 (by omega) (by omega)
  ·intro G i hi
   have hbi:=hb i (by omega)
   have hlab:=hok'.2 i (by omega) hi
   simp only[fp,eL,kj,Bool.and_eq_true,decide_eq_true_eq]at hlab
   simp only[Int.toNat_natCast]
   rw[aw,decide_eq_true hi,if_pos rfl]
   by_cases h0:i=0
   ·subst h0
    have hz:(tx l 0).size=1:=rfl
    rw[if_neg (by simp)]
    simp only[aK hi,if_true,ByteArray.size_append,e1,e2,hz]
    rw[if_pos (by simp only[decide_eq_true_eq];omega),if_pos (by simp only[decide_eq_true_eq];omega),if_pos (by simp only[decide_eq_true_eq];omega),if_pos (by simp only[decide_eq_true_eq];omega),bc (by omega)]
    rfl
   ·have h0n:0<i:=by omega
    rw[if_pos (by simp;omega),if_pos (by simp only[e3,decide_eq_true_eq];omega)]
    simp only[aK hi,if_true,ByteArray.size_append,e1,e2,e3]
    rw[if_pos (by simp only[decide_eq_true_eq];omega),if_pos (by simp only[decide_eq_true_eq];omega),if_pos (by simp only[decide_eq_true_eq];omega),if_pos (by simp only[decide_eq_true_eq];omega),bc (by omega)]
    simp only[tx,if_neg h0]
  ·intro G
   have hbi:=hb l.length (by omega)
   simp only
   rw[aw,decide_eq_false (by omega),if_neg (by simp),if_pos (by simp only[e4,decide_eq_true_eq];omega)]
def pl (l:List ai) (i:Nat):List ByteArray:=(List.range i).map (fun j=>Py (l.getD j af.aa))
theorem Pd (l:List ai) (i:Nat):pl l (i+1)=pl l i++[Py (l.getD i af.aa)]:=by
 simp[pl,List.range_succ]
theorem Rw (xs:List (List UInt8)) (y sep:List UInt8):Lib.join (xs++[y]) sep=if xs=[]then y else Lib.join xs sep++sep++y:=by
 cases xs with
 |nil=>simp[Lib.join_one]
 |cons x r=>
  rw[if_neg (by simp),List.cons_append,Lib.join_cons,Lib.join_cons]
  simp[Lib.joinTail,List.append_assoc]
theorem O0 (l:List ai):∀i,(tx l i).data.toList=123::oj (pl l i) ⟨#[44,32]⟩:=by
 intro i
 induction i with
 |zero=>rfl
 |succ i ih=>
  unfold oj at ih⊢
  rw[Pd hk,List.map_append,List.map_singleton,Rw hk]
  simp only[tx,Py]
  by_cases h0:i=0
  ·subst h0
   simp[pl,tx,ByteArray.data_append]
  ·have hne:List.map (fun x=>x.data.toList) (pl l i)≠ []:=by
    intro e
    have:=congrArg List.length e
    simp[pl]at this
    exact h0 this
   rw[if_neg h0,if_neg hne]
   simp only[ByteArray.data_append,Array.toList_append,ih]
   simp[List.append_assoc]
theorem QM {a b:ByteArray} (h:a.data.toList=b.data.toList):a=b:=by
 cases a;cases b
 simp at h
 rw[h]
theorem EA {l:List ai} (hs:ag (.sl af) l≤1048576):lN k (l,())=some (if ee l=true then tx l l.length++(⟨#[125]⟩:ByteArray)else⟨#[]⟩,()):=by
 have hl:=aA (e:=af) (l:=l)
 simp only[lN,aP]
 rw[jC hk hs,Option.bind_some]
 cases hok:ee l with
 |false=>simp
 |true=>
  have hb:=HO hk hok l.length (by omega)
  have hok':=hok
  simp only[ee,Bool.and_eq_true,en,decide_eq_true_eq]at hok'
  rw[if_neg (by simp),if_pos rfl]
  rw[show((([]:List ByteArray),l,(l.length:Int),(0:Int),()):List ByteArray×List ai×Int×Int×Unit)=(fun i:Nat=>(pl l i,l,(l.length:Int),(i:Int),())) 0 from rfl]
  have e1:(⟨#[61,34]⟩:ByteArray).size=2:=rfl
  have e2:(⟨#[34]⟩:ByteArray).size=1:=rfl
  refine cB (fun i:Nat=>(pl l i,l,(l.length:Int),(i:Int),())) l.length ?_ ?_ k 0 (by omega) (by omega)
  ·intro G i hi
   have hlab:=hok'.2 i (by omega) hi
   simp only[fp,eL,kj,Bool.and_eq_true,decide_eq_true_eq]at hlab
   have hpl:(pl l i).length=i:=by simp[pl]
   simp only[Int.toNat_natCast]
   rw[aw,decide_eq_true hi,if_pos rfl,if_pos (aK hi)]
   simp only[ByteArray.size_append,e1,e2]
   rw[if_pos (by simp only[decide_eq_true_eq];omega),if_pos (by simp only[decide_eq_true_eq];omega),if_pos (by simp only[decide_eq_true_eq];omega),if_pos (by simp only[decide_eq_true_eq,List.length_singleton,hpl];omega),bc (by omega),Pd hk]
   rfl
  ·intro G
   simp only
   rw[aw,decide_eq_false (by omega),if_neg (by simp)]
   have hj:(oj (pl l l.length) ⟨#[44,32]⟩).length≤1+25*l.length:=by
    have:=O0 hk l l.length
    have h2:=congrArg List.length this
    simp only[Array.length_toList,List.length_cons]at h2
    have h3:(tx l l.length).data.size=(tx l l.length).size:=rfl
    omega
   have hpl:(pl l l.length).length=l.length:=by simp[pl]
   simp only[pq,xp]
   rw[if_pos ⟨by rw[hpl];omega,by omega⟩,Option.bind_some]
   simp only[ByteArray.size_append]
   have hz:(⟨(oj (pl l l.length) ⟨#[44,32]⟩).toArray⟩:ByteArray).size=(oj (pl l l.length) ⟨#[44,32]⟩).length:=by simp[ByteArray.size]
   have e3:(⟨#[123]⟩:ByteArray).size=1:=rfl
   have e4:(⟨#[125]⟩:ByteArray).size=1:=rfl
   rw[hz,e3,e4,if_pos (by simp only[decide_eq_true_eq];omega),if_pos (by simp only[decide_eq_true_eq];omega)]
   congr 2
   refine QM hk ?_
   simp only[ByteArray.data_append,Array.toList_append]
   rw[O0 hk]
   simp
theorem KJ {l:List ai} (hs:ag (.sl af) l≤1048576):∃n:Int,dP k (l,())=some (n,())∧ek k (l,())=some (n,()):=by
 simp only[dP,ek]
 rw[EK hk hs,EA hk hs]
 simp only[Option.bind_some]
 have hsz:(if ee l=true then tx l l.length++(⟨#[125]⟩:ByteArray)else⟨#[]⟩).size≤4294967296:=by
  split
  ·rename_i hok
   have hb:=HO hk hok l.length (by omega)
   have hl:l.length≤4:=by
    simp only[ee,Bool.and_eq_true,decide_eq_true_eq]at hok
    exact hok.1
   have e4:(⟨#[125]⟩:ByteArray).size=1:=rfl
   rw[ByteArray.size_append]
   omega
  ·simp[ByteArray.size]
 obtain⟨n,q1,q2⟩:=Ux hk hsz
 rw[q1,q2]
 simp only[Option.bind_some]
 rw[if_pos (by simp),if_pos (by simp)]
 exact⟨_,rfl,rfl⟩
theorem QU (f n:Int):fy k (f,n,())=eG k (f,n,()):=rfl
end
end Vg.Tryz
namespace Vg.Tryz
open Go Vg
set_option linter.unusedVariables false
set_option linter.unusedSectionVars false
set_option linter.unusedSimpArgs false
section
variable {k:Nat} (hk:9223372036854775808≤k)
include hk
theorem nK {a:al} (h:ag ab a≤1073741824):dN k (a,())=some (a,()):=by
 have h1:=ch hk a
 have h2:=aA (e:=af) (l:=a.1)
 simp only[dN]
 rw[if_pos (by simp;omega)]
 simp
theorem lE {l:List ai} (h:l.length≤1073741824):dv k (l,())=some (l,()):=by
 simp only[dv]
 rw[if_pos (by simp;omega)]
 simp
theorem nW {a:al} (h:ag ab a≤1073741824):dL k (a,())=some (a,()):=by
 have h1:=ch hk a
 have h2:=aA (e:=af) (l:=a.1)
 simp only[dL]
 rw[lE hk (by omega),Option.bind_some]
theorem jg {l:List al} (h:ag (.sl ab) l≤1073741824):dM k (l,())=some (l,()):=
 zF (d:=ab.aa) (S:=dN k) hk (Nat.le_trans (aA (e:=ab)) h) (fun e he=>nK hk (Nat.le_trans (bo (e:=ab) he) h))
theorem ed {l:List al} (h:ag (.sl ab) l≤1073741824):cx k (l,())=some (l,()):=
 EM (d:=ab.aa) (S:=dL k) hk (Nat.le_trans (aA (e:=ab)) h) (fun e he=>nW hk (Nat.le_trans (bo (e:=ab) he) h))
theorem Qo {g:aJ} (h:ag aj g≤1073741824):iF k (g,())=some (g,()):=by
 have h1:=gF hk g
 have h2:=aA (e:=af) (l:=g.2.1)
 simp only[iF]
 rw[if_pos (by simp;omega),jg hk (by omega),Option.bind_some]
 simp
theorem Mm {g:aJ} (h:ag aj g≤1073741824):gk k (g,())=some (g,()):=by
 have h1:=gF hk g
 have h2:=aA (e:=af) (l:=g.2.1)
 simp only[gk]
 rw[lE hk (by omega),Option.bind_some,ed hk (by omega),Option.bind_some]
theorem Oz {b:bz} (h1:ag (.sl af) b.2.1≤1073741824) (h3:ag (.sl ab) b.2.2.2≤1073741824):gO k (b,())=some (b,()):=by
 have h2:=aA (e:=af) (l:=b.2.1)
 simp only[gO]
 rw[if_pos (by simp;omega),jg hk (by omega),Option.bind_some]
 simp
theorem P7 {c:cg} (h:ag bC c≤1073741824):lZ k (c,())=some (c,()):=by
 have h1:=jj hk c
 have h2:=aA (e:= .str) (l:=c.2.2.2.2.2)
 simp only[lZ]
 rw[if_pos (by simp;omega)]
 simp
theorem OB {c:cg} (h:ag bC c≤1073741824):kA k (c,())=some (c,()):=by
 have h1:=jj hk c
 have h2:=aA (e:= .str) (l:=c.2.2.2.2.2)
 simp only[kA]
 rw[if_pos (by simp;omega)]
 simp
end
end Vg.Tryz
namespace Vg.Tryz
open Go Vg
set_option linter.unusedVariables false
set_option linter.unusedSectionVars false
set_option linter.unusedSimpArgs false
def ji (k:Nat) (l:List ai):Int:=match dP k (l,())with|some r=>r.1|none=>0
def dZ (f n:Int):Int:=if n<1 then 0 else if f<0 then 0 else Int.tmod f n
def mR (l:List al) (s:List ai):Option Nat:=qE l.length (fun i=>decide ((l.getD i ab.aa).1=s))
def zU (l:List al):Bool:=bf 0 l.length (fun i=>bf 0 i (fun j=> !decide ((l.getD j ab.aa).1=(l.getD i ab.aa).1)))
def fW (k:Nat) (c:aZ):Bool:=bf 0 c.2.length (fun i=>bY (c.2.getD i ab.aa)&&decide (ji k (c.2.getD i ab.aa).1=c.1))&&(decide (0<c.2.length)&&zU c.2)
def xl (l:List aZ) (i:Nat):Bool:=i==0||decide ((l.getD (i-1) ay.aa).1<(l.getD i ay.aa).1)
def jH (k:Nat) (p:aG) (i n:Int):Bool:=
 bf 0 p.2.2.length (fun j=>fW k (p.2.2.getD j ay.aa)&&(decide (dZ (p.2.2.getD j ay.aa).1 n=i)&&xl p.2.2 j))&&(bI p.1 (-1) 4&&decide (0≤p.2.1))
def iB (k:Nat) (l:List aG):Bool:=bf 0 l.length (fun i=>jH k (l.getD i ak.aa) i l.length)&&bI l.length 1 3
theorem sI {e:Ty} {l:List e.den} {i:Nat} {d:e.den} (hi:i<l.length):ag e (l.getD i d)+l.length≤ag (.sl e) l:=by
 have h:=Ny (f:=ag e) (cj (d:=d) hi)
 simp only[ag]
 omega
section
variable {k:Nat} (hk:9223372036854775808≤k)
include hk
theorem iT {l:List ai} (hs:ag (.sl af) l≤1048576):dP k (l,())=some (ji k l,()):=by
 obtain⟨n,h1,h2⟩:=KJ hk hs
 unfold ji
 rw[h1]
theorem iH {l:List ai} (hs:ag (.sl af) l≤1048576):ek k (l,())=some (ji k l,()):=by
 obtain⟨n,h1,h2⟩:=KJ hk hs
 unfold ji
 rw[h1,h2]
theorem iD {f n:Int}:eG k (f,n,())=some (dZ f n,()):=by
 simp only[eG,dZ]
 by_cases h1:n<1
 ·simp[h1]
 ·by_cases h2:f<0
  ·simp[h1,h2]
  ·have h3:n≠0:=by omega
   simp[h1,h2,h3]
theorem lz {f n:Int}:fy k (f,n,())=some (dZ f n,()):=by
 rw[QU hk,iD hk]
omit hk in
theorem Fp {f n:Int} (h:1≤n):0≤dZ f n∧dZ f n<n:=by
 unfold dZ
 rw[if_neg (by omega)]
 split
 ·omega
 ·exact⟨Int.tmod_nonneg _ (by omega),Int.tmod_lt_of_pos _ (by omega)⟩
theorem Cp {l:List al} {s:List ai} (hs:ag (.sl ab) l≤1048576):gV k (l,s,())=some (pd (mR l s),()):=by
 have hl:=aA (e:=ab) (l:=l)
 simp only[gV]
 refine(uv (fun i:Nat=>(s,l,(l.length:Int),(i:Int),())) (fun i=>decide ((l.getD i ab.aa).1=s)) l.length (e:=some (-1,())) (fun i=>some ((i:Int),())) (fun G i hi=> ?_) (fun G=> ?_) k (by omega)).trans ?_
 ·obtain⟨h1,h2⟩:=gg hk hs hi
  simp only[aw,aK hi,hi,decide_true,if_true,Int.toNat_natCast,eA hk h2,Option.bind_some]
  rw[bc (by omega)]
 ·simp
 ·unfold mR
  cases qE l.length (fun i=>decide ((l.getD i ab.aa).1=s))<;>rfl
theorem FU {c:aZ} {s:List ai} (hs:ag (.sl ab) c.2≤1048576):lv k (c,s,())=some (pd (mR c.2 s),()):=by
 have hl:=aA (e:=ab) (l:=c.2)
 simp only[lv]
 refine(uv (fun i:Nat=>(s,c,(i:Int),())) (fun i=>decide ((c.2.getD i ab.aa).1=s)) c.2.length (e:=some (-1,())) (fun i=>some ((i:Int),())) (fun G i hi=> ?_) (fun G=> ?_) k (by omega)).trans ?_
 ·obtain⟨h1,h2⟩:=gg hk hs hi
  simp only[aw,aK hi,hi,decide_true,if_true,Int.toNat_natCast,dW hk h2,Option.bind_some]
  rw[bc (by omega)]
 ·simp
 ·unfold mR
  cases qE c.2.length (fun i=>decide ((c.2.getD i ab.aa).1=s))<;>rfl
theorem Ei {c:aZ} {s:List ai} (hs:ag (.sl ab) c.2≤1048576):lV k (c,s,())=some (pd (mR c.2 s),()):=by
 simp only[lV]
 rw[Cp hk hs,Option.bind_some]
omit hk in
theorem Qs {l:List al} {i:Nat} (hi:i<l.length):(mR (l.take i) (l.getD i ab.aa).1=none)↔bf 0 i (fun j=> !decide ((l.getD j ab.aa).1=(l.getD i ab.aa).1))=true:=by
 unfold mR
 rw[KF,en]
 have hl:(l.take i).length=i:=by simp;omega
 rw[hl]
 have hg:∀j,j<i→(l.take i).getD j ab.aa=l.getD j ab.aa:=by
  intro j hj
  simp[List.getD_eq_getElem?_getD,List.getElem?_take,hj]
 constructor
 ·intro h j _ hj
  have:=h j hj
  rw[hg j hj]at this
  simp only[this,Bool.not_false]
 ·intro h j hj
  have:=h j (by omega) hj
  rw[hg j hj]
  simpa using this
theorem HT {l:List al} (hs:ag (.sl ab) l≤1048576):gJ k (l,())=some (zU l,()):=by
 have hl:=aA (e:=ab) (l:=l)
 simp only[gJ]
 refine(bN (fun i:Nat=>(l,l,(l.length:Int),(i:Int),())) (fun i=>bf 0 i (fun j=> !decide ((l.getD j ab.aa).1=(l.getD i ab.aa).1))) l.length (e:=some (true,())) (no:=some (false,())) ?_ ?_ k 0 (by omega)).trans ?_
 ·intro G i hi
  have ht:=gi (e:=ab) l i
  simp only[aw,aK hi,hi,decide_true,if_true,Int.toNat_natCast]
  rw[if_pos (by simp;omega),Cp hk (by omega),Option.bind_some,bc (by omega)]
  have key:=Qs hi
  cases hp:bf 0 i (fun j=> !decide ((l.getD j ab.aa).1=(l.getD i ab.aa).1))with
  |true=>
   rw[key.2 hp]
   rfl
  |false=>
   cases hq:mR (l.take i) (l.getD i ab.aa).1 with
   |none=>rw[key.1 hq]at hp;cases hp
   |some j=>rw[if_pos (by simp[pd]),if_neg (by simp)]
 ·intro G i hi
  simp only[aw]
  rw[if_neg (by simp;omega)]
 ·unfold zU
  split<;>simp_all
theorem tD {c:aZ} (hs:ag ay c≤1048576):lJ k (c,())=some (fW k c,()):=by
 rw[ew hk]at hs
 have hl:=aA (e:=ab) (l:=c.2)
 simp only[lJ,aP]
 refine(bN (fun i:Nat=>(c,c.2,(c.2.length:Int),(i:Int),())) (fun i=>bY (c.2.getD i ab.aa)&&decide (ji k (c.2.getD i ab.aa).1=c.1)) c.2.length
  (e:=some (decide (0<c.2.length)&&zU c.2,())) (no:=some (false,())) ?_ ?_ k 0 (by omega)).trans ?_
 ·intro G i hi
  obtain⟨h1,h2⟩:=gg hk hs hi
  have h3:=ch hk (c.2.getD i ab.aa)
  simp only[aw,aK hi,hi,decide_true,if_true,Int.toNat_natCast,gw hk h1,iH hk (l:=(c.2.getD i ab.aa).1) (by omega),Option.bind_some,bL]
  rw[bc (by omega)]
  generalize bY (c.2.getD i ab.aa)=b1
  generalize ji k (c.2.getD i ab.aa).1=f
  cases b1<;>by_cases hf:f=c.1<;>simp[hf]
 ·intro G i hi
  simp only[aw]
  rw[if_neg (by simp;omega),HT hk hs]
  by_cases h0:0<c.2.length<;>simp[h0]
 ·unfold fW
  cases bf 0 c.2.length (fun i=>bY (c.2.getD i ab.aa)&&decide (ji k (c.2.getD i ab.aa).1=c.1))<;>simp
theorem uG {c:aZ} (hs:ag ay c≤1048576):lF k (c,())=some (fW k c,()):=by
 rw[ew hk]at hs
 have hl:=aA (e:=ab) (l:=c.2)
 simp only[lF,aP]
 refine(bN (fun i:Nat=>(c,(i:Int),())) (fun i=>(bY (c.2.getD i ab.aa)&&decide (ji k (c.2.getD i ab.aa).1=c.1))&&bf 0 i (fun j=> !decide ((c.2.getD j ab.aa).1=(c.2.getD i ab.aa).1))) c.2.length
  (e:=some (decide (0<c.2.length),())) (no:=some (false,())) ?_ ?_ k 0 (by omega)).trans ?_
 ·intro G i hi
  obtain⟨h1,h2⟩:=gg hk hs hi
  have h3:=ch hk (c.2.getD i ab.aa)
  simp only[aw,aK hi,hi,decide_true,if_true,Int.toNat_natCast,fq hk h1,iT hk (l:=(c.2.getD i ab.aa).1) (by omega),Option.bind_some,bL,Bool.or_true]
  have hin:az k (fun G7 (t8:aZ×Int×Int×Unit)=>
   if(decide ((t8.2.2.1:Int)<t8.2.1))=true then
    if(decide (0≤t8.2.2.1∧t8.2.2.1<((List.length t8.1.2:Nat):Int)))=true then
     if(decide (0≤t8.2.1∧t8.2.1<((List.length t8.1.2:Nat):Int)))=true then
      Option.bind (cL k ((List.getD t8.1.2 (Int.toNat t8.2.2.1) ab.aa).1,(List.getD t8.1.2 (Int.toNat t8.2.1) ab.aa).1,())) fun(r9:Bool×Unit)=>
      if r9.1=true then
       some (false,())
      else
       G7 (t8.1,t8.2.1,IntKind.i64.wrap (t8.2.2.1+(1:Int)),())
     else
      none
    else
     none
   else
    G (t8.1,IntKind.i64.wrap (t8.2.1+(1:Int)),())) (c,(i:Int),(0:Int),())=
   if bf 0 i (fun j=> !decide ((c.2.getD j ab.aa).1=(c.2.getD i ab.aa).1))=true then G (c,((i+1:Nat):Int),())else some (false,()):=by
   refine bN (fun j:Nat=>(c,(i:Int),(j:Int),())) (fun j=> !decide ((c.2.getD j ab.aa).1=(c.2.getD i ab.aa).1)) i ?_ ?_ k 0 (by omega)
   ·intro G2 j hj
    obtain⟨h4,h5⟩:=gg hk hs (i:=j) (by omega)
    simp only[aw,aK hi,aK (show j<c.2.length by omega),hi,hj,decide_true,if_true,Int.toNat_natCast,dW hk h5,Option.bind_some]
    rw[bc (by omega)]
    by_cases hq:(c.2.getD j ab.aa).1=(c.2.getD i ab.aa).1<;>simp only[hq,decide_true,decide_false,Bool.not_true,Bool.not_false,if_true,Bool.false_eq_true,if_false]
   ·intro G2 j hj
    simp only[aw]
    rw[if_neg (by simp;omega),bc (by omega)]
  rw[hin]
  generalize bY (c.2.getD i ab.aa)=b1
  generalize ji k (c.2.getD i ab.aa).1=f
  generalize bf 0 i (fun j=> !decide ((c.2.getD j ab.aa).1=(c.2.getD i ab.aa).1))=b3
  cases b1<;>cases b3<;>by_cases hf:f=c.1<;>simp[hf]
 ·intro G i hi
  simp only[aw]
  rw[if_neg (by simp;omega)]
  congr 2
  simp
 ·rw[D6]
  unfold fW zU
  cases bf 0 c.2.length (fun i=>bY (c.2.getD i ab.aa)&&decide (ji k (c.2.getD i ab.aa).1=c.1))<;>
   cases bf 0 c.2.length (fun i=>bf 0 i (fun j=> !decide ((c.2.getD j ab.aa).1=(c.2.getD i ab.aa).1)))<;>simp
end
end Vg.Tryz
namespace Vg.Tryz
open Go Vg
set_option linter.unusedVariables false
set_option linter.unusedSectionVars false
set_option linter.unusedSimpArgs false
theorem FV {j:Nat} (h:j<4611686018427387904):IntKind.i64.wrap (((j+1:Nat):Int)-1)=(j:Int):=by
 rw[wrap64 (by omega) (by omega)];omega
theorem NT (j:Nat):decide ((((j+1:Nat):Int))>0)=true:=by simp
theorem Q7:decide ((((0:Nat):Int))>0)=false:=by simp
def lA (a b:bl):Bool:=decide (a.1<b.1)||(decide (a.1=b.1)&&decide (a.2<b.2))
def sA (l:List bl):Bool:=
 bf 0 l.length (fun i=>(decide (0≤(l.getD i aC.aa).1)&&decide (0≤(l.getD i aC.aa).2))&&(i==0|| !lA (l.getD i aC.aa) (l.getD ((i-1)/2) aC.aa)))&&decide (l.length≤16)
abbrev Aq (c:aZ):List al:=c.2
def bM (p:aG):List al:=p.2.2.flatMap Aq
def cX (l:List aG):List al:=l.flatMap bM
def oA (l:List aG):Nat:=(cX l).length
def nQ (p:aG) (f:Int):Option Nat:=qE p.2.2.length (fun i=>decide ((p.2.2.getD i ay.aa).1=f))
def iA:al:=([],0,0,ByteArray.empty)
def qv (k:Nat) (p:aG) (s:List ai):al×Bool:=
 match nQ p (ji k s)with
 |none=>(iA,false)
 |some i=>match mR (p.2.2.getD i ay.aa).2 s with
  |none=>(iA,false)
  |some j=>((p.2.2.getD i ay.aa).2.getD j ab.aa,true)
def mF (k:Nat) (l:List aG) (s:List ai):Int:=dZ (ji k s) l.length
def gP (k:Nat) (l:List aG) (s:List ai):al×Bool:=if l.length=0 then(iA,false)else qv k (l.getD (mF k l s).toNat ak.aa) s
def Gw (c:cg) (g:aJ):Int:=IntKind.i64.wrap (if g.2.2.2.1= -1 then g.2.2.1+c.2.2.2.1 else g.2.2.2.1+c.2.2.2.2.1)
theorem fl {α β:Type} {f:α→List β} {l:List α} {i:Nat} (d:α) (h:i<l.length):(l.take (i+1)).flatMap f=(l.take i).flatMap f++f (l.getD i d):=by
 rw[fP d h,List.flatMap_append];simp
section
variable {k:Nat} (hk:9223372036854775808≤k)
include hk
theorem pL {e f:Ty} {g:e.den→List f.den} (h:∀x,ag (.sl f) (g x)≤ag e x):∀l:List e.den,ag (.sl f) (l.flatMap g)≤ag (.sl e) l
 | []=>by simp[ag]
 |x::l=>by
  have h1:=h x
  have h2:=pL h l
  rw[List.flatMap_cons,Ig,fB]
  omega
theorem lq (p:aG):ag (.sl ab) (bM p)≤ag ak p:=by
 rw[dF hk]
 exact pL hk (e:=ay) (f:=ab) (g:=Aq) (fun c=>by rw[ew hk];exact Nat.le_refl _) p.2.2
theorem fm (l:List aG):ag (.sl ab) (cX l)≤ag (.sl ak) l:=pL hk (e:=ak) (f:=ab) (g:=bM) (lq hk) l
theorem kI {p:aG} {i:Nat} (hs:ag ak p≤1048576) (hi:i<p.2.2.length):ag ay (p.2.2.getD i ay.aa)≤1048576∧ag (.sl ab) (p.2.2.getD i ay.aa).2≤1048576:=by
 rw[dF hk]at hs
 have h1:=sI (e:=ay) (d:=ay.aa) hi
 have h2:=ew hk (p.2.2.getD i ay.aa)
 omega
theorem Ju {p:aG} {i n:Int} (hs:ag ak p≤1048576):mZ k (p,i,n,())=some (jH k p i n,()):=by
 have hl:p.2.2.length≤1048576:=by rw[dF hk]at hs;have:=aA (e:=ay) (l:=p.2.2);omega
 simp only[mZ,aP]
 refine(bN (fun j:Nat=>(i,n,p,p.2.2,(p.2.2.length:Int),(j:Int),())) (fun j=>fW k (p.2.2.getD j ay.aa)&&(decide (dZ (p.2.2.getD j ay.aa).1 n=i)&&xl p.2.2 j)) p.2.2.length
  (e:=some (bI p.1 (-1) 4&&decide (0≤p.2.1),())) (no:=some (false,())) ?_ ?_ k 0 (by omega)).trans ?_
 ·intro G j hj
  obtain⟨h1,_⟩:=kI hk hs hj
  cases j with
  |zero=>
   simp only[aw,aK hj,hj,Q7,decide_true,if_true,Int.toNat_natCast,tD hk h1,lz hk,Option.bind_some,bL,beq_self_eq_true,Bool.false_eq_true,if_false,xl,Bool.true_or,Bool.and_true]
   rw[bc (by omega)]
   generalize fW k (p.2.2.getD 0 ay.aa)=b1
   generalize dZ (p.2.2.getD 0 ay.aa).1 n=f
   cases b1<;>by_cases hf:f=i<;>simp[hf]
  |succ m=>
   have hm:m<p.2.2.length:=by omega
   simp only[aw,aK hj,aK hm,hj,NT,FV (show m<4611686018427387904 by omega),decide_true,if_true,Int.toNat_natCast,tD hk h1,lz hk,Option.bind_some,bL,beq_self_eq_true,xl,Bool.or_true,Nat.add_sub_cancel]
   rw[bc (by omega)]
   generalize fW k (p.2.2.getD (m+1) ay.aa)=b1
   generalize dZ (p.2.2.getD (m+1) ay.aa).1 n=f
   generalize (p.2.2.getD m ay.aa).1=u
   generalize (p.2.2.getD (m+1) ay.aa).1=v
   have hb:((m+1:Nat)==0)=false:=rfl
   rw[hb]
   cases b1<;>by_cases hf:f=i<;>by_cases huv:u<v<;>simp[hf,huv]<;>omega
 ·intro G j hj
  simp only[aw]
  rw[if_neg (by simp;omega),ez hk,Option.bind_some]
  generalize bI p.1 (-1) 4=b
  cases b<;>simp
 ·unfold jH
  cases bf 0 p.2.2.length (fun j=>fW k (p.2.2.getD j ay.aa)&&(decide (dZ (p.2.2.getD j ay.aa).1 n=i)&&xl p.2.2 j))<;>simp
theorem JR {p:aG} {i n:Int} (hs:ag ak p≤1048576):nb k (p,i,n,())=some (jH k p i n,()):=by
 have hl:p.2.2.length≤1048576:=by rw[dF hk]at hs;have:=aA (e:=ay) (l:=p.2.2);omega
 simp only[nb,aP]
 refine(bN (fun j:Nat=>(i,n,p,(j:Int),())) (fun j=>fW k (p.2.2.getD j ay.aa)&&(decide (dZ (p.2.2.getD j ay.aa).1 n=i)&&xl p.2.2 j)) p.2.2.length
  (e:=some (bI p.1 (-1) 4&&decide (0≤p.2.1),())) (no:=some (false,())) ?_ ?_ k 0 (by omega)).trans ?_
 ·intro G j hj
  obtain⟨h1,_⟩:=kI hk hs hj
  cases j with
  |zero=>
   simp only[aw,aK hj,hj,Q7,decide_true,if_true,Int.toNat_natCast,uG hk h1,iD hk,Option.bind_some,bL,beq_self_eq_true,Bool.false_eq_true,if_false,xl,Bool.true_or,Bool.and_true,Bool.or_true,Bool.and_false,Bool.not_false]
   rw[bc (by omega)]
   generalize fW k (p.2.2.getD 0 ay.aa)=b1
   generalize dZ (p.2.2.getD 0 ay.aa).1 n=f
   cases b1<;>by_cases hf:f=i<;>simp[hf]
  |succ m=>
   have hm:m<p.2.2.length:=by omega
   simp only[aw,aK hj,aK hm,hj,NT,FV (show m<4611686018427387904 by omega),decide_true,if_true,Int.toNat_natCast,uG hk h1,iD hk,Option.bind_some,bL,beq_self_eq_true,xl,Bool.or_true,Nat.add_sub_cancel]
   rw[bc (by omega)]
   generalize fW k (p.2.2.getD (m+1) ay.aa)=b1
   generalize dZ (p.2.2.getD (m+1) ay.aa).1 n=f
   generalize (p.2.2.getD m ay.aa).1=u
   generalize (p.2.2.getD (m+1) ay.aa).1=v
   have hb:((m+1:Nat)==0)=false:=rfl
   rw[hb]
   cases b1<;>by_cases hf:f=i<;>by_cases huv:u<v<;>simp[hf,huv]<;>omega
 ·intro G j hj
  simp only[aw]
  rw[if_neg (by simp;omega),fc hk,Option.bind_some]
  generalize bI p.1 (-1) 4=b
  cases b<;>simp
 ·unfold jH
  cases bf 0 p.2.2.length (fun j=>fW k (p.2.2.getD j ay.aa)&&(decide (dZ (p.2.2.getD j ay.aa).1 n=i)&&xl p.2.2 j))<;>simp
theorem kc {l:List aG} {i:Nat} (hs:ag (.sl ak) l≤1048576) (hi:i<l.length):ag ak (l.getD i ak.aa)≤1048576:=by
 have h1:=sI (e:=ak) (d:=ak.aa) hi
 omega
theorem F9 {l:List aG} (hs:ag (.sl ak) l≤1048576):lu k (l,())=some (iB k l,()):=by
 have hl:=aA (e:=ak) (l:=l)
 simp only[lu]
 rw[ez hk,Option.bind_some]
 unfold iB
 cases hin:bI l.length 1 3 with
 |false=>simp
 |true=>
  rw[if_neg (by simp)]
  refine(bN (fun i:Nat=>(l,l,(l.length:Int),(i:Int),())) (fun i=>jH k (l.getD i ak.aa) i l.length) l.length (e:=some (true,())) (no:=some (false,())) ?_ ?_ k 0 (by omega)).trans ?_
  ·intro G i hi
   simp only[aw,aK hi,hi,decide_true,if_true,Int.toNat_natCast,Ju hk (kc hk hs hi),Option.bind_some]
   rw[bc (by omega)]
   cases jH k (l.getD i ak.aa) i l.length<;>simp
  ·intro G i hi
   simp only[aw]
   rw[if_neg (by simp;omega)]
  ·cases bf 0 l.length (fun i=>jH k (l.getD i ak.aa) i l.length)<;>simp
theorem Hf {l:List aG} (hs:ag (.sl ak) l≤1048576):lT k (l,())=some (iB k l,()):=by
 have hl:=aA (e:=ak) (l:=l)
 simp only[lT,aP]
 unfold iB
 refine(bN (fun i:Nat=>(l,(i:Int),())) (fun i=>jH k (l.getD i ak.aa) i l.length) l.length (e:=some (bI l.length 1 3,())) (no:=some (false,())) ?_ ?_ k 0 (by omega)).trans ?_
 ·intro G i hi
  simp only[aw,aK hi,hi,decide_true,if_true,Int.toNat_natCast,JR hk (kc hk hs hi),Option.bind_some]
  rw[bc (by omega)]
  cases jH k (l.getD i ak.aa) i l.length<;>simp
 ·intro G i hi
  simp only[aw]
  rw[if_neg (by simp;omega),fc hk,Option.bind_some]
 ·cases bf 0 l.length (fun i=>jH k (l.getD i ak.aa) i l.length)<;>simp
theorem rV {p:aG} (hs:ag ak p≤1048576):gH k (p,())=some (bM p,()):=by
 have hl:p.2.2.length≤1048576:=by rw[dF hk]at hs;have:=aA (e:=ay) (l:=p.2.2);omega
 simp only[gH]
 refine cB (fun i:Nat=>(p,(p.2.2.take i).flatMap Aq,(i:Int),())) p.2.2.length (fun G i hi=> ?_) (fun G=> ?_) k 0 (by omega) (by omega)
 ·obtain⟨h1,h2⟩:=kI hk hs hi
  have hb:=pL hk (e:=ay) (f:=ab) (g:=Aq) (fun c=>by rw[ew hk];exact Nat.le_refl _) (p.2.2.take i)
  have hb2:=gi (e:=ay) p.2.2 i
  have hb3:=aA (e:=ab) (l:=(p.2.2.take i).flatMap Aq)
  have hb4:=aA (e:=ab) (l:=(p.2.2.getD i ay.aa).2)
  rw[dF hk]at hs
  simp only[aw,aK hi,hi,decide_true,if_true,Int.toNat_natCast]
  rw[jg hk (by omega),Option.bind_some,if_pos (by simp only[decide_eq_true_eq];omega),bc (by omega),fl ay.aa hi]
 ·simp[bM]
theorem su {p:aG} (hs:ag ak p≤1048576):gM k (p,())=some (bM p,()):=by
 have hl:p.2.2.length≤1048576:=by rw[dF hk]at hs;have:=aA (e:=ay) (l:=p.2.2);omega
 simp only[gM]
 refine cB (fun i:Nat=>(p,(p.2.2.take i).flatMap Aq,p.2.2,(p.2.2.length:Int),(i:Int),())) p.2.2.length (fun G i hi=> ?_) (fun G=> ?_) k 0 (by omega) (by omega)
 ·obtain⟨h1,h2⟩:=kI hk hs hi
  have hb:=pL hk (e:=ay) (f:=ab) (g:=Aq) (fun c=>by rw[ew hk];exact Nat.le_refl _) (p.2.2.take i)
  have hb2:=gi (e:=ay) p.2.2 i
  have hb3:=aA (e:=ab) (l:=(p.2.2.take i).flatMap Aq)
  have hb4:=aA (e:=ab) (l:=(p.2.2.getD i ay.aa).2)
  rw[dF hk]at hs
  simp only[aw,aK hi,hi,decide_true,if_true,Int.toNat_natCast]
  rw[ed hk (by omega),Option.bind_some,if_pos (by simp only[decide_eq_true_eq];omega),bc (by omega),fl ay.aa hi]
 ·simp[bM]
end
end Vg.Tryz
namespace Vg.Tryz
open Go Vg
set_option linter.unusedVariables false
set_option linter.unusedSectionVars false
set_option linter.unusedSimpArgs false
theorem Kg {α:Type} (lt:α→α→Bool) (x:α):∀r:List α,df lt x r=r.takeWhile (lt x)++x::r.dropWhile (lt x)
 | []=>rfl
 |y::r=>by
  simp only[df,List.takeWhile_cons,List.dropWhile_cons]
  split
  ·rw[Kg lt x r];rfl
  ·rfl
theorem Ar {α:Type} (p:α→Bool) (d:α):∀(r:List α) (m:Nat),m<(r.takeWhile p).length→p (r.getD m d)=true
 | [],m,h=>by simp at h
 |y::r,m,h=>by
  rw[List.takeWhile_cons]at h
  split at h
  ·cases m with
   |zero=>simpa
   |succ m=>rw[List.getD_cons_succ];exact Ar p d r m (by simpa using h)
  ·simp at h
theorem yc {α:Type} (p:α→Bool) (d:α):∀(r:List α),(r.takeWhile p).length<r.length→p (r.getD (r.takeWhile p).length d)=false
 | [],h=>by simp at h
 |y::r,h=>by
  rw[List.takeWhile_cons]at h⊢
  split
  ·rename_i hp
   rw[if_pos hp]at h
   simp only[List.length_cons,List.getD_cons_succ]
   exact yc p d r (by simpa using h)
  ·simpa using ‹¬p y=true›
theorem MK {α:Type} (d:α) (l:List α) (m:Nat) (h:m<l.length):l.reverse.getD m d=l.getD (l.length-1-m) d:=by
 rw[List.getD_eq_getElem?_getD,List.getElem?_reverse h,←List.getD_eq_getElem?_getD]
def eK {α:Type} (lt:α→α→Bool) (x:α) (out:List α):Nat:=(out.reverse.takeWhile (lt x)).length
theorem Sk {α:Type} (lt:α→α→Bool) (x:α) (r:List α):(df lt x r).reverse=r.reverse.take (r.reverse.length-eK lt x r.reverse)++[x]++r.reverse.drop (r.reverse.length-eK lt x r.reverse):=by
 have hc:(r.takeWhile (lt x)).length≤r.length:=(List.takeWhile_sublist _).length_le
 have hc2:eK lt x r.reverse=(r.takeWhile (lt x)).length:=by unfold eK;rw[List.reverse_reverse]
 have hl:r.reverse.length=r.length:=List.length_reverse ..
 rw[Kg,hc2,hl,List.take_reverse,List.drop_reverse]
 have e1:r.length-(r.length-(r.takeWhile (lt x)).length)=(r.takeWhile (lt x)).length:=by omega
 rw[e1]
 have e2:r.drop (r.takeWhile (lt x)).length=r.dropWhile (lt x):=by
  conv=>lhs;arg 2;rw[←List.takeWhile_append_dropWhile (p:=lt x) (l:=r)]
  rw[List.drop_left]
 have e3:r.take (r.takeWhile (lt x)).length=r.takeWhile (lt x):=by
  conv=>lhs;arg 2;rw[←List.takeWhile_append_dropWhile (p:=lt x) (l:=r)]
  rw[List.take_left]
 rw[e2,e3]
 simp
def pN {α:Type} (lt:α→α→Bool) (l:List α):List α:=l.foldl (fun r x=>df lt x r) []
theorem Fw {α:Type} (lt:α→α→Bool) (x:α):∀r:List α,(df lt x r).length=r.length+1
 | []=>rfl
 |y::r=>by simp only[df];split<;>simp[Fw lt x r]
theorem Qj {α:Type} (lt:α→α→Bool) {l:List α} {i:Nat} (d:α) (h:i<l.length):pN lt (l.take (i+1))=df lt (l.getD i d) (pN lt (l.take i)):=by
 unfold pN
 rw[fP d h,List.foldl_append];rfl
theorem Ks {α:Type} (lt:α→α→Bool) (l:List α):(pN lt l).length=l.length:=by
 have:∀(l r:List α),(l.foldl (fun r x=>df lt x r) r).length=l.length+r.length:=by
  intro l
  induction l with
  |nil=>intro r;simp
  |cons x l ih=>intro r;rw[List.foldl_cons,ih,Fw,List.length_cons];omega
 simpa[pN]using this l []
theorem F3 {e:Ty} (lt:e.den→e.den→Bool) (x:e.den):∀r:List e.den,ag (.sl e) (df lt x r)=1+ag e x+ag (.sl e) r
 | []=>by simp only[df];rw[fB]
 |y::r=>by
  simp only[df]
  split
  ·rw[fB,fB,F3 lt x r];omega
  ·rw[fB,fB]
theorem Q0 {e:Ty} (lt:e.den→e.den→Bool) (l:List e.den):ag (.sl e) (pN lt l)=ag (.sl e) l:=by
 have:∀(l r:List e.den),ag (.sl e) (l.foldl (fun r x=>df lt x r) r)=ag (.sl e) l+ag (.sl e) r:=by
  intro l
  induction l with
  |nil=>intro r;simp[ag]
  |cons x l ih=>intro r;rw[List.foldl_cons,ih,F3,fB];omega
 have h:=this l []
 rw[O5]at h
 exact h
theorem TA {e:Ty} (l:List e.den):ag (.sl e) l.reverse=ag (.sl e) l:=by
 simp only[ag,List.length_reverse,List.map_reverse,List.sum_reverse]
theorem PE {e:Ty} (lt:e.den→e.den→Bool) (l:List e.den):ag (.sl e) (eM lt l)=ag (.sl e) l:=by
 show ag (.sl e) (pN lt l).reverse=_
 rw[TA,Q0]
theorem Rf (l:List al):ag (.sl ab) (dr l)=ag (.sl ab) l:=PE (e:=ab) cQ l
section
variable {k:Nat} (hk:9223372036854775808≤k)
include hk
theorem RB {l:List al} (hs:ag (.sl ab) l≤1048576):jI k (l,())=some (dr l,()):=by
 have hl:=aA (e:=ab) (l:=l)
 simp only[jI]
 refine cB (fun i:Nat=>(l,(pN cQ (l.take i)).reverse,(i:Int),())) l.length (fun G i hi=> ?_) (fun G=> ?_) k 0 (by omega) (by omega)
 ·obtain⟨h1,h2⟩:=gg hk hs hi
  simp only[aw,aK hi,hi,decide_true,if_true,Int.toNat_natCast]
  rw[nK hk (by omega),Option.bind_some,Qj cQ ab.aa hi,Sk]
  generalize hx:l.getD i ab.aa=x at*
  have hol:(pN cQ (l.take i)).reverse.length=i:=by rw[List.length_reverse,Ks];simp;omega
  generalize hout:(pN cQ (l.take i)).reverse=out at*
  have hcl:eK cQ x out≤out.length:=by
   unfold eK
   have:=(List.takeWhile_sublist (cQ x) (l:=out.reverse)).length_le
   simpa using this
  simp only[aP]
  refine cB (fun m:Nat=>(l,out,(i:Int),x,((out.length-m:Nat):Int),())) (eK cQ x out) (fun G2 m hm=> ?_) (fun G2=> ?_) k 0 (by omega) (by omega)
  ·have hlt:cQ x (out.getD (out.length-1-m) ab.aa)=true:=by
    have:=Ar (cQ x) ab.aa out.reverse m hm
    rwa [MK _ _ _ (by omega)]at this
   obtain⟨q,hq⟩:∃q,out.length-m=q+1:=⟨out.length-m-1,by omega⟩
   have hq2:out.length-(m+1)=q:=by omega
   have hq3:out.length-1-m=q:=by omega
   rw[hq3]at hlt
   simp only[hq,NT,FV (show q<4611686018427387904 by omega),aK (show q<out.length by omega),Bool.or_true,if_true,beq_self_eq_true,Int.toNat_natCast,ou hk h2,oS hk h2,Option.bind_some,hq2]
   rw[if_pos hlt]
  ·have hend:(if decide (((out.length-eK cQ x out:Nat):Int)>0)=true then cQ x (out.getD (out.length-eK cQ x out-1) ab.aa)else false)=false:=by
    by_cases h0:eK cQ x out=out.length
    ·rw[h0,Nat.sub_self];rfl
    ·rw[if_pos (by simp;omega)]
     have:=yc (cQ x) ab.aa out.reverse (by rw[List.length_reverse];unfold eK at h0 hcl;omega)
     rw[MK _ _ _ (by unfold eK at h0 hcl;omega)]at this
     unfold eK
     rw[show out.length-(List.takeWhile (cQ x) out.reverse).length-1=out.length-1-(List.takeWhile (cQ x) out.reverse).length by omega]
     exact this
   have fin:(if(decide (0≤(((out.length-eK cQ x out:Nat):Int))∧(((out.length-eK cQ x out:Nat):Int))≤((List.length out:Nat):Int)))=true then
    if(decide (List.length ([]:List al)+List.length (List.take (Int.toNat ((out.length-eK cQ x out:Nat):Int)) out)<4294967296))=true then
     if(decide (List.length (([]:List al)++(List.take (Int.toNat ((out.length-eK cQ x out:Nat):Int)) out))+List.length ([x]:List al)<4294967296))=true then
      if(decide (0≤(((out.length-eK cQ x out:Nat):Int))∧(((out.length-eK cQ x out:Nat):Int))≤((List.length out:Nat):Int)))=true then
       if(decide (List.length ((([]:List al)++(List.take (Int.toNat ((out.length-eK cQ x out:Nat):Int)) out))++([x]:List al))+List.length (List.drop (Int.toNat ((out.length-eK cQ x out:Nat):Int)) out)<4294967296))=true then
        G (l,((([]:List al)++(List.take (Int.toNat ((out.length-eK cQ x out:Nat):Int)) out))++([x]:List al))++(List.drop (Int.toNat ((out.length-eK cQ x out:Nat):Int)) out),IntKind.i64.wrap ((i:Int)+(1:Int)),())
       else none
      else none
     else none
    else none
    else none)=G (l,out.take (out.length-eK cQ x out)++[x]++out.drop (out.length-eK cQ x out),((i+1:Nat):Int),()):=by
    rw[if_pos (by simp only[decide_eq_true_eq];omega),if_pos (by simp only[decide_eq_true_eq,List.length_nil,List.length_take];omega),if_pos (by simp only[decide_eq_true_eq,List.length_append,List.length_nil,List.length_take,List.length_singleton];omega),if_pos (by simp only[decide_eq_true_eq];omega),if_pos (by simp only[decide_eq_true_eq,List.length_append,List.length_nil,List.length_take,List.length_singleton,List.length_drop];omega),bc (by omega),Int.toNat_natCast,List.nil_append]
   by_cases hz:out.length-eK cQ x out=0
   ·rw[hz]at fin⊢
    simp only[Q7,Bool.false_eq_true,if_false,beq_self_eq_true,Bool.false_eq_true,Bool.not_false,Bool.true_or,if_true,Option.bind_some]
    have hg:(!((false:Bool)==true)||decide (0≤IntKind.i64.wrap (((0:Nat):Int)-1)∧IntKind.i64.wrap (((0:Nat):Int)-1)<((out.length:Nat):Int)))=true:=rfl
    rw[if_pos hg]
    exact fin
   ·obtain⟨q,hq⟩:∃q,out.length-eK cQ x out=q+1:=⟨out.length-eK cQ x out-1,by omega⟩
    rw[hq]at hend fin⊢
    rw[NT,if_pos rfl,Nat.add_sub_cancel]at hend
    simp only[NT,FV (show q<4611686018427387904 by omega),aK (show q<out.length by omega),Bool.or_true,if_true,beq_self_eq_true,Int.toNat_natCast,oS hk h2,Option.bind_some]
    have hend2:bU x.1 (out.getD q ab.aa).1=false:=hend
    rw[if_neg (by rw[hend2];simp)]
    exact fin
 ·simp only[aw,Nat.lt_irrefl,decide_false,Bool.false_eq_true,if_false,List.take_length]
  rfl
end
end Vg.Tryz
namespace Vg.Tryz
open Go Vg
set_option linter.unusedVariables false
set_option linter.unusedSectionVars false
set_option linter.unusedSimpArgs false
theorem rO {β:Type} {c:Bool} {a b:β} (h:c=false):(if c=true then a else b)=b:=by rw[h];rfl
theorem UM {a b:Nat} (h:a+b<4611686018427387904):IntKind.i64.wrap ((a:Int)+(b:Int))=((a+b:Nat):Int):=by
 rw[wrap64 (by omega) (by omega)];omega
theorem rG (u:Int):decide (0≤u)= !decide (u<0):=by by_cases h:u<0<;>simp[h]<;>omega
theorem Kl {q:Nat} (h:q<4611686018427387904):IntKind.i64.wrap (Int.tdiv (IntKind.i64.wrap (((q+1:Nat):Int)-1)) 2)=((q/2:Nat):Int):=by
 rw[FV h,Int.tdiv_eq_ediv_of_nonneg (by omega),wrap64 (by omega) (by omega)]
 omega
section
variable {k:Nat} (hk:9223372036854775808≤k)
include hk
theorem A4 {l:List aG} (hs:ag (.sl ak) l≤1048576):jm k (l,())=some (dr (cX l),()):=by
 have hl:=aA (e:=ak) (l:=l)
 simp only[jm,aP]
 refine cB (fun i:Nat=>(l,(l.take i).flatMap bM,(i:Int),())) l.length (fun G i hi=> ?_) (fun G=> ?_) k 0 (by omega) (by omega)
 ·have h1:=kc hk hs hi
  have hb:=fm hk (l.take i)
  unfold cX at hb
  have hb1:=lq hk (l.getD i ak.aa)
  have hb2:=gi (e:=ak) l i
  have hb3:=aA (e:=ab) (l:=(l.take i).flatMap bM)
  have hb4:=aA (e:=ab) (l:=bM (l.getD i ak.aa))
  simp only[aw,aK hi,hi,decide_true,if_true,Int.toNat_natCast]
  rw[rV hk h1,Option.bind_some,if_pos (by simp only[decide_eq_true_eq];omega),bc (by omega),fl ak.aa hi]
 ·have hb:=fm hk l
  simp only[aw,Nat.lt_irrefl,decide_false,Bool.false_eq_true,if_false,List.take_length]
  show Option.bind (jI k (cX l,())) _=_
  rw[RB hk (by omega)]
  rfl
theorem Bt {l:List aG} (hs:ag (.sl ak) l≤1048576) (hn:oA l<20):jy k (l,())=some (dr (cX l),()):=by
 have hl:=aA (e:=ak) (l:=l)
 simp only[jy,aP]
 refine cB (fun i:Nat=>((l.take i).flatMap bM,l,(l.length:Int),(i:Int),())) l.length (fun G i hi=> ?_) (fun G=> ?_) k 0 (by omega) (by omega)
 ·have h1:=kc hk hs hi
  have hb:=fm hk (l.take i)
  unfold cX at hb
  have hb1:=lq hk (l.getD i ak.aa)
  have hb2:=gi (e:=ak) l i
  have hb3:=aA (e:=ab) (l:=(l.take i).flatMap bM)
  have hb4:=aA (e:=ab) (l:=bM (l.getD i ak.aa))
  simp only[aw,aK hi,hi,decide_true,if_true,Int.toNat_natCast]
  rw[su hk h1,Option.bind_some,if_pos (by simp only[decide_eq_true_eq];omega),bc (by omega),fl ak.aa hi]
 ·simp only[aw,Nat.lt_irrefl,decide_false,Bool.false_eq_true,if_false,List.take_length]
  show Option.bind (ko k (cX l,())) _=_
  simp only[ko,s9]
  rw[if_pos ?_]
  ·rfl
  ·simp only[Bool.and_eq_true,decide_eq_true_eq,List.all_eq_true]
   refine⟨hn,fun a ha=> ?_⟩
   have hb:=fm hk l
   have hm:=bo (e:=ab) ha
   have h1:=ch hk a
   have h2:=aA (e:=af) (l:=a.1)
   omega
theorem KH {l:List aG} (hs:ag (.sl ak) l≤1048576):oA l≤1048576:=by
 have h1:=fm hk l
 have h2:=aA (e:=ab) (l:=cX l)
 unfold oA
 omega
theorem FB {l:List aG} (hs:ag (.sl ak) l≤1048576):lG k (l,())=some ((oA l:Int),()):=by
 have hl:=aA (e:=ak) (l:=l)
 simp only[lG]
 refine cB (fun i:Nat=>(((((l.take i).flatMap bM).length:Nat):Int),l,(l.length:Int),(i:Int),())) l.length (fun G i hi=> ?_) (fun G=> ?_) k 0 (by omega) (by omega)
 ·have h1:=kc hk hs hi
  have hb:=fm hk (l.take i)
  unfold cX at hb
  have hb2:=gi (e:=ak) l i
  have hb3:=aA (e:=ab) (l:=(l.take i).flatMap bM)
  rw[fl ak.aa hi,List.length_append]
  simp only[aw,aK hi,hi,decide_true,if_true,Int.toNat_natCast]
  have hp:=h1
  rw[dF hk]at hp
  have hpl:=aA (e:=ay) (l:=(l.getD i ak.aa).2.2)
  refine cB (fun j:Nat=>(((((l.take i).flatMap bM).length+(((l.getD i ak.aa).2.2.take j).flatMap Aq).length:Nat):Int),l.getD i ak.aa,l,(l.length:Int),(i:Int),(l.getD i ak.aa).2.2,((l.getD i ak.aa).2.2.length:Int),(j:Int),())) (l.getD i ak.aa).2.2.length (fun G2 j hj=> ?_) (fun G2=> ?_) k 0 (by omega) (by omega)
  ·have hc:=pL hk (e:=ay) (f:=ab) (g:=Aq) (fun c=>by rw[ew hk];exact Nat.le_refl _) ((l.getD i ak.aa).2.2.take j)
   have hc1:=gi (e:=ay) (l.getD i ak.aa).2.2 j
   have hc2:=aA (e:=ab) (l:=((l.getD i ak.aa).2.2.take j).flatMap Aq)
   obtain⟨h3,h4⟩:=kI hk h1 hj
   have hc3:=aA (e:=ab) (l:=((l.getD i ak.aa).2.2.getD j ay.aa).2)
   simp only[aK hj,aw,hj,decide_true,if_true,Int.toNat_natCast]
   rw[UM (by omega),bc (by omega),fl ay.aa hj,List.length_append,Nat.add_assoc]
  ·simp only[aw,Nat.lt_irrefl,decide_false,Bool.false_eq_true,if_false,List.take_length]
   rw[bc (by omega)]
   rfl
 ·simp only[aw,Nat.lt_irrefl,decide_false,Bool.false_eq_true,if_false,List.take_length]
  rfl
theorem ER {p:aG} {f:Int} (hl:p.2.2.length≤1048576):pR k (p,f,())=some (pd (nQ p f),()):=by
 simp only[pR]
 refine(uv (fun i:Nat=>(f,p,(i:Int),())) (fun i=>decide ((p.2.2.getD i ay.aa).1=f)) p.2.2.length (e:=some (-1,())) (fun i=>some ((i:Int),())) (fun G i hi=> ?_) (fun G=> ?_) k (by omega)).trans ?_
 ·simp only[aw,aK hi,hi,decide_true,if_true,Int.toNat_natCast,bZ]
  rw[bc (by omega)]
 ·simp
 ·unfold nQ
  cases qE p.2.2.length (fun i=>decide ((p.2.2.getD i ay.aa).1=f))<;>rfl
theorem Gp {p:aG} {f:Int} (hl:p.2.2.length≤1048576):lI k (p,f,())=some (pd (nQ p f),()):=by
 simp only[lI]
 refine(uv (fun i:Nat=>(f,p,p.2.2,(p.2.2.length:Int),(i:Int),())) (fun i=>decide ((p.2.2.getD i ay.aa).1=f)) p.2.2.length (e:=some (-1,())) (fun i=>some ((i:Int),())) (fun G i hi=> ?_) (fun G=> ?_) k (by omega)).trans ?_
 ·simp only[aw,aK hi,hi,decide_true,if_true,Int.toNat_natCast,bZ]
  rw[bc (by omega)]
 ·simp
 ·unfold nQ
  cases qE p.2.2.length (fun i=>decide ((p.2.2.getD i ay.aa).1=f))<;>rfl
omit hk in
theorem uo (i:Nat):decide (pd (some i)<0)=false:=decide_eq_false (by simp only[pd];omega)
omit hk in
theorem rL {i n:Nat} (h:i<n):decide (0≤pd (some i)∧pd (some i)<(n:Int))=true:=by simp only[pd];exact aK h
omit hk in
theorem xn (i:Nat):(pd (some i)).toNat=i:=by simp[pd]
theorem Jc {p:aG} {s:List ai} (hs:ag ak p≤1048576) (hl:ag (.sl af) s≤1048576):mO k (p,s,())=some ((qv k p s).1,(qv k p s).2,()):=by
 have hpl:p.2.2.length≤1048576:=by rw[dF hk]at hs;have:=aA (e:=ay) (l:=p.2.2);omega
 simp only[mO,iT hk hl,ER hk hpl,Option.bind_some,qv]
 cases hc:nQ p (ji k s)with
 |none=>rfl
 |some i=>
  obtain⟨hi,_,_⟩:=kF.1 hc
  obtain⟨h1,h2⟩:=kI hk hs hi
  refine(rO (uo i)).trans ?_
  refine(if_pos (rL hi)).trans ?_
  rw[xn,FU hk h2,Option.bind_some]
  dsimp only
  cases hq:mR (p.2.2.getD i ay.aa).2 s with
  |none=>rfl
  |some j=>
   obtain⟨hj,_,_⟩:=kF.1 hq
   have h3:=sI (e:=ab) (d:=ab.aa) hj
   refine(rO (uo j)).trans ?_
   refine(if_pos (rL hi)).trans ?_
   refine(if_pos (rL hj)).trans ?_
   rw[xn,nK hk (by omega)]
   rfl
theorem JE {p:aG} {s:List ai} (hs:ag ak p≤1048576) (hl:ag (.sl af) s≤1048576):mN k (p,s,())=some ((qv k p s).1,(qv k p s).2,()):=by
 have hpl:p.2.2.length≤1048576:=by rw[dF hk]at hs;have:=aA (e:=ay) (l:=p.2.2);omega
 simp only[mN,iH hk hl,Gp hk hpl,Option.bind_some,qv]
 cases hc:nQ p (ji k s)with
 |none=>rfl
 |some i=>
  obtain⟨hi,_,_⟩:=kF.1 hc
  obtain⟨h1,h2⟩:=kI hk hs hi
  refine(rO (uo i)).trans ?_
  refine(if_pos (rL hi)).trans ?_
  rw[xn,Ei hk h2,Option.bind_some]
  dsimp only
  cases hq:mR (p.2.2.getD i ay.aa).2 s with
  |none=>rfl
  |some j=>
   obtain⟨hj,_,_⟩:=kF.1 hq
   have h3:=sI (e:=ab) (d:=ab.aa) hj
   refine(rO (uo j)).trans ?_
   refine(if_pos (rL hi)).trans ?_
   refine(if_pos (rL hj)).trans ?_
   rw[xn,nW hk (by omega)]
   rfl
theorem IW {l:List aG} {s:List ai} (hl:ag (.sl af) s≤1048576):ng k (l,s,())=some (mF k l s,()):=by
 simp only[ng,iT hk hl,iD hk,Option.bind_some,mF]
theorem I6 {l:List aG} {s:List ai} (hl:ag (.sl af) s≤1048576):mS k (l,s,())=some (mF k l s,()):=by
 simp only[mS,iH hk hl,lz hk,Option.bind_some,mF]
omit hk in
theorem zK {l:List aG} {s:List ai} (h:l.length≠0):0≤mF k l s∧mF k l s<(l.length:Int)∧(mF k l s).toNat<l.length:=by
 have:=Fp (f:=ji k s) (n:=(l.length:Int)) (by omega)
 unfold mF
 omega
theorem BA {l:List aG} {s:List ai} (hs:ag (.sl ak) l≤1048576) (hl:ag (.sl af) s≤1048576):jt k (l,s,())=some ((gP k l s).1,(gP k l s).2,()):=by
 simp only[jt,IW hk hl,Option.bind_some,gP]
 by_cases h0:l.length=0
 ·rw[if_pos (by simpa using h0),if_pos h0];rfl
 ·obtain⟨a,b,c⟩:=zK (k:=k) (l:=l) (s:=s) h0
  rw[if_neg (by simpa using h0),if_pos (by simpa using⟨a,b⟩),Jc hk (kc hk hs c) hl,Option.bind_some,if_neg h0]
theorem Bk {l:List aG} {s:List ai} (hs:ag (.sl ak) l≤1048576) (hl:ag (.sl af) s≤1048576):jn k (l,s,())=some ((gP k l s).1,(gP k l s).2,()):=by
 simp only[jn,I6 hk hl,Option.bind_some,gP]
 by_cases h0:l.length=0
 ·rw[if_pos (by simpa using h0),if_pos h0];rfl
 ·obtain⟨a,b,c⟩:=zK (k:=k) (l:=l) (s:=s) h0
  rw[if_neg (by simpa using h0),if_pos (by simpa using⟨a,b⟩),JE hk (kc hk hs c) hl,Option.bind_some,if_neg h0]
theorem Kc (a b:bl):mG k (a,b,())=some (lA a b,()):=by
 simp only[mG,lA,bZ]
 by_cases h1:a.1<b.1<;>by_cases h2:a.1=b.1<;>simp[h1,h2]
theorem vr (a b:bl):na k (a,b,())=some (lA a b,()):=by
 simp only[na,lA,bZ]
 by_cases h1:a.1<b.1<;>by_cases h2:a.1=b.1<;>simp[h1,h2]
theorem Jp {l:List bl} (hl:l.length≤1048576):mX k (l,())=some (sA l,()):=by
 simp only[mX,aP]
 refine(bN (fun i:Nat=>(l,l,(l.length:Int),(i:Int),())) (fun i=>(decide (0≤(l.getD i aC.aa).1)&&decide (0≤(l.getD i aC.aa).2))&&(i==0|| !lA (l.getD i aC.aa) (l.getD ((i-1)/2) aC.aa))) l.length
  (e:=some (decide (l.length≤16),())) (no:=some (false,())) ?_ ?_ k 0 (by omega)).trans ?_
 ·intro G i hi
  cases i with
  |zero=>
   simp only[aw,aK hi,hi,Q7,decide_true,if_true,Int.toNat_natCast,Kc hk,Option.bind_some,bL]
   rw[bc (by omega)]
   simp only[rG]
   rcases Bool.eq_false_or_eq_true (decide ((l.getD 0 aC.aa).1<0))with h1|h1<;>rcases Bool.eq_false_or_eq_true (decide ((l.getD 0 aC.aa).2<0))with h2|h2<;>
    simp only[h1,h2,if_true,Bool.false_eq_true,if_false,beq_self_eq_true,Bool.and_false,Bool.and_true,Bool.true_and,Bool.false_and,Bool.not_false,Bool.not_true,Bool.true_or,Bool.or_true,Ta,S8,Bool.or_self,Bool.and_self]
  |succ q=>
   have hq:q/2<l.length:=by omega
   simp only[aw,aK hi,aK hq,hi,NT,Kl (show q<4611686018427387904 by omega),decide_true,if_true,Int.toNat_natCast,Kc hk,Option.bind_some,bL,Bool.or_true,ne_eq,Nat.add_sub_cancel]
   rw[bc (by omega)]
   have hb:((q+1:Nat)==0)=false:=rfl
   rw[hb]
   have e2:decide (¬(2:Int)=0)=true:=rfl
   rw[e2]
   simp only[rG]
   rcases Bool.eq_false_or_eq_true (decide ((l.getD (q+1) aC.aa).1<0))with h1|h1<;>rcases Bool.eq_false_or_eq_true (decide ((l.getD (q+1) aC.aa).2<0))with h2|h2<;>
    rcases Bool.eq_false_or_eq_true (lA (l.getD (q+1) aC.aa) (l.getD (q/2) aC.aa))with h3|h3<;>
    simp only[h1,h2,h3,if_true,Bool.false_eq_true,if_false,beq_self_eq_true,Bool.and_false,Bool.and_true,Bool.true_and,Bool.false_and,Bool.not_false,Bool.not_true,Bool.true_or,Bool.or_true,Bool.or_false,Bool.false_or,Ta,S8,Bool.or_self,Bool.and_self]
 ·intro G i hi
  simp only[aw]
  rw[if_neg (by simp;omega)]
  congr 2
  rw[Bool.eq_iff_iff];simp;omega
 ·unfold sA
  generalize bf 0 l.length _=b
  cases b<;>simp
theorem I3 {l:List bl} (hl:l.length≤1048576):mJ k (l,())=some (sA l,()):=by
 simp only[mJ,aP]
 refine(bN (fun i:Nat=>(l,(i:Int),())) (fun i=>(decide (0≤(l.getD i aC.aa).1)&&decide (0≤(l.getD i aC.aa).2))&&(i==0|| !lA (l.getD i aC.aa) (l.getD ((i-1)/2) aC.aa))) l.length
  (e:=some (decide (l.length≤16),())) (no:=some (false,())) ?_ ?_ k 0 (by omega)).trans ?_
 ·intro G i hi
  cases i with
  |zero=>
   simp only[aw,aK hi,hi,Q7,decide_true,if_true,Int.toNat_natCast,vr hk,Option.bind_some,bL,Bool.or_true]
   rw[bc (by omega)]
   simp only[rG]
   rcases Bool.eq_false_or_eq_true (decide ((l.getD 0 aC.aa).1<0))with h1|h1<;>rcases Bool.eq_false_or_eq_true (decide ((l.getD 0 aC.aa).2<0))with h2|h2<;>
    simp only[h1,h2,if_true,Bool.false_eq_true,if_false,beq_self_eq_true,Bool.and_false,Bool.and_true,Bool.true_and,Bool.false_and,Bool.not_false,Bool.not_true,Bool.true_or,Bool.or_true,Ta,S8,Bool.or_self,Bool.and_self]
  |succ q=>
   have hq:q/2<l.length:=by omega
   simp only[aw,aK hi,aK hq,hi,NT,Kl (show q<4611686018427387904 by omega),decide_true,if_true,Int.toNat_natCast,vr hk,Option.bind_some,bL,Bool.or_true,ne_eq,Nat.add_sub_cancel]
   rw[bc (by omega)]
   have hb:((q+1:Nat)==0)=false:=rfl
   rw[hb]
   have e2:decide (¬(2:Int)=0)=true:=rfl
   rw[e2]
   simp only[rG]
   rcases Bool.eq_false_or_eq_true (decide ((l.getD (q+1) aC.aa).1<0))with h1|h1<;>rcases Bool.eq_false_or_eq_true (decide ((l.getD (q+1) aC.aa).2<0))with h2|h2<;>
    rcases Bool.eq_false_or_eq_true (lA (l.getD (q+1) aC.aa) (l.getD (q/2) aC.aa))with h3|h3<;>
    simp only[h1,h2,h3,if_true,Bool.false_eq_true,if_false,beq_self_eq_true,Bool.and_false,Bool.and_true,Bool.true_and,Bool.false_and,Bool.not_false,Bool.not_true,Bool.true_or,Bool.or_true,Bool.or_false,Bool.false_or,Ta,S8,Bool.or_self,Bool.and_self]
 ·intro G i hi
  simp only[aw]
  rw[if_neg (by simp;omega)]
  congr 2
  rw[Bool.eq_iff_iff];simp;omega
 ·unfold sA
  generalize bf 0 l.length _=b
  cases b<;>simp
theorem On {c:cg} {g:aJ}:rA k (c,g,())=some (Gw c g,()):=by
 simp only[rA,pG,Gw,bZ]
 by_cases h:g.2.2.2.1= -1<;>simp[h]
theorem NY {c:cg} {g:aJ}:rC k (c,g,())=some (Gw c g,()):=by
 simp only[rC,pr,Gw,bZ]
 by_cases h:g.2.2.2.1= -1<;>simp[h]
end
end Vg.Tryz
