/- Texts of this law, joined. -/
import Derived.Test.YteoefigcipiffaaGreatVd
import Derived.Test.YteoefigcipiffaaGreatF
import Derived.Test.YteoefigcipiffaaGreatVc
namespace Vg.Tryz
open Go Vg
set_option linter.unusedVariables false
set_option linter.unusedSectionVars false
set_option linter.unusedSimpArgs false
section
variable {k:Nat} (hk:9223372036854775808≤k)
include hk
theorem NG {x:List ByteArray} {left:Int} (hx:Fits (.sl .str) x) (h0:0≤left) (h1:left≤1048576):nr k (x,left,())=some (bI (ag (.sl .str) x) left,()):=
 T5 hk hx h0 h1
theorem jh (x:cg):ag bC x=ag (.sl .str) x.2.2.2.2.2:=by
 obtain⟨x0,x1,x2,x3,x4,x5⟩:=x
 simp only[ag]
 try omega
theorem Q4 {x:cg} {left:Int} (hx:Fits bC x) (h0:0≤left) (h1:left≤1048576):nb k (x,left,())=some (bI (ag bC x) left,()):=by
 rw[jh hk]
 simp only[nb]
 rw[NG hk hx.2.2.2.2.2 h0 h1,Option.bind_some]
 by_cases h2:bI (ag (.sl .str) x.2.2.2.2.2) left<0
 ·rw[if_pos (by simpa using h2)];exact congrArg (fun z=>some (z,())) (cn h2 (by omega)).symm
 rw[if_neg (by simpa using h2)]
theorem nN (x:ai):ag af x=x.1.size+x.2.size:=by
 obtain⟨x0,x1⟩:=x
 simp only[ag]
 try omega
theorem QB {x:ai} {left:Int} (hx:Fits af x) (h0:0≤left) (h1:left≤1048576):iM k (x,left,())=some (bI (ag af x) left,()):=by
 rw[nN hk]
 simp only[iM]
 try simp only
 rw[AO hx.1 h0 h1]
 by_cases h2:bI (x.1.size) left<0
 ·rw[if_pos (by simpa using h2)];exact congrArg (fun z=>some (z,())) (cn h2 (by omega)).symm
 rw[if_neg (by simpa using h2)]
 rw[xr hx.1 h0 h1 h2]
 try simp only
 rw[AO hx.2 (cH h2).1 (by have:=dV (t:=x.1.size) h0;omega)]
 rw[cY h2]
 by_cases h3:bI (x.1.size+x.2.size) left<0
 ·rw[if_pos (by simpa using h3)];exact congrArg (fun z=>some (z,())) (cn h3 (by omega)).symm
 rw[if_neg (by simpa using h3)]
 rw[xr hx.2 (cH h2).1 (by have:=dV (t:=x.1.size) h0;omega) (by rw[cY h2];exact h3),cY h2]
theorem mn {x:List ai} {left:Int} (hx:Fits (.sl af) x) (h0:0≤left) (h1:left≤1048576):eB k (x,left,())=some (bI (ag (.sl af) x) left,()):=
 oB (d:=af.aa) (S:=iM k) hk hx.1 h0 h1 (fun e he l a b=>QB hk (hx.2 e he) a b)
theorem cj (x:al):ag ab x=ag (.sl af) x.1+x.2.2.2.size:=by
 obtain⟨x0,x1,x2,x3⟩:=x
 simp only[ag]
 try omega
theorem xg {x:al} {left:Int} (hx:Fits ab x) (h0:0≤left) (h1:left≤1048576):eQ k (x,left,())=some (bI (ag ab x) left,()):=by
 rw[cj hk]
 simp only[eQ]
 rw[mn hk hx.1 h0 h1,Option.bind_some]
 by_cases h2:bI (ag (.sl af) x.1) left<0
 ·rw[if_pos (by simpa using h2)];exact congrArg (fun z=>some (z,())) (cn h2 (by omega)).symm
 rw[if_neg (by simpa using h2)]
 try simp only
 rw[AO hx.2.2.2 (cH h2).1 (by have:=dV (t:=ag (.sl af) x.1) h0;omega)]
 rw[cY h2]
 by_cases h3:bI (ag (.sl af) x.1+x.2.2.2.size) left<0
 ·rw[if_pos (by simpa using h3)];exact congrArg (fun z=>some (z,())) (cn h3 (by omega)).symm
 rw[if_neg (by simpa using h3)]
 rw[xr hx.2.2.2 (cH h2).1 (by have:=dV (t:=ag (.sl af) x.1) h0;omega) (by rw[cY h2];exact h3),cY h2]
theorem fJ {x:List al} {left:Int} (hx:Fits (.sl ab) x) (h0:0≤left) (h1:left≤1048576):dc k (x,left,())=some (bI (ag (.sl ab) x) left,()):=
 oB (d:=ab.aa) (S:=eQ k) hk hx.1 h0 h1 (fun e he l a b=>xg hk (hx.2 e he) a b)
theorem en (x:bc):ag ay x=ag (.sl ab) x.2:=by
 obtain⟨x0,x1⟩:=x
 simp only[ag]
 try omega
theorem PZ {x:bc} {left:Int} (hx:Fits ay x) (h0:0≤left) (h1:left≤1048576):il k (x,left,())=some (bI (ag ay x) left,()):=by
 rw[en hk]
 simp only[il]
 rw[fJ hk hx.2 h0 h1,Option.bind_some]
 by_cases h2:bI (ag (.sl ab) x.2) left<0
 ·rw[if_pos (by simpa using h2)];exact congrArg (fun z=>some (z,())) (cn h2 (by omega)).symm
 rw[if_neg (by simpa using h2)]
theorem Oh {x:List bc} {left:Int} (hx:Fits (.sl ay) x) (h0:0≤left) (h1:left≤1048576):oL k (x,left,())=some (bI (ag (.sl ay) x) left,()):=
 oB (d:=ay.aa) (S:=il k) hk hx.1 h0 h1 (fun e he l a b=>PZ hk (hx.2 e he) a b)
theorem dJ (x:aG):ag ak x=ag (.sl ay) x.2.2:=by
 obtain⟨x0,x1,x2⟩:=x
 simp only[ag]
 try omega
theorem QN {x:aG} {left:Int} (hx:Fits ak x) (h0:0≤left) (h1:left≤1048576):jL k (x,left,())=some (bI (ag ak x) left,()):=by
 rw[dJ hk]
 simp only[jL]
 rw[Oh hk hx.2.2 h0 h1,Option.bind_some]
 by_cases h2:bI (ag (.sl ay) x.2.2) left<0
 ·rw[if_pos (by simpa using h2)];exact congrArg (fun z=>some (z,())) (cn h2 (by omega)).symm
 rw[if_neg (by simpa using h2)]
theorem P6 {x:List aG} {left:Int} (hx:Fits (.sl ak) x) (h0:0≤left) (h1:left≤1048576):pF k (x,left,())=some (bI (ag (.sl ak) x) left,()):=
 oB (d:=ak.aa) (S:=jL k) hk hx.1 h0 h1 (fun e he l a b=>QN hk (hx.2 e he) a b)
theorem nJ (x:bF):ag aU x=ag (.sl ab) x.1:=by
 obtain⟨x0,x1⟩:=x
 simp only[ag]
 try omega
theorem Sp {x:bF} {left:Int} (hx:Fits aU x) (h0:0≤left) (h1:left≤1048576):kU k (x,left,())=some (bI (ag aU x) left,()):=by
 rw[nJ hk]
 simp only[kU]
 rw[fJ hk hx.1 h0 h1,Option.bind_some]
 by_cases h2:bI (ag (.sl ab) x.1) left<0
 ·rw[if_pos (by simpa using h2)];exact congrArg (fun z=>some (z,())) (cn h2 (by omega)).symm
 rw[if_neg (by simpa using h2)]
theorem R2 {x:List bF} {left:Int} (hx:Fits (.sl aU) x) (h0:0≤left) (h1:left≤1048576):qF k (x,left,())=some (bI (ag (.sl aU) x) left,()):=
 oB (d:=aU.aa) (S:=kU k) hk hx.1 h0 h1 (fun e he l a b=>Sp hk (hx.2 e he) a b)
theorem gU (x:aJ):ag aj x=ag (.sl af) x.2.1+ag (.sl ab) x.2.2.2.2:=by
 obtain⟨x0,x1,x2,x3,x4⟩:=x
 simp only[ag]
 try omega
theorem PQ {x:aJ} {left:Int} (hx:Fits aj x) (h0:0≤left) (h1:left≤1048576):iO k (x,left,())=some (bI (ag aj x) left,()):=by
 rw[gU hk]
 simp only[iO]
 rw[mn hk hx.2.1 h0 h1,Option.bind_some]
 by_cases h2:bI (ag (.sl af) x.2.1) left<0
 ·rw[if_pos (by simpa using h2)];exact congrArg (fun z=>some (z,())) (cn h2 (by omega)).symm
 rw[if_neg (by simpa using h2)]
 rw[fJ hk hx.2.2.2.2 (cH h2).1 (by have:=dV (t:=ag (.sl af) x.2.1) h0;omega),Option.bind_some]
 rw[cY h2]
 by_cases h3:bI (ag (.sl af) x.2.1+ag (.sl ab) x.2.2.2.2) left<0
 ·rw[if_pos (by simpa using h3)];exact congrArg (fun z=>some (z,())) (cn h3 (by omega)).symm
 rw[if_neg (by simpa using h3)]
theorem OA {x:List aJ} {left:Int} (hx:Fits (.sl aj) x) (h0:0≤left) (h1:left≤1048576):oU k (x,left,())=some (bI (ag (.sl aj) x) left,()):=
 oB (d:=aj.aa) (S:=iO k) hk hx.1 h0 h1 (fun e he l a b=>PQ hk (hx.2 e he) a b)
theorem Ob {x:List bl} {left:Int} (hx:Fits (.sl aC) x) (h0:0≤left) (h1:left≤1048576):kz k (x,left,())=some (bI (ag (.sl aC) x) left,()):=
 QP (e:=aC) (F:=kz) (k:=k) (fun _=>rfl) (by rfl) hx h0 h1
theorem nH (x:bz):ag aN x=ag (.sl af) x.2.1+ag (.sl ab) x.2.2.2:=by
 obtain⟨x0,x1,x2,x3⟩:=x
 simp only[ag]
 try omega
theorem Qm {x:bz} {left:Int} (hx:Fits aN x) (h0:0≤left) (h1:left≤1048576):iK k (x,left,())=some (bI (ag aN x) left,()):=by
 rw[nH hk]
 simp only[iK]
 rw[mn hk hx.2.1 h0 h1,Option.bind_some]
 by_cases h2:bI (ag (.sl af) x.2.1) left<0
 ·rw[if_pos (by simpa using h2)];exact congrArg (fun z=>some (z,())) (cn h2 (by omega)).symm
 rw[if_neg (by simpa using h2)]
 rw[fJ hk hx.2.2.2 (cH h2).1 (by have:=dV (t:=ag (.sl af) x.2.1) h0;omega),Option.bind_some]
 rw[cY h2]
 by_cases h3:bI (ag (.sl af) x.2.1+ag (.sl ab) x.2.2.2) left<0
 ·rw[if_pos (by simpa using h3)];exact congrArg (fun z=>some (z,())) (cn h3 (by omega)).symm
 rw[if_neg (by simpa using h3)]
theorem OT {x:List bz} {left:Int} (hx:Fits (.sl aN) x) (h0:0≤left) (h1:left≤1048576):od k (x,left,())=some (bI (ag (.sl aN) x) left,()):=
 oB (d:=aN.aa) (S:=iK k) hk hx.1 h0 h1 (fun e he l a b=>Qm hk (hx.2 e he) a b)
theorem QV {x:List Int} {left:Int} (hx:Fits (.sl (.int .i64)) x) (h0:0≤left) (h1:left≤1048576):ng k (x,left,())=some (bI (ag (.sl (.int .i64)) x) left,()):=
 QP (e:=(.int .i64)) (F:=ng) (k:=k) (fun _=>rfl) (by rfl) hx h0 h1
theorem dD (x:aL):ag ah x=ag ab x.2.2.1+ag (.sl af) x.2.2.2.1+ag (.sl (.int .i64)) x.2.2.2.2.2.1+ag (.sl ab) x.2.2.2.2.2.2.1:=by
 obtain⟨x0,x1,x2,x3,x4,x5,x6,x7,x8⟩:=x
 simp only[ag]
 try omega
theorem Rl {x:aL} {left:Int} (hx:Fits ah x) (h0:0≤left) (h1:left≤1048576):jO k (x,left,())=some (bI (ag ah x) left,()):=by
 rw[dD hk]
 simp only[jO]
 rw[xg hk hx.2.2.1 h0 h1,Option.bind_some]
 by_cases h2:bI (ag ab x.2.2.1) left<0
 ·rw[if_pos (by simpa using h2)];exact congrArg (fun z=>some (z,())) (cn h2 (by omega)).symm
 rw[if_neg (by simpa using h2)]
 rw[mn hk hx.2.2.2.1 (cH h2).1 (by have:=dV (t:=ag ab x.2.2.1) h0;omega),Option.bind_some]
 rw[cY h2]
 by_cases h3:bI (ag ab x.2.2.1+ag (.sl af) x.2.2.2.1) left<0
 ·rw[if_pos (by simpa using h3)];exact congrArg (fun z=>some (z,())) (cn h3 (by omega)).symm
 rw[if_neg (by simpa using h3)]
 rw[QV hk hx.2.2.2.2.2.1 (cH h3).1 (by have:=dV (t:=ag ab x.2.2.1+ag (.sl af) x.2.2.2.1) h0;omega),Option.bind_some]
 rw[cY h3]
 by_cases h4:bI (ag ab x.2.2.1+ag (.sl af) x.2.2.2.1+ag (.sl (.int .i64)) x.2.2.2.2.2.1) left<0
 ·rw[if_pos (by simpa using h4)];exact congrArg (fun z=>some (z,())) (cn h4 (by omega)).symm
 rw[if_neg (by simpa using h4)]
 rw[fJ hk hx.2.2.2.2.2.2.1 (cH h4).1 (by have:=dV (t:=ag ab x.2.2.1+ag (.sl af) x.2.2.2.1+ag (.sl (.int .i64)) x.2.2.2.2.2.1) h0;omega),Option.bind_some]
 rw[cY h4]
 by_cases h5:bI (ag ab x.2.2.1+ag (.sl af) x.2.2.2.1+ag (.sl (.int .i64)) x.2.2.2.2.2.1+ag (.sl ab) x.2.2.2.2.2.2.1) left<0
 ·rw[if_pos (by simpa using h5)];exact congrArg (fun z=>some (z,())) (cn h5 (by omega)).symm
 rw[if_neg (by simpa using h5)]
theorem PY {x:List aL} {left:Int} (hx:Fits (.sl ah) x) (h0:0≤left) (h1:left≤1048576):pg k (x,left,())=some (bI (ag (.sl ah) x) left,()):=
 oB (d:=ah.aa) (S:=jO k) hk hx.1 h0 h1 (fun e he l a b=>Rl hk (hx.2 e he) a b)
theorem kK (x:bg):ag aq x=ag ab x.2.2.1+ag (.sl af) x.2.2.2.1+ag (.sl ab) x.2.2.2.2.2.2.2.1:=by
 obtain⟨x0,x1,x2,x3,x4,x5,x6,x7,x8,x9,x10,x11⟩:=x
 simp only[ag]
 try omega
theorem Re {x:bg} {left:Int} (hx:Fits aq x) (h0:0≤left) (h1:left≤1048576):jK k (x,left,())=some (bI (ag aq x) left,()):=by
 rw[kK hk]
 simp only[jK]
 rw[xg hk hx.2.2.1 h0 h1,Option.bind_some]
 by_cases h2:bI (ag ab x.2.2.1) left<0
 ·rw[if_pos (by simpa using h2)];exact congrArg (fun z=>some (z,())) (cn h2 (by omega)).symm
 rw[if_neg (by simpa using h2)]
 rw[mn hk hx.2.2.2.1 (cH h2).1 (by have:=dV (t:=ag ab x.2.2.1) h0;omega),Option.bind_some]
 rw[cY h2]
 by_cases h3:bI (ag ab x.2.2.1+ag (.sl af) x.2.2.2.1) left<0
 ·rw[if_pos (by simpa using h3)];exact congrArg (fun z=>some (z,())) (cn h3 (by omega)).symm
 rw[if_neg (by simpa using h3)]
 rw[fJ hk hx.2.2.2.2.2.2.2.1 (cH h3).1 (by have:=dV (t:=ag ab x.2.2.1+ag (.sl af) x.2.2.2.1) h0;omega),Option.bind_some]
 rw[cY h3]
 by_cases h4:bI (ag ab x.2.2.1+ag (.sl af) x.2.2.2.1+ag (.sl ab) x.2.2.2.2.2.2.2.1) left<0
 ·rw[if_pos (by simpa using h4)];exact congrArg (fun z=>some (z,())) (cn h4 (by omega)).symm
 rw[if_neg (by simpa using h4)]
theorem PF {x:List bg} {left:Int} (hx:Fits (.sl aq) x) (h0:0≤left) (h1:left≤1048576):pr k (x,left,())=some (bI (ag (.sl aq) x) left,()):=
 oB (d:=aq.aa) (S:=jK k) hk hx.1 h0 h1 (fun e he l a b=>Re hk (hx.2 e he) a b)
theorem gP (x:ar):ag aE x=ag bC x.1+ag (.sl ak) x.2.2.2.1+ag (.sl aU) x.2.2.2.2.1+ag (.sl ab) x.2.2.2.2.2.1+ag (.sl aj) x.2.2.2.2.2.2.2.1+ag (.sl aC) x.2.2.2.2.2.2.2.2.2.1+ag (.sl aN) x.2.2.2.2.2.2.2.2.2.2.1+ag (.sl ab) x.2.2.2.2.2.2.2.2.2.2.2.1+ag (.sl ah) x.2.2.2.2.2.2.2.2.2.2.2.2.1+ag (.sl aq) x.2.2.2.2.2.2.2.2.2.2.2.2.2:=by
 obtain⟨x0,x1,x2,x3,x4,x5,x6,x7,x8,x9,x10,x11,x12,x13⟩:=x
 simp only[ag]
 try omega
theorem QF {x:ar} {left:Int} (hx:Fits aE x) (h0:0≤left) (h1:left≤1048576):lE k (x,left,())=some (bI (ag aE x) left,()):=by
 rw[gP hk]
 simp only[lE]
 rw[Q4 hk hx.1 h0 h1,Option.bind_some]
 by_cases h2:bI (ag bC x.1) left<0
 ·rw[if_pos (by simpa using h2)];exact congrArg (fun z=>some (z,())) (cn h2 (by omega)).symm
 rw[if_neg (by simpa using h2)]
 rw[P6 hk hx.2.2.2.1 (cH h2).1 (by have:=dV (t:=ag bC x.1) h0;omega),Option.bind_some]
 rw[cY h2]
 by_cases h3:bI (ag bC x.1+ag (.sl ak) x.2.2.2.1) left<0
 ·rw[if_pos (by simpa using h3)];exact congrArg (fun z=>some (z,())) (cn h3 (by omega)).symm
 rw[if_neg (by simpa using h3)]
 rw[R2 hk hx.2.2.2.2.1 (cH h3).1 (by have:=dV (t:=ag bC x.1+ag (.sl ak) x.2.2.2.1) h0;omega),Option.bind_some]
 rw[cY h3]
 by_cases h4:bI (ag bC x.1+ag (.sl ak) x.2.2.2.1+ag (.sl aU) x.2.2.2.2.1) left<0
 ·rw[if_pos (by simpa using h4)];exact congrArg (fun z=>some (z,())) (cn h4 (by omega)).symm
 rw[if_neg (by simpa using h4)]
 rw[fJ hk hx.2.2.2.2.2.1 (cH h4).1 (by have:=dV (t:=ag bC x.1+ag (.sl ak) x.2.2.2.1+ag (.sl aU) x.2.2.2.2.1) h0;omega),Option.bind_some]
 rw[cY h4]
 by_cases h5:bI (ag bC x.1+ag (.sl ak) x.2.2.2.1+ag (.sl aU) x.2.2.2.2.1+ag (.sl ab) x.2.2.2.2.2.1) left<0
 ·rw[if_pos (by simpa using h5)];exact congrArg (fun z=>some (z,())) (cn h5 (by omega)).symm
 rw[if_neg (by simpa using h5)]
 rw[OA hk hx.2.2.2.2.2.2.2.1 (cH h5).1 (by have:=dV (t:=ag bC x.1+ag (.sl ak) x.2.2.2.1+ag (.sl aU) x.2.2.2.2.1+ag (.sl ab) x.2.2.2.2.2.1) h0;omega),Option.bind_some]
 rw[cY h5]
 by_cases h6:bI (ag bC x.1+ag (.sl ak) x.2.2.2.1+ag (.sl aU) x.2.2.2.2.1+ag (.sl ab) x.2.2.2.2.2.1+ag (.sl aj) x.2.2.2.2.2.2.2.1) left<0
 ·rw[if_pos (by simpa using h6)];exact congrArg (fun z=>some (z,())) (cn h6 (by omega)).symm
 rw[if_neg (by simpa using h6)]
 rw[Ob hk hx.2.2.2.2.2.2.2.2.2.1 (cH h6).1 (by have:=dV (t:=ag bC x.1+ag (.sl ak) x.2.2.2.1+ag (.sl aU) x.2.2.2.2.1+ag (.sl ab) x.2.2.2.2.2.1+ag (.sl aj) x.2.2.2.2.2.2.2.1) h0;omega),Option.bind_some]
 rw[cY h6]
 by_cases h7:bI (ag bC x.1+ag (.sl ak) x.2.2.2.1+ag (.sl aU) x.2.2.2.2.1+ag (.sl ab) x.2.2.2.2.2.1+ag (.sl aj) x.2.2.2.2.2.2.2.1+ag (.sl aC) x.2.2.2.2.2.2.2.2.2.1) left<0
 ·rw[if_pos (by simpa using h7)];exact congrArg (fun z=>some (z,())) (cn h7 (by omega)).symm
 rw[if_neg (by simpa using h7)]
 rw[OT hk hx.2.2.2.2.2.2.2.2.2.2.1 (cH h7).1 (by have:=dV (t:=ag bC x.1+ag (.sl ak) x.2.2.2.1+ag (.sl aU) x.2.2.2.2.1+ag (.sl ab) x.2.2.2.2.2.1+ag (.sl aj) x.2.2.2.2.2.2.2.1+ag (.sl aC) x.2.2.2.2.2.2.2.2.2.1) h0;omega),Option.bind_some]
 rw[cY h7]
 by_cases h8:bI (ag bC x.1+ag (.sl ak) x.2.2.2.1+ag (.sl aU) x.2.2.2.2.1+ag (.sl ab) x.2.2.2.2.2.1+ag (.sl aj) x.2.2.2.2.2.2.2.1+ag (.sl aC) x.2.2.2.2.2.2.2.2.2.1+ag (.sl aN) x.2.2.2.2.2.2.2.2.2.2.1) left<0
 ·rw[if_pos (by simpa using h8)];exact congrArg (fun z=>some (z,())) (cn h8 (by omega)).symm
 rw[if_neg (by simpa using h8)]
 rw[fJ hk hx.2.2.2.2.2.2.2.2.2.2.2.1 (cH h8).1 (by have:=dV (t:=ag bC x.1+ag (.sl ak) x.2.2.2.1+ag (.sl aU) x.2.2.2.2.1+ag (.sl ab) x.2.2.2.2.2.1+ag (.sl aj) x.2.2.2.2.2.2.2.1+ag (.sl aC) x.2.2.2.2.2.2.2.2.2.1+ag (.sl aN) x.2.2.2.2.2.2.2.2.2.2.1) h0;omega),Option.bind_some]
 rw[cY h8]
 by_cases h9:bI (ag bC x.1+ag (.sl ak) x.2.2.2.1+ag (.sl aU) x.2.2.2.2.1+ag (.sl ab) x.2.2.2.2.2.1+ag (.sl aj) x.2.2.2.2.2.2.2.1+ag (.sl aC) x.2.2.2.2.2.2.2.2.2.1+ag (.sl aN) x.2.2.2.2.2.2.2.2.2.2.1+ag (.sl ab) x.2.2.2.2.2.2.2.2.2.2.2.1) left<0
 ·rw[if_pos (by simpa using h9)];exact congrArg (fun z=>some (z,())) (cn h9 (by omega)).symm
 rw[if_neg (by simpa using h9)]
 rw[PY hk hx.2.2.2.2.2.2.2.2.2.2.2.2.1 (cH h9).1 (by have:=dV (t:=ag bC x.1+ag (.sl ak) x.2.2.2.1+ag (.sl aU) x.2.2.2.2.1+ag (.sl ab) x.2.2.2.2.2.1+ag (.sl aj) x.2.2.2.2.2.2.2.1+ag (.sl aC) x.2.2.2.2.2.2.2.2.2.1+ag (.sl aN) x.2.2.2.2.2.2.2.2.2.2.1+ag (.sl ab) x.2.2.2.2.2.2.2.2.2.2.2.1) h0;omega),Option.bind_some]
 rw[cY h9]
 by_cases h10:bI (ag bC x.1+ag (.sl ak) x.2.2.2.1+ag (.sl aU) x.2.2.2.2.1+ag (.sl ab) x.2.2.2.2.2.1+ag (.sl aj) x.2.2.2.2.2.2.2.1+ag (.sl aC) x.2.2.2.2.2.2.2.2.2.1+ag (.sl aN) x.2.2.2.2.2.2.2.2.2.2.1+ag (.sl ab) x.2.2.2.2.2.2.2.2.2.2.2.1+ag (.sl ah) x.2.2.2.2.2.2.2.2.2.2.2.2.1) left<0
 ·rw[if_pos (by simpa using h10)];exact congrArg (fun z=>some (z,())) (cn h10 (by omega)).symm
 rw[if_neg (by simpa using h10)]
 rw[PF hk hx.2.2.2.2.2.2.2.2.2.2.2.2.2 (cH h10).1 (by have:=dV (t:=ag bC x.1+ag (.sl ak) x.2.2.2.1+ag (.sl aU) x.2.2.2.2.1+ag (.sl ab) x.2.2.2.2.2.1+ag (.sl aj) x.2.2.2.2.2.2.2.1+ag (.sl aC) x.2.2.2.2.2.2.2.2.2.1+ag (.sl aN) x.2.2.2.2.2.2.2.2.2.2.1+ag (.sl ab) x.2.2.2.2.2.2.2.2.2.2.2.1+ag (.sl ah) x.2.2.2.2.2.2.2.2.2.2.2.2.1) h0;omega),Option.bind_some]
 rw[cY h10]
 by_cases h11:bI (ag bC x.1+ag (.sl ak) x.2.2.2.1+ag (.sl aU) x.2.2.2.2.1+ag (.sl ab) x.2.2.2.2.2.1+ag (.sl aj) x.2.2.2.2.2.2.2.1+ag (.sl aC) x.2.2.2.2.2.2.2.2.2.1+ag (.sl aN) x.2.2.2.2.2.2.2.2.2.2.1+ag (.sl ab) x.2.2.2.2.2.2.2.2.2.2.2.1+ag (.sl ah) x.2.2.2.2.2.2.2.2.2.2.2.2.1+ag (.sl aq) x.2.2.2.2.2.2.2.2.2.2.2.2.2) left<0
 ·rw[if_pos (by simpa using h11)];exact congrArg (fun z=>some (z,())) (cn h11 (by omega)).symm
 rw[if_neg (by simpa using h11)]
theorem ME {x:List ByteArray} (h:ag (.sl .str) x≤1048576):np k (x,())=some (x,()):=
 Rz (d:=ByteArray.empty) hk (Nat.le_trans (aA (e:= .str)) h)
theorem Rm {x:cg} (h:ag bC x≤1048576):mQ k (x,())=some (x,()):=by
 rw[jh hk]at h
 simp only[mQ]
 rw[ME hk (by omega)]
 try rfl
theorem PX {x:ai} (h:ag af x≤1048576):iI k (x,())=some (x,()):=by
 rw[nN hk]at h
 simp only[iI]
 try rfl
theorem mq {x:List ai} (h:ag (.sl af) x≤1048576):eu k (x,())=some (x,()):=
 kA (d:=af.aa) (S:=iI k) hk (Nat.le_trans (aA (e:=af)) h) (fun e he=>PX hk (Nat.le_trans (bo (e:=af) he) h))
theorem xF {x:al} (h:ag ab x≤1048576):eR k (x,())=some (x,()):=by
 rw[cj hk]at h
 simp only[eR]
 rw[mq hk (by omega)]
 try rfl
theorem fL {x:List al} (h:ag (.sl ab) x≤1048576):da k (x,())=some (x,()):=
 kA (d:=ab.aa) (S:=eR k) hk (Nat.le_trans (aA (e:=ab)) h) (fun e he=>xF hk (Nat.le_trans (bo (e:=ab) he) h))
theorem Qc {x:bc} (h:ag ay x≤1048576):iP k (x,())=some (x,()):=by
 rw[en hk]at h
 simp only[iP]
 rw[fL hk (by omega)]
 try rfl
theorem Ox {x:List bc} (h:ag (.sl ay) x≤1048576):nV k (x,())=some (x,()):=
 kA (d:=ay.aa) (S:=iP k) hk (Nat.le_trans (aA (e:=ay)) h) (fun e he=>Qc hk (Nat.le_trans (bo (e:=ay) he) h))
theorem QQ {x:aG} (h:ag ak x≤1048576):jN k (x,())=some (x,()):=by
 rw[dJ hk]at h
 simp only[jN]
 rw[Ox hk (by omega)]
 try rfl
theorem Qt {x:List aG} (h:ag (.sl ak) x≤1048576):pI k (x,())=some (x,()):=
 kA (d:=ak.aa) (S:=jN k) hk (Nat.le_trans (aA (e:=ak)) h) (fun e he=>QQ hk (Nat.le_trans (bo (e:=ak) he) h))
theorem Sc {x:bF} (h:ag aU x≤1048576):kV k (x,())=some (x,()):=by
 rw[nJ hk]at h
 simp only[kV]
 rw[fL hk (by omega)]
 try rfl
theorem RS {x:List bF} (h:ag (.sl aU) x≤1048576):qA k (x,())=some (x,()):=
 kA (d:=aU.aa) (S:=kV k) hk (Nat.le_trans (aA (e:=aU)) h) (fun e he=>Sc hk (Nat.le_trans (bo (e:=aU) he) h))
theorem P2 {x:aJ} (h:ag aj x≤1048576):iG k (x,())=some (x,()):=by
 rw[gU hk]at h
 simp only[iG]
 rw[mq hk (by omega),fL hk (by omega)]
 try rfl
theorem Oj {x:List aJ} (h:ag (.sl aj) x≤1048576):oY k (x,())=some (x,()):=
 kA (d:=aj.aa) (S:=iG k) hk (Nat.le_trans (aA (e:=aj)) h) (fun e he=>P2 hk (Nat.le_trans (bo (e:=aj) he) h))
theorem zH (x:bl):ag aC x=0:=by
 obtain⟨x0,x1⟩:=x
 simp only[ag]
 try omega
theorem PI {x:bl} (h:ag aC x≤1048576):ir k (x,())=some (x,()):=by
 rw[zH hk]at h
 simp only[ir]
 try rfl
theorem Ol {x:List bl} (h:ag (.sl aC) x≤1048576):oj k (x,())=some (x,()):=
 kA (d:=aC.aa) (S:=ir k) hk (Nat.le_trans (aA (e:=aC)) h) (fun e he=>PI hk (Nat.le_trans (bo (e:=aC) he) h))
theorem QG {x:bz} (h:ag aN x≤1048576):iX k (x,())=some (x,()):=by
 rw[nH hk]at h
 simp only[iX]
 rw[mq hk (by omega),fL hk (by omega)]
 try rfl
theorem OK {x:List bz} (h:ag (.sl aN) x≤1048576):oT k (x,())=some (x,()):=
 kA (d:=aN.aa) (S:=iX k) hk (Nat.le_trans (aA (e:=aN)) h) (fun e he=>QG hk (Nat.le_trans (bo (e:=aN) he) h))
theorem RL {x:List Int} (h:ag (.sl (.int .i64)) x≤1048576):qG k (x,())=some (x,()):=
 Rz (d:=0) hk (Nat.le_trans (aA (e:=(.int .i64))) h)
theorem RJ {x:aL} (h:ag ah x≤1048576):jA k (x,())=some (x,()):=by
 rw[dD hk]at h
 simp only[jA]
 rw[xF hk (by omega),mq hk (by omega),RL hk (by omega),fL hk (by omega)]
 try rfl
theorem Qs {x:List aL} (h:ag (.sl ah) x≤1048576):pA k (x,())=some (x,()):=
 kA (d:=ah.aa) (S:=jA k) hk (Nat.le_trans (aA (e:=ah)) h) (fun e he=>RJ hk (Nat.le_trans (bo (e:=ah) he) h))
theorem RB {x:bg} (h:ag aq x≤1048576):jM k (x,())=some (x,()):=by
 rw[kK hk]at h
 simp only[jM]
 rw[xF hk (by omega),mq hk (by omega),fL hk (by omega)]
 try rfl
theorem QE {x:List bg} (h:ag (.sl aq) x≤1048576):pD k (x,())=some (x,()):=
 kA (d:=aq.aa) (S:=jM k) hk (Nat.le_trans (aA (e:=aq)) h) (fun e he=>RB hk (Nat.le_trans (bo (e:=aq) he) h))
theorem rA {x:ar} (h:ag aE x≤1048576):eO k (x,())=some (x,()):=by
 rw[gP hk]at h
 simp only[eO]
 rw[Rm hk (by omega),Qt hk (by omega),RS hk (by omega),fL hk (by omega),Oj hk (by omega),Ol hk (by omega),OK hk (by omega),fL hk (by omega),Qs hk (by omega),QE hk (by omega)]
 try rfl
theorem MV {x:List ByteArray} (h:ag (.sl .str) x≤1073741824):nC k (x,x,())=some (true,()):=
 Ud hk (Nat.le_trans (Nat.le_trans (aA (e:= .str)) h) (by omega))
theorem RC {x:cg} (h:ag bC x≤1073741824):mN k (x,x,())=some (true,()):=by
 rw[jh hk]at h
 simp only[mN]
 rw[MV hk (by omega)]
 simp
theorem PD {x:ai} (h:ag af x≤1073741824):iq k (x,x,())=some (true,()):=by
 rw[nN hk]at h
 simp only[iq]
 simp
theorem mz {x:List ai} (h:ag (.sl af) x≤1073741824):ey k (x,x,())=some (true,()):=
 jB (d:=af.aa) (S:=iq k) hk (Nat.le_trans (Nat.le_trans (aA (e:=af)) h) (by omega)) (fun e he=>PD hk (Nat.le_trans (bo (e:=af) he) h))
theorem xe {x:al} (h:ag ab x≤1073741824):eP k (x,x,())=some (true,()):=by
 rw[cj hk]at h
 simp only[eP]
 rw[mz hk (by omega)]
 simp
theorem fF {x:List al} (h:ag (.sl ab) x≤1073741824):db k (x,x,())=some (true,()):=
 jB (d:=ab.aa) (S:=eP k) hk (Nat.le_trans (Nat.le_trans (aA (e:=ab)) h) (by omega)) (fun e he=>xe hk (Nat.le_trans (bo (e:=ab) he) h))
theorem PT {x:bc} (h:ag ay x≤1073741824):iw k (x,x,())=some (true,()):=by
 rw[en hk]at h
 simp only[iw]
 rw[fF hk (by omega)]
 simp
theorem OO {x:List bc} (h:ag (.sl ay) x≤1073741824):oC k (x,x,())=some (true,()):=
 jB (d:=ay.aa) (S:=iw k) hk (Nat.le_trans (Nat.le_trans (aA (e:=ay)) h) (by omega)) (fun e he=>PT hk (Nat.le_trans (bo (e:=ay) he) h))
theorem QR {x:aG} (h:ag ak x≤1073741824):jG k (x,x,())=some (true,()):=by
 rw[dJ hk]at h
 simp only[jG]
 rw[OO hk (by omega)]
 simp
theorem PW {x:List aG} (h:ag (.sl ak) x≤1073741824):pO k (x,x,())=some (true,()):=
 jB (d:=ak.aa) (S:=jG k) hk (Nat.le_trans (Nat.le_trans (aA (e:=ak)) h) (by omega)) (fun e he=>QR hk (Nat.le_trans (bo (e:=ak) he) h))
theorem Sm {x:bF} (h:ag aU x≤1073741824):kY k (x,x,())=some (true,()):=by
 rw[nJ hk]at h
 simp only[kY]
 rw[fF hk (by omega)]
 simp
theorem RA {x:List bF} (h:ag (.sl aU) x≤1073741824):qE k (x,x,())=some (true,()):=
 jB (d:=aU.aa) (S:=kY k) hk (Nat.le_trans (Nat.le_trans (aA (e:=aU)) h) (by omega)) (fun e he=>Sm hk (Nat.le_trans (bo (e:=aU) he) h))
theorem Qp {x:aJ} (h:ag aj x≤1073741824):im k (x,x,())=some (true,()):=by
 rw[gU hk]at h
 simp only[im]
 rw[mz hk (by omega),fF hk (by omega)]
 simp
theorem N7 {x:List aJ} (h:ag (.sl aj) x≤1073741824):oM k (x,x,())=some (true,()):=
 jB (d:=aj.aa) (S:=im k) hk (Nat.le_trans (Nat.le_trans (aA (e:=aj)) h) (by omega)) (fun e he=>Qp hk (Nat.le_trans (bo (e:=aj) he) h))
theorem PS {x:bl} (h:ag aC x≤1073741824):iz k (x,x,())=some (true,()):=by
 rw[zH hk]at h
 simp only[iz]
 simp
theorem Oe {x:List bl} (h:ag (.sl aC) x≤1073741824):oH k (x,x,())=some (true,()):=
 jB (d:=aC.aa) (S:=iz k) hk (Nat.le_trans (Nat.le_trans (aA (e:=aC)) h) (by omega)) (fun e he=>PS hk (Nat.le_trans (bo (e:=aC) he) h))
theorem P9 {x:bz} (h:ag aN x≤1073741824):iQ k (x,x,())=some (true,()):=by
 rw[nH hk]at h
 simp only[iQ]
 rw[mz hk (by omega),fF hk (by omega)]
 simp
theorem OU {x:List bz} (h:ag (.sl aN) x≤1073741824):om k (x,x,())=some (true,()):=
 jB (d:=aN.aa) (S:=iQ k) hk (Nat.le_trans (Nat.le_trans (aA (e:=aN)) h) (by omega)) (fun e he=>P9 hk (Nat.le_trans (bo (e:=aN) he) h))
theorem RF {x:List Int} (h:ag (.sl (.int .i64)) x≤1073741824):qL k (x,x,())=some (true,()):=
 T4 hk (Nat.le_trans (Nat.le_trans (aA (e:=(.int .i64))) h) (by omega))
theorem Ru {x:aL} (h:ag ah x≤1073741824):jQ k (x,x,())=some (true,()):=by
 rw[dD hk]at h
 simp only[jQ]
 rw[xe hk (by omega),mz hk (by omega),RF hk (by omega),fF hk (by omega)]
 simp
theorem Qj {x:List aL} (h:ag (.sl ah) x≤1073741824):pw k (x,x,())=some (true,()):=
 jB (d:=ah.aa) (S:=jQ k) hk (Nat.le_trans (Nat.le_trans (aA (e:=ah)) h) (by omega)) (fun e he=>Ru hk (Nat.le_trans (bo (e:=ah) he) h))
theorem Q9 {x:bg} (h:ag aq x≤1073741824):jE k (x,x,())=some (true,()):=by
 rw[kK hk]at h
 simp only[jE]
 rw[xe hk (by omega),mz hk (by omega),fF hk (by omega)]
 simp
theorem QH {x:List bg} (h:ag (.sl aq) x≤1073741824):pj k (x,x,())=some (true,()):=
 jB (d:=aq.aa) (S:=jE k) hk (Nat.le_trans (Nat.le_trans (aA (e:=aq)) h) (by omega)) (fun e he=>Q9 hk (Nat.le_trans (bo (e:=aq) he) h))
theorem rE {x:ar} (h:ag aE x≤1073741824):eX k (x,x,())=some (true,()):=by
 rw[gP hk]at h
 simp only[eX]
 rw[RC hk (by omega),PW hk (by omega),RA hk (by omega),fF hk (by omega),N7 hk (by omega),Oe hk (by omega),OU hk (by omega),fF hk (by omega),Qj hk (by omega),QH hk (by omega)]
 simp
theorem jZ {n:Int} (h1:1≤n) (h2:n≤bu):∃s,bT k (n,())=some (s,()):=by
 simp only[bT,aP]
 rw[if_neg (by simp;omega)]
 have red:∀ {o:Option (ByteArray×Unit)},(∃r,o=some r)→∃s,o=some (s,()):=fun⟨⟨s,u⟩,h⟩=>⟨s,h⟩
 refine red (MY hk ?_ ?_ n h2)
 ·intro G n s hn hs
  simp only
  rw[if_neg (by simp;omega),if_pos (by
   simp only[decide_eq_true_eq]
   show 1+s.size<4294967296
   omega)]
  exact⟨_,rfl⟩
 ·intro G n s hn hn2 hs
  simp only
  unfold bu at hn2
  rw[if_pos (by simpa using hn),if_pos (by simp),if_pos (by
   simp only[decide_eq_true_eq]
   show 1+s.size<4294967296
   omega),if_pos (by simp),wrap64 (by rw[Int.tdiv_eq_ediv_of_nonneg (by omega)];omega) (by rw[Int.tdiv_eq_ediv_of_nonneg (by omega)];omega)]
  refine⟨_,rfl,?_⟩
  rw[ByteArray.size_append]
  show 1+s.size=s.size+1
  omega
theorem IB:pN (.sl .str) (lg k) (kS k):=by
 refine fx hk ?_ ?_ ?_
 ·intro G l n i hi
  simp only[aw]
  rw[if_neg (by simp;omega)]
 ·intro G l n i hi
  simp only[aw]
  rw[if_neg (by simp;omega)]
 ·intro x n h1 h2
  unfold bu at h2
  obtain⟨s1,e1⟩:=jZ hk (n:=n) (by omega) (by unfold bu;omega)
  refine⟨n+1,s1,by omega,by omega,fun G d r hd=> ?_,fun G d r hd=> ?_⟩
  ·simp only[Int.toNat_natCast]
   refine bX.trans ?_
   refine(bind_eq (r:=(s1,())) ?_ _).trans ?_
   ·simp (disch:=omega) only[au,Int.toNat_natCast,wrap64,e1]
   refine aI.trans ?_
   rw[aQ (y:=s1)]
   rotate_left
   ·simp (disch:=omega) only[au,Int.toNat_natCast,wrap64]
   simp (disch:=omega) only[wrap64,cz hd]
  ·simp only[Int.toNat_natCast]
   refine bX.trans ?_
   refine aI.trans ?_
   refine(bind_eq (r:=(s1,())) ?_ _).trans ?_
   ·simp (disch:=omega) only[au,Int.toNat_natCast,wrap64,e1]
   refine(bw (wD ?_)).trans ?_
   ·simp (disch:=omega) only[au,Int.toNat_natCast,wrap64]
   simp (disch:=omega) only[wrap64,cz hd]
theorem fy:pN (.sl af) (cV k) (cX k):=by
 refine fx hk ?_ ?_ ?_
 ·intro G l n i hi
  simp only[aw]
  rw[if_neg (by simp;omega)]
 ·intro G l n i hi
  simp only[aw]
  rw[if_neg (by simp;omega)]
 ·intro x n h1 h2
  unfold bu at h2
  have t0:=nN hk x
  obtain⟨s1,e1⟩:=jZ hk (n:=n) (by omega) (by unfold bu;omega)
  obtain⟨s2,e2⟩:=jZ hk (n:=n+1) (by omega) (by unfold bu;omega)
  refine⟨n+1+1,(s1,s2),by omega,by omega,fun G d r hd=> ?_,fun G d r hd=> ?_⟩
  ·simp only[Int.toNat_natCast]
   refine bX.trans ?_
   refine(bind_eq (r:=(s1,())) ?_ _).trans ?_
   ·simp (disch:=omega) only[au,Int.toNat_natCast,wrap64,e1]
   refine aI.trans ?_
   rw[aQ (y:=(s1,x.2))]
   rotate_left
   ·simp (disch:=omega) only[au,Int.toNat_natCast,wrap64]
   refine(bind_eq (r:=(s2,())) ?_ _).trans ?_
   ·simp (disch:=omega) only[au,Int.toNat_natCast,wrap64,e2]
   refine aI.trans ?_
   rw[aQ (y:=(s1,s2))]
   rotate_left
   ·simp (disch:=omega) only[au,Int.toNat_natCast,wrap64]
   simp (disch:=omega) only[wrap64,cz hd]
  ·simp only[Int.toNat_natCast]
   refine bX.trans ?_
   refine aI.trans ?_
   refine(bind_eq (r:=(s1,())) ?_ _).trans ?_
   ·simp (disch:=omega) only[au,Int.toNat_natCast,wrap64,e1]
   refine(bw (wD ?_)).trans ?_
   ·simp (disch:=omega) only[au,Int.toNat_natCast,wrap64]
   refine aI.trans ?_
   refine(bind_eq (r:=(s2,())) ?_ _).trans ?_
   ·simp (disch:=omega) only[au,Int.toNat_natCast,wrap64,e2]
   refine(bw (wD ?_)).trans ?_
   ·simp (disch:=omega) only[au,Int.toNat_natCast,wrap64]
   simp (disch:=omega) only[wrap64,cz hd]
theorem eF:pN (.sl ab) (cF k) (cG k):=by
 refine fx hk ?_ ?_ ?_
 ·intro G l n i hi
  simp only[aw]
  rw[if_neg (by simp;omega)]
 ·intro G l n i hi
  simp only[aw]
  rw[if_neg (by simp;omega)]
 ·intro x n h1 h2
  unfold bu at h2
  have t0:=cj hk x
  obtain⟨n1,y1,e1,a1,b1,q1⟩:=fy hk (x.1) (n) (by omega) (by unfold bu;omega)
  have z1:decide (n1<0)=false:=by simp;omega
  obtain⟨s4,e4⟩:=jZ hk (n:=n1+1+1) (by omega) (by unfold bu;omega)
  refine⟨n1+1+1+1,(y1,(n1,(n1+1,s4))),by omega,by omega,fun G d r hd=> ?_,fun G d r hd=> ?_⟩
  ·simp only[Int.toNat_natCast]
   refine bX.trans ?_
   refine aI.trans ?_
   refine(bind_eq (r:=(n1,y1)) ?_ _).trans ?_
   ·simp (disch:=omega) only[au,Int.toNat_natCast,wrap64,e1]
   rw[aQ (y:=(y1,x.2))]
   rotate_left
   ·simp (disch:=omega) only[au,Int.toNat_natCast,wrap64]
   refine aI.trans ?_
   rw[aQ (y:=(y1,(n1,x.2.2)))]
   rotate_left
   ·simp (disch:=omega) only[au,Int.toNat_natCast,wrap64]
   refine aI.trans ?_
   rw[aQ (y:=(y1,(n1,(n1+1,x.2.2.2))))]
   rotate_left
   ·simp (disch:=omega) only[au,Int.toNat_natCast,wrap64]
   refine(bind_eq (r:=(s4,())) ?_ _).trans ?_
   ·simp (disch:=omega) only[au,Int.toNat_natCast,wrap64,e4]
   refine aI.trans ?_
   rw[aQ (y:=(y1,(n1,(n1+1,s4))))]
   rotate_left
   ·simp (disch:=omega) only[au,Int.toNat_natCast,wrap64]
   simp (disch:=omega) only[wrap64,cz hd]
  ·simp only[Int.toNat_natCast]
   refine bX.trans ?_
   refine aI.trans ?_
   refine(bind_eq (r:=(n1,())) ?_ _).trans ?_
   ·simp (disch:=omega) only[au,Int.toNat_natCast,wrap64,q1]
   refine(bw z1).trans ?_
   refine aI.trans ?_
   refine(bw (cC ?_)).trans ?_
   ·simp (disch:=omega) only[au,Int.toNat_natCast,wrap64]
   refine aI.trans ?_
   refine(bw (cC ?_)).trans ?_
   ·simp (disch:=omega) only[au,Int.toNat_natCast,wrap64]
   refine aI.trans ?_
   refine(bind_eq (r:=(s4,())) ?_ _).trans ?_
   ·simp (disch:=omega) only[au,Int.toNat_natCast,wrap64,e4]
   refine(bw (wD ?_)).trans ?_
   ·simp (disch:=omega) only[au,Int.toNat_natCast,wrap64]
   simp (disch:=omega) only[wrap64,cz hd]
theorem Lb:pN (.sl ay) (me k) (mh k):=by
 refine fx hk ?_ ?_ ?_
 ·intro G l n i hi
  simp only[aw]
  rw[if_neg (by simp;omega)]
 ·intro G l n i hi
  simp only[aw]
  rw[if_neg (by simp;omega)]
 ·intro x n h1 h2
  unfold bu at h2
  have t0:=en hk x
  obtain⟨n2,y2,e2,a2,b2,q2⟩:=eF hk (x.2) (n+1) (by omega) (by unfold bu;omega)
  have z2:decide (n2<0)=false:=by simp;omega
  refine⟨n2,(n,y2),by omega,by omega,fun G d r hd=> ?_,fun G d r hd=> ?_⟩
  ·simp only[Int.toNat_natCast]
   refine bX.trans ?_
   refine aI.trans ?_
   rw[aQ (y:=(n,x.2))]
   rotate_left
   ·simp (disch:=omega) only[au,Int.toNat_natCast,wrap64]
   refine aI.trans ?_
   refine(bind_eq (r:=(n2,y2)) ?_ _).trans ?_
   ·simp (disch:=omega) only[au,Int.toNat_natCast,wrap64,e2]
   rw[aQ (y:=(n,y2))]
   rotate_left
   ·simp (disch:=omega) only[au,Int.toNat_natCast,wrap64]
   simp (disch:=omega) only[wrap64,cz hd]
  ·simp only[Int.toNat_natCast]
   refine bX.trans ?_
   refine aI.trans ?_
   refine(bw (cC ?_)).trans ?_
   ·simp (disch:=omega) only[au,Int.toNat_natCast,wrap64]
   refine aI.trans ?_
   refine(bind_eq (r:=(n2,())) ?_ _).trans ?_
   ·simp (disch:=omega) only[au,Int.toNat_natCast,wrap64,q2]
   refine(bw z2).trans ?_
   simp (disch:=omega) only[wrap64,cz hd]
theorem MQ:pN (.sl ak) (nx k) (nm k):=by
 refine fx hk ?_ ?_ ?_
 ·intro G l n i hi
  simp only[aw]
  rw[if_neg (by simp;omega)]
 ·intro G l n i hi
  simp only[aw]
  rw[if_neg (by simp;omega)]
 ·intro x n h1 h2
  unfold bu at h2
  have t0:=dJ hk x
  obtain⟨n3,y3,e3,a3,b3,q3⟩:=Lb hk (x.2.2) (n+1+1) (by omega) (by unfold bu;omega)
  have z3:decide (n3<0)=false:=by simp;omega
  refine⟨n3,(n,(n+1,y3)),by omega,by omega,fun G d r hd=> ?_,fun G d r hd=> ?_⟩
  ·simp only[Int.toNat_natCast]
   refine bX.trans ?_
   refine aI.trans ?_
   rw[aQ (y:=(n,x.2))]
   rotate_left
   ·simp (disch:=omega) only[au,Int.toNat_natCast,wrap64]
   refine aI.trans ?_
   rw[aQ (y:=(n,(n+1,x.2.2)))]
   rotate_left
   ·simp (disch:=omega) only[au,Int.toNat_natCast,wrap64]
   refine aI.trans ?_
   refine(bind_eq (r:=(n3,y3)) ?_ _).trans ?_
   ·simp (disch:=omega) only[au,Int.toNat_natCast,wrap64,e3]
   rw[aQ (y:=(n,(n+1,y3)))]
   rotate_left
   ·simp (disch:=omega) only[au,Int.toNat_natCast,wrap64]
   simp (disch:=omega) only[wrap64,cz hd]
  ·simp only[Int.toNat_natCast]
   refine bX.trans ?_
   refine aI.trans ?_
   refine(bw (cC ?_)).trans ?_
   ·simp (disch:=omega) only[au,Int.toNat_natCast,wrap64]
   refine aI.trans ?_
   refine(bw (cC ?_)).trans ?_
   ·simp (disch:=omega) only[au,Int.toNat_natCast,wrap64]
   refine aI.trans ?_
   refine(bind_eq (r:=(n3,())) ?_ _).trans ?_
   ·simp (disch:=omega) only[au,Int.toNat_natCast,wrap64,q3]
   refine(bw z3).trans ?_
   simp (disch:=omega) only[wrap64,cz hd]
theorem N4:pN (.sl aU) (oc k) (oW k):=by
 refine fx hk ?_ ?_ ?_
 ·intro G l n i hi
  simp only[aw]
  rw[if_neg (by simp;omega)]
 ·intro G l n i hi
  simp only[aw]
  rw[if_neg (by simp;omega)]
 ·intro x n h1 h2
  unfold bu at h2
  have t0:=nJ hk x
  obtain⟨n1,y1,e1,a1,b1,q1⟩:=eF hk (x.1) (n) (by omega) (by unfold bu;omega)
  have z1:decide (n1<0)=false:=by simp;omega
  refine⟨n1+1,(y1,((Int.tmod (n1) 3:Int)==0)),by omega,by omega,fun G d r hd=> ?_,fun G d r hd=> ?_⟩
  ·simp only[Int.toNat_natCast]
   refine bX.trans ?_
   refine aI.trans ?_
   refine(bind_eq (r:=(n1,y1)) ?_ _).trans ?_
   ·simp (disch:=omega) only[au,Int.toNat_natCast,wrap64,e1]
   rw[aQ (y:=(y1,x.2))]
   rotate_left
   ·simp (disch:=omega) only[au,Int.toNat_natCast,wrap64]
   refine(if_pos UN).trans ?_
   refine aI.trans ?_
   rw[aQ (y:=(y1,((Int.tmod (n1) 3:Int)==0)))]
   rotate_left
   ·simp (disch:=omega) only[au,Int.toNat_natCast,wrap64]
   simp (disch:=omega) only[wrap64,cz hd]
  ·simp only[Int.toNat_natCast]
   refine bX.trans ?_
   refine aI.trans ?_
   refine(bind_eq (r:=(n1,())) ?_ _).trans ?_
   ·simp (disch:=omega) only[au,Int.toNat_natCast,wrap64,q1]
   refine(bw z1).trans ?_
   refine aI.trans ?_
   refine(if_pos UN).trans ?_
   refine(bw (Tg ?_)).trans ?_
   ·simp (disch:=omega) only[au,Int.toNat_natCast,wrap64]
   simp (disch:=omega) only[wrap64,cz hd]
theorem LH:pN (.sl aj) (lZ k) (mg k):=by
 refine fx hk ?_ ?_ ?_
 ·intro G l n i hi
  simp only[aw]
  rw[if_neg (by simp;omega)]
 ·intro G l n i hi
  simp only[aw]
  rw[if_neg (by simp;omega)]
 ·intro x n h1 h2
  unfold bu at h2
  have t0:=gU hk x
  obtain⟨n2,y2,e2,a2,b2,q2⟩:=fy hk (x.2.1) (n+1) (by omega) (by unfold bu;omega)
  have z2:decide (n2<0)=false:=by simp;omega
  obtain⟨n5,y5,e5,a5,b5,q5⟩:=eF hk (x.2.2.2.2) (n2+1+1) (by omega) (by unfold bu;omega)
  have z5:decide (n5<0)=false:=by simp;omega
  refine⟨n5,(n,(y2,(n2,(n2+1,y5)))),by omega,by omega,fun G d r hd=> ?_,fun G d r hd=> ?_⟩
  ·simp only[Int.toNat_natCast]
   refine bX.trans ?_
   refine aI.trans ?_
   rw[aQ (y:=(n,x.2))]
   rotate_left
   ·simp (disch:=omega) only[au,Int.toNat_natCast,wrap64]
   refine aI.trans ?_
   refine(bind_eq (r:=(n2,y2)) ?_ _).trans ?_
   ·simp (disch:=omega) only[au,Int.toNat_natCast,wrap64,e2]
   rw[aQ (y:=(n,(y2,x.2.2)))]
   rotate_left
   ·simp (disch:=omega) only[au,Int.toNat_natCast,wrap64]
   refine aI.trans ?_
   rw[aQ (y:=(n,(y2,(n2,x.2.2.2))))]
   rotate_left
   ·simp (disch:=omega) only[au,Int.toNat_natCast,wrap64]
   refine aI.trans ?_
   rw[aQ (y:=(n,(y2,(n2,(n2+1,x.2.2.2.2)))))]
   rotate_left
   ·simp (disch:=omega) only[au,Int.toNat_natCast,wrap64]
   refine aI.trans ?_
   refine(bind_eq (r:=(n5,y5)) ?_ _).trans ?_
   ·simp (disch:=omega) only[au,Int.toNat_natCast,wrap64,e5]
   rw[aQ (y:=(n,(y2,(n2,(n2+1,y5)))))]
   rotate_left
   ·simp (disch:=omega) only[au,Int.toNat_natCast,wrap64]
   simp (disch:=omega) only[wrap64,cz hd]
  ·simp only[Int.toNat_natCast]
   refine bX.trans ?_
   refine aI.trans ?_
   refine(bw (cC ?_)).trans ?_
   ·simp (disch:=omega) only[au,Int.toNat_natCast,wrap64]
   refine aI.trans ?_
   refine(bind_eq (r:=(n2,())) ?_ _).trans ?_
   ·simp (disch:=omega) only[au,Int.toNat_natCast,wrap64,q2]
   refine(bw z2).trans ?_
   refine aI.trans ?_
   refine(bw (cC ?_)).trans ?_
   ·simp (disch:=omega) only[au,Int.toNat_natCast,wrap64]
   refine aI.trans ?_
   refine(bw (cC ?_)).trans ?_
   ·simp (disch:=omega) only[au,Int.toNat_natCast,wrap64]
   refine aI.trans ?_
   refine(bind_eq (r:=(n5,())) ?_ _).trans ?_
   ·simp (disch:=omega) only[au,Int.toNat_natCast,wrap64,q5]
   refine(bw z5).trans ?_
   simp (disch:=omega) only[wrap64,cz hd]
theorem LC:pN (.sl aC) (mf k) (mc k):=by
 refine fx hk ?_ ?_ ?_
 ·intro G l n i hi
  simp only[aw]
  rw[if_neg (by simp;omega)]
 ·intro G l n i hi
  simp only[aw]
  rw[if_neg (by simp;omega)]
 ·intro x n h1 h2
  unfold bu at h2
  have t0:=zH hk x
  refine⟨n+1+1,(n,n+1),by omega,by omega,fun G d r hd=> ?_,fun G d r hd=> ?_⟩
  ·simp only[Int.toNat_natCast]
   refine bX.trans ?_
   refine aI.trans ?_
   rw[aQ (y:=(n,x.2))]
   rotate_left
   ·simp (disch:=omega) only[au,Int.toNat_natCast,wrap64]
   refine aI.trans ?_
   rw[aQ (y:=(n,n+1))]
   rotate_left
   ·simp (disch:=omega) only[au,Int.toNat_natCast,wrap64]
   simp (disch:=omega) only[wrap64,cz hd]
  ·simp only[Int.toNat_natCast]
   refine bX.trans ?_
   refine aI.trans ?_
   refine(bw (cC ?_)).trans ?_
   ·simp (disch:=omega) only[au,Int.toNat_natCast,wrap64]
   refine aI.trans ?_
   refine(bw (cC ?_)).trans ?_
   ·simp (disch:=omega) only[au,Int.toNat_natCast,wrap64]
   simp (disch:=omega) only[wrap64,cz hd]
theorem L9:pN (.sl aN) (mj k) (ml k):=by
 refine fx hk ?_ ?_ ?_
 ·intro G l n i hi
  simp only[aw]
  rw[if_neg (by simp;omega)]
 ·intro G l n i hi
  simp only[aw]
  rw[if_neg (by simp;omega)]
 ·intro x n h1 h2
  unfold bu at h2
  have t0:=nH hk x
  obtain⟨n2,y2,e2,a2,b2,q2⟩:=fy hk (x.2.1) (n+1) (by omega) (by unfold bu;omega)
  have z2:decide (n2<0)=false:=by simp;omega
  obtain⟨n4,y4,e4,a4,b4,q4⟩:=eF hk (x.2.2.2) (n2+1) (by omega) (by unfold bu;omega)
  have z4:decide (n4<0)=false:=by simp;omega
  refine⟨n4,(n,(y2,(n2,y4))),by omega,by omega,fun G d r hd=> ?_,fun G d r hd=> ?_⟩
  ·simp only[Int.toNat_natCast]
   refine bX.trans ?_
   refine aI.trans ?_
   rw[aQ (y:=(n,x.2))]
   rotate_left
   ·simp (disch:=omega) only[au,Int.toNat_natCast,wrap64]
   refine aI.trans ?_
   refine(bind_eq (r:=(n2,y2)) ?_ _).trans ?_
   ·simp (disch:=omega) only[au,Int.toNat_natCast,wrap64,e2]
   rw[aQ (y:=(n,(y2,x.2.2)))]
   rotate_left
   ·simp (disch:=omega) only[au,Int.toNat_natCast,wrap64]
   refine aI.trans ?_
   rw[aQ (y:=(n,(y2,(n2,x.2.2.2))))]
   rotate_left
   ·simp (disch:=omega) only[au,Int.toNat_natCast,wrap64]
   refine aI.trans ?_
   refine(bind_eq (r:=(n4,y4)) ?_ _).trans ?_
   ·simp (disch:=omega) only[au,Int.toNat_natCast,wrap64,e4]
   rw[aQ (y:=(n,(y2,(n2,y4))))]
   rotate_left
   ·simp (disch:=omega) only[au,Int.toNat_natCast,wrap64]
   simp (disch:=omega) only[wrap64,cz hd]
  ·simp only[Int.toNat_natCast]
   refine bX.trans ?_
   refine aI.trans ?_
   refine(bw (cC ?_)).trans ?_
   ·simp (disch:=omega) only[au,Int.toNat_natCast,wrap64]
   refine aI.trans ?_
   refine(bind_eq (r:=(n2,())) ?_ _).trans ?_
   ·simp (disch:=omega) only[au,Int.toNat_natCast,wrap64,q2]
   refine(bw z2).trans ?_
   refine aI.trans ?_
   refine(bw (cC ?_)).trans ?_
   ·simp (disch:=omega) only[au,Int.toNat_natCast,wrap64]
   refine aI.trans ?_
   refine(bind_eq (r:=(n4,())) ?_ _).trans ?_
   ·simp (disch:=omega) only[au,Int.toNat_natCast,wrap64,q4]
   refine(bw z4).trans ?_
   simp (disch:=omega) only[wrap64,cz hd]
theorem N3:pN (.sl (.int .i64)) (oq k) (oG k):=by
 refine fx hk ?_ ?_ ?_
 ·intro G l n i hi
  simp only[aw]
  rw[if_neg (by simp;omega)]
 ·intro G l n i hi
  simp only[aw]
  rw[if_neg (by simp;omega)]
 ·intro x n h1 h2
  unfold bu at h2
  refine⟨n+1,n,by omega,by omega,fun G d r hd=> ?_,fun G d r hd=> ?_⟩
  ·simp only[Int.toNat_natCast]
   refine bX.trans ?_
   refine aI.trans ?_
   rw[aQ (y:=n)]
   rotate_left
   ·simp (disch:=omega) only[au,Int.toNat_natCast,wrap64]
   simp (disch:=omega) only[wrap64,cz hd]
  ·simp only[Int.toNat_natCast]
   refine bX.trans ?_
   refine aI.trans ?_
   refine(bw (cC ?_)).trans ?_
   ·simp (disch:=omega) only[au,Int.toNat_natCast,wrap64]
   simp (disch:=omega) only[wrap64,cz hd]
set_option maxHeartbeats 4000000 in
theorem Nj:pN (.sl ah) (ns k) (nE k):=by
 refine fx hk ?_ ?_ ?_
 ·intro G l n i hi
  simp only[aw]
  rw[if_neg (by simp;omega)]
 ·intro G l n i hi
  simp only[aw]
  rw[if_neg (by simp;omega)]
 ·intro x n h1 h2
  unfold bu at h2
  have t0:=dD hk x
  have t1:=cj hk x.2.2.1
  obtain⟨n3,y3,e3,a3,b3,q3⟩:=fy hk (x.2.2.1.1) (n+1+1) (by omega) (by unfold bu;omega)
  have z3:decide (n3<0)=false:=by simp;omega
  obtain⟨s6,e6⟩:=jZ hk (n:=n3+1+1) (by omega) (by unfold bu;omega)
  obtain⟨n7,y7,e7,a7,b7,q7⟩:=fy hk (x.2.2.2.1) (n3+1+1+1) (by omega) (by unfold bu;omega)
  have z7:decide (n7<0)=false:=by simp;omega
  obtain⟨n9,y9,e9,a9,b9,q9⟩:=N3 hk (x.2.2.2.2.2.1) (n7+1) (by omega) (by unfold bu;omega)
  have z9:decide (n9<0)=false:=by simp;omega
  obtain⟨n10,y10,e10,a10,b10,Mv⟩:=eF hk (x.2.2.2.2.2.2.1) (n9) (by omega) (by unfold bu;omega)
  have z10:decide (n10<0)=false:=by simp;omega
  refine⟨n10+1+1,(n,(n+1,((y3,(n3,(n3+1,s6))),(y7,(n7,(y9,(y10,(n10,n10+1)))))))),by omega,by omega,fun G d r hd=> ?_,fun G d r hd=> ?_⟩
  ·simp only[Int.toNat_natCast]
   refine bX.trans ?_
   refine aI.trans ?_
   rw[aQ (y:=(n,x.2))]
   rotate_left
   ·simp (disch:=omega) only[au,Int.toNat_natCast,wrap64]
   refine aI.trans ?_
   rw[aQ (y:=(n,(n+1,x.2.2)))]
   rotate_left
   ·simp (disch:=omega) only[au,Int.toNat_natCast,wrap64]
   refine aI.trans ?_
   refine(bind_eq (r:=(n3,y3)) ?_ _).trans ?_
   ·simp (disch:=omega) only[au,Int.toNat_natCast,wrap64,e3]
   rw[aQ (y:=(n,(n+1,((y3,x.2.2.1.2),x.2.2.2))))]
   rotate_left
   ·simp (disch:=omega) only[au,Int.toNat_natCast,wrap64]
   refine aI.trans ?_
   rw[aQ (y:=(n,(n+1,((y3,(n3,x.2.2.1.2.2)),x.2.2.2))))]
   rotate_left
   ·simp (disch:=omega) only[au,Int.toNat_natCast,wrap64]
   refine aI.trans ?_
   rw[aQ (y:=(n,(n+1,((y3,(n3,(n3+1,x.2.2.1.2.2.2))),x.2.2.2))))]
   rotate_left
   ·simp (disch:=omega) only[au,Int.toNat_natCast,wrap64]
   refine(bind_eq (r:=(s6,())) ?_ _).trans ?_
   ·simp (disch:=omega) only[au,Int.toNat_natCast,wrap64,e6]
   refine aI.trans ?_
   rw[aQ (y:=(n,(n+1,((y3,(n3,(n3+1,s6))),x.2.2.2))))]
   rotate_left
   ·simp (disch:=omega) only[au,Int.toNat_natCast,wrap64]
   refine aI.trans ?_
   refine(bind_eq (r:=(n7,y7)) ?_ _).trans ?_
   ·simp (disch:=omega) only[au,Int.toNat_natCast,wrap64,e7]
   rw[aQ (y:=(n,(n+1,((y3,(n3,(n3+1,s6))),(y7,x.2.2.2.2)))))]
   rotate_left
   ·simp (disch:=omega) only[au,Int.toNat_natCast,wrap64]
   refine aI.trans ?_
   rw[aQ (y:=(n,(n+1,((y3,(n3,(n3+1,s6))),(y7,(n7,x.2.2.2.2.2))))))]
   rotate_left
   ·simp (disch:=omega) only[au,Int.toNat_natCast,wrap64]
   refine aI.trans ?_
   refine(bind_eq (r:=(n9,y9)) ?_ _).trans ?_
   ·simp (disch:=omega) only[au,Int.toNat_natCast,wrap64,e9]
   rw[aQ (y:=(n,(n+1,((y3,(n3,(n3+1,s6))),(y7,(n7,(y9,x.2.2.2.2.2.2)))))))]
   rotate_left
   ·simp (disch:=omega) only[au,Int.toNat_natCast,wrap64]
   refine aI.trans ?_
   refine(bind_eq (r:=(n10,y10)) ?_ _).trans ?_
   ·simp (disch:=omega) only[au,Int.toNat_natCast,wrap64,e10]
   rw[aQ (y:=(n,(n+1,((y3,(n3,(n3+1,s6))),(y7,(n7,(y9,(y10,x.2.2.2.2.2.2.2))))))))]
   rotate_left
   ·simp (disch:=omega) only[au,Int.toNat_natCast,wrap64]
   refine aI.trans ?_
   rw[aQ (y:=(n,(n+1,((y3,(n3,(n3+1,s6))),(y7,(n7,(y9,(y10,(n10,x.2.2.2.2.2.2.2.2)))))))))]
   rotate_left
   ·simp (disch:=omega) only[au,Int.toNat_natCast,wrap64]
   refine aI.trans ?_
   rw[aQ (y:=(n,(n+1,((y3,(n3,(n3+1,s6))),(y7,(n7,(y9,(y10,(n10,n10+1)))))))))]
   rotate_left
   ·simp (disch:=omega) only[au,Int.toNat_natCast,wrap64]
   simp (disch:=omega) only[wrap64,cz hd]
  ·simp only[Int.toNat_natCast]
   refine bX.trans ?_
   refine aI.trans ?_
   refine(bw (cC ?_)).trans ?_
   ·simp (disch:=omega) only[au,Int.toNat_natCast,wrap64]
   refine aI.trans ?_
   refine(bw (cC ?_)).trans ?_
   ·simp (disch:=omega) only[au,Int.toNat_natCast,wrap64]
   refine aI.trans ?_
   refine(bind_eq (r:=(n3,())) ?_ _).trans ?_
   ·simp (disch:=omega) only[au,Int.toNat_natCast,wrap64,q3]
   refine(bw z3).trans ?_
   refine aI.trans ?_
   refine(bw (cC ?_)).trans ?_
   ·simp (disch:=omega) only[au,Int.toNat_natCast,wrap64]
   refine aI.trans ?_
   refine(bw (cC ?_)).trans ?_
   ·simp (disch:=omega) only[au,Int.toNat_natCast,wrap64]
   refine aI.trans ?_
   refine(bind_eq (r:=(s6,())) ?_ _).trans ?_
   ·simp (disch:=omega) only[au,Int.toNat_natCast,wrap64,e6]
   refine(bw (wD ?_)).trans ?_
   ·simp (disch:=omega) only[au,Int.toNat_natCast,wrap64]
   refine aI.trans ?_
   refine(bind_eq (r:=(n7,())) ?_ _).trans ?_
   ·simp (disch:=omega) only[au,Int.toNat_natCast,wrap64,q7]
   refine(bw z7).trans ?_
   refine aI.trans ?_
   refine(bw (cC ?_)).trans ?_
   ·simp (disch:=omega) only[au,Int.toNat_natCast,wrap64]
   refine aI.trans ?_
   refine(bind_eq (r:=(n9,())) ?_ _).trans ?_
   ·simp (disch:=omega) only[au,Int.toNat_natCast,wrap64,q9]
   refine(bw z9).trans ?_
   refine aI.trans ?_
   refine(bind_eq (r:=(n10,())) ?_ _).trans ?_
   ·simp (disch:=omega) only[au,Int.toNat_natCast,wrap64,Mv]
   refine(bw z10).trans ?_
   refine aI.trans ?_
   refine(bw (cC ?_)).trans ?_
   ·simp (disch:=omega) only[au,Int.toNat_natCast,wrap64]
   refine aI.trans ?_
   refine(bw (cC ?_)).trans ?_
   ·simp (disch:=omega) only[au,Int.toNat_natCast,wrap64]
   simp (disch:=omega) only[wrap64,cz hd]
set_option maxHeartbeats 4000000 in
theorem MK:pN (.sl aq) (nB k) (nF k):=by
 refine fx hk ?_ ?_ ?_
 ·intro G l n i hi
  simp only[aw]
  rw[if_neg (by simp;omega)]
 ·intro G l n i hi
  simp only[aw]
  rw[if_neg (by simp;omega)]
 ·intro x n h1 h2
  unfold bu at h2
  have t0:=kK hk x
  have t1:=cj hk x.2.2.1
  obtain⟨n3,y3,e3,a3,b3,q3⟩:=fy hk (x.2.2.1.1) (n+1+1) (by omega) (by unfold bu;omega)
  have z3:decide (n3<0)=false:=by simp;omega
  obtain⟨s6,e6⟩:=jZ hk (n:=n3+1+1) (by omega) (by unfold bu;omega)
  obtain⟨n7,y7,e7,a7,b7,q7⟩:=fy hk (x.2.2.2.1) (n3+1+1+1) (by omega) (by unfold bu;omega)
  have z7:decide (n7<0)=false:=by simp;omega
  obtain⟨n11,y11,e11,a11,b11,US⟩:=eF hk (x.2.2.2.2.2.2.2.1) (n7+1+1+1) (by omega) (by unfold bu;omega)
  have z11:decide (n11<0)=false:=by simp;omega
  refine⟨n11+1+1+1+1,(n,(n+1,((y3,(n3,(n3+1,s6))),(y7,(n7,(n7+1,(n7+1+1,(y11,(n11,(n11+1,(n11+1+1,n11+1+1+1))))))))))),by omega,by omega,fun G d r hd=> ?_,fun G d r hd=> ?_⟩
  ·simp only[Int.toNat_natCast]
   refine bX.trans ?_
   refine aI.trans ?_
   rw[aQ (y:=(n,x.2))]
   rotate_left
   ·simp (disch:=omega) only[au,Int.toNat_natCast,wrap64]
   refine aI.trans ?_
   rw[aQ (y:=(n,(n+1,x.2.2)))]
   rotate_left
   ·simp (disch:=omega) only[au,Int.toNat_natCast,wrap64]
   refine aI.trans ?_
   refine(bind_eq (r:=(n3,y3)) ?_ _).trans ?_
   ·simp (disch:=omega) only[au,Int.toNat_natCast,wrap64,e3]
   rw[aQ (y:=(n,(n+1,((y3,x.2.2.1.2),x.2.2.2))))]
   rotate_left
   ·simp (disch:=omega) only[au,Int.toNat_natCast,wrap64]
   refine aI.trans ?_
   rw[aQ (y:=(n,(n+1,((y3,(n3,x.2.2.1.2.2)),x.2.2.2))))]
   rotate_left
   ·simp (disch:=omega) only[au,Int.toNat_natCast,wrap64]
   refine aI.trans ?_
   rw[aQ (y:=(n,(n+1,((y3,(n3,(n3+1,x.2.2.1.2.2.2))),x.2.2.2))))]
   rotate_left
   ·simp (disch:=omega) only[au,Int.toNat_natCast,wrap64]
   refine(bind_eq (r:=(s6,())) ?_ _).trans ?_
   ·simp (disch:=omega) only[au,Int.toNat_natCast,wrap64,e6]
   refine aI.trans ?_
   rw[aQ (y:=(n,(n+1,((y3,(n3,(n3+1,s6))),x.2.2.2))))]
   rotate_left
   ·simp (disch:=omega) only[au,Int.toNat_natCast,wrap64]
   refine aI.trans ?_
   refine(bind_eq (r:=(n7,y7)) ?_ _).trans ?_
   ·simp (disch:=omega) only[au,Int.toNat_natCast,wrap64,e7]
   rw[aQ (y:=(n,(n+1,((y3,(n3,(n3+1,s6))),(y7,x.2.2.2.2)))))]
   rotate_left
   ·simp (disch:=omega) only[au,Int.toNat_natCast,wrap64]
   refine aI.trans ?_
   rw[aQ (y:=(n,(n+1,((y3,(n3,(n3+1,s6))),(y7,(n7,x.2.2.2.2.2))))))]
   rotate_left
   ·simp (disch:=omega) only[au,Int.toNat_natCast,wrap64]
   refine aI.trans ?_
   rw[aQ (y:=(n,(n+1,((y3,(n3,(n3+1,s6))),(y7,(n7,(n7+1,x.2.2.2.2.2.2)))))))]
   rotate_left
   ·simp (disch:=omega) only[au,Int.toNat_natCast,wrap64]
   refine aI.trans ?_
   rw[aQ (y:=(n,(n+1,((y3,(n3,(n3+1,s6))),(y7,(n7,(n7+1,(n7+1+1,x.2.2.2.2.2.2.2))))))))]
   rotate_left
   ·simp (disch:=omega) only[au,Int.toNat_natCast,wrap64]
   refine aI.trans ?_
   refine(bind_eq (r:=(n11,y11)) ?_ _).trans ?_
   ·simp (disch:=omega) only[au,Int.toNat_natCast,wrap64,e11]
   rw[aQ (y:=(n,(n+1,((y3,(n3,(n3+1,s6))),(y7,(n7,(n7+1,(n7+1+1,(y11,x.2.2.2.2.2.2.2.2)))))))))]
   rotate_left
   ·simp (disch:=omega) only[au,Int.toNat_natCast,wrap64]
   refine aI.trans ?_
   rw[aQ (y:=(n,(n+1,((y3,(n3,(n3+1,s6))),(y7,(n7,(n7+1,(n7+1+1,(y11,(n11,x.2.2.2.2.2.2.2.2.2))))))))))]
   rotate_left
   ·simp (disch:=omega) only[au,Int.toNat_natCast,wrap64]
   refine aI.trans ?_
   rw[aQ (y:=(n,(n+1,((y3,(n3,(n3+1,s6))),(y7,(n7,(n7+1,(n7+1+1,(y11,(n11,(n11+1,x.2.2.2.2.2.2.2.2.2.2)))))))))))]
   rotate_left
   ·simp (disch:=omega) only[au,Int.toNat_natCast,wrap64]
   refine aI.trans ?_
   rw[aQ (y:=(n,(n+1,((y3,(n3,(n3+1,s6))),(y7,(n7,(n7+1,(n7+1+1,(y11,(n11,(n11+1,(n11+1+1,x.2.2.2.2.2.2.2.2.2.2.2))))))))))))]
   rotate_left
   ·simp (disch:=omega) only[au,Int.toNat_natCast,wrap64]
   refine aI.trans ?_
   rw[aQ (y:=(n,(n+1,((y3,(n3,(n3+1,s6))),(y7,(n7,(n7+1,(n7+1+1,(y11,(n11,(n11+1,(n11+1+1,n11+1+1+1))))))))))))]
   rotate_left
   ·simp (disch:=omega) only[au,Int.toNat_natCast,wrap64]
   simp (disch:=omega) only[wrap64,cz hd]
  ·simp only[Int.toNat_natCast]
   refine bX.trans ?_
   refine aI.trans ?_
   refine(bw (cC ?_)).trans ?_
   ·simp (disch:=omega) only[au,Int.toNat_natCast,wrap64]
   refine aI.trans ?_
   refine(bw (cC ?_)).trans ?_
   ·simp (disch:=omega) only[au,Int.toNat_natCast,wrap64]
   refine aI.trans ?_
   refine(bind_eq (r:=(n3,())) ?_ _).trans ?_
   ·simp (disch:=omega) only[au,Int.toNat_natCast,wrap64,q3]
   refine(bw z3).trans ?_
   refine aI.trans ?_
   refine(bw (cC ?_)).trans ?_
   ·simp (disch:=omega) only[au,Int.toNat_natCast,wrap64]
   refine aI.trans ?_
   refine(bw (cC ?_)).trans ?_
   ·simp (disch:=omega) only[au,Int.toNat_natCast,wrap64]
   refine aI.trans ?_
   refine(bind_eq (r:=(s6,())) ?_ _).trans ?_
   ·simp (disch:=omega) only[au,Int.toNat_natCast,wrap64,e6]
   refine(bw (wD ?_)).trans ?_
   ·simp (disch:=omega) only[au,Int.toNat_natCast,wrap64]
   refine aI.trans ?_
   refine(bind_eq (r:=(n7,())) ?_ _).trans ?_
   ·simp (disch:=omega) only[au,Int.toNat_natCast,wrap64,q7]
   refine(bw z7).trans ?_
   refine aI.trans ?_
   refine(bw (cC ?_)).trans ?_
   ·simp (disch:=omega) only[au,Int.toNat_natCast,wrap64]
   refine aI.trans ?_
   refine(bw (cC ?_)).trans ?_
   ·simp (disch:=omega) only[au,Int.toNat_natCast,wrap64]
   refine aI.trans ?_
   refine(bw (cC ?_)).trans ?_
   ·simp (disch:=omega) only[au,Int.toNat_natCast,wrap64]
   refine aI.trans ?_
   refine(bind_eq (r:=(n11,())) ?_ _).trans ?_
   ·simp (disch:=omega) only[au,Int.toNat_natCast,wrap64,US]
   refine(bw z11).trans ?_
   refine aI.trans ?_
   refine(bw (cC ?_)).trans ?_
   ·simp (disch:=omega) only[au,Int.toNat_natCast,wrap64]
   refine aI.trans ?_
   refine(bw (cC ?_)).trans ?_
   ·simp (disch:=omega) only[au,Int.toNat_natCast,wrap64]
   refine aI.trans ?_
   refine(bw (cC ?_)).trans ?_
   ·simp (disch:=omega) only[au,Int.toNat_natCast,wrap64]
   refine aI.trans ?_
   refine(bw (cC ?_)).trans ?_
   ·simp (disch:=omega) only[au,Int.toNat_natCast,wrap64]
   simp (disch:=omega) only[wrap64,cz hd]
theorem zX (x:ar) (n:Int) (h1:1≤n) (h2:n+20*(ag aE x:Int)≤bu):∃(n9:Int) (y1:List ByteArray) (y2:List aG) (y3:List bF) (y4:List al) (y5:List aJ) (y6:List bl) (y7:List bz) (y8:List al) (y9:List aL) (y10:List bg),gf k x n=some (n9,(((x.1.1,(x.1.2.1,(x.1.2.2.1,(x.1.2.2.2.1,(x.1.2.2.2.2.1,y1))))),(x.2.1,(x.2.2.1,(y2,(y3,(y4,(x.2.2.2.2.2.2.1,(y5,(x.2.2.2.2.2.2.2.2.1,(y6,(y7,(y8,(y9,y10))))))))))))):ar))∧n≤n9∧n9≤n+20*(ag aE x:Int)∧fV k ((((x.1.1,(x.1.2.1,(x.1.2.2.1,(x.1.2.2.2.1,(x.1.2.2.2.2.1,y1))))),(x.2.1,(x.2.2.1,(y2,(y3,(y4,(x.2.2.2.2.2.2.1,(y5,(x.2.2.2.2.2.2.2.2.1,(y6,(y7,(y8,(y9,y10))))))))))))):ar),n,())=some (n9,()):=by
 unfold bu at h2
 have t0:=gP hk x
 have t1:=jh hk x.1
 obtain⟨n1,y1,e1,a1,b1,q1⟩:=IB hk (x.1.2.2.2.2.2) (n) (by omega) (by unfold bu;omega)
 have z1:decide (n1<0)=false:=by simp;omega
 obtain⟨n2,y2,e2,a2,b2,q2⟩:=MQ hk (x.2.2.2.1) (n1) (by omega) (by unfold bu;omega)
 have z2:decide (n2<0)=false:=by simp;omega
 obtain⟨n3,y3,e3,a3,b3,q3⟩:=N4 hk (x.2.2.2.2.1) (n2) (by omega) (by unfold bu;omega)
 have z3:decide (n3<0)=false:=by simp;omega
 obtain⟨n4,y4,e4,a4,b4,q4⟩:=eF hk (x.2.2.2.2.2.1) (n3) (by omega) (by unfold bu;omega)
 have z4:decide (n4<0)=false:=by simp;omega
 obtain⟨n5,y5,e5,a5,b5,q5⟩:=LH hk (x.2.2.2.2.2.2.2.1) (n4) (by omega) (by unfold bu;omega)
 have z5:decide (n5<0)=false:=by simp;omega
 obtain⟨n6,y6,e6,a6,b6,q6⟩:=LC hk (x.2.2.2.2.2.2.2.2.2.1) (n5) (by omega) (by unfold bu;omega)
 have z6:decide (n6<0)=false:=by simp;omega
 obtain⟨n7,y7,e7,a7,b7,q7⟩:=L9 hk (x.2.2.2.2.2.2.2.2.2.2.1) (n6) (by omega) (by unfold bu;omega)
 have z7:decide (n7<0)=false:=by simp;omega
 obtain⟨n8,y8,e8,a8,b8,q8⟩:=eF hk (x.2.2.2.2.2.2.2.2.2.2.2.1) (n7) (by omega) (by unfold bu;omega)
 have z8:decide (n8<0)=false:=by simp;omega
 obtain⟨n9,y9,e9,a9,b9,q9⟩:=Nj hk (x.2.2.2.2.2.2.2.2.2.2.2.2.1) (n8) (by omega) (by unfold bu;omega)
 have z9:decide (n9<0)=false:=by simp;omega
 obtain⟨n10,y10,e10,a10,b10,Mv⟩:=MK hk (x.2.2.2.2.2.2.2.2.2.2.2.2.2) (n9) (by omega) (by unfold bu;omega)
 have z10:decide (n10<0)=false:=by simp;omega
 refine⟨n10,y1,y2,y3,y4,y5,y6,y7,y8,y9,y10,?_,by omega,by omega,?_⟩
 ·simp only[gf,oX,e1,e2,e3,e4,e5,e6,e7,e8,e9,e10,Option.bind_some]
 ·simp only[fV,ov,q1,z1,q2,z2,q3,z3,q4,z4,q5,z5,q6,z6,q7,z7,q8,z8,q9,z9,Mv,z10,Option.bind_some,Bool.false_eq_true,if_false]
end
end Vg.Tryz
namespace Vg.Tryz
open Go Vg
set_option linter.unusedVariables false
set_option linter.unusedSectionVars false
set_option linter.unusedSimpArgs false
def Dd (s:ByteArray) (i:Nat):Bool:=decide (97≤bt s i)&&decide (bt s i≤122)
def eK (s:ByteArray):Bool:=decide (1≤s.size∧s.size≤8)&&bf 0 s.size (Dd s)
def rW (s:ByteArray) (i:Nat):Bool:=decide (32≤bt s i∧bt s i≤126∧bt s i≠34∧bt s i≠92)
def j8 (s:ByteArray):Bool:=decide (s.size≤12)&&bf 0 s.size (rW s)
def fl (x:ai):Bool:=eK x.1&&j8 x.2
def DZ (l:List ai) (i:Nat):Bool:=i==0||ly (l.getD (i-1) af.aa).1 (l.getD i af.aa).1
def eJ (l:List ai):Bool:=decide (l.length≤4)&&bf 0 l.length (fun i=>fl (l.getD i af.aa)&&DZ l i)
section
variable {k:Nat} (hk:9223372036854775808≤k)
include hk
theorem wa {s:ByteArray} (hs:s.size≤1048576):jI k (s,())=some (eK s,()):=by
 simp only[jI,aP]
 rw[show((s,(0:Int),()):ByteArray×Int×Unit)=(fun i:Nat=>(s,(i:Int),())) 0 from rfl]
 rw[bN (fun i:Nat=>(s,(i:Int),())) (Dd s) s.size (e:=some (decide (1≤s.size∧s.size≤8),())) (no:=some (false,())) ?_ ?_ k 0 (by omega)]
 ·unfold eK
  cases bf 0 s.size (Dd s)<;>simp
 ·intro G i hi
  simp only
  rw[aw,decide_eq_true hi,if_pos rfl,if_pos (aK hi),aK hi,Bool.or_true,if_pos rfl,aZ (by omega)]
  unfold Dd
  by_cases h1:bt s i<97<;>by_cases h2:bt s i>122<;>simp[h1,h2]<;>omega
 ·intro G i hi
  simp only
  rw[aw,decide_eq_false (by omega),if_neg (by simp)]
  simp only[bE,Option.bind_some]
  congr 2
  rw[Bool.eq_iff_iff]
  simp
  omega
theorem wF {s:ByteArray} (hs:s.size≤1048576):jC k (s,())=some (eK s,()):=by
 simp only[jC,bA,Option.bind_some]
 by_cases hb:1≤s.size∧s.size≤8
 ·rw[if_neg (by simp;omega)]
  rw[show((s,(0:Int),()):ByteArray×Int×Unit)=(fun i:Nat=>(s,(i:Int),())) 0 from rfl]
  rw[bN (fun i:Nat=>(s,(i:Int),())) (Dd s) s.size (e:=some (true,())) (no:=some (false,())) ?_ ?_ k 0 (by omega)]
  ·unfold eK
   cases bf 0 s.size (Dd s)<;>simp[hb]
  ·intro G i hi
   simp only
   rw[aw,decide_eq_true hi,if_pos rfl,if_pos (aK hi),aK hi,Bool.or_true,if_pos rfl,aZ (by omega)]
   unfold Dd
   by_cases h1:bt s i<97<;>by_cases h2:bt s i>122<;>simp[h1,h2]<;>omega
  ·intro G i hi
   simp only
   rw[aw,decide_eq_false (by omega),if_neg (by simp)]
 ·rw[if_pos (by simp;omega)]
  unfold eK
  simp[hb]
theorem tD {s:ByteArray} (hs:s.size≤1048576):iB k (s,())=some (j8 s,()):=by
 simp only[iB,aP]
 rw[show((s,(0:Int),()):ByteArray×Int×Unit)=(fun i:Nat=>(s,(i:Int),())) 0 from rfl]
 rw[bN (fun i:Nat=>(s,(i:Int),())) (rW s) s.size (e:=some (decide (s.size≤12),())) (no:=some (false,())) ?_ ?_ k 0 (by omega)]
 ·unfold j8
  cases bf 0 s.size (rW s)<;>simp
 ·intro G i hi
  simp only
  rw[aw,decide_eq_true hi,if_pos rfl,if_pos (aK hi),aK hi,Bool.or_true,if_pos rfl,Bool.or_true,if_pos rfl,Bool.or_true,if_pos rfl,aZ (by omega)]
  unfold rW
  by_cases h1:bt s i<32<;>by_cases h2:bt s i>126<;>by_cases h3:bt s i=34<;>by_cases h4:bt s i=92<;>simp[h1,h2,h3,h4]<;>omega
 ·intro G i hi
  simp only
  rw[aw,decide_eq_false (by omega),if_neg (by simp)]
  congr 2
  rw[Bool.eq_iff_iff]
  simp
  omega
theorem ub {s:ByteArray} (hs:s.size≤1048576):iJ k (s,())=some (j8 s,()):=by
 simp only[iJ]
 by_cases hb:s.size≤12
 ·rw[if_neg (by simp;omega)]
  rw[show((s,(0:Int),()):ByteArray×Int×Unit)=(fun i:Nat=>(s,(i:Int),())) 0 from rfl]
  rw[bN (fun i:Nat=>(s,(i:Int),())) (rW s) s.size (e:=some (true,())) (no:=some (false,())) ?_ ?_ k 0 (by omega)]
  ·unfold j8
   cases bf 0 s.size (rW s)<;>simp[hb]
  ·intro G i hi
   simp only
   rw[aw,decide_eq_true hi,if_pos rfl,if_pos (aK hi),aZ (by omega)]
   unfold rW
   by_cases h1:bt s i<32<;>by_cases h2:bt s i>126<;>by_cases h3:bt s i=34<;>by_cases h4:bt s i=92<;>simp[h1,h2,h3,h4]<;>omega
  ·intro G i hi
   simp only
   rw[aw,decide_eq_false (by omega),if_neg (by simp)]
 ·rw[if_pos (by simp;omega)]
  unfold j8
  simp[hb]
theorem FK {x:ai} (hs:ag af x≤1048576):lA k (x,())=some (fl x,()):=by
 rw[nN hk]at hs
 simp only[lA]
 rw[wa hk (by omega),tD hk (by omega)]
 simp only[bM,Option.bind_some,fl]
 cases eK x.1<;>simp
theorem Gp {x:ai} (hs:ag af x≤1048576):lH k (x,())=some (fl x,()):=by
 rw[nN hk]at hs
 simp only[lH]
 rw[wF hk (by omega),ub hk (by omega)]
 simp only[bM,Option.bind_some,fl]
 cases eK x.1<;>simp
theorem mZ {l:List ai} (hs:ag (.sl af) l≤1048576):fX k (l,())=some (eJ l,()):=by
 have hl:=aA (e:=af) (l:=l)
 simp only[fX,aP]
 rw[show((l,(0:Int),()):List ai×Int×Unit)=(fun i:Nat=>(l,(i:Int),())) 0 from rfl]
 rw[bN (fun i:Nat=>(l,(i:Int),())) (fun i=>fl (l.getD i af.aa)&&DZ l i) l.length (e:=some (decide (l.length≤4),())) (no:=some (false,())) ?_ ?_ k 0 (by omega)]
 ·unfold eJ
  cases bf 0 l.length (fun i=>fl (l.getD i af.aa)&&DZ l i)<;>simp
 ·intro G i hi
  simp only[Int.toNat_natCast]
  have hm:ag af (l.getD i af.aa)≤1048576:=Nat.le_trans (bo (e:=af) (ch hi)) hs
  rw[aw,decide_eq_true hi,if_pos rfl,if_pos (aK hi),FK hk hm,Option.bind_some,aZ (by omega),pY (by omega)]
  simp only
  rw[if_pos (by simp;omega),if_pos (by simp[hi])]
  simp only[eZ,bM,Option.bind_some]
  rw[show((i:Int)-1).toNat=i-1 by omega]
  unfold DZ ly
  cases fl (l.getD i af.aa)with
  |false=>simp
  |true=>
   by_cases h0:i=0
   ·subst h0;simp
   ·have h0':(0:Int)<(i:Int):=by omega
    have h0n:0<i:=by omega
    cases Op.bytesLess (ByteArray.toList (l.getD (i-1) af.aa).1) (ByteArray.toList (l.getD i af.aa).1)<;>simp[h0,h0',h0n]
 ·intro G i hi
  simp only
  rw[aw,decide_eq_false (by omega),if_neg (by simp)]
  congr 2
  rw[Bool.eq_iff_iff]
  simp
  omega
theorem mM {l:List ai} (hs:ag (.sl af) l≤1048576):gi k (l,())=some (eJ l,()):=by
 have hl:=aA (e:=af) (l:=l)
 simp only[gi]
 rw[show((l,l,(l.length:Int),(0:Int),()):List ai×List ai×Int×Int×Unit)=(fun i:Nat=>(l,l,(l.length:Int),(i:Int),())) 0 from rfl]
 rw[bN (fun i:Nat=>(l,l,(l.length:Int),(i:Int),())) (fun i=>decide (i<4)&&(fl (l.getD i af.aa)&&DZ l i)) l.length (e:=some (true,())) (no:=some (false,())) ?_ ?_ k 0 (by omega)]
 ·unfold eJ
  rw[DE,Pj]
  cases bf 0 l.length (fun i=>fl (l.getD i af.aa)&&DZ l i)<;>by_cases h:l.length≤4<;>simp[h]
 ·intro G i hi
  simp only[Int.toNat_natCast]
  have hm:ag af (l.getD i af.aa)≤1048576:=Nat.le_trans (bo (e:=af) (ch hi)) hs
  rw[aw,decide_eq_true hi,if_pos rfl,if_pos (aK hi),Gp hk hm,aZ (by omega),pY (by omega)]
  simp only[bM,Option.bind_some]
  rw[show((i:Int)-1).toNat=i-1 by omega]
  rw[if_pos (by simp;omega)]
  unfold DZ ly
  by_cases h4:i<4
  ·have h4':¬(4:Int)≤(i:Int):=by omega
   cases fl (l.getD i af.aa)with
   |false=>simp[h4,h4']
   |true=>
    by_cases h0:i=0
    ·subst h0;simp
    ·have h0':(0:Int)<(i:Int):=by omega
     have h0n:0<i:=by omega
     cases Op.bytesLess (ByteArray.toList (l.getD (i-1) af.aa).1) (ByteArray.toList (l.getD i af.aa).1)<;>simp[h0,h0',h0n,h4,h4']
  ·have h4':(4:Int)≤(i:Int):=by omega
   simp[h4,h4']
 ·intro G i hi
  simp only
  rw[aw,decide_eq_false (by omega),if_neg (by simp)]
end
end Vg.Tryz
namespace Vg.Tryz
open Go Vg
set_option linter.unusedVariables false
set_option linter.unusedSectionVars false
set_option linter.unusedSimpArgs false
def bH (n a b:Int):Bool:=decide (a≤n)&&decide (n≤b)
def rL (l:List ByteArray):Bool:=bf 1 l.length (fun i=>ly (l.getD (i-1) ByteArray.empty) (l.getD i ByteArray.empty))
def MH (l:List ByteArray):Bool:=bf 0 l.length (fun i=>eK (l.getD i ByteArray.empty))&&(decide (l.length≤2)&&rL l)
def gV (c:cg):Bool:=bH c.1 1 3&&bH c.2.1 1 8&&bH c.2.2.1 1 2&&bH c.2.2.2.1 1 9&&bH c.2.2.2.2.1 1 9&&MH c.2.2.2.2.2
def bZ (a:al):Bool:=eJ a.1&&decide (0<a.1.length)&&bH a.2.1 0 99999&&bH a.2.2.1 a.2.1 99999&&j8 a.2.2.2
def ck (l:List al):Bool:=bf 0 l.length (fun i=>bZ (l.getD i ab.aa))
theorem wZ (a b:Bool):(if a=true then b else false)=(a&&b):=by cases a<;>rfl
section
variable {k:Nat} (hk:9223372036854775808≤k)
include hk
theorem fc (n a b:Int):bE k (n,a,b,())=some (bH n a b,()):=by
 simp only[bE,bH,wZ]
theorem et (n a b:Int):bA k (n,a,b,())=some (bH n a b,()):=by
 simp only[bA,bH,wZ]
theorem uI {l:List ByteArray} (hl:l.length≤1048576):fQ k (l,())=some (rL l,()):=by
 simp only[fQ]
 rw[show((l,(1:Int),()):List ByteArray×Int×Unit)=(fun i:Nat=>(l,((i+1:Nat):Int),())) 0 from rfl]
 rw[bN (fun i:Nat=>(l,((i+1:Nat):Int),())) (fun i=>ly (l.getD i ByteArray.empty) (l.getD (i+1) ByteArray.empty)) (l.length-1) (e:=some (true,())) (no:=some (false,())) ?_ ?_ k 0 (by omega)]
 ·have:rL l=bf 0 (l.length-1) (fun i=>ly (l.getD i ByteArray.empty) (l.getD (i+1) ByteArray.empty)):=by
   unfold rL
   rw[Bool.eq_iff_iff,eh,eh]
   constructor
   ·intro h i _ h2;have:=h (i+1) (by omega) (by omega);simpa using this
   ·intro h i h1 h2;have:=h (i-1) (by omega) (by omega);rw[show i-1+1=i by omega]at this;exact this
  rw[this]
  cases bf 0 (l.length-1) (fun i=>ly (l.getD i ByteArray.empty) (l.getD (i+1) ByteArray.empty))<;>rfl
 ·intro G i hi
  simp only[Int.toNat_natCast]
  rw[aw,decide_eq_true (by omega),if_pos rfl,pY (by omega),aZ (by omega)]
  rw[if_pos (by simp;omega),if_pos (by simp;omega)]
  simp only[eZ,Option.bind_some]
  rw[show(((i+1:Nat):Int)-1).toNat=i by omega]
  unfold ly
  cases Op.bytesLess (ByteArray.toList (l.getD i ByteArray.empty)) (ByteArray.toList (l.getD (i+1) ByteArray.empty))<;>simp
 ·intro G i hi
  simp only
  rw[aw,decide_eq_false (by omega),if_neg (by simp)]
theorem P0 (l:List ByteArray):lK k (l,())=fQ k (l,()):=by
 simp only[fQ,lK,eZ,Option.bind_some]
theorem M5 {l:List ByteArray} (hs:ag (.sl .str) l≤1048576):pS k (l,())=some (MH l,()):=by
 have hl:=aA (e:= .str) (l:=l)
 simp only[pS,aP]
 rw[show((l,(0:Int),()):List ByteArray×Int×Unit)=(fun i:Nat=>(l,(i:Int),())) 0 from rfl]
 rw[bN (fun i:Nat=>(l,(i:Int),())) (fun i=>eK (l.getD i ByteArray.empty)) l.length (e:=some (decide (l.length≤2)&&rL l,())) (no:=some (false,())) ?_ ?_ k 0 (by omega)]
 ·unfold MH
  cases bf 0 l.length (fun i=>eK (l.getD i ByteArray.empty))<;>simp
 ·intro G i hi
  simp only[Int.toNat_natCast]
  have hm:ag .str (l.getD i ByteArray.empty)≤1048576:=Nat.le_trans (bo (e:= .str) (ch hi)) hs
  rw[aw,decide_eq_true hi,if_pos rfl,if_pos (aK hi),wa hk hm,Option.bind_some,aZ (by omega)]
  cases eK (l.getD i ByteArray.empty)<;>simp
 ·intro G i hi
  simp only
  rw[aw,decide_eq_false (by omega),if_neg (by simp),uI hk (by omega)]
  simp only[bM,Option.bind_some]
  by_cases h:l.length≤2
  ·have h':(l.length:Int)≤2:=by omega
   simp[h,h']
  ·have h':¬(l.length:Int)≤2:=by omega
   simp[h,h']
theorem MW {l:List ByteArray} (hs:ag (.sl .str) l≤1048576):pT k (l,())=some (MH l,()):=by
 have hl:=aA (e:= .str) (l:=l)
 simp only[pT,aP]
 rw[show((l,l,(l.length:Int),(0:Int),()):List ByteArray×List ByteArray×Int×Int×Unit)=(fun i:Nat=>(l,l,(l.length:Int),(i:Int),())) 0 from rfl]
 rw[bN (fun i:Nat=>(l,l,(l.length:Int),(i:Int),())) (fun i=>eK (l.getD i ByteArray.empty)) l.length (e:=some (decide (l.length≤2)&&rL l,())) (no:=some (false,())) ?_ ?_ k 0 (by omega)]
 ·unfold MH
  cases bf 0 l.length (fun i=>eK (l.getD i ByteArray.empty))<;>simp
 ·intro G i hi
  simp only[Int.toNat_natCast]
  have hm:ag .str (l.getD i ByteArray.empty)≤1048576:=Nat.le_trans (bo (e:= .str) (ch hi)) hs
  rw[aw,decide_eq_true hi,if_pos rfl,if_pos (aK hi),wF hk hm,Option.bind_some,aZ (by omega)]
  cases eK (l.getD i ByteArray.empty)<;>simp
 ·intro G i hi
  simp only
  rw[aw,decide_eq_false (by omega),if_neg (by simp),P0 hk,uI hk (by omega)]
  simp only[bM,Option.bind_some]
  by_cases h:l.length≤2
  ·have h':(l.length:Int)≤2:=by omega
   simp[h,h']
  ·have h':¬(l.length:Int)≤2:=by omega
   simp[h,h']
theorem H5 {c:cg} (hs:ag bC c≤1048576):mJ k (c,())=some (gV c,()):=by
 rw[jh hk]at hs
 simp only[mJ,fc hk,M5 hk hs,bM,Option.bind_some,gV]
 generalize bH c.1 1 3=b1
 generalize bH c.2.1 1 8=b2
 generalize bH c.2.2.1 1 2=b3
 generalize bH c.2.2.2.1 1 9=b4
 generalize bH c.2.2.2.2.1 1 9=b5
 cases b1<;>cases b2<;>cases b3<;>cases b4<;>cases b5<;>simp
theorem HQ {c:cg} (hs:ag bC c≤1048576):mR k (c,())=some (gV c,()):=by
 rw[jh hk]at hs
 simp only[mR,et hk,MW hk hs,bM,Option.bind_some,gV]
 generalize bH c.1 1 3=b1
 generalize bH c.2.1 1 8=b2
 generalize bH c.2.2.1 1 2=b3
 generalize bH c.2.2.2.1 1 9=b4
 generalize bH c.2.2.2.2.1 1 9=b5
 cases b1<;>cases b2<;>cases b3<;>cases b4<;>cases b5<;>simp
theorem OX (l:List ai):decide ((l.length:Int)>0)=decide (0<l.length):=by simp
theorem fk {a:al} (hs:ag ab a≤1048576):dr k (a,())=some (bZ a,()):=by
 rw[cj hk]at hs
 simp only[dr,fc hk,mZ hk (show ag (.sl af) a.1≤1048576 by omega),tD hk (show a.2.2.2.size≤1048576 by omega),bM,Option.bind_some,bZ,OX hk]
 generalize eJ a.1=b1
 generalize decide (0<a.1.length)=b2
 generalize bH a.2.1 0 99999=b3
 generalize bH a.2.2.1 a.2.1 99999=b4
 cases b1<;>cases b2<;>cases b3<;>cases b4<;>simp
theorem gX {a:al} (hs:ag ab a≤1048576):dP k (a,())=some (bZ a,()):=by
 rw[cj hk]at hs
 simp only[dP,et hk,mM hk (show ag (.sl af) a.1≤1048576 by omega),ub hk (show a.2.2.2.size≤1048576 by omega),bM,Option.bind_some,bZ,OX hk]
 generalize eJ a.1=b1
 generalize decide (0<a.1.length)=b2
 generalize bH a.2.1 0 99999=b3
 generalize bH a.2.2.1 a.2.1 99999=b4
 cases b1<;>cases b2<;>cases b3<;>cases b4<;>simp
theorem pK {l:List al} (hs:ag (.sl ab) l≤1048576):gq k (l,())=some (ck l,()):=by
 have hl:=aA (e:=ab) (l:=l)
 simp only[gq]
 rw[show((l,(0:Int),()):List al×Int×Unit)=(fun i:Nat=>(l,(i:Int),())) 0 from rfl]
 rw[bN (fun i:Nat=>(l,(i:Int),())) (fun i=>bZ (l.getD i ab.aa)) l.length (e:=some (true,())) (no:=some (false,())) ?_ ?_ k 0 (by omega)]
 ·unfold ck
  cases bf 0 l.length (fun i=>bZ (l.getD i ab.aa))<;>simp
 ·intro G i hi
  simp only[Int.toNat_natCast]
  have hm:ag ab (l.getD i ab.aa)≤1048576:=Nat.le_trans (bo (e:=ab) (ch hi)) hs
  rw[aw,decide_eq_true hi,if_pos rfl,if_pos (aK hi),fk hk hm,Option.bind_some,aZ (by omega)]
  cases bZ (l.getD i ab.aa)<;>simp
 ·intro G i hi
  simp only
  rw[aw,decide_eq_false (by omega),if_neg (by simp)]
theorem jl {l:List al} (hs:ag (.sl ab) l≤1048576):ez k (l,())=some (ck l,()):=by
 have hl:=aA (e:=ab) (l:=l)
 simp only[ez]
 rw[show((l,(l.length:Int),(0:Int),()):List al×Int×Int×Unit)=(fun i:Nat=>(l,(l.length:Int),(i:Int),())) 0 from rfl]
 rw[bN (fun i:Nat=>(l,(l.length:Int),(i:Int),())) (fun i=>bZ (l.getD i ab.aa)) l.length (e:=some (true,())) (no:=some (false,())) ?_ ?_ k 0 (by omega)]
 ·unfold ck
  cases bf 0 l.length (fun i=>bZ (l.getD i ab.aa))<;>simp
 ·intro G i hi
  simp only[Int.toNat_natCast]
  have hm:ag ab (l.getD i ab.aa)≤1048576:=Nat.le_trans (bo (e:=ab) (ch hi)) hs
  rw[aw,decide_eq_true hi,if_pos rfl,if_pos (aK hi),gX hk hm,Option.bind_some,aZ (by omega)]
  cases bZ (l.getD i ab.aa)<;>simp
 ·intro G i hi
  simp only
  rw[aw,decide_eq_false (by omega),if_neg (by simp)]
end
end Vg.Tryz
namespace Vg.Tryz
open Go Vg
set_option linter.unusedVariables false
set_option linter.unusedSectionVars false
set_option linter.unusedSimpArgs false
def hasB (by_:List ByteArray) (s:ByteArray):Bool:= !bf 0 by_.length (fun i=> !((by_.getD i ByteArray.empty).toList==s.toList))
def keyOf (a:al) (by_:List ByteArray):List ai:=a.1.filter (fun x=>hasB by_ x.1)
def xv (l:List al) (i:Nat):Bool:=i==0||bU (l.getD (i-1) ab.aa).1 (l.getD i ab.aa).1
def vX (l:List al) (key:List ai) (by_:List ByteArray):Bool:=
 bf 0 l.length (fun i=>bZ (l.getD i ab.aa)&&(decide (keyOf (l.getD i ab.aa) by_=key)&&xv l i))
def iu (g:aJ) (by_:List ByteArray):Bool:=
 decide (0≤g.1)&&(eJ g.2.1&&(bH g.2.2.1 0 99999&&((decide (g.2.2.2.1= -1)||bH g.2.2.2.1 g.2.2.1 99999)&&(decide (0<g.2.2.2.2.length)&&vX g.2.2.2.2 g.2.1 by_))))
def DQ (l:List aJ) (i:Nat):Bool:=i==0||decide ((l.getD (i-1) aj.aa).1<(l.getD i aj.aa).1)
def mA (l:List aJ) (i:Nat):Bool:=bf 0 i (fun j=> !decide ((l.getD j aj.aa).2.1=(l.getD i aj.aa).2.1))
def ny (l:List aJ) (by_:List ByteArray):Bool:=
 decide (l.length≤12)&&bf 0 l.length (fun i=>iu (l.getD i aj.aa) by_&&(DQ l i&&mA l i))
def pV (s:bF):Bool:=decide (s.1.length≤3)&&((!s.2||decide (s.1.length=0))&&ck s.1)
def jS (a:al):Bool:=bZ a&&decide (a.2.2.1≤99899)
section
variable {k:Nat} (hk:9223372036854775808≤k)
include hk
theorem dT {a b:List ai} (ha:a.length≤1048576):cK k (a,b,())=some (decide (a=b),()):=by
 simp only[cK]
 by_cases hl:a.length=b.length
 ·rw[if_neg (by simp[hl])]
  rw[fp (g:=fun(s:List ai×List ai×Int×Unit)=>some (decide (a.drop s.2.2.1.toNat=b.drop s.2.2.1.toNat),())) (m:=fun(s:List ai×List ai×Int×Unit)=>a.length-s.2.2.1.toNat)
   (I:=fun(s:List ai×List ai×Int×Unit)=>s.1=a∧s.2.1=b∧0≤s.2.2.1∧s.2.2.1≤(a.length:Int))]
  ·simp
  ·rintro G ⟨a',b',i,u⟩ ⟨e1,e2,hi0,hi1⟩ hG
   change a'=a at e1
   change b'=b at e2
   subst e1 e2
   simp only at hi0 hi1 hG⊢
   by_cases hi:i<(a'.length:Int)
   ·have h1:i.toNat<a'.length:=by omega
    have h2:i.toNat<b'.length:=by omega
    rw[if_pos (by simpa using hi),if_pos (by simpa using⟨hi0,hi⟩),if_pos (by simpa using⟨hi0,by omega⟩)]
    rw[du (d:=af.aa) h1,du (d:=af.aa) h2]
    by_cases he:a'.getD i.toNat af.aa=b'.getD i.toNat af.aa
    ·have hq:eqv af (a'.getD i.toNat af.aa) (b'.getD i.toNat af.aa)=true:=(rK rfl).2 he
     rw[if_neg (by rw[hq];simp),wrap64 (by omega) (by omega),hG (a',b',i+1,()) ⟨rfl,rfl,by simp only;omega,by simp only;omega⟩ (by simp only;omega)]
     simp only[he,List.cons.injEq,true_and]
     rw[show(i+1).toNat=i.toNat+1 by omega]
    ·have hq:eqv af (a'.getD i.toNat af.aa) (b'.getD i.toNat af.aa)=false:=by
      rw[Bool.eq_false_iff];exact fun h=>he ((rK rfl).1 h)
     rw[if_pos (by rw[hq];rfl)]
     simp only[List.cons.injEq,he,false_and,decide_false]
   ·rw[if_neg (by simpa using hi),List.drop_eq_nil_of_le (by omega),List.drop_eq_nil_of_le (by omega)]
    simp
  ·exact⟨rfl,rfl,by simp,by simp⟩
  ·simp only
   omega
 ·rw[if_pos (by simp;omega)]
  have:a≠b:=fun e=>hl (by rw[e])
  simp[this]
theorem eC {a b:List ai} (ha:a.length≤1048576):cL k (a,b,())=some (decide (a=b),()):=by
 simp only[cL]
 by_cases hl:a.length=b.length
 ·rw[if_neg (by simp[hl])]
  rw[fp (g:=fun(s:List ai×List ai×Int×Int×Unit)=>some (decide (a.drop s.2.2.2.1.toNat=b.drop s.2.2.2.1.toNat),())) (m:=fun(s:List ai×List ai×Int×Int×Unit)=>a.length-s.2.2.2.1.toNat)
   (I:=fun(s:List ai×List ai×Int×Int×Unit)=>s.1=a∧s.2.1=b∧s.2.2.1=(a.length:Int)∧0≤s.2.2.2.1∧s.2.2.2.1≤(a.length:Int))]
  ·simp
  ·rintro G ⟨a',b',n,i,u⟩ ⟨e1,e2,e3,hi0,hi1⟩ hG
   change a'=a at e1
   change b'=b at e2
   change n=_ at e3
   subst e1 e2 e3
   simp only at hi0 hi1 hG⊢
   by_cases hi:i<(a'.length:Int)
   ·have h1:i.toNat<a'.length:=by omega
    have h2:i.toNat<b'.length:=by omega
    rw[if_pos (by simpa using hi),if_pos (by simpa using⟨hi0,hi⟩),if_pos (by simpa using⟨hi0,by omega⟩)]
    rw[du (d:=af.aa) h1,du (d:=af.aa) h2]
    by_cases he:a'.getD i.toNat af.aa=b'.getD i.toNat af.aa
    ·have hq:eqv af (a'.getD i.toNat af.aa) (b'.getD i.toNat af.aa)=true:=(rK rfl).2 he
     rw[if_neg (by rw[hq];simp),wrap64 (by omega) (by omega),hG (a',b',_,i+1,()) ⟨rfl,rfl,rfl,by simp only;omega,by simp only;omega⟩ (by simp only;omega)]
     simp only[he,List.cons.injEq,true_and]
     rw[show(i+1).toNat=i.toNat+1 by omega]
    ·have hq:eqv af (a'.getD i.toNat af.aa) (b'.getD i.toNat af.aa)=false:=by
      rw[Bool.eq_false_iff];exact fun h=>he ((rK rfl).1 h)
     rw[if_pos (by rw[hq];rfl)]
     simp only[List.cons.injEq,he,false_and,decide_false]
   ·rw[if_neg (by simpa using hi),List.drop_eq_nil_of_le (by omega),List.drop_eq_nil_of_le (by omega)]
    simp
  ·exact⟨rfl,rfl,rfl,by simp,by simp⟩
  ·simp only
   omega
 ·rw[if_pos (by simp;omega)]
  have:a≠b:=fun e=>hl (by rw[e])
  simp[this]
theorem og {a b:List ai} (ha:a.length≤1048576):iW k (a,b,())=some (bU a b,()):=by
 simp only[iW,aP]
 rw[fp (g:=fun(s:List ai×List ai×Int×Unit)=>some (bU (a.drop s.2.2.1.toNat) (b.drop s.2.2.1.toNat),())) (m:=fun(s:List ai×List ai×Int×Unit)=>a.length-s.2.2.1.toNat)
  (I:=fun(s:List ai×List ai×Int×Unit)=>s.1=a∧s.2.1=b∧0≤s.2.2.1∧s.2.2.1≤(a.length:Int)∧s.2.2.1≤(b.length:Int))]
 ·simp
 ·rintro G ⟨a',b',i,u⟩ ⟨e1,e2,hi0,hi1,hi2⟩ hG
  change a'=a at e1
  change b'=b at e2
  subst e1 e2
  simp only at hi0 hi1 hi2 hG⊢
  by_cases hi:i<(a'.length:Int)∧i<(b'.length:Int)
  ·have h1:i.toNat<a'.length:=by omega
   have h2:i.toNat<b'.length:=by omega
   have ca:decide (0≤i∧i<(a'.length:Int))=true:=by simpa using⟨hi0,hi.1⟩
   have cb:decide (0≤i∧i<(b'.length:Int))=true:=by simpa using⟨hi0,hi.2⟩
   rw[if_pos (by simp[hi.1,hi.2])]
   simp only[ca,cb,if_true]
   rw[du (d:=af.aa) h1,du (d:=af.aa) h2]
   simp only[bU,ly]
   rw[wrap64 (by omega) (by omega),hG (a',b',i+1,()) ⟨rfl,rfl,by simp only;omega,by simp only;omega,by simp only;omega⟩ (by simp only;omega)]
   simp only
   rw[show(i+1).toNat=i.toNat+1 by omega]
   cases (ByteArray.toList (a'.getD i.toNat af.aa).1==ByteArray.toList (b'.getD i.toNat af.aa).1)<;>cases (ByteArray.toList (a'.getD i.toNat af.aa).2==ByteArray.toList (b'.getD i.toNat af.aa).2)<;>simp
  ·rw[if_neg (by simp;omega)]
   by_cases ha':i<(a'.length:Int)
   ·have h1:i.toNat<a'.length:=by omega
    rw[du (d:=af.aa) h1,List.drop_eq_nil_of_le (show b'.length≤i.toNat by omega)]
    simp only[bU]
    congr 2
    simp;omega
   ·rw[List.drop_eq_nil_of_le (show a'.length≤i.toNat by omega)]
    simp only[bU]
    congr 2
    by_cases hb':i<(b'.length:Int)
    ·have h2:i.toNat<b'.length:=by omega
     rw[du (d:=af.aa) h2]
     simp;omega
    ·rw[List.drop_eq_nil_of_le (show b'.length≤i.toNat by omega)]
     simp;omega
 ·exact⟨rfl,rfl,by simp,by simp,by simp⟩
 ·simp only
  omega
theorem oA {a b:List ai} (ha:a.length≤1048576):iD k (a,b,())=some (bU a b,()):=by
 rw[←og hk ha]
 simp only[iW,iD,eZ,Option.bind_some]
theorem OE {l:List ByteArray} {s:ByteArray} (hl:l.length≤1048576):nR k (l,s,())=some (hasB l s,()):=by
 simp only[nR]
 rw[show((l,s,(0:Int),()):List ByteArray×ByteArray×Int×Unit)=(fun i:Nat=>(l,s,(i:Int),())) 0 from rfl]
 rw[NC (fun i:Nat=>(l,s,(i:Int),())) (fun i=>(l.getD i ByteArray.empty).toList==s.toList) l.length (e:=some (false,())) (yes:=some (true,())) ?_ ?_ k 0 (by omega)]
 ·unfold hasB
  cases bf 0 l.length (fun i=> !((l.getD i ByteArray.empty).toList==s.toList))<;>simp
 ·intro G i hi
  simp only[Int.toNat_natCast]
  rw[aw,decide_eq_true hi,if_pos rfl,if_pos (aK hi),aZ (by omega)]
 ·intro G i hi
  simp only
  rw[aw,decide_eq_false (by omega),if_neg (by simp)]
theorem OJ {l:List ByteArray} {s:ByteArray} (hl:l.length≤1048576):lT k (l,s,())=some (hasB l s,()):=by
 simp only[lT]
 rw[show((s,l,(l.length:Int),(0:Int),()):ByteArray×List ByteArray×Int×Int×Unit)=(fun i:Nat=>(s,l,(l.length:Int),(i:Int),())) 0 from rfl]
 rw[NC (fun i:Nat=>(s,l,(l.length:Int),(i:Int),())) (fun i=>(l.getD i ByteArray.empty).toList==s.toList) l.length (e:=some (false,())) (yes:=some (true,())) ?_ ?_ k 0 (by omega)]
 ·unfold hasB
  cases bf 0 l.length (fun i=> !((l.getD i ByteArray.empty).toList==s.toList))<;>simp
 ·intro G i hi
  simp only[Int.toNat_natCast]
  rw[aw,decide_eq_true hi,if_pos rfl,if_pos (aK hi),aZ (by omega)]
 ·intro G i hi
  simp only
  rw[aw,decide_eq_false (by omega),if_neg (by simp)]
theorem Lj {a:al} {by_:List ByteArray} (ha:ag ab a≤1048576) (hb:by_.length≤1048576):oQ k (a,by_,())=some (keyOf a by_,()):=by
 have hl:=aA (e:=af) (l:=a.1)
 rw[cj hk]at ha
 simp only[oQ,pC]
 rw[fp (g:=fun(s:List ai×List ByteArray×List ai×Int×Unit)=>some (s.2.2.1++(a.1.drop s.2.2.2.1.toNat).filter (fun x=>hasB by_ x.1),())) (m:=fun(s:List ai×List ByteArray×List ai×Int×Unit)=>a.1.length-s.2.2.2.1.toNat)
  (I:=fun(s:List ai×List ByteArray×List ai×Int×Unit)=>s.1=a.1∧s.2.1=by_∧0≤s.2.2.2.1∧s.2.2.2.1≤(a.1.length:Int)∧s.2.2.1.length≤s.2.2.2.1.toNat)]
 ·simp[keyOf]
 ·rintro G ⟨l',y',o,i,u⟩ ⟨e1,e2,hi0,hi1,ho⟩ hG
  change l'=_ at e1
  change y'=by_ at e2
  subst e1 e2
  simp only at hi0 hi1 ho hG⊢
  by_cases hi:i<(a.1.length:Int)
  ·have h1:i.toNat<a.1.length:=by omega
   rw[if_pos (by simpa using hi),if_pos (by simpa using⟨hi0,hi⟩),OE hk hb,Option.bind_some,du (d:=af.aa) h1,wrap64 (by omega) (by omega)]
   cases hh:hasB y' (a.1.getD i.toNat af.aa).1 with
   |true=>
    rw[if_pos rfl,if_pos (by simpa using⟨hi0,hi⟩),if_pos (by simp;omega)]
    rw[hG (a.1,y',o++[a.1.getD i.toNat af.aa],i+1,()) ⟨rfl,rfl,by simp only;omega,by simp only;omega,by simp;omega⟩ (by simp only;omega)]
    simp only
    rw[show(i+1).toNat=i.toNat+1 by omega,List.filter_cons_of_pos (by simpa using hh)]
    simp
   |false=>
    rw[if_neg (by simp)]
    rw[hG (a.1,y',o,i+1,()) ⟨rfl,rfl,by simp only;omega,by simp only;omega,by simp only;omega⟩ (by simp only;omega)]
    simp only
    rw[show(i+1).toNat=i.toNat+1 by omega,List.filter_cons_of_neg (by rw[hh];simp)]
  ·rw[if_neg (by simpa using hi),List.drop_eq_nil_of_le (by omega)]
   simp
 ·exact⟨rfl,rfl,by simp,by simp,by simp⟩
 ·simp only
  omega
theorem KQ {a:al} {by_:List ByteArray} (ha:ag ab a≤1048576) (hb:by_.length≤1048576):oe k (a,by_,())=some (keyOf a by_,()):=by
 have hl:=aA (e:=af) (l:=a.1)
 rw[cj hk]at ha
 simp only[oe,pM]
 rw[fp (g:=fun(s:List ByteArray×List ai×List ai×Int×Int×Unit)=>some (s.2.1++(a.1.drop s.2.2.2.2.1.toNat).filter (fun x=>hasB by_ x.1),())) (m:=fun(s:List ByteArray×List ai×List ai×Int×Int×Unit)=>a.1.length-s.2.2.2.2.1.toNat)
  (I:=fun(s:List ByteArray×List ai×List ai×Int×Int×Unit)=>s.1=by_∧s.2.2.1=a.1∧s.2.2.2.1=(a.1.length:Int)∧0≤s.2.2.2.2.1∧s.2.2.2.2.1≤(a.1.length:Int)∧s.2.1.length≤s.2.2.2.2.1.toNat)]
 ·simp[keyOf]
 ·rintro G ⟨y',o,l',n,i,u⟩ ⟨e2,e1,e3,hi0,hi1,ho⟩ hG
  change l'=_ at e1
  change y'=by_ at e2
  change n=_ at e3
  subst e1 e2 e3
  simp only at hi0 hi1 ho hG⊢
  by_cases hi:i<(a.1.length:Int)
  ·have h1:i.toNat<a.1.length:=by omega
   rw[if_pos (by simpa using hi),if_pos (by simpa using⟨hi0,hi⟩),OJ hk hb,Option.bind_some,du (d:=af.aa) h1,wrap64 (by omega) (by omega)]
   cases hh:hasB y' (a.1.getD i.toNat af.aa).1 with
   |true=>
    rw[if_pos rfl,if_pos (by simp;omega)]
    rw[hG (y',o++[a.1.getD i.toNat af.aa],a.1,_,i+1,()) ⟨rfl,rfl,rfl,by simp only;omega,by simp only;omega,by simp;omega⟩ (by simp only;omega)]
    simp only
    rw[show(i+1).toNat=i.toNat+1 by omega,List.filter_cons_of_pos (by simpa using hh)]
    simp
   |false=>
    rw[if_neg (by simp)]
    rw[hG (y',o,a.1,_,i+1,()) ⟨rfl,rfl,rfl,by simp only;omega,by simp only;omega,by simp only;omega⟩ (by simp only;omega)]
    simp only
    rw[show(i+1).toNat=i.toNat+1 by omega,List.filter_cons_of_neg (by rw[hh];simp)]
  ·rw[if_neg (by simpa using hi),List.drop_eq_nil_of_le (by omega)]
   simp
 ·exact⟨rfl,rfl,rfl,by simp,by simp,by simp⟩
 ·simp only
  omega
theorem Kw (a:al) (by_:List ByteArray):(keyOf a by_).length≤a.1.length:=List.length_filter_le ..
end
end Vg.Tryz
namespace Vg.Tryz
open Go Vg
set_option linter.unusedVariables false
set_option linter.unusedSectionVars false
set_option linter.unusedSimpArgs false
section
variable {k:Nat} (hk:9223372036854775808≤k)
include hk
theorem gj {l:List al} {i:Nat} (hs:ag (.sl ab) l≤1048576) (hi:i<l.length):ag ab (l.getD i ab.aa)≤1048576∧(l.getD i ab.aa).1.length≤1048576:=by
 have hm:ag ab (l.getD i ab.aa)≤1048576:=Nat.le_trans (bo (e:=ab) (ch hi)) hs
 refine⟨hm,?_⟩
 rw[cj hk]at hm
 have:=aA (e:=af) (l:=(l.getD i ab.aa).1)
 omega
theorem GI {l:List al} {key:List ai} {by_:List ByteArray} (hs:ag (.sl ab) l≤1048576) (hb:by_.length≤1048576):lV k (l,key,by_,())=some (vX l key by_,()):=by
 have hl:=aA (e:=ab) (l:=l)
 simp only[lV]
 rw[show((l,key,by_,l,(l.length:Int),(0:Int),()):List al×List ai×List ByteArray×List al×Int×Int×Unit)=(fun i:Nat=>(l,key,by_,l,(l.length:Int),(i:Int),())) 0 from rfl]
 rw[bN (fun i:Nat=>(l,key,by_,l,(l.length:Int),(i:Int),())) (fun i=>bZ (l.getD i ab.aa)&&(decide (keyOf (l.getD i ab.aa) by_=key)&&xv l i)) l.length (e:=some (true,())) (no:=some (false,())) ?_ ?_ k 0 (by omega)]
 ·unfold vX
  cases bf 0 l.length (fun i=>bZ (l.getD i ab.aa)&&(decide (keyOf (l.getD i ab.aa) by_=key)&&xv l i))<;>simp
 ·intro G i hi
  simp only[Int.toNat_natCast]
  obtain⟨hm,hml⟩:=gj hk hs hi
  have hkl:=Kw hk (l.getD i ab.aa) by_
  rw[aw,decide_eq_true hi,if_pos rfl,if_pos (aK hi),gX hk hm,Option.bind_some,KQ hk hm hb,aZ (by omega),pY (by omega)]
  simp only[bM,Option.bind_some]
  rw[show((i:Int)-1).toNat=i-1 by omega]
  cases bZ (l.getD i ab.aa)with
  |false=>simp
  |true=>
   simp only[Bool.not_true,beq_self_eq_true,if_true]
   rw[eC hk (by omega)]
   simp only[Option.bind_some]
   by_cases hq:keyOf (l.getD i ab.aa) by_=key
   ·by_cases h0:i=0
    ·subst h0
     simp[hq,xv,-List.getD_eq_getElem?_getD]
    ·have h0':(0:Int)<(i:Int):=by omega
     have h0n:0<i:=by omega
     obtain⟨hm1,hml1⟩:=gj hk hs (show i-1<l.length by omega)
     rw[if_pos (by simp;omega),og hk hml1]
     unfold xv
     cases bU (l.getD (i-1) ab.aa).1 (l.getD i ab.aa).1<;>simp[hq,h0,h0',h0n,-List.getD_eq_getElem?_getD]
   ·simp[hq,-List.getD_eq_getElem?_getD]
 ·intro G i hi
  simp only
  rw[aw,decide_eq_false (by omega),if_neg (by simp)]
theorem FT {g:aJ} {by_:List ByteArray} (hs:ag aj g≤1048576) (hb:by_.length≤1048576):lG k (g,by_,())=some (iu g by_,()):=by
 rw[gU hk]at hs
 simp only[lG,et hk,mM hk (show ag (.sl af) g.2.1≤1048576 by omega),GI hk (show ag (.sl ab) g.2.2.2.2≤1048576 by omega) hb,bM,Option.bind_some,iu]
 have e1:decide (g.1<(0:Int))= !decide (0≤g.1):=by rw[Bool.eq_iff_iff];simp
 have e2:decide ((g.2.2.2.2.length:Int)>(0:Int))=decide (0<g.2.2.2.2.length):=by simp
 have e3:((g.2.2.2.1:Int) != (-1:Int))= !decide (g.2.2.2.1= -1):=by rw[Bool.eq_iff_iff];simp
 rw[e1,e2,e3]
 generalize decide (0≤g.1)=b1
 generalize eJ g.2.1=b2
 generalize bH g.2.2.1 0 99999=b3
 generalize decide (g.2.2.2.1= -1)=b4
 generalize bH g.2.2.2.1 g.2.2.1 99999=b5
 generalize decide (0<g.2.2.2.2.length)=b6
 generalize vX g.2.2.2.2 g.2.1 by_=b7
 cases b1<;>cases b2<;>cases b3<;>cases b4<;>cases b5<;>cases b6<;>cases b7<;>simp
theorem Eh {g:aJ} {by_:List ByteArray} (hs:ag aj g≤1048576) (hb:by_.length≤1048576):lu k (g,by_,())=some (iu g by_,()):=by
 rw[gU hk]at hs
 have hs2:ag (.sl ab) g.2.2.2.2≤1048576:=by omega
 have hl:=aA (e:=ab) (l:=g.2.2.2.2)
 simp only[lu,aP]
 rw[show((by_,g,(0:Int),()):List ByteArray×aJ×Int×Unit)=(fun i:Nat=>(by_,g,(i:Int),())) 0 from rfl]
 rw[bN (fun i:Nat=>(by_,g,(i:Int),())) (fun i=>bZ (g.2.2.2.2.getD i ab.aa)&&(decide (keyOf (g.2.2.2.2.getD i ab.aa) by_=g.2.1)&&xv g.2.2.2.2 i)) g.2.2.2.2.length
  (e:=some (decide (0≤g.1)&&(eJ g.2.1&&(bH g.2.2.1 0 99999&&((decide (g.2.2.2.1= -1)||bH g.2.2.2.1 g.2.2.1 99999)&&decide (0<g.2.2.2.2.length)))),())) (no:=some (false,())) ?_ ?_ k 0 (by omega)]
 ·unfold iu vX
  cases bf 0 g.2.2.2.2.length (fun i=>bZ (g.2.2.2.2.getD i ab.aa)&&(decide (keyOf (g.2.2.2.2.getD i ab.aa) by_=g.2.1)&&xv g.2.2.2.2 i))<;>simp
 ·intro G i hi
  simp only[Int.toNat_natCast]
  obtain⟨hm,hml⟩:=gj hk hs2 hi
  have hkl:=Kw hk (g.2.2.2.2.getD i ab.aa) by_
  rw[aw,decide_eq_true hi,if_pos rfl,if_pos (aK hi),fk hk hm,Option.bind_some,aZ (by omega),pY (by omega)]
  rw[show((i:Int)-1).toNat=i-1 by omega]
  simp only[aK hi,Bool.or_true,if_true]
  rw[if_pos (by simp;omega),Lj hk hm hb]
  cases bZ (g.2.2.2.2.getD i ab.aa)with
  |false=>simp
  |true=>
   simp only[Bool.not_true,beq_self_eq_true,Bool.true_and]
   by_cases h0:i=0
   ·subst h0
    have hS:=dT hk (a:=keyOf (g.2.2.2.2.getD 0 ab.aa) by_) (b:=g.2.1) (by omega)
    simp[hS,xv,-List.getD_eq_getElem?_getD]
   ·have h0':(0:Int)<(i:Int):=by omega
    have h0n:0<i:=by omega
    obtain⟨hm1,hml1⟩:=gj hk hs2 (show i-1<g.2.2.2.2.length by omega)
    rw[oA hk hml1]
    unfold xv
    cases bU (g.2.2.2.2.getD (i-1) ab.aa).1 (g.2.2.2.2.getD i ab.aa).1 with
    |false=>simp[h0,h0',h0n,-List.getD_eq_getElem?_getD]
    |true=>
     have hS:=dT hk (a:=keyOf (g.2.2.2.2.getD i ab.aa) by_) (b:=g.2.1) (by omega)
     simp[hS,h0,h0',h0n,-List.getD_eq_getElem?_getD]
 ·intro G i hi
  simp only
  rw[aw,decide_eq_false (by omega),if_neg (by simp)]
  simp only[fc hk,mZ hk (show ag (.sl af) g.2.1≤1048576 by omega),bM,Option.bind_some]
  have e1:decide (g.1≥(0:Int))=decide (0≤g.1):=rfl
  have e2:decide ((g.2.2.2.2.length:Int)>(0:Int))=decide (0<g.2.2.2.2.length):=by simp
  have e3:((g.2.2.2.1:Int)==(-1:Int))=decide (g.2.2.2.1= -1):=by rw[Bool.eq_iff_iff];simp
  rw[e1,e2,e3]
  generalize decide (0≤g.1)=b1
  generalize eJ g.2.1=b2
  generalize bH g.2.2.1 0 99999=b3
  generalize decide (g.2.2.2.1= -1)=b4
  generalize bH g.2.2.2.1 g.2.2.1 99999=b5
  generalize decide (0<g.2.2.2.2.length)=b6
  cases b1<;>cases b2<;>cases b3<;>cases b4<;>cases b5<;>cases b6<;>simp
theorem xJ {l:List aJ} {i:Nat} (hs:ag (.sl aj) l≤1048576) (hi:i<l.length):ag aj (l.getD i aj.aa)≤1048576∧(l.getD i aj.aa).2.1.length≤1048576:=by
 have hm:ag aj (l.getD i aj.aa)≤1048576:=Nat.le_trans (bo (e:=aj) (ch hi)) hs
 refine⟨hm,?_⟩
 rw[gU hk]at hm
 have:=aA (e:=af) (l:=(l.getD i aj.aa).2.1)
 omega
theorem Hl {l:List aJ} {key:List ai} (hs:ag (.sl aj) l≤1048576):
 ∃r:Int,lq k (l,key,())=some (r,())∧(∀i:Nat,i<l.length→(l.getD i aj.aa).2.1=key→(r=(i:Int)↔∀j,j<i→(l.getD j aj.aa).2.1≠key)):=by
 have hl:=aA (e:=aj) (l:=l)
 simp only[lq]
 have main:∀(m a:Nat),l.length-a<m→(∀j,j<a→(l.getD j aj.aa).2.1≠key)→∃r:Int,az m (fun G1 (t2:List ai×List aJ×Int×Int×Unit)=>
  if(decide ((t2.2.2.2.1:Int)<t2.2.2.1))=true then
   if(decide (0≤t2.2.2.2.1∧t2.2.2.2.1<((List.length t2.2.1:Nat):Int)))=true then
    Option.bind (cL k (((List.getD t2.2.1 (Int.toNat t2.2.2.2.1) aj.aa).2).1,t2.1,())) fun(r3:Bool×Unit)=>
    if r3.1=true then
     some (t2.2.2.2.1,())
    else
     G1 (t2.1,t2.2.1,t2.2.2.1,IntKind.i64.wrap (t2.2.2.2.1+(1:Int)),())
   else
    none
  else
   some ((-1:Int),())) (key,l,(l.length:Int),(a:Int),())=some (r,())∧(∀i:Nat,i<l.length→(l.getD i aj.aa).2.1=key→(r=(i:Int)↔∀j,j<i→(l.getD j aj.aa).2.1≠key)):=by
  intro m
  induction m with
  |zero=>intro a h;omega
  |succ m ih=>
   intro a h hno
   simp only[az,Int.toNat_natCast]
   by_cases ha:a<l.length
   ·rw[aw,decide_eq_true ha,if_pos rfl,if_pos (aK ha),eC hk (xJ hk hs ha).2,Option.bind_some]
    by_cases hq:(l.getD a aj.aa).2.1=key
    ·rw[if_pos (by simpa using hq)]
     refine⟨_,rfl,fun i hi hik=> ?_⟩
     constructor
     ·intro e j hj
      exact hno j (by omega)
     ·intro hall
      rcases Nat.lt_trichotomy a i with h1|h1|h1
      ·exact absurd hq (hall a h1)
      ·rw[h1]
      ·exact absurd hik (hno i h1)
    ·rw[if_neg (by simpa using hq),aZ (by omega)]
     refine ih (a+1) (by omega) (fun j hj=> ?_)
     rcases Nat.lt_or_ge j a with h1|h1
     ·exact hno j h1
     ·rw[show j=a by omega];exact hq
   ·rw[aw,decide_eq_false ha,if_neg (by simp)]
    refine⟨-1,rfl,fun i hi hik=> ?_⟩
    exact absurd hik (hno i (by omega))
 exact main k 0 (by omega) (fun j hj=>by omega)
theorem P7 (l:List aJ) (i:Nat):mA l i=true↔∀j,j<i→(l.getD j aj.aa).2.1≠(l.getD i aj.aa).2.1:=by
 unfold mA
 rw[eh]
 simp only[Bool.not_eq_true',decide_eq_false_iff_not]
 exact⟨fun h j hj=>h j (by omega) hj,fun h j _ hj=>h j hj⟩
theorem CX {l:List aJ} {by_:List ByteArray} (hs:ag (.sl aj) l≤1048576) (hb:by_.length≤1048576):kq k (l,by_,())=some (ny l by_,()):=by
 have hl:=aA (e:=aj) (l:=l)
 simp only[kq]
 rw[show((l,by_,l,(l.length:Int),(0:Int),()):List aJ×List ByteArray×List aJ×Int×Int×Unit)=(fun i:Nat=>(l,by_,l,(l.length:Int),(i:Int),())) 0 from rfl]
 rw[bN (fun i:Nat=>(l,by_,l,(l.length:Int),(i:Int),())) (fun i=>decide (i<12)&&(iu (l.getD i aj.aa) by_&&(DQ l i&&mA l i))) l.length (e:=some (true,())) (no:=some (false,())) ?_ ?_ k 0 (by omega)]
 ·unfold ny
  rw[DE,Pj]
  cases bf 0 l.length (fun i=>iu (l.getD i aj.aa) by_&&(DQ l i&&mA l i))<;>by_cases h:l.length≤12<;>simp[h]
 ·intro G i hi
  simp only[Int.toNat_natCast]
  obtain⟨hm,hml⟩:=xJ hk hs hi
  obtain⟨r,hr,hri⟩:=Hl hk (key:=(l.getD i aj.aa).2.1) hs
  have hri:=hri i hi rfl
  rw[←P7 hk]at hri
  rw[aw,decide_eq_true hi,if_pos rfl,if_pos (aK hi),FT hk hm hb,aZ (by omega),pY (by omega)]
  simp only[bM,Option.bind_some]
  rw[show((i:Int)-1).toNat=i-1 by omega,hr,if_pos (by simp;omega)]
  unfold DQ
  by_cases h12:i<12
  ·have h12':¬(12:Int)≤(i:Int):=by omega
   cases iu (l.getD i aj.aa) by_ with
   |false=>simp[h12,h12',-List.getD_eq_getElem?_getD]
   |true=>
    by_cases h0:i=0
    ·subst h0
     cases hn:mA l 0 with
     |true=>rw[hn]at hri;have:=hri.2 rfl;simp[this,-List.getD_eq_getElem?_getD]
     |false=>rw[hn]at hri;have:¬r=0:=fun e=>by have:=hri.1 e;cases this
             simp[this,-List.getD_eq_getElem?_getD]
    ·have h0':(0:Int)<(i:Int):=by omega
     have h0n:0<i:=by omega
     by_cases ho:(l.getD (i-1) aj.aa).1<(l.getD i aj.aa).1
     ·have ho':¬(l.getD i aj.aa).1≤(l.getD (i-1) aj.aa).1:=by omega
      cases hn:mA l i with
      |true=>rw[hn]at hri;have:=hri.2 rfl;simp[this,h12,h12',h0,h0',h0n,ho,ho',-List.getD_eq_getElem?_getD]
      |false=>rw[hn]at hri;have:¬r=(i:Int):=fun e=>by have:=hri.1 e;cases this
              simp[this,h12,h12',h0,h0',h0n,ho,ho',-List.getD_eq_getElem?_getD]
     ·have ho':(l.getD i aj.aa).1≤(l.getD (i-1) aj.aa).1:=by omega
      simp[h12,h12',h0,h0',h0n,ho,ho',-List.getD_eq_getElem?_getD]
  ·have h12':(12:Int)≤(i:Int):=by omega
   simp[h12,h12',-List.getD_eq_getElem?_getD]
 ·intro G i hi
  simp only
  rw[aw,decide_eq_false (by omega),if_neg (by simp)]
theorem DU {l:List aJ} {by_:List ByteArray} (hs:ag (.sl aj) l≤1048576) (hb:by_.length≤1048576):ko k (l,by_,())=some (ny l by_,()):=by
 have hl:=aA (e:=aj) (l:=l)
 simp only[ko,aP]
 rw[show((l,by_,(0:Int),()):List aJ×List ByteArray×Int×Unit)=(fun i:Nat=>(l,by_,(i:Int),())) 0 from rfl]
 rw[bN (fun i:Nat=>(l,by_,(i:Int),())) (fun i=>iu (l.getD i aj.aa) by_&&(DQ l i&&mA l i)) l.length (e:=some (decide (l.length≤12),())) (no:=some (false,())) ?_ ?_ k 0 (by omega)]
 ·unfold ny
  cases bf 0 l.length (fun i=>iu (l.getD i aj.aa) by_&&(DQ l i&&mA l i))<;>simp
 ·intro G i hi
  simp only[Int.toNat_natCast]
  obtain⟨hm,hml⟩:=xJ hk hs hi
  rw[aw,decide_eq_true hi,if_pos rfl,if_pos (aK hi),Eh hk hm hb,Option.bind_some,pY (by omega)]
  rw[show((i:Int)-1).toNat=i-1 by omega,if_pos (by simp;omega)]
  simp only[aK hi,Bool.or_true,if_true]
  have inner:az k (fun G6 (t7:List aJ×List ByteArray×Int×Int×Unit)=>
   if(decide ((t7.2.2.2.1:Int)<t7.2.2.1))=true then
    if(decide (0≤t7.2.2.2.1∧t7.2.2.2.1<((List.length t7.1:Nat):Int)))=true then
     if(decide (0≤t7.2.2.1∧t7.2.2.1<((List.length t7.1:Nat):Int)))=true then
      Option.bind (cK k (((List.getD t7.1 (Int.toNat t7.2.2.2.1) aj.aa).2).1,((List.getD t7.1 (Int.toNat t7.2.2.1) aj.aa).2).1,())) fun(r8:Bool×Unit)=>
      if r8.1=true then
       some (false,())
      else
       G6 (t7.1,t7.2.1,t7.2.2.1,IntKind.i64.wrap (t7.2.2.2.1+(1:Int)),())
     else
      none
    else
     none
   else
    G (t7.1,t7.2.1,IntKind.i64.wrap (t7.2.2.1+(1:Int)),())) (l,by_,(i:Int),(0:Int),())=if mA l i=true then G (l,by_,((i+1:Nat):Int),())else some (false,()):=by
   rw[show((l,by_,(i:Int),(0:Int),()):List aJ×List ByteArray×Int×Int×Unit)=(fun j:Nat=>(l,by_,(i:Int),(j:Int),())) 0 from rfl]
   rw[bN (fun j:Nat=>(l,by_,(i:Int),(j:Int),())) (fun j=> !decide ((l.getD j aj.aa).2.1=(l.getD i aj.aa).2.1)) i (e:=G (l,by_,((i+1:Nat):Int),())) (no:=some (false,())) ?_ ?_ k 0 (by omega)]
   ·rfl
   ·intro G' j hj
    simp only[Int.toNat_natCast]
    rw[aw,decide_eq_true hj,if_pos rfl,if_pos (aK (by omega)),if_pos (aK hi),dT hk (xJ hk hs (show j<l.length by omega)).2,Option.bind_some,aZ (by omega)]
    by_cases hq:(l.getD j aj.aa).2.1=(l.getD i aj.aa).2.1<;>simp[hq,-List.getD_eq_getElem?_getD]
   ·intro G' j hj
    simp only
    rw[aw,decide_eq_false (by omega),if_neg (by simp),aZ (by omega)]
  rw[inner]
  unfold DQ
  cases iu (l.getD i aj.aa) by_ with
  |false=>simp
  |true=>
   by_cases h0:i=0
   ·subst h0;simp
   ·have h0':(0:Int)<(i:Int):=by omega
    have h0n:0<i:=by omega
    by_cases ho:(l.getD (i-1) aj.aa).1<(l.getD i aj.aa).1
    ·have ho':¬(l.getD i aj.aa).1≤(l.getD (i-1) aj.aa).1:=by omega
     simp[h0,h0',h0n,ho,ho',-List.getD_eq_getElem?_getD]
    ·have ho':(l.getD i aj.aa).1≤(l.getD (i-1) aj.aa).1:=by omega
     simp[h0,h0',h0n,ho,ho',-List.getD_eq_getElem?_getD]
 ·intro G i hi
  simp only
  rw[aw,decide_eq_false (by omega),if_neg (by simp)]
  congr 2
  rw[Bool.eq_iff_iff]
  simp
  omega
end
end Vg.Tryz
namespace Vg.Tryz
open Go Vg
set_option linter.unusedVariables false
set_option linter.unusedSectionVars false
set_option linter.unusedSimpArgs false
def qi (l:List bF):Bool:=bf 0 l.length (fun i=>pV (l.getD i aU.aa))
section
variable {k:Nat} (hk:9223372036854775808≤k)
include hk
theorem Ap {c:cg} {a:al} (hs:ag ab a≤1048576):mD k (c,a,())=some (jS a,()):=by
 simp only[mD]
 rw[fk hk hs]
 simp only[Option.bind_some,jS,wZ]
theorem AJ {c:cg} {a:al} (hs:ag ab a≤1048576):mo k (c,a,())=some (jS a,()):=by
 simp only[mo]
 rw[gX hk hs]
 simp only[Option.bind_some,jS,wZ]
theorem LM {s:bF} (hs:ag aU s≤1048576):oE k (s,())=some (pV s,()):=by
 rw[nJ hk]at hs
 have hl:=aA (e:=ab) (l:=s.1)
 simp only[oE,aP]
 rw[show((s,(0:Int),()):bF×Int×Unit)=(fun i:Nat=>(s,(i:Int),())) 0 from rfl]
 rw[bN (fun i:Nat=>(s,(i:Int),())) (fun i=>bZ (s.1.getD i ab.aa)) s.1.length (e:=some (decide (s.1.length≤3)&&(!s.2||decide (s.1.length=0)),())) (no:=some (false,())) ?_ ?_ k 0 (by omega)]
 ·unfold pV ck
  cases bf 0 s.1.length (fun i=>bZ (s.1.getD i ab.aa))<;>simp
 ·intro G i hi
  simp only[Int.toNat_natCast]
  rw[aw,decide_eq_true hi,if_pos rfl,if_pos (aK hi),fk hk (gj hk hs hi).1,Option.bind_some,aZ (by omega)]
  cases bZ (s.1.getD i ab.aa)<;>simp
 ·intro G i hi
  simp only
  rw[aw,decide_eq_false (by omega),if_neg (by simp)]
  congr 2
  by_cases h:s.1.length≤3
  ·have h':(s.1.length:Int)≤3:=by omega
   by_cases h0:s.1.length=0
   ·cases s.2<;>simp[h0]
   ·have h0':¬(s.1.length:Int)=0:=by omega
    cases s.2<;>simp[h,h',h0]<;>(intro e;rw[e]at h0;exact h0 rfl)
  ·have h':¬(s.1.length:Int)≤3:=by omega
   simp[h,h']
theorem K6 {s:bF} (hs:ag aU s≤1048576):nY k (s,())=some (pV s,()):=by
 rw[nJ hk]at hs
 have hl:=aA (e:=ab) (l:=s.1)
 simp only[nY]
 rw[jl hk hs]
 unfold pV
 cases s.2 with
 |true=>
  simp only[if_true]
  congr 2
  by_cases h0:s.1=[]
  ·rw[h0];rfl
  ·have h1:¬s.1.length=0:=fun e=>h0 (List.eq_nil_of_length_eq_zero e)
   simp[h0]
 |false=>
  by_cases h:s.1.length≤3
  ·have h':(s.1.length:Int)≤3:=by omega
   simp[h,h']
  ·have h':¬(s.1.length:Int)≤3:=by omega
   simp[h,h']
theorem Rr {l:List bF} {i:Nat} (hs:ag (.sl aU) l≤1048576) (hi:i<l.length):ag aU (l.getD i aU.aa)≤1048576:=
 Nat.le_trans (bo (e:=aU) (ch hi)) hs
theorem BG {l:List bF} {c:cg} (hs:ag (.sl aU) l≤1048576):jy k (l,c,())=some (qi l&&decide ((l.length:Int)=c.2.2.1),()):=by
 have hl:=aA (e:=aU) (l:=l)
 simp only[jy,aP]
 rw[show((l,c,l,(l.length:Int),(0:Int),()):List bF×cg×List bF×Int×Int×Unit)=(fun i:Nat=>(l,c,l,(l.length:Int),(i:Int),())) 0 from rfl]
 rw[bN (fun i:Nat=>(l,c,l,(l.length:Int),(i:Int),())) (fun i=>pV (l.getD i aU.aa)) l.length (e:=some (decide ((l.length:Int)=c.2.2.1),())) (no:=some (false,())) ?_ ?_ k 0 (by omega)]
 ·unfold qi
  cases bf 0 l.length (fun i=>pV (l.getD i aU.aa))<;>simp
 ·intro G i hi
  simp only[Int.toNat_natCast]
  rw[aw,decide_eq_true hi,if_pos rfl,if_pos (aK hi),K6 hk (Rr hk hs hi),Option.bind_some,aZ (by omega)]
  cases pV (l.getD i aU.aa)<;>simp
 ·intro G i hi
  simp only
  rw[aw,decide_eq_false (by omega),if_neg (by simp)]
  congr 2
end
end Vg.Tryz
namespace Vg.Tryz
open Go Vg
set_option linter.unusedVariables false
set_option linter.unusedSectionVars false
set_option linter.unusedSimpArgs false
theorem I1 (n:Int):IntKind.u32.wrap n=n%4294967296:=by
 simp[IntKind.wrap,IntKind.signed,IntKind.bits]
theorem UA {a b:Nat} (ha:a<4294967296) (hb:b<4294967296):bits (fun _=>(·^^^·)) .i64 (a:Int) (b:Int)=((a^^^b:Nat):Int):=by
 have hx:a^^^b<2^32:=Nat.xor_lt_two_pow (by simpa using ha) (by simpa using hb)
 change IntKind.i64.wrap (((BitVec.ofInt 64 (a:Int)^^^BitVec.ofInt 64 (b:Int)).toNat:Nat):Int)=_
 rw[BitVec.toNat_xor,BitVec.toNat_ofInt,BitVec.toNat_ofInt]
 have e1:((a:Int)%((2^64:Nat):Int)).toNat=a:=by omega
 have e2:((b:Int)%((2^64:Nat):Int)).toNat=b:=by omega
 rw[e1,e2,wrap64 (by omega) (by omega)]
theorem UM {a b:Nat} (ha:a<4294967296) (hb:b<4294967296):bits (fun _=>(·^^^·)) .u32 (a:Int) (b:Int)=((a^^^b:Nat):Int):=by
 have hx:a^^^b<2^32:=Nat.xor_lt_two_pow (by simpa using ha) (by simpa using hb)
 change IntKind.u32.wrap (((BitVec.ofInt 32 (a:Int)^^^BitVec.ofInt 32 (b:Int)).toNat:Nat):Int)=_
 rw[BitVec.toNat_xor,BitVec.toNat_ofInt,BitVec.toNat_ofInt]
 have e1:((a:Int)%((2^32:Nat):Int)).toNat=a:=by omega
 have e2:((b:Int)%((2^32:Nat):Int)).toNat=b:=by omega
 rw[e1,e2,I1]
 omega
theorem UK {a:Nat} (ha:a<9223372036854775808):bits (fun _=>(· &&& ·)) .i64 (a:Int) (4294967295:Int)=((a%4294967296:Nat):Int):=by
 change IntKind.i64.wrap (((BitVec.ofInt 64 (a:Int) &&& BitVec.ofInt 64 (4294967295:Int)).toNat:Nat):Int)=_
 rw[BitVec.toNat_and,BitVec.toNat_ofInt,BitVec.toNat_ofInt]
 have e1:((a:Int)%((2^64:Nat):Int)).toNat=a:=by omega
 have e2:((4294967295:Int)%((2^64:Nat):Int)).toNat=2^32-1:=by decide
 rw[e1,e2,Nat.and_two_pow_sub_one_eq_mod,wrap64 (by omega) (by omega)]
theorem UI (s:ByteArray) (i:Int):∃b:Nat,bt s i=(b:Int)∧b<256:=by
 unfold bt
 exact⟨_,rfl,(s.data.toList.getD i.toNat 0).toNat_lt⟩
theorem MF {n:Nat} (hn:n<4294967296) (s:ByteArray) (i:Int):∃m:Nat,m<4294967296∧
 bits (fun _=>(· &&& ·)) .i64 (IntKind.i64.wrap ((bits (fun _=>(·^^^·)) .i64 (n:Int) (IntKind.i64.wrap (bt s i)))*(16777619:Int))) (4294967295:Int)=(m:Int)∧
 IntKind.u32.wrap ((bits (fun _=>(·^^^·)) .u32 (n:Int) (IntKind.u32.wrap (bt s i)))*(16777619:Int))=(m:Int):=by
 obtain⟨b,hb,hlt⟩:=UI s i
 have hx:n^^^b<2^32:=Nat.xor_lt_two_pow (by simpa using hn) (by omega)
 rw[hb,wrap64 (n:=(b:Int)) (by omega) (by omega),I1 (b:Int),show((b:Int)%4294967296)=(b:Int) by omega,UA hn (by omega),UM hn (by omega)]
 generalize n^^^b=x at hx
 rw[wrap64 (by omega) (by omega),show((x:Int)*16777619)=((x*16777619:Nat):Int) by omega,UK (by omega),I1]
 exact⟨x*16777619%4294967296,by omega,rfl,by omega⟩
section
variable {k:Nat} (hk:9223372036854775808≤k)
include hk
theorem TQ {s:ByteArray} (hs:s.size≤4294967296):∃n:Int,jn k (s,())=some (n,())∧oV k (s,())=some (n,()):=by
 have h1:∃r:Int×Unit,jn k (s,())=some r∧∃n:Nat,r.1=(n:Int)∧n<4294967296:=by
  simp only[jn]
  refine zE (fun(t:ByteArray×Int×Int×Unit)=>s.size-t.2.2.1.toNat) (fun(t:ByteArray×Int×Int×Unit)=>t.1=s∧(∃n:Nat,t.2.1=(n:Int)∧n<4294967296)∧0≤t.2.2.1∧t.2.2.1≤(s.size:Int)) _ ?_ k _ ⟨rfl,⟨2166136261,rfl,by omega⟩,by simp,by simp⟩ (by simp only;omega)
  rintro G ⟨s',n,i,u⟩ ⟨e1,⟨m,e2,hm⟩,hi0,hi1⟩ hG
  change s'=s at e1
  change n=_ at e2
  subst e1 e2
  simp only at hi0 hi1 hG⊢
  by_cases hi:i<(s'.size:Int)
  ·rw[if_pos (by simpa using hi),if_pos (by simpa using⟨hi0,hi⟩)]
   obtain⟨m',hm',q1,_⟩:=MF hm s' i
   rw[q1,wrap64 (by omega) (by omega)]
   exact hG (s',_,i+1,()) ⟨rfl,⟨m',rfl,hm'⟩,by simp only;omega,by simp only;omega⟩ (by simp only;omega)
  ·rw[if_neg (by simpa using hi)]
   exact⟨_,rfl,m,rfl,hm⟩
 have h2:jn k (s,())=oV k (s,()):=by
  simp only[jn,oV,aP]
  refine My (fun(t t':ByteArray×Int×Int×Unit)=>t=t'∧∃n:Nat,t.2.1=(n:Int)∧n<4294967296) (fun a b=>a=b) rfl ?_ k _ _ ⟨rfl,2166136261,rfl,by omega⟩
  rintro G G' ⟨s1,n,i,u⟩ t' ⟨rfl,m,e2,hm⟩ hG
  change n=_ at e2
  subst e2
  simp only
  obtain⟨m',hm',q1,q2⟩:=MF hm s1 i
  split
  ·split
   ·rw[q1,q2]
    exact hG _ _ ⟨rfl,m',rfl,hm'⟩
   ·rfl
  ·rw[wrap64 (by omega) (by omega)]
 obtain⟨⟨n,u⟩,hr,_⟩:=h1
 exact⟨n,hr,h2▸hr⟩
def PB (x:ai):ByteArray:=((x.1++(⟨#[61,34]⟩:ByteArray))++x.2)++(⟨#[34]⟩:ByteArray)
def tx (l:List ai):Nat→ByteArray
 |0=>⟨#[123]⟩
 |i+1=>((((if i=0 then tx l i else tx l i++(⟨#[44,32]⟩:ByteArray))++(l.getD i af.aa).1)++(⟨#[61,34]⟩:ByteArray))++(l.getD i af.aa).2)++(⟨#[34]⟩:ByteArray)
theorem H3 {l:List ai} (h:eJ l=true):∀i,i≤l.length→(tx l i).size≤1+25*i:=by
 simp only[eJ,Bool.and_eq_true,eh]at h
 intro i
 induction i with
 |zero=>intro _;simp[tx,ByteArray.size]
 |succ i ih=>
  intro hi
  have:=ih (by omega)
  have h2:=h.2 i (by omega) (by omega)
  simp only[fl,eK,j8,Bool.and_eq_true,decide_eq_true_eq]at h2
  simp only[tx,ByteArray.size_append]
  have e1:(⟨#[61,34]⟩:ByteArray).size=2:=rfl
  have e2:(⟨#[34]⟩:ByteArray).size=1:=rfl
  have e3:(⟨#[44,32]⟩:ByteArray).size=2:=rfl
  split
  ·omega
  ·rw[ByteArray.size_append];omega
theorem EC {l:List ai} (hs:ag (.sl af) l≤1048576):lY k (l,())=some (if eJ l=true then tx l l.length++(⟨#[125]⟩:ByteArray)else⟨#[]⟩,()):=by
 have hl:=aA (e:=af) (l:=l)
 simp only[lY,aP]
 rw[mZ hk hs,Option.bind_some]
 cases hok:eJ l with
 |false=>simp
 |true=>
  have hb:=H3 hk hok
  have hok':=hok
  simp only[eJ,Bool.and_eq_true,eh,decide_eq_true_eq]at hok'
  rw[if_neg (by simp),if_pos rfl]
  rw[show((l,(⟨#[123]⟩:ByteArray),(0:Int),()):List ai×ByteArray×Int×Unit)=(fun i:Nat=>(l,tx l i,(i:Int),())) 0 from rfl]
  have e1:(⟨#[61,34]⟩:ByteArray).size=2:=rfl
  have e2:(⟨#[34]⟩:ByteArray).size=1:=rfl
  have e3:(⟨#[44,32]⟩:ByteArray).size=2:=rfl
  have e4:(⟨#[125]⟩:ByteArray).size=1:=rfl
  refine cB (fun i:Nat=>(l,tx l i,(i:Int),())) l.length ?_ ?_ k 0 (by omega) (by omega)
  ·intro G i hi
   have hbi:=hb i (by omega)
   have hlab:=hok'.2 i (by omega) hi
   simp only[fl,eK,j8,Bool.and_eq_true,decide_eq_true_eq]at hlab
   simp only[Int.toNat_natCast]
   rw[aw,decide_eq_true hi,if_pos rfl]
   by_cases h0:i=0
   ·subst h0
    have hz:(tx l 0).size=1:=rfl
    rw[if_neg (by simp)]
    simp only[aK hi,if_true,ByteArray.size_append,e1,e2,hz]
    rw[if_pos (by simp only[decide_eq_true_eq];omega),if_pos (by simp only[decide_eq_true_eq];omega),if_pos (by simp only[decide_eq_true_eq];omega),if_pos (by simp only[decide_eq_true_eq];omega),aZ (by omega)]
    rfl
   ·have h0n:0<i:=by omega
    rw[if_pos (by simp;omega),if_pos (by simp only[e3,decide_eq_true_eq];omega)]
    simp only[aK hi,if_true,ByteArray.size_append,e1,e2,e3]
    rw[if_pos (by simp only[decide_eq_true_eq];omega),if_pos (by simp only[decide_eq_true_eq];omega),if_pos (by simp only[decide_eq_true_eq];omega),if_pos (by simp only[decide_eq_true_eq];omega),aZ (by omega)]
    simp only[tx,if_neg h0]
  ·intro G
   have hbi:=hb l.length (by omega)
   simp only
   rw[aw,decide_eq_false (by omega),if_neg (by simp),if_pos (by simp only[e4,decide_eq_true_eq];omega)]
def pl (l:List ai) (i:Nat):List ByteArray:=(List.range i).map (fun j=>PB (l.getD j af.aa))
theorem Pu (l:List ai) (i:Nat):pl l (i+1)=pl l i++[PB (l.getD i af.aa)]:=by
 simp[pl,List.range_succ]
theorem Ri (xs:List (List UInt8)) (y sep:List UInt8):Lib.join (xs++[y]) sep=if xs=[]then y else Lib.join xs sep++sep++y:=by
 cases xs with
 |nil=>simp[Lib.join_one]
 |cons x r=>
  rw[if_neg (by simp),List.cons_append,Lib.join_cons,Lib.join_cons]
  simp[Lib.joinTail,List.append_assoc]
theorem Pp (l:List ai):∀i,(tx l i).data.toList=123::nZ (pl l i) ⟨#[44,32]⟩:=by
 intro i
 induction i with
 |zero=>rfl
 |succ i ih=>
  unfold nZ at ih⊢
  rw[Pu hk,List.map_append,List.map_singleton,Ri hk]
  simp only[tx,PB]
  by_cases h0:i=0
  ·subst h0
   simp[pl,tx,ByteArray.data_append]
  ·have hne:List.map (fun x=>x.data.toList) (pl l i)≠ []:=by
    intro e
    have:=congrArg List.length e
    simp[pl]at this
    exact h0 this
   rw[if_neg h0,if_neg hne]
   simp only[ByteArray.data_append,Array.toList_append,ih]
   simp[List.append_assoc]
theorem Q8 {a b:ByteArray} (h:a.data.toList=b.data.toList):a=b:=by
 cases a;cases b
 simp at h
 rw[h]
theorem Hf {l:List ai} (hs:ag (.sl af) l≤1048576):lS k (l,())=some (if eJ l=true then tx l l.length++(⟨#[125]⟩:ByteArray)else⟨#[]⟩,()):=by
 have hl:=aA (e:=af) (l:=l)
 simp only[lS,aP]
 rw[mM hk hs,Option.bind_some]
 cases hok:eJ l with
 |false=>simp
 |true=>
  have hb:=H3 hk hok l.length (by omega)
  have hok':=hok
  simp only[eJ,Bool.and_eq_true,eh,decide_eq_true_eq]at hok'
  rw[if_neg (by simp),if_pos rfl]
  rw[show((([]:List ByteArray),l,(l.length:Int),(0:Int),()):List ByteArray×List ai×Int×Int×Unit)=(fun i:Nat=>(pl l i,l,(l.length:Int),(i:Int),())) 0 from rfl]
  have e1:(⟨#[61,34]⟩:ByteArray).size=2:=rfl
  have e2:(⟨#[34]⟩:ByteArray).size=1:=rfl
  refine cB (fun i:Nat=>(pl l i,l,(l.length:Int),(i:Int),())) l.length ?_ ?_ k 0 (by omega) (by omega)
  ·intro G i hi
   have hlab:=hok'.2 i (by omega) hi
   simp only[fl,eK,j8,Bool.and_eq_true,decide_eq_true_eq]at hlab
   have hpl:(pl l i).length=i:=by simp[pl]
   simp only[Int.toNat_natCast]
   rw[aw,decide_eq_true hi,if_pos rfl,if_pos (aK hi)]
   simp only[ByteArray.size_append,e1,e2]
   rw[if_pos (by simp only[decide_eq_true_eq];omega),if_pos (by simp only[decide_eq_true_eq];omega),if_pos (by simp only[decide_eq_true_eq];omega),if_pos (by simp only[decide_eq_true_eq,List.length_singleton,hpl];omega),aZ (by omega),Pu hk]
   rfl
  ·intro G
   simp only
   rw[aw,decide_eq_false (by omega),if_neg (by simp)]
   have hj:(nZ (pl l l.length) ⟨#[44,32]⟩).length≤1+25*l.length:=by
    have:=Pp hk l l.length
    have h2:=congrArg List.length this
    simp only[Array.length_toList,List.length_cons]at h2
    have h3:(tx l l.length).data.size=(tx l l.length).size:=rfl
    omega
   have hpl:(pl l l.length).length=l.length:=by simp[pl]
   simp only[pL,xu]
   rw[if_pos ⟨by rw[hpl];omega,by omega⟩,Option.bind_some]
   simp only[ByteArray.size_append]
   have hz:(⟨(nZ (pl l l.length) ⟨#[44,32]⟩).toArray⟩:ByteArray).size=(nZ (pl l l.length) ⟨#[44,32]⟩).length:=by simp[ByteArray.size]
   have e3:(⟨#[123]⟩:ByteArray).size=1:=rfl
   have e4:(⟨#[125]⟩:ByteArray).size=1:=rfl
   rw[hz,e3,e4,if_pos (by simp only[decide_eq_true_eq];omega),if_pos (by simp only[decide_eq_true_eq];omega)]
   congr 2
   refine Q8 hk ?_
   simp only[ByteArray.data_append,Array.toList_append]
   rw[Pp hk]
   simp
theorem Kk {l:List ai} (hs:ag (.sl af) l≤1048576):∃n:Int,dM k (l,())=some (n,())∧dX k (l,())=some (n,()):=by
 simp only[dM,dX]
 rw[EC hk hs,Hf hk hs]
 simp only[Option.bind_some]
 have hsz:(if eJ l=true then tx l l.length++(⟨#[125]⟩:ByteArray)else⟨#[]⟩).size≤4294967296:=by
  split
  ·rename_i hok
   have hb:=H3 hk hok l.length (by omega)
   have hl:l.length≤4:=by
    simp only[eJ,Bool.and_eq_true,decide_eq_true_eq]at hok
    exact hok.1
   have e4:(⟨#[125]⟩:ByteArray).size=1:=rfl
   rw[ByteArray.size_append]
   omega
  ·simp[ByteArray.size]
 obtain⟨n,q1,q2⟩:=TQ hk hsz
 rw[q1,q2]
 simp only[Option.bind_some]
 rw[if_pos (by simp),if_pos (by simp)]
 exact⟨_,rfl,rfl⟩
theorem QZ (f n:Int):fo k (f,n,())=eE k (f,n,()):=rfl
end
end Vg.Tryz
namespace Vg.Tryz
open Go Vg
set_option linter.unusedVariables false
set_option linter.unusedSectionVars false
set_option linter.unusedSimpArgs false
section
variable {k:Nat} (hk:9223372036854775808≤k)
include hk
theorem nG {a:al} (h:ag ab a≤1073741824):dL k (a,())=some (a,()):=by
 have h1:=cj hk a
 have h2:=aA (e:=af) (l:=a.1)
 simp only[dL]
 rw[if_pos (by simp;omega)]
 simp
theorem ox {l:List ai} (h:l.length≤1073741824):eo k (l,())=some (l,()):=by
 simp only[eo]
 rw[if_pos (by simp;omega)]
 simp
theorem oh {a:al} (h:ag ab a≤1073741824):dG k (a,())=some (a,()):=by
 have h1:=cj hk a
 have h2:=aA (e:=af) (l:=a.1)
 simp only[dG]
 rw[ox hk (by omega),Option.bind_some]
theorem jt {l:List al} (h:ag (.sl ab) l≤1073741824):dH k (l,())=some (l,()):=
 Ar (d:=ab.aa) (S:=dL k) hk (Nat.le_trans (aA (e:=ab)) h) (fun e he=>nG hk (Nat.le_trans (bo (e:=ab) he) h))
theorem dZ {l:List al} (h:ag (.sl ab) l≤1073741824):cw k (l,())=some (l,()):=
 Ek (d:=ab.aa) (S:=dG k) hk (Nat.le_trans (aA (e:=ab)) h) (fun e he=>oh hk (Nat.le_trans (bo (e:=ab) he) h))
theorem PA {g:aJ} (h:ag aj g≤1073741824):iA k (g,())=some (g,()):=by
 have h1:=gU hk g
 have h2:=aA (e:=af) (l:=g.2.1)
 simp only[iA]
 rw[if_pos (by simp;omega),jt hk (by omega),Option.bind_some]
 simp
theorem Nb {g:aJ} (h:ag aj g≤1073741824):gb k (g,())=some (g,()):=by
 have h1:=gU hk g
 have h2:=aA (e:=af) (l:=g.2.1)
 simp only[gb]
 rw[ox hk (by omega),Option.bind_some,dZ hk (by omega),Option.bind_some]
theorem Oy {b:bz} (h1:ag (.sl af) b.2.1≤1073741824) (h3:ag (.sl ab) b.2.2.2≤1073741824):gy k (b,())=some (b,()):=by
 have h2:=aA (e:=af) (l:=b.2.1)
 simp only[gy]
 rw[if_pos (by simp;omega),jt hk (by omega),Option.bind_some]
 simp
theorem Qh {c:cg} (h:ag bC c≤1073741824):lO k (c,())=some (c,()):=by
 have h1:=jh hk c
 have h2:=aA (e:= .str) (l:=c.2.2.2.2.2)
 simp only[lO]
 rw[if_pos (by simp;omega)]
 simp
theorem Od {c:cg} (h:ag bC c≤1073741824):ku k (c,())=some (c,()):=by
 have h1:=jh hk c
 have h2:=aA (e:= .str) (l:=c.2.2.2.2.2)
 simp only[ku]
 rw[if_pos (by simp;omega)]
 simp
end
end Vg.Tryz
namespace Vg.Tryz
open Go Vg
set_option linter.unusedVariables false
set_option linter.unusedSectionVars false
set_option linter.unusedSimpArgs false
def jj (k:Nat) (l:List ai):Int:=match dM k (l,())with|some r=>r.1|none=>0
def dU (f n:Int):Int:=if n<1 then 0 else if f<0 then 0 else Int.tmod f n
def mS (l:List al) (s:List ai):Option Nat:=qK l.length (fun i=>decide ((l.getD i ab.aa).1=s))
def zl (l:List al):Bool:=bf 0 l.length (fun i=>bf 0 i (fun j=> !decide ((l.getD j ab.aa).1=(l.getD i ab.aa).1)))
def fS (k:Nat) (c:bc):Bool:=bf 0 c.2.length (fun i=>bZ (c.2.getD i ab.aa)&&decide (jj k (c.2.getD i ab.aa).1=c.1))&&(decide (0<c.2.length)&&zl c.2)
def xK (l:List bc) (i:Nat):Bool:=i==0||decide ((l.getD (i-1) ay.aa).1<(l.getD i ay.aa).1)
def jz (k:Nat) (p:aG) (i n:Int):Bool:=
 bf 0 p.2.2.length (fun j=>fS k (p.2.2.getD j ay.aa)&&(decide (dU (p.2.2.getD j ay.aa).1 n=i)&&xK p.2.2 j))&&(bH p.1 (-1) 4&&decide (0≤p.2.1))
def iN (k:Nat) (l:List aG):Bool:=bf 0 l.length (fun i=>jz k (l.getD i ak.aa) i l.length)&&bH l.length 1 3
theorem rT {e:Ty} {l:List e.den} {i:Nat} {d:e.den} (hi:i<l.length):ag e (l.getD i d)+l.length≤ag (.sl e) l:=by
 have h:=MT (f:=ag e) (ch (d:=d) hi)
 simp only[ag]
 omega
section
variable {k:Nat} (hk:9223372036854775808≤k)
include hk
theorem iV {l:List ai} (hs:ag (.sl af) l≤1048576):dM k (l,())=some (jj k l,()):=by
 obtain⟨n,h1,h2⟩:=Kk hk hs
 unfold jj
 rw[h1]
theorem iL {l:List ai} (hs:ag (.sl af) l≤1048576):dX k (l,())=some (jj k l,()):=by
 obtain⟨n,h1,h2⟩:=Kk hk hs
 unfold jj
 rw[h1,h2]
theorem iv {f n:Int}:eE k (f,n,())=some (dU f n,()):=by
 simp only[eE,dU]
 by_cases h1:n<1
 ·simp[h1]
 ·by_cases h2:f<0
  ·simp[h1,h2]
  ·have h3:n≠0:=by omega
   simp[h1,h2,h3]
theorem lz {f n:Int}:fo k (f,n,())=some (dU f n,()):=by
 rw[QZ hk,iv hk]
omit hk in
theorem F0 {f n:Int} (h:1≤n):0≤dU f n∧dU f n<n:=by
 unfold dU
 rw[if_neg (by omega)]
 split
 ·omega
 ·exact⟨Int.tmod_nonneg _ (by omega),Int.tmod_lt_of_pos _ (by omega)⟩
theorem Ct {l:List al} {s:List ai} (hs:ag (.sl ab) l≤1048576):gE k (l,s,())=some (pz (mS l s),()):=by
 have hl:=aA (e:=ab) (l:=l)
 simp only[gE]
 refine(tL (fun i:Nat=>(s,l,(l.length:Int),(i:Int),())) (fun i=>decide ((l.getD i ab.aa).1=s)) l.length (e:=some (-1,())) (fun i=>some ((i:Int),())) (fun G i hi=> ?_) (fun G=> ?_) k (by omega)).trans ?_
 ·obtain⟨h1,h2⟩:=gj hk hs hi
  simp only[aw,aK hi,hi,decide_true,if_true,Int.toNat_natCast,eC hk h2,Option.bind_some]
  rw[aZ (by omega)]
 ·simp
 ·unfold mS
  cases qK l.length (fun i=>decide ((l.getD i ab.aa).1=s))<;>rfl
theorem FL {c:bc} {s:List ai} (hs:ag (.sl ab) c.2≤1048576):lN k (c,s,())=some (pz (mS c.2 s),()):=by
 have hl:=aA (e:=ab) (l:=c.2)
 simp only[lN]
 refine(tL (fun i:Nat=>(s,c,(i:Int),())) (fun i=>decide ((c.2.getD i ab.aa).1=s)) c.2.length (e:=some (-1,())) (fun i=>some ((i:Int),())) (fun G i hi=> ?_) (fun G=> ?_) k (by omega)).trans ?_
 ·obtain⟨h1,h2⟩:=gj hk hs hi
  simp only[aw,aK hi,hi,decide_true,if_true,Int.toNat_natCast,dT hk h2,Option.bind_some]
  rw[aZ (by omega)]
 ·simp
 ·unfold mS
  cases qK c.2.length (fun i=>decide ((c.2.getD i ab.aa).1=s))<;>rfl
theorem EW {c:bc} {s:List ai} (hs:ag (.sl ab) c.2≤1048576):lP k (c,s,())=some (pz (mS c.2 s),()):=by
 simp only[lP]
 rw[Ct hk hs,Option.bind_some]
omit hk in
theorem Py {l:List al} {i:Nat} (hi:i<l.length):(mS (l.take i) (l.getD i ab.aa).1=none)↔bf 0 i (fun j=> !decide ((l.getD j ab.aa).1=(l.getD i ab.aa).1))=true:=by
 unfold mS
 rw[KE,eh]
 have hl:(l.take i).length=i:=by simp;omega
 rw[hl]
 have hg:∀j,j<i→(l.take i).getD j ab.aa=l.getD j ab.aa:=by
  intro j hj
  simp[List.getD_eq_getElem?_getD,List.getElem?_take,hj]
 constructor
 ·intro h j _ hj
  have:=h j hj
  rw[hg j hj]at this
  simp only[this,Bool.not_false]
 ·intro h j hj
  have:=h j (by omega) hj
  rw[hg j hj]
  simpa using this
theorem JA {l:List al} (hs:ag (.sl ab) l≤1048576):gW k (l,())=some (zl l,()):=by
 have hl:=aA (e:=ab) (l:=l)
 simp only[gW]
 refine(bN (fun i:Nat=>(l,l,(l.length:Int),(i:Int),())) (fun i=>bf 0 i (fun j=> !decide ((l.getD j ab.aa).1=(l.getD i ab.aa).1))) l.length (e:=some (true,())) (no:=some (false,())) ?_ ?_ k 0 (by omega)).trans ?_
 ·intro G i hi
  have ht:=gg (e:=ab) l i
  simp only[aw,aK hi,hi,decide_true,if_true,Int.toNat_natCast]
  rw[if_pos (by simp;omega),Ct hk (by omega),Option.bind_some,aZ (by omega)]
  have key:=Py hi
  cases hp:bf 0 i (fun j=> !decide ((l.getD j ab.aa).1=(l.getD i ab.aa).1))with
  |true=>
   rw[key.2 hp]
   rfl
  |false=>
   cases hq:mS (l.take i) (l.getD i ab.aa).1 with
   |none=>rw[key.1 hq]at hp;cases hp
   |some j=>rw[if_pos (by simp[pz]),if_neg (by simp)]
 ·intro G i hi
  simp only[aw]
  rw[if_neg (by simp;omega)]
 ·unfold zl
  split<;>simp_all
theorem uc {c:bc} (hs:ag ay c≤1048576):lM k (c,())=some (fS k c,()):=by
 rw[en hk]at hs
 have hl:=aA (e:=ab) (l:=c.2)
 simp only[lM,aP]
 refine(bN (fun i:Nat=>(c,c.2,(c.2.length:Int),(i:Int),())) (fun i=>bZ (c.2.getD i ab.aa)&&decide (jj k (c.2.getD i ab.aa).1=c.1)) c.2.length
  (e:=some (decide (0<c.2.length)&&zl c.2,())) (no:=some (false,())) ?_ ?_ k 0 (by omega)).trans ?_
 ·intro G i hi
  obtain⟨h1,h2⟩:=gj hk hs hi
  have h3:=cj hk (c.2.getD i ab.aa)
  simp only[aw,aK hi,hi,decide_true,if_true,Int.toNat_natCast,gX hk h1,iL hk (l:=(c.2.getD i ab.aa).1) (by omega),Option.bind_some,bM]
  rw[aZ (by omega)]
  generalize bZ (c.2.getD i ab.aa)=b1
  generalize jj k (c.2.getD i ab.aa).1=f
  cases b1<;>by_cases hf:f=c.1<;>simp[hf]
 ·intro G i hi
  simp only[aw]
  rw[if_neg (by simp;omega),JA hk hs]
  by_cases h0:0<c.2.length<;>simp[h0]
 ·unfold fS
  cases bf 0 c.2.length (fun i=>bZ (c.2.getD i ab.aa)&&decide (jj k (c.2.getD i ab.aa).1=c.1))<;>simp
theorem uG {c:bc} (hs:ag ay c≤1048576):lr k (c,())=some (fS k c,()):=by
 rw[en hk]at hs
 have hl:=aA (e:=ab) (l:=c.2)
 simp only[lr,aP]
 refine(bN (fun i:Nat=>(c,(i:Int),())) (fun i=>(bZ (c.2.getD i ab.aa)&&decide (jj k (c.2.getD i ab.aa).1=c.1))&&bf 0 i (fun j=> !decide ((c.2.getD j ab.aa).1=(c.2.getD i ab.aa).1))) c.2.length
  (e:=some (decide (0<c.2.length),())) (no:=some (false,())) ?_ ?_ k 0 (by omega)).trans ?_
 ·intro G i hi
  obtain⟨h1,h2⟩:=gj hk hs hi
  have h3:=cj hk (c.2.getD i ab.aa)
  simp only[aw,aK hi,hi,decide_true,if_true,Int.toNat_natCast,fk hk h1,iV hk (l:=(c.2.getD i ab.aa).1) (by omega),Option.bind_some,bM,Bool.or_true]
  have hin:az k (fun G7 (t8:bc×Int×Int×Unit)=>
   if(decide ((t8.2.2.1:Int)<t8.2.1))=true then
    if(decide (0≤t8.2.2.1∧t8.2.2.1<((List.length t8.1.2:Nat):Int)))=true then
     if(decide (0≤t8.2.1∧t8.2.1<((List.length t8.1.2:Nat):Int)))=true then
      Option.bind (cK k ((List.getD t8.1.2 (Int.toNat t8.2.2.1) ab.aa).1,(List.getD t8.1.2 (Int.toNat t8.2.1) ab.aa).1,())) fun(r9:Bool×Unit)=>
      if r9.1=true then
       some (false,())
      else
       G7 (t8.1,t8.2.1,IntKind.i64.wrap (t8.2.2.1+(1:Int)),())
     else
      none
    else
     none
   else
    G (t8.1,IntKind.i64.wrap (t8.2.1+(1:Int)),())) (c,(i:Int),(0:Int),())=
   if bf 0 i (fun j=> !decide ((c.2.getD j ab.aa).1=(c.2.getD i ab.aa).1))=true then G (c,((i+1:Nat):Int),())else some (false,()):=by
   refine bN (fun j:Nat=>(c,(i:Int),(j:Int),())) (fun j=> !decide ((c.2.getD j ab.aa).1=(c.2.getD i ab.aa).1)) i ?_ ?_ k 0 (by omega)
   ·intro G2 j hj
    obtain⟨h4,h5⟩:=gj hk hs (i:=j) (by omega)
    simp only[aw,aK hi,aK (show j<c.2.length by omega),hi,hj,decide_true,if_true,Int.toNat_natCast,dT hk h5,Option.bind_some]
    rw[aZ (by omega)]
    by_cases hq:(c.2.getD j ab.aa).1=(c.2.getD i ab.aa).1<;>simp only[hq,decide_true,decide_false,Bool.not_true,Bool.not_false,if_true,Bool.false_eq_true,if_false]
   ·intro G2 j hj
    simp only[aw]
    rw[if_neg (by simp;omega),aZ (by omega)]
  rw[hin]
  generalize bZ (c.2.getD i ab.aa)=b1
  generalize jj k (c.2.getD i ab.aa).1=f
  generalize bf 0 i (fun j=> !decide ((c.2.getD j ab.aa).1=(c.2.getD i ab.aa).1))=b3
  cases b1<;>cases b3<;>by_cases hf:f=c.1<;>simp[hf]
 ·intro G i hi
  simp only[aw]
  rw[if_neg (by simp;omega)]
  congr 2
  simp
 ·rw[DE]
  unfold fS zl
  cases bf 0 c.2.length (fun i=>bZ (c.2.getD i ab.aa)&&decide (jj k (c.2.getD i ab.aa).1=c.1))<;>
   cases bf 0 c.2.length (fun i=>bf 0 i (fun j=> !decide ((c.2.getD j ab.aa).1=(c.2.getD i ab.aa).1)))<;>simp
end
end Vg.Tryz
namespace Vg.Tryz
open Go Vg
set_option linter.unusedVariables false
set_option linter.unusedSectionVars false
set_option linter.unusedSimpArgs false
theorem Gc {j:Nat} (h:j<4611686018427387904):IntKind.i64.wrap (((j+1:Nat):Int)-1)=(j:Int):=by
 rw[wrap64 (by omega) (by omega)];omega
theorem Mq (j:Nat):decide ((((j+1:Nat):Int))>0)=true:=by simp
theorem Q3:decide ((((0:Nat):Int))>0)=false:=by simp
def lU (a b:bl):Bool:=decide (a.1<b.1)||(decide (a.1=b.1)&&decide (a.2<b.2))
def rV (l:List bl):Bool:=
 bf 0 l.length (fun i=>(decide (0≤(l.getD i aC.aa).1)&&decide (0≤(l.getD i aC.aa).2))&&(i==0|| !lU (l.getD i aC.aa) (l.getD ((i-1)/2) aC.aa)))&&decide (l.length≤16)
abbrev zL (c:bc):List al:=c.2
def bL (p:aG):List al:=p.2.2.flatMap zL
def cU (l:List aG):List al:=l.flatMap bL
def oy (l:List aG):Nat:=(cU l).length
def nM (p:aG) (f:Int):Option Nat:=qK p.2.2.length (fun i=>decide ((p.2.2.getD i ay.aa).1=f))
def iE:al:=([],0,0,ByteArray.empty)
def qn (k:Nat) (p:aG) (s:List ai):al×Bool:=
 match nM p (jj k s)with
 |none=>(iE,false)
 |some i=>match mS (p.2.2.getD i ay.aa).2 s with
  |none=>(iE,false)
  |some j=>((p.2.2.getD i ay.aa).2.getD j ab.aa,true)
def mu (k:Nat) (l:List aG) (s:List ai):Int:=dU (jj k s) l.length
def gu (k:Nat) (l:List aG) (s:List ai):al×Bool:=if l.length=0 then(iE,false)else qn k (l.getD (mu k l s).toNat ak.aa) s
def ER (c:cg) (g:aJ):Int:=IntKind.i64.wrap (if g.2.2.2.1= -1 then g.2.2.1+c.2.2.2.1 else g.2.2.2.1+c.2.2.2.2.1)
theorem fi {α β:Type} {f:α→List β} {l:List α} {i:Nat} (d:α) (h:i<l.length):(l.take (i+1)).flatMap f=(l.take i).flatMap f++f (l.getD i d):=by
 rw[fP d h,List.flatMap_append];simp
section
variable {k:Nat} (hk:9223372036854775808≤k)
include hk
theorem pq {e f:Ty} {g:e.den→List f.den} (h:∀x,ag (.sl f) (g x)≤ag e x):∀l:List e.den,ag (.sl f) (l.flatMap g)≤ag (.sl e) l
 | []=>by simp[ag]
 |x::l=>by
  have h1:=h x
  have h2:=pq h l
  rw[List.flatMap_cons,HA,fw]
  omega
theorem kJ (p:aG):ag (.sl ab) (bL p)≤ag ak p:=by
 rw[dJ hk]
 exact pq hk (e:=ay) (f:=ab) (g:=zL) (fun c=>by rw[en hk];exact Nat.le_refl _) p.2.2
theorem fh (l:List aG):ag (.sl ab) (cU l)≤ag (.sl ak) l:=pq hk (e:=ak) (f:=ab) (g:=bL) (kJ hk) l
theorem kR {p:aG} {i:Nat} (hs:ag ak p≤1048576) (hi:i<p.2.2.length):ag ay (p.2.2.getD i ay.aa)≤1048576∧ag (.sl ab) (p.2.2.getD i ay.aa).2≤1048576:=by
 rw[dJ hk]at hs
 have h1:=rT (e:=ay) (d:=ay.aa) hi
 have h2:=en hk (p.2.2.getD i ay.aa)
 omega
theorem ID {p:aG} {i n:Int} (hs:ag ak p≤1048576):na k (p,i,n,())=some (jz k p i n,()):=by
 have hl:p.2.2.length≤1048576:=by rw[dJ hk]at hs;have:=aA (e:=ay) (l:=p.2.2);omega
 simp only[na,aP]
 refine(bN (fun j:Nat=>(i,n,p,p.2.2,(p.2.2.length:Int),(j:Int),())) (fun j=>fS k (p.2.2.getD j ay.aa)&&(decide (dU (p.2.2.getD j ay.aa).1 n=i)&&xK p.2.2 j)) p.2.2.length
  (e:=some (bH p.1 (-1) 4&&decide (0≤p.2.1),())) (no:=some (false,())) ?_ ?_ k 0 (by omega)).trans ?_
 ·intro G j hj
  obtain⟨h1,_⟩:=kR hk hs hj
  cases j with
  |zero=>
   simp only[aw,aK hj,hj,Q3,decide_true,if_true,Int.toNat_natCast,uc hk h1,lz hk,Option.bind_some,bM,beq_self_eq_true,Bool.false_eq_true,if_false,xK,Bool.true_or,Bool.and_true]
   rw[aZ (by omega)]
   generalize fS k (p.2.2.getD 0 ay.aa)=b1
   generalize dU (p.2.2.getD 0 ay.aa).1 n=f
   cases b1<;>by_cases hf:f=i<;>simp[hf]
  |succ m=>
   have hm:m<p.2.2.length:=by omega
   simp only[aw,aK hj,aK hm,hj,Mq,Gc (show m<4611686018427387904 by omega),decide_true,if_true,Int.toNat_natCast,uc hk h1,lz hk,Option.bind_some,bM,beq_self_eq_true,xK,Bool.or_true,Nat.add_sub_cancel]
   rw[aZ (by omega)]
   generalize fS k (p.2.2.getD (m+1) ay.aa)=b1
   generalize dU (p.2.2.getD (m+1) ay.aa).1 n=f
   generalize (p.2.2.getD m ay.aa).1=u
   generalize (p.2.2.getD (m+1) ay.aa).1=v
   have hb:((m+1:Nat)==0)=false:=rfl
   rw[hb]
   cases b1<;>by_cases hf:f=i<;>by_cases huv:u<v<;>simp[hf,huv]<;>omega
 ·intro G j hj
  simp only[aw]
  rw[if_neg (by simp;omega),et hk,Option.bind_some]
  generalize bH p.1 (-1) 4=b
  cases b<;>simp
 ·unfold jz
  cases bf 0 p.2.2.length (fun j=>fS k (p.2.2.getD j ay.aa)&&(decide (dU (p.2.2.getD j ay.aa).1 n=i)&&xK p.2.2 j))<;>simp
theorem JW {p:aG} {i n:Int} (hs:ag ak p≤1048576):nc k (p,i,n,())=some (jz k p i n,()):=by
 have hl:p.2.2.length≤1048576:=by rw[dJ hk]at hs;have:=aA (e:=ay) (l:=p.2.2);omega
 simp only[nc,aP]
 refine(bN (fun j:Nat=>(i,n,p,(j:Int),())) (fun j=>fS k (p.2.2.getD j ay.aa)&&(decide (dU (p.2.2.getD j ay.aa).1 n=i)&&xK p.2.2 j)) p.2.2.length
  (e:=some (bH p.1 (-1) 4&&decide (0≤p.2.1),())) (no:=some (false,())) ?_ ?_ k 0 (by omega)).trans ?_
 ·intro G j hj
  obtain⟨h1,_⟩:=kR hk hs hj
  cases j with
  |zero=>
   simp only[aw,aK hj,hj,Q3,decide_true,if_true,Int.toNat_natCast,uG hk h1,iv hk,Option.bind_some,bM,beq_self_eq_true,Bool.false_eq_true,if_false,xK,Bool.true_or,Bool.and_true,Bool.or_true,Bool.and_false,Bool.not_false]
   rw[aZ (by omega)]
   generalize fS k (p.2.2.getD 0 ay.aa)=b1
   generalize dU (p.2.2.getD 0 ay.aa).1 n=f
   cases b1<;>by_cases hf:f=i<;>simp[hf]
  |succ m=>
   have hm:m<p.2.2.length:=by omega
   simp only[aw,aK hj,aK hm,hj,Mq,Gc (show m<4611686018427387904 by omega),decide_true,if_true,Int.toNat_natCast,uG hk h1,iv hk,Option.bind_some,bM,beq_self_eq_true,xK,Bool.or_true,Nat.add_sub_cancel]
   rw[aZ (by omega)]
   generalize fS k (p.2.2.getD (m+1) ay.aa)=b1
   generalize dU (p.2.2.getD (m+1) ay.aa).1 n=f
   generalize (p.2.2.getD m ay.aa).1=u
   generalize (p.2.2.getD (m+1) ay.aa).1=v
   have hb:((m+1:Nat)==0)=false:=rfl
   rw[hb]
   cases b1<;>by_cases hf:f=i<;>by_cases huv:u<v<;>simp[hf,huv]<;>omega
 ·intro G j hj
  simp only[aw]
  rw[if_neg (by simp;omega),fc hk,Option.bind_some]
  generalize bH p.1 (-1) 4=b
  cases b<;>simp
 ·unfold jz
  cases bf 0 p.2.2.length (fun j=>fS k (p.2.2.getD j ay.aa)&&(decide (dU (p.2.2.getD j ay.aa).1 n=i)&&xK p.2.2 j))<;>simp
theorem jV {l:List aG} {i:Nat} (hs:ag (.sl ak) l≤1048576) (hi:i<l.length):ag ak (l.getD i ak.aa)≤1048576:=by
 have h1:=rT (e:=ak) (d:=ak.aa) hi
 omega
theorem Gw {l:List aG} (hs:ag (.sl ak) l≤1048576):lB k (l,())=some (iN k l,()):=by
 have hl:=aA (e:=ak) (l:=l)
 simp only[lB]
 rw[et hk,Option.bind_some]
 unfold iN
 cases hin:bH l.length 1 3 with
 |false=>simp
 |true=>
  rw[if_neg (by simp)]
  refine(bN (fun i:Nat=>(l,l,(l.length:Int),(i:Int),())) (fun i=>jz k (l.getD i ak.aa) i l.length) l.length (e:=some (true,())) (no:=some (false,())) ?_ ?_ k 0 (by omega)).trans ?_
  ·intro G i hi
   simp only[aw,aK hi,hi,decide_true,if_true,Int.toNat_natCast,ID hk (jV hk hs hi),Option.bind_some]
   rw[aZ (by omega)]
   cases jz k (l.getD i ak.aa) i l.length<;>simp
  ·intro G i hi
   simp only[aw]
   rw[if_neg (by simp;omega)]
  ·cases bf 0 l.length (fun i=>jz k (l.getD i ak.aa) i l.length)<;>simp
theorem Fl {l:List aG} (hs:ag (.sl ak) l≤1048576):lF k (l,())=some (iN k l,()):=by
 have hl:=aA (e:=ak) (l:=l)
 simp only[lF,aP]
 unfold iN
 refine(bN (fun i:Nat=>(l,(i:Int),())) (fun i=>jz k (l.getD i ak.aa) i l.length) l.length (e:=some (bH l.length 1 3,())) (no:=some (false,())) ?_ ?_ k 0 (by omega)).trans ?_
 ·intro G i hi
  simp only[aw,aK hi,hi,decide_true,if_true,Int.toNat_natCast,JW hk (jV hk hs hi),Option.bind_some]
  rw[aZ (by omega)]
  cases jz k (l.getD i ak.aa) i l.length<;>simp
 ·intro G i hi
  simp only[aw]
  rw[if_neg (by simp;omega),fc hk,Option.bind_some]
 ·cases bf 0 l.length (fun i=>jz k (l.getD i ak.aa) i l.length)<;>simp
theorem sU {p:aG} (hs:ag ak p≤1048576):gD k (p,())=some (bL p,()):=by
 have hl:p.2.2.length≤1048576:=by rw[dJ hk]at hs;have:=aA (e:=ay) (l:=p.2.2);omega
 simp only[gD]
 refine cB (fun i:Nat=>(p,(p.2.2.take i).flatMap zL,(i:Int),())) p.2.2.length (fun G i hi=> ?_) (fun G=> ?_) k 0 (by omega) (by omega)
 ·obtain⟨h1,h2⟩:=kR hk hs hi
  have hb:=pq hk (e:=ay) (f:=ab) (g:=zL) (fun c=>by rw[en hk];exact Nat.le_refl _) (p.2.2.take i)
  have hb2:=gg (e:=ay) p.2.2 i
  have hb3:=aA (e:=ab) (l:=(p.2.2.take i).flatMap zL)
  have hb4:=aA (e:=ab) (l:=(p.2.2.getD i ay.aa).2)
  rw[dJ hk]at hs
  simp only[aw,aK hi,hi,decide_true,if_true,Int.toNat_natCast]
  rw[jt hk (by omega),Option.bind_some,if_pos (by simp only[decide_eq_true_eq];omega),aZ (by omega),fi ay.aa hi]
 ·simp[bL]
theorem sg {p:aG} (hs:ag ak p≤1048576):gF k (p,())=some (bL p,()):=by
 have hl:p.2.2.length≤1048576:=by rw[dJ hk]at hs;have:=aA (e:=ay) (l:=p.2.2);omega
 simp only[gF]
 refine cB (fun i:Nat=>(p,(p.2.2.take i).flatMap zL,p.2.2,(p.2.2.length:Int),(i:Int),())) p.2.2.length (fun G i hi=> ?_) (fun G=> ?_) k 0 (by omega) (by omega)
 ·obtain⟨h1,h2⟩:=kR hk hs hi
  have hb:=pq hk (e:=ay) (f:=ab) (g:=zL) (fun c=>by rw[en hk];exact Nat.le_refl _) (p.2.2.take i)
  have hb2:=gg (e:=ay) p.2.2 i
  have hb3:=aA (e:=ab) (l:=(p.2.2.take i).flatMap zL)
  have hb4:=aA (e:=ab) (l:=(p.2.2.getD i ay.aa).2)
  rw[dJ hk]at hs
  simp only[aw,aK hi,hi,decide_true,if_true,Int.toNat_natCast]
  rw[dZ hk (by omega),Option.bind_some,if_pos (by simp only[decide_eq_true_eq];omega),aZ (by omega),fi ay.aa hi]
 ·simp[bL]
end
end Vg.Tryz
namespace Vg.Tryz
open Go Vg
set_option linter.unusedVariables false
set_option linter.unusedSectionVars false
set_option linter.unusedSimpArgs false
theorem Kb {α:Type} (lt:α→α→Bool) (x:α):∀r:List α,de lt x r=r.takeWhile (lt x)++x::r.dropWhile (lt x)
 | []=>rfl
 |y::r=>by
  simp only[de,List.takeWhile_cons,List.dropWhile_cons]
  split
  ·rw[Kb lt x r];rfl
  ·rfl
theorem zK {α:Type} (p:α→Bool) (d:α):∀(r:List α) (m:Nat),m<(r.takeWhile p).length→p (r.getD m d)=true
 | [],m,h=>by simp at h
 |y::r,m,h=>by
  rw[List.takeWhile_cons]at h
  split at h
  ·cases m with
   |zero=>simpa
   |succ m=>rw[List.getD_cons_succ];exact zK p d r m (by simpa using h)
  ·simp at h
theorem yH {α:Type} (p:α→Bool) (d:α):∀(r:List α),(r.takeWhile p).length<r.length→p (r.getD (r.takeWhile p).length d)=false
 | [],h=>by simp at h
 |y::r,h=>by
  rw[List.takeWhile_cons]at h⊢
  split
  ·rename_i hp
   rw[if_pos hp]at h
   simp only[List.length_cons,List.getD_cons_succ]
   exact yH p d r (by simpa using h)
  ·simpa using ‹¬p y=true›
theorem M3 {α:Type} (d:α) (l:List α) (m:Nat) (h:m<l.length):l.reverse.getD m d=l.getD (l.length-1-m) d:=by
 rw[List.getD_eq_getElem?_getD,List.getElem?_reverse h,←List.getD_eq_getElem?_getD]
def eI {α:Type} (lt:α→α→Bool) (x:α) (out:List α):Nat:=(out.reverse.takeWhile (lt x)).length
theorem SP {α:Type} (lt:α→α→Bool) (x:α) (r:List α):(de lt x r).reverse=r.reverse.take (r.reverse.length-eI lt x r.reverse)++[x]++r.reverse.drop (r.reverse.length-eI lt x r.reverse):=by
 have hc:(r.takeWhile (lt x)).length≤r.length:=(List.takeWhile_sublist _).length_le
 have hc2:eI lt x r.reverse=(r.takeWhile (lt x)).length:=by unfold eI;rw[List.reverse_reverse]
 have hl:r.reverse.length=r.length:=List.length_reverse ..
 rw[Kb,hc2,hl,List.take_reverse,List.drop_reverse]
 have e1:r.length-(r.length-(r.takeWhile (lt x)).length)=(r.takeWhile (lt x)).length:=by omega
 rw[e1]
 have e2:r.drop (r.takeWhile (lt x)).length=r.dropWhile (lt x):=by
  conv=>lhs;arg 2;rw[←List.takeWhile_append_dropWhile (p:=lt x) (l:=r)]
  rw[List.drop_left]
 have e3:r.take (r.takeWhile (lt x)).length=r.takeWhile (lt x):=by
  conv=>lhs;arg 2;rw[←List.takeWhile_append_dropWhile (p:=lt x) (l:=r)]
  rw[List.take_left]
 rw[e2,e3]
 simp
def pQ {α:Type} (lt:α→α→Bool) (l:List α):List α:=l.foldl (fun r x=>de lt x r) []
theorem FF {α:Type} (lt:α→α→Bool) (x:α):∀r:List α,(de lt x r).length=r.length+1
 | []=>rfl
 |y::r=>by simp only[de];split<;>simp[FF lt x r]
theorem Qf {α:Type} (lt:α→α→Bool) {l:List α} {i:Nat} (d:α) (h:i<l.length):pQ lt (l.take (i+1))=de lt (l.getD i d) (pQ lt (l.take i)):=by
 unfold pQ
 rw[fP d h,List.foldl_append];rfl
theorem Kq {α:Type} (lt:α→α→Bool) (l:List α):(pQ lt l).length=l.length:=by
 have:∀(l r:List α),(l.foldl (fun r x=>de lt x r) r).length=l.length+r.length:=by
  intro l
  induction l with
  |nil=>intro r;simp
  |cons x l ih=>intro r;rw[List.foldl_cons,ih,FF,List.length_cons];omega
 simpa[pQ]using this l []
theorem GH {e:Ty} (lt:e.den→e.den→Bool) (x:e.den):∀r:List e.den,ag (.sl e) (de lt x r)=1+ag e x+ag (.sl e) r
 | []=>by simp only[de];rw[fw]
 |y::r=>by
  simp only[de]
  split
  ·rw[fw,fw,GH lt x r];omega
  ·rw[fw,fw]
theorem Q1 {e:Ty} (lt:e.den→e.den→Bool) (l:List e.den):ag (.sl e) (pQ lt l)=ag (.sl e) l:=by
 have:∀(l r:List e.den),ag (.sl e) (l.foldl (fun r x=>de lt x r) r)=ag (.sl e) l+ag (.sl e) r:=by
  intro l
  induction l with
  |nil=>intro r;simp[ag]
  |cons x l ih=>intro r;rw[List.foldl_cons,ih,GH,fw];omega
 have h:=this l []
 rw[Pv]at h
 exact h
theorem TK {e:Ty} (l:List e.den):ag (.sl e) l.reverse=ag (.sl e) l:=by
 simp only[ag,List.length_reverse,List.map_reverse,List.sum_reverse]
theorem Qw {e:Ty} (lt:e.den→e.den→Bool) (l:List e.den):ag (.sl e) (eL lt l)=ag (.sl e) l:=by
 show ag (.sl e) (pQ lt l).reverse=_
 rw[TK,Q1]
theorem Rf (l:List al):ag (.sl ab) (dq l)=ag (.sl ab) l:=Qw (e:=ab) cO l
section
variable {k:Nat} (hk:9223372036854775808≤k)
include hk
theorem RR {l:List al} (hs:ag (.sl ab) l≤1048576):jJ k (l,())=some (dq l,()):=by
 have hl:=aA (e:=ab) (l:=l)
 simp only[jJ]
 refine cB (fun i:Nat=>(l,(pQ cO (l.take i)).reverse,(i:Int),())) l.length (fun G i hi=> ?_) (fun G=> ?_) k 0 (by omega) (by omega)
 ·obtain⟨h1,h2⟩:=gj hk hs hi
  simp only[aw,aK hi,hi,decide_true,if_true,Int.toNat_natCast]
  rw[nG hk (by omega),Option.bind_some,Qf cO ab.aa hi,SP]
  generalize hx:l.getD i ab.aa=x at*
  have hol:(pQ cO (l.take i)).reverse.length=i:=by rw[List.length_reverse,Kq];simp;omega
  generalize hout:(pQ cO (l.take i)).reverse=out at*
  have hcl:eI cO x out≤out.length:=by
   unfold eI
   have:=(List.takeWhile_sublist (cO x) (l:=out.reverse)).length_le
   simpa using this
  simp only[aP]
  refine cB (fun m:Nat=>(l,out,(i:Int),x,((out.length-m:Nat):Int),())) (eI cO x out) (fun G2 m hm=> ?_) (fun G2=> ?_) k 0 (by omega) (by omega)
  ·have hlt:cO x (out.getD (out.length-1-m) ab.aa)=true:=by
    have:=zK (cO x) ab.aa out.reverse m hm
    rwa [M3 _ _ _ (by omega)]at this
   obtain⟨q,hq⟩:∃q,out.length-m=q+1:=⟨out.length-m-1,by omega⟩
   have hq2:out.length-(m+1)=q:=by omega
   have hq3:out.length-1-m=q:=by omega
   rw[hq3]at hlt
   simp only[hq,Mq,Gc (show q<4611686018427387904 by omega),aK (show q<out.length by omega),Bool.or_true,if_true,beq_self_eq_true,Int.toNat_natCast,og hk h2,oA hk h2,Option.bind_some,hq2]
   rw[if_pos hlt]
  ·have hend:(if decide (((out.length-eI cO x out:Nat):Int)>0)=true then cO x (out.getD (out.length-eI cO x out-1) ab.aa)else false)=false:=by
    by_cases h0:eI cO x out=out.length
    ·rw[h0,Nat.sub_self];rfl
    ·rw[if_pos (by simp;omega)]
     have:=yH (cO x) ab.aa out.reverse (by rw[List.length_reverse];unfold eI at h0 hcl;omega)
     rw[M3 _ _ _ (by unfold eI at h0 hcl;omega)]at this
     unfold eI
     rw[show out.length-(List.takeWhile (cO x) out.reverse).length-1=out.length-1-(List.takeWhile (cO x) out.reverse).length by omega]
     exact this
   have fin:(if(decide (0≤(((out.length-eI cO x out:Nat):Int))∧(((out.length-eI cO x out:Nat):Int))≤((List.length out:Nat):Int)))=true then
    if(decide (List.length ([]:List al)+List.length (List.take (Int.toNat ((out.length-eI cO x out:Nat):Int)) out)<4294967296))=true then
     if(decide (List.length (([]:List al)++(List.take (Int.toNat ((out.length-eI cO x out:Nat):Int)) out))+List.length ([x]:List al)<4294967296))=true then
      if(decide (0≤(((out.length-eI cO x out:Nat):Int))∧(((out.length-eI cO x out:Nat):Int))≤((List.length out:Nat):Int)))=true then
       if(decide (List.length ((([]:List al)++(List.take (Int.toNat ((out.length-eI cO x out:Nat):Int)) out))++([x]:List al))+List.length (List.drop (Int.toNat ((out.length-eI cO x out:Nat):Int)) out)<4294967296))=true then
        G (l,((([]:List al)++(List.take (Int.toNat ((out.length-eI cO x out:Nat):Int)) out))++([x]:List al))++(List.drop (Int.toNat ((out.length-eI cO x out:Nat):Int)) out),IntKind.i64.wrap ((i:Int)+(1:Int)),())
       else none
      else none
     else none
    else none
    else none)=G (l,out.take (out.length-eI cO x out)++[x]++out.drop (out.length-eI cO x out),((i+1:Nat):Int),()):=by
    rw[if_pos (by simp only[decide_eq_true_eq];omega),if_pos (by simp only[decide_eq_true_eq,List.length_nil,List.length_take];omega),if_pos (by simp only[decide_eq_true_eq,List.length_append,List.length_nil,List.length_take,List.length_singleton];omega),if_pos (by simp only[decide_eq_true_eq];omega),if_pos (by simp only[decide_eq_true_eq,List.length_append,List.length_nil,List.length_take,List.length_singleton,List.length_drop];omega),aZ (by omega),Int.toNat_natCast,List.nil_append]
   by_cases hz:out.length-eI cO x out=0
   ·rw[hz]at fin⊢
    simp only[Q3,Bool.false_eq_true,if_false,beq_self_eq_true,Bool.false_eq_true,Bool.not_false,Bool.true_or,if_true,Option.bind_some]
    have hg:(!((false:Bool)==true)||decide (0≤IntKind.i64.wrap (((0:Nat):Int)-1)∧IntKind.i64.wrap (((0:Nat):Int)-1)<((out.length:Nat):Int)))=true:=rfl
    rw[if_pos hg]
    exact fin
   ·obtain⟨q,hq⟩:∃q,out.length-eI cO x out=q+1:=⟨out.length-eI cO x out-1,by omega⟩
    rw[hq]at hend fin⊢
    rw[Mq,if_pos rfl,Nat.add_sub_cancel]at hend
    simp only[Mq,Gc (show q<4611686018427387904 by omega),aK (show q<out.length by omega),Bool.or_true,if_true,beq_self_eq_true,Int.toNat_natCast,oA hk h2,Option.bind_some]
    have hend2:bU x.1 (out.getD q ab.aa).1=false:=hend
    rw[if_neg (by rw[hend2];simp)]
    exact fin
 ·simp only[aw,Nat.lt_irrefl,decide_false,Bool.false_eq_true,if_false,List.take_length]
  rfl
end
end Vg.Tryz
namespace Vg.Tryz
open Go Vg
set_option linter.unusedVariables false
set_option linter.unusedSectionVars false
set_option linter.unusedSimpArgs false
theorem sn {β:Type} {c:Bool} {a b:β} (h:c=false):(if c=true then a else b)=b:=by rw[h];rfl
theorem UF {a b:Nat} (h:a+b<4611686018427387904):IntKind.i64.wrap ((a:Int)+(b:Int))=((a+b:Nat):Int):=by
 rw[wrap64 (by omega) (by omega)];omega
theorem rJ (u:Int):decide (0≤u)= !decide (u<0):=by by_cases h:u<0<;>simp[h]<;>omega
theorem KG {q:Nat} (h:q<4611686018427387904):IntKind.i64.wrap (Int.tdiv (IntKind.i64.wrap (((q+1:Nat):Int)-1)) 2)=((q/2:Nat):Int):=by
 rw[Gc h,Int.tdiv_eq_ediv_of_nonneg (by omega),wrap64 (by omega) (by omega)]
 omega
section
variable {k:Nat} (hk:9223372036854775808≤k)
include hk
theorem BT {l:List aG} (hs:ag (.sl ak) l≤1048576):ji k (l,())=some (dq (cU l),()):=by
 have hl:=aA (e:=ak) (l:=l)
 simp only[ji,aP]
 refine cB (fun i:Nat=>(l,(l.take i).flatMap bL,(i:Int),())) l.length (fun G i hi=> ?_) (fun G=> ?_) k 0 (by omega) (by omega)
 ·have h1:=jV hk hs hi
  have hb:=fh hk (l.take i)
  unfold cU at hb
  have hb1:=kJ hk (l.getD i ak.aa)
  have hb2:=gg (e:=ak) l i
  have hb3:=aA (e:=ab) (l:=(l.take i).flatMap bL)
  have hb4:=aA (e:=ab) (l:=bL (l.getD i ak.aa))
  simp only[aw,aK hi,hi,decide_true,if_true,Int.toNat_natCast]
  rw[sU hk h1,Option.bind_some,if_pos (by simp only[decide_eq_true_eq];omega),aZ (by omega),fi ak.aa hi]
 ·have hb:=fh hk l
  simp only[aw,Nat.lt_irrefl,decide_false,Bool.false_eq_true,if_false,List.take_length]
  show Option.bind (jJ k (cU l,())) _=_
  rw[RR hk (by omega)]
  rfl
theorem A6 {l:List aG} (hs:ag (.sl ak) l≤1048576) (hn:oy l<20):jm k (l,())=some (dq (cU l),()):=by
 have hl:=aA (e:=ak) (l:=l)
 simp only[jm,aP]
 refine cB (fun i:Nat=>((l.take i).flatMap bL,l,(l.length:Int),(i:Int),())) l.length (fun G i hi=> ?_) (fun G=> ?_) k 0 (by omega) (by omega)
 ·have h1:=jV hk hs hi
  have hb:=fh hk (l.take i)
  unfold cU at hb
  have hb1:=kJ hk (l.getD i ak.aa)
  have hb2:=gg (e:=ak) l i
  have hb3:=aA (e:=ab) (l:=(l.take i).flatMap bL)
  have hb4:=aA (e:=ab) (l:=bL (l.getD i ak.aa))
  simp only[aw,aK hi,hi,decide_true,if_true,Int.toNat_natCast]
  rw[sg hk h1,Option.bind_some,if_pos (by simp only[decide_eq_true_eq];omega),aZ (by omega),fi ak.aa hi]
 ·simp only[aw,Nat.lt_irrefl,decide_false,Bool.false_eq_true,if_false,List.take_length]
  show Option.bind (kx k (cU l,())) _=_
  simp only[kx,tf]
  rw[if_pos ?_]
  ·rfl
  ·simp only[Bool.and_eq_true,decide_eq_true_eq,List.all_eq_true]
   refine⟨hn,fun a ha=> ?_⟩
   have hb:=fh hk l
   have hm:=bo (e:=ab) ha
   have h1:=cj hk a
   have h2:=aA (e:=af) (l:=a.1)
   omega
theorem Kx {l:List aG} (hs:ag (.sl ak) l≤1048576):oy l≤1048576:=by
 have h1:=fh hk l
 have h2:=aA (e:=ab) (l:=cU l)
 unfold oy
 omega
theorem Gx {l:List aG} (hs:ag (.sl ak) l≤1048576):lD k (l,())=some ((oy l:Int),()):=by
 have hl:=aA (e:=ak) (l:=l)
 simp only[lD]
 refine cB (fun i:Nat=>(((((l.take i).flatMap bL).length:Nat):Int),l,(l.length:Int),(i:Int),())) l.length (fun G i hi=> ?_) (fun G=> ?_) k 0 (by omega) (by omega)
 ·have h1:=jV hk hs hi
  have hb:=fh hk (l.take i)
  unfold cU at hb
  have hb2:=gg (e:=ak) l i
  have hb3:=aA (e:=ab) (l:=(l.take i).flatMap bL)
  rw[fi ak.aa hi,List.length_append]
  simp only[aw,aK hi,hi,decide_true,if_true,Int.toNat_natCast]
  have hp:=h1
  rw[dJ hk]at hp
  have hpl:=aA (e:=ay) (l:=(l.getD i ak.aa).2.2)
  refine cB (fun j:Nat=>(((((l.take i).flatMap bL).length+(((l.getD i ak.aa).2.2.take j).flatMap zL).length:Nat):Int),l.getD i ak.aa,l,(l.length:Int),(i:Int),(l.getD i ak.aa).2.2,((l.getD i ak.aa).2.2.length:Int),(j:Int),())) (l.getD i ak.aa).2.2.length (fun G2 j hj=> ?_) (fun G2=> ?_) k 0 (by omega) (by omega)
  ·have hc:=pq hk (e:=ay) (f:=ab) (g:=zL) (fun c=>by rw[en hk];exact Nat.le_refl _) ((l.getD i ak.aa).2.2.take j)
   have hc1:=gg (e:=ay) (l.getD i ak.aa).2.2 j
   have hc2:=aA (e:=ab) (l:=((l.getD i ak.aa).2.2.take j).flatMap zL)
   obtain⟨h3,h4⟩:=kR hk h1 hj
   have hc3:=aA (e:=ab) (l:=((l.getD i ak.aa).2.2.getD j ay.aa).2)
   simp only[aK hj,aw,hj,decide_true,if_true,Int.toNat_natCast]
   rw[UF (by omega),aZ (by omega),fi ay.aa hj,List.length_append,Nat.add_assoc]
  ·simp only[aw,Nat.lt_irrefl,decide_false,Bool.false_eq_true,if_false,List.take_length]
   rw[aZ (by omega)]
   rfl
 ·simp only[aw,Nat.lt_irrefl,decide_false,Bool.false_eq_true,if_false,List.take_length]
  rfl
theorem Ez {p:aG} {f:Int} (hl:p.2.2.length≤1048576):pX k (p,f,())=some (pz (nM p f),()):=by
 simp only[pX]
 refine(tL (fun i:Nat=>(f,p,(i:Int),())) (fun i=>decide ((p.2.2.getD i ay.aa).1=f)) p.2.2.length (e:=some (-1,())) (fun i=>some ((i:Int),())) (fun G i hi=> ?_) (fun G=> ?_) k (by omega)).trans ?_
 ·simp only[aw,aK hi,hi,decide_true,if_true,Int.toNat_natCast,bY]
  rw[aZ (by omega)]
 ·simp
 ·unfold nM
  cases qK p.2.2.length (fun i=>decide ((p.2.2.getD i ay.aa).1=f))<;>rfl
theorem GS {p:aG} {f:Int} (hl:p.2.2.length≤1048576):lL k (p,f,())=some (pz (nM p f),()):=by
 simp only[lL]
 refine(tL (fun i:Nat=>(f,p,p.2.2,(p.2.2.length:Int),(i:Int),())) (fun i=>decide ((p.2.2.getD i ay.aa).1=f)) p.2.2.length (e:=some (-1,())) (fun i=>some ((i:Int),())) (fun G i hi=> ?_) (fun G=> ?_) k (by omega)).trans ?_
 ·simp only[aw,aK hi,hi,decide_true,if_true,Int.toNat_natCast,bY]
  rw[aZ (by omega)]
 ·simp
 ·unfold nM
  cases qK p.2.2.length (fun i=>decide ((p.2.2.getD i ay.aa).1=f))<;>rfl
omit hk in
theorem uo (i:Nat):decide (pz (some i)<0)=false:=decide_eq_false (by simp only[pz];omega)
omit hk in
theorem rG {i n:Nat} (h:i<n):decide (0≤pz (some i)∧pz (some i)<(n:Int))=true:=by simp only[pz];exact aK h
omit hk in
theorem xj (i:Nat):(pz (some i)).toNat=i:=by simp[pz]
theorem Ir {p:aG} {s:List ai} (hs:ag ak p≤1048576) (hl:ag (.sl af) s≤1048576):nh k (p,s,())=some ((qn k p s).1,(qn k p s).2,()):=by
 have hpl:p.2.2.length≤1048576:=by rw[dJ hk]at hs;have:=aA (e:=ay) (l:=p.2.2);omega
 simp only[nh,iV hk hl,Ez hk hpl,Option.bind_some,qn]
 cases hc:nM p (jj k s)with
 |none=>rfl
 |some i=>
  obtain⟨hi,_,_⟩:=lk.1 hc
  obtain⟨h1,h2⟩:=kR hk hs hi
  refine(sn (uo i)).trans ?_
  refine(if_pos (rG hi)).trans ?_
  rw[xj,FL hk h2,Option.bind_some]
  dsimp only
  cases hq:mS (p.2.2.getD i ay.aa).2 s with
  |none=>rfl
  |some j=>
   obtain⟨hj,_,_⟩:=lk.1 hq
   have h3:=rT (e:=ab) (d:=ab.aa) hj
   refine(sn (uo j)).trans ?_
   refine(if_pos (rG hi)).trans ?_
   refine(if_pos (rG hj)).trans ?_
   rw[xj,nG hk (by omega)]
   rfl
theorem Ic {p:aG} {s:List ai} (hs:ag ak p≤1048576) (hl:ag (.sl af) s≤1048576):mP k (p,s,())=some ((qn k p s).1,(qn k p s).2,()):=by
 have hpl:p.2.2.length≤1048576:=by rw[dJ hk]at hs;have:=aA (e:=ay) (l:=p.2.2);omega
 simp only[mP,iL hk hl,GS hk hpl,Option.bind_some,qn]
 cases hc:nM p (jj k s)with
 |none=>rfl
 |some i=>
  obtain⟨hi,_,_⟩:=lk.1 hc
  obtain⟨h1,h2⟩:=kR hk hs hi
  refine(sn (uo i)).trans ?_
  refine(if_pos (rG hi)).trans ?_
  rw[xj,EW hk h2,Option.bind_some]
  dsimp only
  cases hq:mS (p.2.2.getD i ay.aa).2 s with
  |none=>rfl
  |some j=>
   obtain⟨hj,_,_⟩:=lk.1 hq
   have h3:=rT (e:=ab) (d:=ab.aa) hj
   refine(sn (uo j)).trans ?_
   refine(if_pos (rG hi)).trans ?_
   refine(if_pos (rG hj)).trans ?_
   rw[xj,oh hk (by omega)]
   rfl
theorem IW {l:List aG} {s:List ai} (hl:ag (.sl af) s≤1048576):mI k (l,s,())=some (mu k l s,()):=by
 simp only[mI,iV hk hl,iv hk,Option.bind_some,mu]
theorem JJ {l:List aG} {s:List ai} (hl:ag (.sl af) s≤1048576):mE k (l,s,())=some (mu k l s,()):=by
 simp only[mE,iL hk hl,lz hk,Option.bind_some,mu]
omit hk in
theorem zw {l:List aG} {s:List ai} (h:l.length≠0):0≤mu k l s∧mu k l s<(l.length:Int)∧(mu k l s).toNat<l.length:=by
 have:=F0 (f:=jj k s) (n:=(l.length:Int)) (by omega)
 unfold mu
 omega
theorem Bc {l:List aG} {s:List ai} (hs:ag (.sl ak) l≤1048576) (hl:ag (.sl af) s≤1048576):jo k (l,s,())=some ((gu k l s).1,(gu k l s).2,()):=by
 simp only[jo,IW hk hl,Option.bind_some,gu]
 by_cases h0:l.length=0
 ·rw[if_pos (by simpa using h0),if_pos h0];rfl
 ·obtain⟨a,b,c⟩:=zw (k:=k) (l:=l) (s:=s) h0
  rw[if_neg (by simpa using h0),if_pos (by simpa using⟨a,b⟩),Ir hk (jV hk hs c) hl,Option.bind_some,if_neg h0]
theorem Bz {l:List aG} {s:List ai} (hs:ag (.sl ak) l≤1048576) (hl:ag (.sl af) s≤1048576):jr k (l,s,())=some ((gu k l s).1,(gu k l s).2,()):=by
 simp only[jr,JJ hk hl,Option.bind_some,gu]
 by_cases h0:l.length=0
 ·rw[if_pos (by simpa using h0),if_pos h0];rfl
 ·obtain⟨a,b,c⟩:=zw (k:=k) (l:=l) (s:=s) h0
  rw[if_neg (by simpa using h0),if_pos (by simpa using⟨a,b⟩),Ic hk (jV hk hs c) hl,Option.bind_some,if_neg h0]
theorem Ke (a b:bl):nf k (a,b,())=some (lU a b,()):=by
 simp only[nf,lU,bY]
 by_cases h1:a.1<b.1<;>by_cases h2:a.1=b.1<;>simp[h1,h2]
theorem v8 (a b:bl):mU k (a,b,())=some (lU a b,()):=by
 simp only[mU,lU,bY]
 by_cases h1:a.1<b.1<;>by_cases h2:a.1=b.1<;>simp[h1,h2]
theorem H8 {l:List bl} (hl:l.length≤1048576):mO k (l,())=some (rV l,()):=by
 simp only[mO,aP]
 refine(bN (fun i:Nat=>(l,l,(l.length:Int),(i:Int),())) (fun i=>(decide (0≤(l.getD i aC.aa).1)&&decide (0≤(l.getD i aC.aa).2))&&(i==0|| !lU (l.getD i aC.aa) (l.getD ((i-1)/2) aC.aa))) l.length
  (e:=some (decide (l.length≤16),())) (no:=some (false,())) ?_ ?_ k 0 (by omega)).trans ?_
 ·intro G i hi
  cases i with
  |zero=>
   simp only[aw,aK hi,hi,Q3,decide_true,if_true,Int.toNat_natCast,Ke hk,Option.bind_some,bM]
   rw[aZ (by omega)]
   simp only[rJ]
   rcases Bool.eq_false_or_eq_true (decide ((l.getD 0 aC.aa).1<0))with h1|h1<;>rcases Bool.eq_false_or_eq_true (decide ((l.getD 0 aC.aa).2<0))with h2|h2<;>
    simp only[h1,h2,if_true,Bool.false_eq_true,if_false,beq_self_eq_true,Bool.and_false,Bool.and_true,Bool.true_and,Bool.false_and,Bool.not_false,Bool.not_true,Bool.true_or,Bool.or_true,S4,S7,Bool.or_self,Bool.and_self]
  |succ q=>
   have hq:q/2<l.length:=by omega
   simp only[aw,aK hi,aK hq,hi,Mq,KG (show q<4611686018427387904 by omega),decide_true,if_true,Int.toNat_natCast,Ke hk,Option.bind_some,bM,Bool.or_true,ne_eq,Nat.add_sub_cancel]
   rw[aZ (by omega)]
   have hb:((q+1:Nat)==0)=false:=rfl
   rw[hb]
   have e2:decide (¬(2:Int)=0)=true:=rfl
   rw[e2]
   simp only[rJ]
   rcases Bool.eq_false_or_eq_true (decide ((l.getD (q+1) aC.aa).1<0))with h1|h1<;>rcases Bool.eq_false_or_eq_true (decide ((l.getD (q+1) aC.aa).2<0))with h2|h2<;>
    rcases Bool.eq_false_or_eq_true (lU (l.getD (q+1) aC.aa) (l.getD (q/2) aC.aa))with h3|h3<;>
    simp only[h1,h2,h3,if_true,Bool.false_eq_true,if_false,beq_self_eq_true,Bool.and_false,Bool.and_true,Bool.true_and,Bool.false_and,Bool.not_false,Bool.not_true,Bool.true_or,Bool.or_true,Bool.or_false,Bool.false_or,S4,S7,Bool.or_self,Bool.and_self]
 ·intro G i hi
  simp only[aw]
  rw[if_neg (by simp;omega)]
  congr 2
  rw[Bool.eq_iff_iff];simp;omega
 ·unfold rV
  generalize bf 0 l.length _=b
  cases b<;>simp
theorem JF {l:List bl} (hl:l.length≤1048576):mK k (l,())=some (rV l,()):=by
 simp only[mK,aP]
 refine(bN (fun i:Nat=>(l,(i:Int),())) (fun i=>(decide (0≤(l.getD i aC.aa).1)&&decide (0≤(l.getD i aC.aa).2))&&(i==0|| !lU (l.getD i aC.aa) (l.getD ((i-1)/2) aC.aa))) l.length
  (e:=some (decide (l.length≤16),())) (no:=some (false,())) ?_ ?_ k 0 (by omega)).trans ?_
 ·intro G i hi
  cases i with
  |zero=>
   simp only[aw,aK hi,hi,Q3,decide_true,if_true,Int.toNat_natCast,v8 hk,Option.bind_some,bM,Bool.or_true]
   rw[aZ (by omega)]
   simp only[rJ]
   rcases Bool.eq_false_or_eq_true (decide ((l.getD 0 aC.aa).1<0))with h1|h1<;>rcases Bool.eq_false_or_eq_true (decide ((l.getD 0 aC.aa).2<0))with h2|h2<;>
    simp only[h1,h2,if_true,Bool.false_eq_true,if_false,beq_self_eq_true,Bool.and_false,Bool.and_true,Bool.true_and,Bool.false_and,Bool.not_false,Bool.not_true,Bool.true_or,Bool.or_true,S4,S7,Bool.or_self,Bool.and_self]
  |succ q=>
   have hq:q/2<l.length:=by omega
   simp only[aw,aK hi,aK hq,hi,Mq,KG (show q<4611686018427387904 by omega),decide_true,if_true,Int.toNat_natCast,v8 hk,Option.bind_some,bM,Bool.or_true,ne_eq,Nat.add_sub_cancel]
   rw[aZ (by omega)]
   have hb:((q+1:Nat)==0)=false:=rfl
   rw[hb]
   have e2:decide (¬(2:Int)=0)=true:=rfl
   rw[e2]
   simp only[rJ]
   rcases Bool.eq_false_or_eq_true (decide ((l.getD (q+1) aC.aa).1<0))with h1|h1<;>rcases Bool.eq_false_or_eq_true (decide ((l.getD (q+1) aC.aa).2<0))with h2|h2<;>
    rcases Bool.eq_false_or_eq_true (lU (l.getD (q+1) aC.aa) (l.getD (q/2) aC.aa))with h3|h3<;>
    simp only[h1,h2,h3,if_true,Bool.false_eq_true,if_false,beq_self_eq_true,Bool.and_false,Bool.and_true,Bool.true_and,Bool.false_and,Bool.not_false,Bool.not_true,Bool.true_or,Bool.or_true,Bool.or_false,Bool.false_or,S4,S7,Bool.or_self,Bool.and_self]
 ·intro G i hi
  simp only[aw]
  rw[if_neg (by simp;omega)]
  congr 2
  rw[Bool.eq_iff_iff];simp;omega
 ·unfold rV
  generalize bf 0 l.length _=b
  cases b<;>simp
theorem OQ {c:cg} {g:aJ}:ry k (c,g,())=some (ER c g,()):=by
 simp only[ry,pk,ER,bY]
 by_cases h:g.2.2.2.1= -1<;>simp[h]
theorem Ov {c:cg} {g:aJ}:rC k (c,g,())=some (ER c g,()):=by
 simp only[rC,oZ,ER,bY]
 by_cases h:g.2.2.2.1= -1<;>simp[h]
end
end Vg.Tryz
